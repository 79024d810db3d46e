/- The Aq8 value of a CQ: OZ. -/
import Derived.Test.YtgjocfjdecjhoaaGreatDoorIRAU
import Derived.Test.YtgjocfjdecjhoaaGreatDoorITY
set_option linter.unusedSimpArgs false
set_option linter.unusedVariables false
set_option linter.defProp false
set_option maxHeartbeats 32000000
set_option maxRecDepth 100000
namespace Go.Proofs.T
open Go Go.Ab Go.N9
def Wz (s:By->Int) (e:Ex) (Z:St) (r:CR):Prop:=∃ q b Z',r=⟨false,.tuple ⟨[qv q,.bool b]⟩,Z'⟩/\Ext Z Z'/\q.Ok/\Fs s e=if b=true then some q else none
def yR {o:By}{a b:Q}(c:o=Q7\/o=R4):opV o a b=some (if decide (AJ a b<0)==decide (o=[109,105,110])then a else b):=by
 rcases c with rfl|rfl
 ·show some (if AJ a b<0 then a else b)=_;by_cases h:AJ a b<0
  ·rw[z1z h,AW h];rfl
  ·rw[z0z h,z4z h];rfl
 ·show some (if AJ a b<0 then b else a)=_;by_cases h:AJ a b<0
  ·rw[z1z h,AW h];rfl
  ·rw[z0z h,z4z h];rfl
def rE:DJ.Ok:=⟨by decide,by decide,by decide,by decide,by decide⟩
def yS {o:By}{a b:Q}(e:Op6 o) (c:a.Ok) (d:b.Ok):((opV o a b).getD DJ).Ok:=by
 cases h:opV o a b with
 |none=>exact rE
 |some z=>exact eD e c d h
def yT {o:Option Q}:o=if o.isSome=true then some (o.getD DJ)else none:=by cases o<;>rfl
def lT {T:Tn}{s:By->Int}{L M:Value}{Z:St}{ca row:List Value}{o:By}{a b:Ex}(ho:Op6 o) (a9:J6 L=[L]/\DX L=false) (b0:J6 M=[M]/\DX M=false) (hT:Good Z ca T) (he:P8 Z row (.mk o 0 0 [] [a,b]))
  (a6:∀ {τ:St}{row:List Value},Ext Z τ->P8 τ row a->Ev (gO 14 [.agg ⟨ca⟩,.agg ⟨row⟩,L,M] τ) (Wz s a τ) ⟨⟩)
  (a7:∀ {τ:St}{row:List Value},Ext Z τ->P8 τ row b->Ev (gO 14 [.agg ⟨ca⟩,.agg ⟨row⟩,L,M] τ) (Wz s b τ) ⟨⟩) :
  Ev (gO 14 [.agg ⟨ca⟩,.agg ⟨row⟩,L,M] Z) (Wz s (.mk o 0 0 [] [a,b]) Z) ⟨⟩:=by
 obtain⟨v,B9,rfl,a5,-,a0⟩:=he;obtain⟨B,off,sp,c,cells,r1,r2,rfl,l3,l4,s1,s2,x1,x2⟩:=Dh a5 a0;have a8:=hT.len;have X:sub ca 0 20=some ca:=C9 om om;have d1:decide (o=[110,117,109])=false:=by rcases ho with rfl|rfl|rfl|rfl|rfl|rfl<;>decide
 have d2:decide (o=[110,97,109,101])=false:=by rcases ho with rfl|rfl|rfl|rfl|rfl|rfl<;>decide
 refine C8 Tryz.func14 rfl rfl ?_;refine gS1 (aI X (aI d1 (aI d2 (aI l4 (aI s1 @j7))))) ?_;obtain⟨S1,i⟩:=nW ((((Z.new ca).new [str o,.int .i64 0,.int .i64 0,str [],.slice (some ⟨B,off,sp⟩) 2 c]).new [.int .i64 0,.int .i64 0] (some 29)));have E1:Ext Z S1:=by rw[<- i];exact eX
 have n1:S1.n=Z.n+3:=by rw[<- i];rfl
 have a1:S1.row Z.n=some ca:=by rw[<- i];exact cL
 have a2:S1.row (Z.n+1)=some [str o,.int .i64 0,.int .i64 0,str [],.slice (some ⟨B,off,sp⟩) 2 c]:=by rw[<- i];exact cL
 have a3:S1.A7 (Z.n+2)=some [.int .i64 0,.int .i64 0]:=by rw[<- i];exact cL
 try rw[i]
 refine(a6 E1 (x1.mono E1)).mono ?_;rintro r ⟨F,ba,R,rfl,f,l,va⟩;have n2:=f.n;have E2:=E1.trans f;have b1:=eT (f.row om) a1;have b2:=eT (f.row om) a2;have b3:=eT (f.A7 om) a3;have b4:=eT (E2.row l3) l4;unfold qv P6;refine gS1 (asx f) ?_;refine Ct.intro (by(repeat first|simp(disch:=omega) only[O4,G6,G9,asx f]|rw[W6 (by kernel_rfl)]);rfl) ?_;refine gS1 (aI b1 (aI X (aI b2 (aI b4 (aI s2 @j7))))) ?_;obtain⟨S3,z⟩:=nW (((R.new [.int .i64 0,.int .i64 0] (some 29)).upd R.n [.int .i64 F.n,.int .i64 F.d]));have N:Ext R S3:=by rw[<- z];exact eX
 have n3:S3.n=R.n+1:=by rw[<- z];rfl
 have q3:S3.A7 R.n=some [.int .i64 F.n,.int .i64 F.d]:=by rw[<- z];exact cL
 have E3:=E2.trans N
 try rw[z]
 refine(a7 E3 (x2.mono E3)).mono ?_;rintro r ⟨qb,bb,S,rfl,g,D,vb⟩;have n4:=g.n;have E4:=E3.trans g;have O:=N.trans g;have c2:=eT (O.row om) b2;have c3:=eT (O.A7 om) b3;have c4:=eT (g.A7 om) q3;have y:=A9 c4;unfold qv P6;refine gS1 (asx g) ?_;refine Ct.intro (by(repeat first|simp(disch:=omega) only[O4,G6,G9,asx g]|rw[W6 (by kernel_rfl)]);rfl) ?_;cases ba with
 | false=>
   rw[z0z (by decide)]at va;refine gS1 (aI c3 (aI y @Tryz.results14)) ?_;exact⟨F,false,_,rfl,((E4.Q3 _).upd om _).upd om _,l,by rw[EZ,va];rfl⟩
 |true=>
 rw[z1z rfl]at va;cases bb with
 | false=>
   rw[z0z (by decide)]at vb;refine gS1 (aI c3 (aI y @Tryz.results14)) ?_;exact⟨F,false,_,rfl,((E4.Q3 _).upd om _).upd om _,l,by rw[EZ,va,vb];rfl⟩
 |true=>
 rw[z1z rfl]at vb;have m:Fs s (.mk o 0 0 [] [a,b])=opV o F qb:=by rw[EZ,va,vb];rfl
 refine gS1 (aI c2 (aI c3 y)) ?_;obtain⟨S5,A⟩:=nW (((S.new [.int .i64 0,.int .i64 0] (some 29)).upd S.n [.int .i64 qb.n,.int .i64 qb.d]));have p:Ext S S5:=by rw[<- A];exact eX
 have n5:S5.n=S.n+1:=by rw[<- A];rfl
 have f1:=eT (p.row om) c2;have U:=eT (p.A7 om) c3;have I:=eT (p.row om) y;have J:S5.row S.n=some [.int .i64 qb.n,.int .i64 qb.d]:=by rw[<- A];exact cL
 have E5:=E4.trans p
 try rw[A]
 have fin:∀ {x:Option Q}{u:St},Ext S5 u->Fs s (.mk o 0 0 [] [a,b])=x->(x.getD DJ).Ok->Wz s (.mk o 0 0 [] [a,b]) Z ⟨false,.tuple ⟨[qv (x.getD DJ),.bool x.isSome]⟩,u.upd (Z.n+2) [.int .i64 (x.getD DJ).n,.int .i64 (x.getD DJ).d]⟩ :=
  fun{x u} hE W h2=>⟨_,_,_,rfl,(E5.trans hE).upd om _,h2,by rw[W];exact yT⟩
 have Y:=yS ho l D;rw[<- m]at Y;cases H:decide (o=[43])with
 | true=>
   obtain rfl:=z6z H;refine gS1 (aI H (aI I J)) ?_;refine(iW l D).mono ?_;rintro r ⟨u,rfl,e⟩;have j:=eT (e.A7 om) U;unfold Ek qv P6;refine gS1 (aI j @Tryz.results14) ?_;have k:=fin e m;exact k (m ▸ Y)
 |false=>
 cases K:decide (o=[45])with
 | true=>
   obtain rfl:=z6z K;refine gS1 (aI H (aI K (aI I J))) ?_;refine(iX l D).mono ?_;rintro r ⟨u,rfl,e⟩;have j:=eT (e.A7 om) U;unfold Ek qv P6;refine gS1 (aI j @Tryz.results14) ?_;have k:=fin e m;exact k (m ▸ Y)
 |false=>
 cases V:decide (o=[42])with
 | true=>
   obtain rfl:=z6z V;refine gS1 (aI H (aI K (aI V (aI I J)))) ?_;refine(gh l D).mono ?_;rintro r ⟨u,rfl,e⟩;have j:=eT (e.A7 om) U;unfold Ek qv P6;refine gS1 (aI j @Tryz.results14) ?_;have k:=fin e m;exact k (m ▸ Y)
 |false=>
 cases g4:decide (o=[47])with
 | true=>
   obtain rfl:=z6z g4;refine gS1 (aI H (aI K (aI V (aI g4 (aI I J))))) ?_;refine(WO l D).mono ?_;rintro r ⟨u,rfl,e⟩;have j:=eT (e.A7 om) U;unfold Ek qv P6;refine gS1 (aI j @Tryz.results14) ?_;have k:=fin e m;exact k (m ▸ Y)
 |false=>
 have a4:o=Q7\/o=R4:=by
  rcases ho with rfl|rfl|rfl|rfl|h|h
  ·cases H
  ·cases K
  ·cases V
  ·cases g4
  ·exact .inl h
  ·exact .inr h
 have G:=m.trans (yR a4);refine gS1 (aI H (aI K (aI V (aI g4 (aI I J))))) ?_;refine(NW l D).mono ?_;rintro r ⟨u,rfl,e⟩;have n6:=e.n;have j:=eT (e.A7 om) U;have h4:=eT (e.row om) I;have h5:=eT (e.row om) J;have W:u.row (Z.n+1)=some [str o,.int .i64 0,.int .i64 0,str [],.slice (some ⟨B,off,sp⟩) 2 c]:=eT (e.row om) f1;refine gS1 (aI (asx e) W) ?_
 have yU:∀ {q:Q}{Z7:St},Ext S5 Z7->q.Ok->Fs s (.mk o 0 0 [] [a,b])=some q->Wz s (.mk o 0 0 [] [a,b]) Z ⟨false,.tuple ⟨[.agg ⟨[.int .i64 q.n,.int .i64 q.d]⟩,.bool true]⟩,Z7.upd (Z.n+2) [.int .i64 q.n,.int .i64 q.d]⟩ :=
  fun{q Z7} hE W h2=>⟨q,true,_,rfl,(E5.trans hE).upd om _,W,by rw[h2];rfl⟩
 cases E:decide (AJ F qb<0)with
 | true=>
   cases C:decide (o=[109,105,110])with
   | true=>
     rw[E,C]at G;refine gS1 (aI E (aI C (aI h4 (aI h5 (aI j @Tryz.results14))))) ?_;exact yU e l G
   | false=>
     rw[E,C]at G;refine gS1 (aI E (aI C (aI h4 (aI h5 (aI j @Tryz.results14))))) ?_;exact yU e D G
 | false=>
   cases C:decide (o=[109,105,110])with
   | true=>
     rw[E,C]at G;refine gS1 (aI E (aI C (aI h4 (aI h5 (aI j @Tryz.results14))))) ?_;exact yU e D G
   | false=>
     rw[E,C]at G;refine gS1 (aI E (aI C (aI h4 (aI h5 (aI j @Tryz.results14))))) ?_;exact yU e l G
section
variable {T:Tn}{names:List By}{picks:List Int}
def GU (names:List By) (picks:List Int) (nm:By):Nat->Int
 |0=>0
 |k+1=>if names[k]? =some nm then(picks[k]?).getD 0 else GU names picks nm k
def ZX {names:List By}{picks:List Int}{nm:By}(h:∀ n∈picks,BN n):∀ k,BN (GU names picks nm k)
 |0=>⟨by unfold GU;omega,by unfold GU;omega⟩
 | k+1=>by
   unfold GU;split
   ·cases hk:picks[k]? with
    |none=>exact⟨by show _<=(0:Int);omega,by show(0:Int)<=_;omega⟩
    |some n=>exact h n (Ag hk)
   ·exact ZX h k
def sAt (T:Tn) (names:List By) (picks:List Int) (nm:By):Int :=
 (N4 T nm).1+GU names picks nm (min names.length picks.length) % ((N4 T nm).2.1-(N4 T nm).1+1)
def KL {nm:By}{a b:Int}(h:O5 T nm=some (a,b)):N4 T nm=(a,b,true):=by
 unfold O5 at h;unfold N4;by_cases d:nm=J8
 ·rw[z1z (.inl d)]at h;cases h;rw[z1z d]
 ·by_cases f:nm=Bp
  ·rw[z1z (.inr f)]at h;cases h;rw[z0z d,z1z f]
  ·rw[z0z (by rintro(e|e);exact d e;exact f e)]at h;rw[z0z d,z0z f];cases g:T.G7.find? (fun c=>decide (c.name=nm))with
   |none=>rw[g]at h;cases h
   |some c=>rw[g]at h;cases h;rfl
def yZ:Sat T (sAt T names picks):=by
 intro nm a b h c;unfold sAt;rw[KL h];have d:=Int.emod_nonneg (GU names picks nm (min names.length picks.length)) (show b-a+1≠0 by omega);have e:=Int.emod_lt_of_pos (GU names picks nm (min names.length picks.length)) (show 0<b-a+1 by omega);dsimp only;exact⟨om,om⟩
def Aq9 {n:Int}(a: -9223372036854775808<=n) (b:n<=9223372036854775807):(ofQ n).Ok:=Wv a b
def ZY (hn:names.length<=1000000) (a4:picks.length<=9223372036854775807) (hp:∀ n∈picks,BN n){k m:Nat}{e:Ex}(he:FW k m e):
  ∀ {Z:St}{ca row:List Value}{vn vp:Value},Good Z ca T->P8 Z row e->Hy Z vn names->LJ Z vp picks->K5 T e ->
   Ev (gO 14 [.agg ⟨ca⟩,.agg ⟨row⟩,vn,vp] Z) (Wz (sAt T names picks) e Z) ⟨⟩:=by
 have two:∀ {o:By}{a b:Ex},Op6 o ->
   (∀ {Z:St}{ca row:List Value}{vn vp:Value},Good Z ca T->P8 Z row a->Hy Z vn names->LJ Z vp picks->K5 T a->Ev (gO 14 [.agg ⟨ca⟩,.agg ⟨row⟩,vn,vp] Z) (Wz (sAt T names picks) a Z) ⟨⟩) ->
   (∀ {Z:St}{ca row:List Value}{vn vp:Value},Good Z ca T->P8 Z row b->Hy Z vn names->LJ Z vp picks->K5 T b->Ev (gO 14 [.agg ⟨ca⟩,.agg ⟨row⟩,vn,vp] Z) (Wz (sAt T names picks) b Z) ⟨⟩) ->
   ∀ {Z:St}{ca row:List Value}{vn vp:Value},Good Z ca T->P8 Z row (.mk o 0 0 [] [a,b])->Hy Z vn names->LJ Z vp picks->K5 T (.mk o 0 0 [] [a,b]) ->
   Ev (gO 14 [.agg ⟨ca⟩,.agg ⟨row⟩,vn,vp] Z) (Wz (sAt T names picks) (.mk o 0 0 [] [a,b]) Z) ⟨⟩:=by
  intro o a b ho p q Z ca row vn vp B j G I M;have ka:K5 T a:=fun nm h=>M nm (by rw[El (JD ho),EM];exact .inl h);have kb:K5 T b:=fun nm h=>M nm (by rw[El (JD ho),EM];exact .inr h);exact lT ho (SU G) (by obtain⟨x,y,z,w,u,rfl,-⟩:=SL.use I;exact⟨rfl,rfl⟩) B j (fun F j=>p (B.mono F) j (SL.mono G F) (SL.mono I F) ka) (fun F j=>q (B.mono F) j (SL.mono G F) (SL.mono I F) kb)
 induction he with
 |bin h ha hb p q=>exact two (lY h) p q
 |mm h ha hb p q=>exact two (mm6 h) p q
 | @num n d h=>
   intro Z ca row vn vp B j G I M;obtain⟨v,B9,rfl,-,-,-⟩:=j;have a0:=B.len;have H:sub ca 0 20=some ca:=C9 om om;have a1:=SU G;refine C8 Tryz.func14 rfl rfl ?_;unfold K8;refine gS1 (aI H @Tryz.results14) ?_;exact⟨⟨n,d⟩,true,_,rfl,eX,Kq h,by rw[Bz];exact z1z rfl⟩
 | @name nm h1 h2 h3=>
   intro Z ca row vn vp B j G I M;obtain⟨v,B9,rfl,-,-,-⟩:=j;have a0:=B.len;have H:sub ca 0 20=some ca:=C9 om om;obtain⟨a,b,hb,hab,ba,bb⟩:=M nm (by rw[Gr];simp);have R:=KL hb;have d1:decide (([110,97,109,101]:By)=[110,117,109])=false:=by decide
   obtain⟨an,nc,nb,no,a5,rfl,n1,n2⟩:=Hy.use G;obtain⟨ap,pc,pb,po,pcs,rfl,p1,p2⟩:=SL.use I;rw[z2z]at p1 ⊢;refine C8 Tryz.func14 rfl rfl ?_;unfold nmB;refine gS1 (aI H d1) ?_;obtain⟨S1,hS1⟩:=nW ((((Z.new ca).new [str [110,97,109,101],.int .i64 0,.int .i64 0,str nm,v]).new [.int .i64 0,.int .i64 0] (some 29)));have E1:Ext Z S1:=by rw[<- hS1];exact eX
   have m1:S1.n=Z.n+3:=by rw[<- hS1];rfl
   have a2:S1.row (Z.n+1)=some [str [110,97,109,101],.int .i64 0,.int .i64 0,str nm,v]:=by rw[<- hS1];exact cL
   have a3:S1.A7 (Z.n+2)=some [.int .i64 0,.int .i64 0]:=by rw[<- hS1];exact cL
   try rw[hS1]
   refine(IV (s:=nm) (B.mono E1)).mono ?_;rintro r ⟨Z2,rfl,A⟩;rw[R];have k2:=A.n;have Y:=E1.trans A;have b2:=eT (A.row om) a2;have b3:=eT (A.A7 om) a3;unfold Kl;refine gS ?_;obtain⟨N,O⟩:=nW names.length;obtain⟨P,hPe⟩:=nW picks.length;rw[O,hPe]
   refine G8 (min N P) (fun k c τ=>τ=Z2/\c.get 14=some (.int .i64 k)/\c.get 13=some (.int .i64 (GU names picks nm k))/\c.get 2=some (.slice an N nc)/\c.get 3=some (.slice ap P pc)/\c.get 5=some (.pointer (some ⟨Z.n+1,0,none⟩))/\c.get 8=some (.pointer (some ⟨Z.n+2,0,none⟩))/\c.get 10=some (.int .i64 a)/\c.get 11=some (.int .i64 b))
    (fun r=>∃ c,r=⟨.exit 0,c,Z2⟩/\c.get 13=some (.int .i64 (GU names picks nm (min N P)))/\c.get 8=some (.pointer (some ⟨Z.n+2,0,none⟩))/\c.get 10=some (.int .i64 a)/\c.get 11=some (.int .i64 b)) ?_ ?_ ?_ ?_
   ·exact⟨rfl,fR,fR,fR,fR,fR,fR,fR,fR⟩
   ·rintro k c τ hk ⟨rfl,l,i,C,D,K,E,f,g⟩;have U:k<N:=om;have kP:k<P:=om;have c1:decide (k<N)=true:=AW U;have V:decide (k<P)=true:=AW kP;have l1:Nat.blt k N=true:=by rw[BW];exact U
    have l2:Nat.blt k P=true:=by rw[BW];exact kP
    obtain⟨x,j⟩:∃ x,names[k]? =some x:=⟨_,List.getElem?_eq_getElem om⟩
    obtain⟨y,hy⟩:∃ y,picks[k]? =some y:=⟨_,List.getElem?_eq_getElem om⟩
    obtain⟨sn,rfl,n3,n4⟩:=n1 om;obtain⟨sp,rfl,p3,p4⟩:=p1 om;have x1:=n2 k x j;have y1:=p2 k [.int .i64 y] (by rw[List.getElem?_map,hy];rfl);rw[Ip]at y1;have n5:=eT (Y.row n3) n4;have p5:=eT (Y.row p3) p4;have W:GU names picks nm (k+1)=if decide (x=nm)=true then y else GU names picks nm k:=by
     show(if names[k]? =some nm then(picks[k]?).getD 0 else GU names picks nm k)=_;rw[j,hy];by_cases h:x=nm
     ·rw[z1z (by rw[h]),z1z (by simpa using h)];rfl
     ·rw[z0z (by simpa using h),z0z (by simpa using h)]
    cases X:decide (x=nm)with
    | true=>
      rw[X,z1z rfl]at W;refine gS1 (aI l (aI C (aI D (aI K (aI c1 (aI V (aI l1 (aI l2 (aI n5 (aI p5 (aI x1 (aI y1 (aI b2 (aI X @Ip)))))))))))))) ?_;exact⟨fR,fR,by rw[W],fR1 C,fR1 D,fR1 K,fR1 E,fR1 f,fR1 g⟩
    | false=>
      rw[X,z0z (by decide)]at W;refine gS1 (aI l (aI C (aI D (aI K (aI c1 (aI V (aI l1 (aI l2 (aI n5 (aI p5 (aI x1 (aI y1 (aI b2 (aI X @Ip)))))))))))))) ?_;exact⟨fR,fR,by rw[W];exact fR1 i,fR1 C,fR1 D,fR1 K,fR1 E,fR1 f,fR1 g⟩
   ·rintro c τ ⟨rfl,l,i,C,D,K,E,f,g⟩;by_cases U:min N P<N
    ·have c1:decide (min N P<N)=true:=AW U;have V:decide (min N P<P)=false:=dF;refine gS1 (aI l (aI C (aI D (aI c1 V)))) ?_;exact⟨_,rfl,fR1 i,fR1 E,fR1 f,fR1 g⟩
    ·have c1:decide (min N P<N)=false:=z4z U;refine gS1 (aI l (aI C (aI D c1))) ?_;exact⟨_,rfl,fR1 i,fR1 E,fR1 f,fR1 g⟩
   rintro r ⟨c,rfl,i,E,f,g⟩;have S:=ZX (names:=names) (nm:=nm) hp (min N P);obtain⟨pk,J⟩:=nW (GU names picks nm (min N P));rw[J]at S i;have w1:L9 .i64 (b-a)=b-a:=by rw[o7];exact wrap64_in om om
   have w2:L9 .i64 (b-a+1)=b-a+1:=by rw[o7];exact wrap64_in om om
   refine gS1 (aI f (aI g i)) ?_;refine(iT S om om).mono ?_;rintro r rfl;have h1:=Int.emod_nonneg pk (show b-a+1≠0 by omega);have h2:=Int.emod_lt_of_pos pk (show 0<b-a+1 by omega);refine gS1 f ?_;refine XB.mono ?_;rintro r ⟨Z3,rfl,L⟩;have f3:=eT (L.A7 om) b3;unfold qv P6;refine gS1 (aI E (aI f3 @Tryz.results14)) ?_;refine⟨ofQ (a+pk % (b-a+1)),true,_,rfl,(Y.trans L).upd om _,Aq9 om om,?_⟩;rw[Bz,z0z (by decide),z1z rfl];unfold sAt;rw[R,O,hPe,J]
end
end Go.Proofs.T
