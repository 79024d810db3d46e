/- Ai0 of Bn: lists, BN, text.Equal. -/
import Derived.Test.YtckchelhlpifiaaGreatDoorRE
set_option linter.unusedSimpArgs false
set_option linter.unusedVariables false
set_option linter.defProp false
set_option maxHeartbeats 32000000
set_option maxRecDepth 100000
namespace Go.Proofs.T
open Go Go.Ab
section
variable {x y:Operand}
def Lt {a b:By}:((⟨⟨a⟩⟩:ByteArray)==⟨⟨b⟩⟩)=decide (a=b):=by
 rw[beq_toListBytes,ByteArray.toList_eq,ByteArray.toList_eq];show(a==b)=_;rw[z7z];simp
def qM {a b:Lot}:Bi Tryz.prog .eql 61 x y (.agg ⟨a.row⟩) (.agg ⟨b.row⟩)=some (.bool (decide (a=b)))/\Bi Tryz.prog .neq 61 x y (.agg ⟨a.row⟩) (.agg ⟨b.row⟩)=some (.bool (!decide (a=b))):=by
 have he:eqF Tryz.prog 9999 ⟨a.row⟩ ⟨b.row⟩ (Tryz.prog.fieldsOf 61).toList=bi (a.id==b.id) (bi (a.P8==b.P8) (some true) (some false)) (some false):=kR;have h:=IH (x:=x) (y:=y) rfl kR kR kR he;rw[Ca,Ca,Cq,Cq,WE]at h;have e:(decide (a.id=b.id)&&decide (a.P8=b.P8))=decide (a=b):=by
  rw[z7z];cases a;cases b;simp
 rw[e]at h;exact h
def fI {a b:AB}:Bi Tryz.prog .eql 64 x y (.agg ⟨a.row⟩) (.agg ⟨b.row⟩)=some (.bool (decide (a=b)))/\Bi Tryz.prog .neq 64 x y (.agg ⟨a.row⟩) (.agg ⟨b.row⟩)=some (.bool (!decide (a=b))):=by
 have he:eqF Tryz.prog 9999 ⟨a.row⟩ ⟨b.row⟩ (Tryz.prog.fieldsOf 64).toList=bi ((⟨⟨a.name⟩⟩:ByteArray)==⟨⟨b.name⟩⟩) (bi (a.kind==b.kind) (bi (a.low==b.low) (bi (a.high==b.high) (bi (a.less==b.less) (some true) (some false)) (some false)) (some false)) (some false)) (some false):=kR;have h:=IH (x:=x) (y:=y) rfl kR kR kR he;rw[Ca,Ca,Ca,Ca,Ca,Lt,Cq,Cq,Cq,WE]at h;have e:(decide (a.name=b.name)&&(decide (a.kind=b.kind)&&(decide (a.low=b.low)&&(decide (a.high=b.high)&&(a.less==b.less)))))=decide (a=b):=by
  rw[z7z];cases a;cases b;simp
 rw[e]at h;exact h
def qO {a b:Req}:Bi Tryz.prog .eql 66 x y (.agg ⟨a.row⟩) (.agg ⟨b.row⟩)=some (.bool (decide (a=b)))/\Bi Tryz.prog .neq 66 x y (.agg ⟨a.row⟩) (.agg ⟨b.row⟩)=some (.bool (!decide (a=b))):=by
 have he:eqF Tryz.prog 9999 ⟨a.row⟩ ⟨b.row⟩ (Tryz.prog.fieldsOf 66).toList=bi ((⟨⟨a.name⟩⟩:ByteArray)==⟨⟨b.name⟩⟩) (bi ((⟨⟨a.rel⟩⟩:ByteArray)==⟨⟨b.rel⟩⟩) (bi (a.value==b.value) (some true) (some false)) (some false)) (some false):=kR;have h:=IH (x:=x) (y:=y) rfl kR kR kR he;rw[Ca,Ca,Ca,Lt,Lt,Cq,WE]at h;have e:(decide (a.name=b.name)&&(decide (a.rel=b.rel)&&decide (a.value=b.value)))=decide (a=b):=by
  rw[z7z];cases a;cases b;simp
 rw[e]at h;exact h
def Tim.row (t:Tim):List Value:=[.int .i64 t.q,.int .i64 t.b,.int .i64 t.g,.int .i64 t.p,.int .i64 t.s]
def w8 {a b:Tim}:Bi Tryz.prog .eql 39 x y (.agg ⟨a.row⟩) (.agg ⟨b.row⟩)=some (.bool (decide (a=b)))/\Bi Tryz.prog .neq 39 x y (.agg ⟨a.row⟩) (.agg ⟨b.row⟩)=some (.bool (!decide (a=b))):=by
 have he:eqF Tryz.prog 9999 ⟨a.row⟩ ⟨b.row⟩ (Tryz.prog.fieldsOf 39).toList=bi (a.q==b.q) (bi (a.b==b.b) (bi (a.g==b.g) (bi (a.p==b.p) (bi (a.s==b.s) (some true) (some false)) (some false)) (some false)) (some false)) (some false):=kR;have h:=IH (x:=x) (y:=y) rfl kR kR kR he;rw[Ca,Ca,Ca,Ca,Ca,Cq,Cq,Cq,Cq,Cq,WE]at h;have e:(decide (a.q=b.q)&&(decide (a.b=b.b)&&(decide (a.g=b.g)&&(decide (a.p=b.p)&&decide (a.s=b.s)))))=decide (a=b):=by
  rw[z7z];cases a;cases b;simp
 rw[e]at h;exact h
end
mutual
def HI:Ex->Ex->Bool
 | .mk o n d nm es,.mk o' n' d' nm' es'=>decide (o=o')&&(decide (n=n')&&decide (d=d'))&&decide (nm=nm')&&Ao es es'
def Ao:List Ex->List Ex->Bool
 | [],[]=>true
 |a::es,b::fs=>HI a b&&Ao es fs
 | [],_::_=>false
 |_::_,[]=>false
end
def Ow:∀ {es fs:List Ex},es.length≠fs.length->Ao es fs=false
 | [],[],h=>absurd rfl h
 | a::es,b::fs,h=>by
   unfold Ao;rw[Ow (es:=es) (fs:=fs) (by simpa using h),Ge]
 | [],_::_,_=>by unfold Ao;rfl
 |_::_,[],_=>by unfold Ao;rfl
def Nj:∀ {es fs:List Ex}{k:Nat}{a b:Ex},es.length=fs.length->es[k]? =some a->fs[k]? =some b->HI a b=false->Ao es fs=false
 |a::es,b::fs,0,_,_,_,h1,h2,h=>by cases h1;cases h2;unfold Ao;rw[h,CC]
 | a::es,b::fs,k+1,_,_,hl,h1,h2,h=>by
   unfold Ao;rw[Nj (es:=es) (fs:=fs) (k:=k) (by simpa using hl) (by simpa using h1) (by simpa using h2) h,Ge]
 | [],_,_,_,_,_,h1,_,_=>by simp at h1
 |_::_,[],_,_,_,hl,_,_,_=>by simp at hl
def Ov:∀ {es fs:List Ex},es.length=fs.length->(∀ (k:Nat) (a b:Ex),es[k]? =some a->fs[k]? =some b->HI a b=true)->Ao es fs=true
 | [],[],_,_=>by unfold Ao;rfl
 | a::es,b::fs,hl,h=>by
   unfold Ao;rw[h 0 a b rfl rfl,Ov (es:=es) (fs:=fs) (by simpa using hl) (fun k x y hx hy=>h (k+1) x y (by simpa using hx) (by simpa using hy)),WE]
 | [],_::_,hl,_=>by simp at hl
 |_::_,[],hl,_=>by simp at hl
mutual
theorem RM:∀ a:Ex,HI a a=true
 | .mk o n d nm es=>by unfold HI;rw[OJ es];simp
theorem OJ:∀ es:List Ex,Ao es es=true
 | []=>by unfold Ao;rfl
 |a::es=>by unfold Ao;rw[RM a,OJ es];rfl
end
def Cr.slice {Z:St}{v:Value}{D4:List (List Value)}{es:List Ex}(h:SL Z 5 v D4) (hx:Cr Z D4 es):∃ a c b off cells,v= .slice a es.length c/\(0<es.length->∃ sp,a=some ⟨b,off,sp⟩/\b<Z.n/\Z.row b=some cells) /\
  ∀ k e,es[k]? =some e->∃ row,sub cells (off+k*5) 5=some row/\Ag Z row e:=by
 obtain⟨a,c,b,off,cells,h1,h2,h3⟩:=SL.use h;rw[hx.len]at h1 h2;refine⟨a,c,b,off,cells,h1,h2,fun k e he=>?_⟩;obtain⟨hlt,_⟩:=List.getElem?_eq_some_iff.1 he;obtain⟨row,hr⟩:=E8 (l:=D4) (k:=k) (by rw[hx.len];exact hlt);exact⟨row,h3 k row hr,hx.get hr he⟩
mutual
theorem sD:∀ {a b:Ex},HI a b=true->a=b
 | .mk o n d nm es,.mk o' n' d' nm' es',h=>by
   unfold HI at h;simp only[y6,IK]at h;obtain⟨⟨⟨h1,h2,h3⟩,h4⟩,h5⟩:=h;rw[h1,h2,h3,h4,Ty h5]
theorem Ty:∀ {a b:List Ex},Ao a b=true->a=b
 | [],[],_=>rfl
 | a::l,b::k,h=>by
   unfold Ao at h;rw[y6]at h;rw[sD h.1,Ty h.2]
 | [],_::_,h=>by unfold Ao at h;cases h
 |_::_,[],h=>by unfold Ao at h;cases h
end
def Y1 (T U:Tn):Bool:=decide (T.name=U.name)&&(decide (T.low=U.low)&&(decide (T.high=U.high)&&(decide (T.P8=U.P8)&&(decide (T.J8=U.J8)&&(decide (T.t=U.t)&&(decide (T.G8=U.G8)&&(decide (T.D2=U.D2)&&(decide (T.reqs=U.reqs)&&(decide (T.F5=U.F5)&&(decide (T.D6=U.D6)&&HI T.f U.f))))))))))
def RN (T:Tn):Y1 T T=true:=by unfold Y1;rw[RM];simp
structure Cap (T:Tn):Prop where
 G8:T.G8.length<=100
 D2:T.D2.length<=100
 reqs:T.reqs.length<=100
 F5:T.F5.length<=100
 D6:T.D6.length<=100
 combo:∀ c∈T.D6,c.length<=100
def sk:∀ (n:Nat){Z:St}{ra rb:List Value}{a b:Ex},SizeOf.sizeOf a<n->Ag Z ra a->Ag Z rb b->Ev (gO 40 [.agg ⟨ra⟩,.agg ⟨rb⟩] Z) (fun r=>∃ Z',r=⟨false,.bool (HI a b),Z'⟩/\Ext Z Z') ⟨⟩:=by
 intro n;induction n with
 |zero=>intro Z ra rb a b h;omega
 | succ n ih=>
   rintro Z ra rb ⟨o,nu,de,nm,es⟩ ⟨o',nu',de',nm',es'⟩ hsz ⟨v,D4,rfl,h2,h4,h3⟩ ⟨v',BJ2,rfl,h2',h4',h3'⟩;obtain⟨sa,sc,sb,so,scs,rfl,s1,s2⟩:=Cr.slice h2 h3;obtain⟨sa',sc',sb',so',BL6,rfl,s1',s2'⟩:=Cr.slice h2' h3';have e0:HI (.mk o nu de nm es) (.mk o' nu' de' nm' es')=(decide (o=o')&&(decide (nu=nu')&&decide (de=de'))&&decide (nm=nm')&&Ao es es'):=by unfold HI;rfl
   refine D0 Tryz.func40 rfl rfl ?_;rw[e0];have gM:∀ u v:List Value,Ext Z ((Z.new u).new v):=fun u v=>((Ext.refl _).AG _).AG _;cases hd1:decide (o=o')with
   |false=>refine gS1 (aI @AK (aI @AK (aI hd1 (aI @CC @Tryz.results40)))) ?_;exact⟨_,rfl,gM _ _⟩
   |true=>
   cases hd2:(decide (nu=nu')&&decide (de=de'))with
   |false=>refine gS1 (aI @AK (aI @AK (aI hd1 (aI hd2 (a3N @CC @DL @Tryz.results40))))) ?_;exact⟨_,rfl,gM _ _⟩
   |true=>
   cases hd3:decide (nm=nm')with
   |false=>refine gS1 (aI @AK (aI @AK (aI hd1 (aI hd2 (aI hd3 (a3N @CC @DL @Tryz.results40)))))) ?_;exact⟨_,rfl,gM _ _⟩
   |true=>
   by_cases hlen:es.length=es'.length
   ·have hd4:decide ((es.length:Int)=(es'.length:Int))=true:=by simp[hlen]
    refine gS1 (aI @AK (aI @AK (aI hd1 (aI hd2 (aI hd3 (aI hd4 (aI @CC @DL))))))) ?_
    refine F4 es.length (fun k fr Z'=>fr.get 5=some (.int .i64 k)/\fr.get 2=some (.pointer (some ⟨Z.n,0,none⟩))/\fr.get 3=some (.pointer (some ⟨Z.n+1,0,none⟩)) /\
      Ext ((Z.new [str o,.int .i64 nu,.int .i64 de,str nm,.slice sa es.length sc]).new [str o',.int .i64 nu',.int .i64 de',str nm',.slice sa' es'.length sc']) Z'/\(∀ i a b,i<k->es[i]? =some a->es'[i]? =some b->HI a b=true))
     (fun r=>(∃ fr Z',r=⟨.exit 0,fr,Z'⟩/\Ext Z Z'/\Ao es es'=true)\/(∃ fr Z',r=⟨.ret,fr,Z'⟩/\Ext Z Z'/\fr.get 4=some (.bool false)/\Ao es es'=false)) ?_ ?_ ?_ ?_
    ·exact⟨fR,fR,fR,.refl _,fun i a b h=>om⟩
    ·rintro k fr Z' hk ⟨g5,g2,g3,hE,hm⟩;have hc:=J2 hk;have hE0:Ext Z Z':=(gM _ _).trans hE;have hc':k<es'.length:=om;obtain⟨x,hx⟩:=E8 hk;obtain⟨y,hy⟩:=E8 hc';obtain⟨rx,hrx,hex⟩:=s2 k x hx;obtain⟨ry,hry,hey⟩:=s2' k y hy;obtain⟨sp,rfl,l3,l4⟩:=s1 om;obtain⟨sp',rfl,l3',l4'⟩:=s1' om;have r1:=eT (hE0.row l3) l4;have r2:=eT (hE0.row l3') l4';have r3:Z'.row Z.n=some [str o,.int .i64 nu,.int .i64 de,str nm,.slice (some ⟨sb,so,sp⟩) es.length sc]:=eT (hE.row (by simp;omega)) cL;have r4:Z'.row (Z.n+1)=some [str o',.int .i64 nu',.int .i64 de',str nm',.slice (some ⟨sb',so',sp'⟩) es'.length sc']:=eT (hE.row (by simp)) cL;have hrl:rx.length=5:=hex.len;have BL7:ry.length=5:=hey.len;refine gS1 (aI g2 (aI g3 (aI g5 (aI hc (aI r1 (aI r2 (aI r3 (aI r4 (aI hrx hry))))))))) ?_;refine(ih (a:=x) (b:=y) ?_ (hex.mono hE0) (hey.mono hE0)).mono ?_
     ·have h5:=List.sizeOf_lt_of_mem (W8 hx);simp at hsz;omega
     rintro r ⟨Z2,rfl,hE2⟩;refine gS1 (aI g2 (aI g3 (aI g5 (asx hE2)))) ?_;cases hq:HI x y with
     | true=>
       refine gS1 (aI g2 (aI g3 g5)) ?_;refine⟨fR,fR1 g2,fR1 g3,hE.trans hE2,fun i a b hi ha hb=>?_⟩;by_cases e:i=k
       ·subst e;rw[hx]at ha;rw[hy]at hb;cases ha;cases hb;exact hq
       ·exact hm i a b om ha hb
     | false=>
       refine gS1 (aI g2 (aI g3 g5)) ?_;exact .inr ⟨_,_,rfl,hE0.trans hE2,fR,Nj hlen hx hy hq⟩
    ·rintro fr Z' ⟨g5,g2,g3,hE,hm⟩;have r3:Z'.row Z.n=some [str o,.int .i64 nu,.int .i64 de,str nm,.slice sa es.length sc]:=eT (hE.row (by simp;omega)) cL;refine gS1 (aI g2 (aI g3 (aI g5 r3))) ?_;exact .inl ⟨_,_,rfl,(gM _ _).trans hE,Ov hlen fun k a b ha hb=>hm k a b (List.getElem?_eq_some_iff.1 ha).1 ha hb⟩
    ·rintro r (⟨fr,Z',rfl,hE,hq⟩|⟨fr,Z',rfl,hE,g4,hq⟩)
     ·refine gS1 @Tryz.results40 ?_;rw[hq];exact⟨_,rfl,hE⟩
     ·refine gS1 (aI @Tryz.results40 g4) ?_;rw[hq];exact⟨_,rfl,hE⟩
   ·have hd4:decide ((es.length:Int)=(es'.length:Int))=false:=by simp;omega
    refine gS1 (aI @AK (aI @AK (aI hd1 (aI hd2 (aI hd3 (aI hd4 (a3N @CC @DL @Tryz.results40))))))) ?_;rw[Ow hlen];exact⟨_,rfl,gM _ _⟩
noncomputable def eqC (l:List Nat):Code:=HF l ((Tryz.f21).body.getD .skip)
def qK {Z:St}{v w:Value}{l m:List Int}(hl:Fk Z v l) (hk:Fk Z w m) (hn:l.length<=100) (hn2:m.length<=100) :
  Ev (gO 41 [v,w] Z) (fun r=>r=⟨false,.bool (decide (l=m)),Z⟩) ⟨⟩:=by
 obtain⟨a,c,b,off,cells,rfl,h1,h2⟩:=hl.use;obtain⟨a',c',b',qL,j8,rfl,h1',h2'⟩:=hk.use;refine D0 Tryz.func41 rfl rfl ?_;by_cases hlen:l.length=m.length
 ·have hd:decide ((l.length:Int)=(m.length:Int))=true:=by simp[hlen]
  refine gU1 (a3N @A4 @D3 @hd) ?_
  refine F4 l.length (fun i fr Z'=>fr.get 5=some (.int .i64 i)/\fr.get 0=some (.slice a l.length c)/\fr.get 1=some (.slice a' m.length c')/\Z'=Z/\l.take i=m.take i)
   (fun r=>(∃ fr,r=⟨.exit 0,fr,Z⟩/\l=m)\/(∃ fr,r=⟨.ret,fr,Z⟩/\fr.get 4=some (.bool false)/\l≠m)) ?_ ?_ ?_ ?_
  ·exact⟨fR,fR,fR,rfl,by simp⟩
  ·rintro i fr Z' hi ⟨g5,g0,g1,rfl,hm⟩;have hc:=J2 hi;have hci:i<m.length:=om;obtain⟨sp,rfl,hb,hr⟩:=h1 om;obtain⟨sp',rfl,hb',hr'⟩:=h1' om;obtain⟨x,hx⟩:=E8 hi;obtain⟨y,hy⟩:=E8 hci;have h2:=h2 i x hx;have h2':=h2' i y hy;cases hd2:decide (x=y)with
   | true=>
     have hxy:x=y:=z6z hd2;refine gU1 (aI @A4 (aI @D3 (aI g0 (aI g1 (aI g5 (aI hc (aI hr (aI hr' (aI h2 (aI h2' hd2)))))))))) ?_
     try refine dW ?_
     try(refine gP1 (aI g0 (aI g1 (aI g5 hd2))) ?_;try exact⟨⟩)
     exact⟨fR,fR1 g0,fR1 g1,by trivial,by rw[Dj,Dj,hm,hx,hy,hxy]⟩
   | false=>
     have hxy:¬ x=y:=z9z hd2;refine gU1 (aI @A4 (aI @D3 (aI g0 (aI g1 (aI g5 (aI hc (aI hr (aI hr' (aI h2 (aI h2' hd2)))))))))) ?_
     try refine dW ?_
     try(refine gP1 (aI g0 (aI g1 (aI g5 hd2))) ?_;try exact⟨⟩)
     refine .inr ⟨_,rfl,fR,fun h=>?_⟩;subst h;rw[hx]at hy;cases hy;exact hxy rfl
  ·rintro fr Z' ⟨g5,g0,g1,rfl,hm⟩;refine gU1 (aI @A4 (aI @D3 (aI g0 (aI g5 @EJ)))) ?_;refine .inl ⟨_,rfl,?_⟩;rw[Bl,hlen,Bl]at hm;exact hm
  ·rintro r (⟨fr,rfl,hm⟩|⟨fr,rfl,g4,hm⟩)
   ·refine gU1 (a3N @A4 @D3 @Tryz.results41) ?_;rw[Aq hm]
   ·refine gU1 (aI @A4 (aI @D3 (aI @Tryz.results41 g4))) ?_;rw[z4z hm]
 ·have hd:decide ((l.length:Int)=(m.length:Int))=false:=by simp;omega
  refine gU1 (a4N @A4 @D3 @hd @Tryz.results41) ?_;rw[z4z (fun h=>hlen (by rw[h]))]
def tT {τ:St}{fr0:Fr}{p q:Nat}{ca cb:List Value}{vl ul:Value}{l m:List Lot}(g2:fr0.get 2=some (.pointer (some ⟨p,0,none⟩))) (g3:fr0.get 3=some (.pointer (some ⟨q,0,none⟩))) (wp:τ.row p=some ca) (wq:τ.row q=some cb) (s1:sub ca 1 1=some [vl]) (q1:sub cb 1 1=some [ul])
  (hl:gW τ vl l) (hk:gW τ ul m) (hlen:l.length=m.length) (hn:l.length<=100) :
  Ev (lim Tryz.prog HS none (eqC [1,1,1,0]) fr0 τ) (fun r=>(∃ fr,r=⟨.normal,fr,τ⟩/\(fr.get 2=some (.pointer (some ⟨p,0,none⟩))/\fr.get 3=some (.pointer (some ⟨q,0,none⟩)))/\l=m)\/(∃ fr,r=⟨.ret,fr,τ⟩/\fr.get 4=some (.bool false)/\l≠m)) ⟨⟩:=by
 obtain⟨a,c,b,off,cells,rfl,h1,h2⟩:=hl.use;obtain⟨a',c',b',qL,j8,rfl,h1',h2'⟩:=hk.use;simp only[eqC,Tryz.f21,J4,M0,BP,BQ,BR,BS];refine gU1 (aI @A4 @D3) ?_
 refine F4 l.length (fun i fr Z'=>fr.get 6=some (.int .i64 i)/\fr.get 2=some (.pointer (some ⟨p,0,none⟩))/\fr.get 3=some (.pointer (some ⟨q,0,none⟩))/\Z'=τ/\l.take i=m.take i)
  (fun r=>(∃ fr,r=⟨.exit 0,fr,τ⟩/\(fr.get 2=some (.pointer (some ⟨p,0,none⟩))/\fr.get 3=some (.pointer (some ⟨q,0,none⟩)))/\l=m)\/(∃ fr,r=⟨.ret,fr,τ⟩/\fr.get 4=some (.bool false)/\l≠m)) ?_ ?_ ?_ ?_
 ·exact⟨fR,fR1 g2,fR1 g3,rfl,by simp⟩
 ·clear g2 g3 fr0;rintro i fr Z' hi ⟨gi,g2,g3,rfl,hm⟩;have hc:=J2 hi;have hci:i<m.length:=om;obtain⟨sp,rfl,hb,hr⟩:=h1 om;obtain⟨sp',rfl,hb',hr'⟩:=h1' om;obtain⟨x,hx⟩:=E8 hi;obtain⟨y,hy⟩:=E8 hci;have h2:=(h2 i x hx).1;have h2':=(h2' i y hy).1;cases hd2:decide (x=y)with
  | true=>
    have hxy:x=y:=z6z hd2;refine gP1 (aI gi (aI g2 (aI g3 (aI wp (aI wq (aI s1 (aI q1 (aI hc (aI hr (aI hr' (aI h2 (aI h2' (aI @qM hd2))))))))))))) ?_
    try refine dW ?_
    try(refine gP1 (aI gi (aI g2 (aI g3 hd2))) ?_;try exact⟨⟩)
    exact⟨fR,fR1 g2,fR1 g3,by trivial,by rw[Dj,Dj,hm,hx,hy,hxy]⟩
  | false=>
    have hxy:¬ x=y:=z9z hd2;refine gP1 (aI gi (aI g2 (aI g3 (aI wp (aI wq (aI s1 (aI q1 (aI hc (aI hr (aI hr' (aI h2 (aI h2' (aI @qM hd2))))))))))))) ?_
    try refine dW ?_
    try(refine gP1 (aI gi (aI g2 (aI g3 hd2))) ?_;try exact⟨⟩)
    refine .inr ⟨_,rfl,fR,fun h=>?_⟩;subst h;rw[hx]at hy;cases hy;exact hxy rfl
 ·clear g2 g3 fr0;rintro fr Z' ⟨gi,g2,g3,rfl,hm⟩;refine gU1 (aI @A4 (aI @D3 (aI gi (aI g2 (aI g3 (aI wp (aI s1 @EJ))))))) ?_;rw[Bl,hlen,Bl]at hm;exact .inl ⟨_,rfl,⟨fR1 g2,fR1 g3⟩,hm⟩
 ·rintro r (⟨fr,rfl,⟨g2,g3⟩,hm⟩|⟨fr,rfl,g4,hm⟩)
  ·refine gU1 (aI @A4 @D3) ?_;exact .inl ⟨_,rfl,⟨g2,g3⟩,hm⟩
  ·refine gU1 (aI @A4 @D3) ?_;exact .inr ⟨_,rfl,g4,hm⟩
def mc {τ:St}{fr0:Fr}{p q:Nat}{ca cb:List Value}{vl ul:Value}{l m:List AB}(g2:fr0.get 2=some (.pointer (some ⟨p,0,none⟩))) (g3:fr0.get 3=some (.pointer (some ⟨q,0,none⟩))) (wp:τ.row p=some ca) (wq:τ.row q=some cb) (s1:sub ca 2 1=some [vl]) (q1:sub cb 2 1=some [ul])
  (hl:SJ τ vl l) (hk:SJ τ ul m) (hlen:l.length=m.length) (hn:l.length<=100) :
  Ev (lim Tryz.prog HS none (eqC [1,1,1,1,0]) fr0 τ) (fun r=>(∃ fr,r=⟨.normal,fr,τ⟩/\(fr.get 2=some (.pointer (some ⟨p,0,none⟩))/\fr.get 3=some (.pointer (some ⟨q,0,none⟩)))/\l=m)\/(∃ fr,r=⟨.ret,fr,τ⟩/\fr.get 4=some (.bool false)/\l≠m)) ⟨⟩:=by
 obtain⟨a,c,b,off,cells,rfl,h1,h2⟩:=hl.use;obtain⟨a',c',b',qL,j8,rfl,h1',h2'⟩:=hk.use;simp only[eqC,Tryz.f21,J4,M0,BP,BQ,BR,BS];refine gU1 (aI @A4 @D3) ?_
 refine F4 l.length (fun i fr Z'=>fr.get 7=some (.int .i64 i)/\fr.get 2=some (.pointer (some ⟨p,0,none⟩))/\fr.get 3=some (.pointer (some ⟨q,0,none⟩))/\Z'=τ/\l.take i=m.take i)
  (fun r=>(∃ fr,r=⟨.exit 2,fr,τ⟩/\(fr.get 2=some (.pointer (some ⟨p,0,none⟩))/\fr.get 3=some (.pointer (some ⟨q,0,none⟩)))/\l=m)\/(∃ fr,r=⟨.ret,fr,τ⟩/\fr.get 4=some (.bool false)/\l≠m)) ?_ ?_ ?_ ?_
 ·exact⟨fR,fR1 g2,fR1 g3,rfl,by simp⟩
 ·clear g2 g3 fr0;rintro i fr Z' hi ⟨gi,g2,g3,rfl,hm⟩;have hc:=J2 hi;have hci:i<m.length:=om;obtain⟨sp,rfl,hb,hr⟩:=h1 om;obtain⟨sp',rfl,hb',hr'⟩:=h1' om;obtain⟨x,hx⟩:=E8 hi;obtain⟨y,hy⟩:=E8 hci;have h2:=(h2 i x hx).1;have h2':=(h2' i y hy).1;cases hd2:decide (x=y)with
  | true=>
    have hxy:x=y:=z6z hd2;refine gP1 (aI gi (aI g2 (aI g3 (aI wp (aI wq (aI s1 (aI q1 (aI hc (aI hr (aI hr' (aI h2 (aI h2' (aI @fI hd2))))))))))))) ?_
    try refine dW ?_
    try(refine gP1 (aI gi (aI g2 (aI g3 hd2))) ?_;try exact⟨⟩)
    exact⟨fR,fR1 g2,fR1 g3,by trivial,by rw[Dj,Dj,hm,hx,hy,hxy]⟩
  | false=>
    have hxy:¬ x=y:=z9z hd2;refine gP1 (aI gi (aI g2 (aI g3 (aI wp (aI wq (aI s1 (aI q1 (aI hc (aI hr (aI hr' (aI h2 (aI h2' (aI @fI hd2))))))))))))) ?_
    try refine dW ?_
    try(refine gP1 (aI gi (aI g2 (aI g3 hd2))) ?_;try exact⟨⟩)
    refine .inr ⟨_,rfl,fR,fun h=>?_⟩;subst h;rw[hx]at hy;cases hy;exact hxy rfl
 ·clear g2 g3 fr0;rintro fr Z' ⟨gi,g2,g3,rfl,hm⟩;refine gU1 (aI @A4 (aI @D3 (aI gi (aI g2 (aI g3 (aI wp (aI s1 @EJ))))))) ?_;rw[Bl,hlen,Bl]at hm;exact .inl ⟨_,rfl,⟨fR1 g2,fR1 g3⟩,hm⟩
 ·rintro r (⟨fr,rfl,⟨g2,g3⟩,hm⟩|⟨fr,rfl,g4,hm⟩)
  ·refine gU1 (aI @A4 @D3) ?_;exact .inl ⟨_,rfl,⟨g2,g3⟩,hm⟩
  ·refine gU1 (aI @A4 @D3) ?_;exact .inr ⟨_,rfl,g4,hm⟩
def tU {τ:St}{fr0:Fr}{p q:Nat}{ca cb:List Value}{vl ul:Value}{l m:List Req}(g2:fr0.get 2=some (.pointer (some ⟨p,0,none⟩))) (g3:fr0.get 3=some (.pointer (some ⟨q,0,none⟩))) (wp:τ.row p=some ca) (wq:τ.row q=some cb) (s1:sub ca 3 1=some [vl]) (q1:sub cb 3 1=some [ul])
  (hl:gY τ vl l) (hk:gY τ ul m) (hlen:l.length=m.length) (hn:l.length<=100) :
  Ev (lim Tryz.prog HS none (eqC [1,1,1,1,1,0]) fr0 τ) (fun r=>(∃ fr,r=⟨.normal,fr,τ⟩/\(fr.get 2=some (.pointer (some ⟨p,0,none⟩))/\fr.get 3=some (.pointer (some ⟨q,0,none⟩)))/\l=m)\/(∃ fr,r=⟨.ret,fr,τ⟩/\fr.get 4=some (.bool false)/\l≠m)) ⟨⟩:=by
 obtain⟨a,c,b,off,cells,rfl,h1,h2⟩:=hl.use;obtain⟨a',c',b',qL,j8,rfl,h1',h2'⟩:=hk.use;simp only[eqC,Tryz.f21,J4,M0,BP,BQ,BR,BS];refine gU1 (aI @A4 @D3) ?_
 refine F4 l.length (fun i fr Z'=>fr.get 8=some (.int .i64 i)/\fr.get 2=some (.pointer (some ⟨p,0,none⟩))/\fr.get 3=some (.pointer (some ⟨q,0,none⟩))/\Z'=τ/\l.take i=m.take i)
  (fun r=>(∃ fr,r=⟨.exit 4,fr,τ⟩/\(fr.get 2=some (.pointer (some ⟨p,0,none⟩))/\fr.get 3=some (.pointer (some ⟨q,0,none⟩)))/\l=m)\/(∃ fr,r=⟨.ret,fr,τ⟩/\fr.get 4=some (.bool false)/\l≠m)) ?_ ?_ ?_ ?_
 ·exact⟨fR,fR1 g2,fR1 g3,rfl,by simp⟩
 ·clear g2 g3 fr0;rintro i fr Z' hi ⟨gi,g2,g3,rfl,hm⟩;have hc:=J2 hi;have hci:i<m.length:=om;obtain⟨sp,rfl,hb,hr⟩:=h1 om;obtain⟨sp',rfl,hb',hr'⟩:=h1' om;obtain⟨x,hx⟩:=E8 hi;obtain⟨y,hy⟩:=E8 hci;have h2:=(h2 i x hx).1;have h2':=(h2' i y hy).1;cases hd2:decide (x=y)with
  | true=>
    have hxy:x=y:=z6z hd2;refine gP1 (aI gi (aI g2 (aI g3 (aI wp (aI wq (aI s1 (aI q1 (aI hc (aI hr (aI hr' (aI h2 (aI h2' (aI @qO hd2))))))))))))) ?_
    try refine dW ?_
    try(refine gP1 (aI gi (aI g2 (aI g3 hd2))) ?_;try exact⟨⟩)
    exact⟨fR,fR1 g2,fR1 g3,by trivial,by rw[Dj,Dj,hm,hx,hy,hxy]⟩
  | false=>
    have hxy:¬ x=y:=z9z hd2;refine gP1 (aI gi (aI g2 (aI g3 (aI wp (aI wq (aI s1 (aI q1 (aI hc (aI hr (aI hr' (aI h2 (aI h2' (aI @qO hd2))))))))))))) ?_
    try refine dW ?_
    try(refine gP1 (aI gi (aI g2 (aI g3 hd2))) ?_;try exact⟨⟩)
    refine .inr ⟨_,rfl,fR,fun h=>?_⟩;subst h;rw[hx]at hy;cases hy;exact hxy rfl
 ·clear g2 g3 fr0;rintro fr Z' ⟨gi,g2,g3,rfl,hm⟩;refine gU1 (aI @A4 (aI @D3 (aI gi (aI g2 (aI g3 (aI wp (aI s1 @EJ))))))) ?_;rw[Bl,hlen,Bl]at hm;exact .inl ⟨_,rfl,⟨fR1 g2,fR1 g3⟩,hm⟩
 ·rintro r (⟨fr,rfl,⟨g2,g3⟩,hm⟩|⟨fr,rfl,g4,hm⟩)
  ·refine gU1 (aI @A4 @D3) ?_;exact .inl ⟨_,rfl,⟨g2,g3⟩,hm⟩
  ·refine gU1 (aI @A4 @D3) ?_;exact .inr ⟨_,rfl,g4,hm⟩
def tV {τ:St}{fr0:Fr}{p q:Nat}{ca cb:List Value}{vl ul:Value}{l m:List By}(g2:fr0.get 2=some (.pointer (some ⟨p,0,none⟩))) (g3:fr0.get 3=some (.pointer (some ⟨q,0,none⟩))) (wp:τ.row p=some ca) (wq:τ.row q=some cb) (s1:sub ca 11 1=some [vl]) (q1:sub cb 11 1=some [ul])
  (hl:HX τ vl l) (hk:HX τ ul m) (hlen:l.length=m.length) (hn:l.length<=100) :
  Ev (lim Tryz.prog HS none (eqC [1,1,1,1,1,1,0]) fr0 τ) (fun r=>(∃ fr,r=⟨.normal,fr,τ⟩/\(fr.get 2=some (.pointer (some ⟨p,0,none⟩))/\fr.get 3=some (.pointer (some ⟨q,0,none⟩)))/\l=m)\/(∃ fr,r=⟨.ret,fr,τ⟩/\fr.get 4=some (.bool false)/\l≠m)) ⟨⟩:=by
 obtain⟨a,c,b,off,cells,rfl,h1,h2⟩:=hl.use;obtain⟨a',c',b',qL,j8,rfl,h1',h2'⟩:=hk.use;simp only[eqC,Tryz.f21,J4,M0,BP,BQ,BR,BS];refine gU1 (aI @A4 @D3) ?_
 refine F4 l.length (fun i fr Z'=>fr.get 9=some (.int .i64 i)/\fr.get 2=some (.pointer (some ⟨p,0,none⟩))/\fr.get 3=some (.pointer (some ⟨q,0,none⟩))/\Z'=τ/\l.take i=m.take i)
  (fun r=>(∃ fr,r=⟨.exit 6,fr,τ⟩/\(fr.get 2=some (.pointer (some ⟨p,0,none⟩))/\fr.get 3=some (.pointer (some ⟨q,0,none⟩)))/\l=m)\/(∃ fr,r=⟨.ret,fr,τ⟩/\fr.get 4=some (.bool false)/\l≠m)) ?_ ?_ ?_ ?_
 ·exact⟨fR,fR1 g2,fR1 g3,rfl,by simp⟩
 ·clear g2 g3 fr0;rintro i fr Z' hi ⟨gi,g2,g3,rfl,hm⟩;have hc:=J2 hi;have hci:i<m.length:=om;obtain⟨sp,rfl,hb,hr⟩:=h1 om;obtain⟨sp',rfl,hb',hr'⟩:=h1' om;obtain⟨x,hx⟩:=E8 hi;obtain⟨y,hy⟩:=E8 hci;have h2:=(h2 i x hx)
  have h2':=(h2' i y hy)
  cases hd2:decide (x=y)with
  | true=>
    have hxy:x=y:=z6z hd2;refine gU1 (aI @A4 (aI @D3 (aI gi (aI g2 (aI g3 (aI wp (aI wq (aI s1 (aI q1 (aI hc (aI hr (aI hr' (aI h2 (aI h2' hd2)))))))))))))) ?_
    try refine dW ?_
    try(refine gP1 (aI gi (aI g2 (aI g3 hd2))) ?_;try exact⟨⟩)
    exact⟨fR,fR1 g2,fR1 g3,by trivial,by rw[Dj,Dj,hm,hx,hy,hxy]⟩
  | false=>
    have hxy:¬ x=y:=z9z hd2;refine gU1 (aI @A4 (aI @D3 (aI gi (aI g2 (aI g3 (aI wp (aI wq (aI s1 (aI q1 (aI hc (aI hr (aI hr' (aI h2 (aI h2' hd2)))))))))))))) ?_
    try refine dW ?_
    try(refine gP1 (aI gi (aI g2 (aI g3 hd2))) ?_;try exact⟨⟩)
    refine .inr ⟨_,rfl,fR,fun h=>?_⟩;subst h;rw[hx]at hy;cases hy;exact hxy rfl
 ·clear g2 g3 fr0;rintro fr Z' ⟨gi,g2,g3,rfl,hm⟩;refine gU1 (aI @A4 (aI @D3 (aI gi (aI g2 (aI g3 (aI wp (aI s1 @EJ))))))) ?_;rw[Bl,hlen,Bl]at hm;exact .inl ⟨_,rfl,⟨fR1 g2,fR1 g3⟩,hm⟩
 ·rintro r (⟨fr,rfl,⟨g2,g3⟩,hm⟩|⟨fr,rfl,g4,hm⟩)
  ·refine gU1 (aI @A4 @D3) ?_;exact .inl ⟨_,rfl,⟨g2,g3⟩,hm⟩
  ·refine gU1 (aI @A4 @D3) ?_;exact .inr ⟨_,rfl,g4,hm⟩
def iJ {τ:St}{fr0:Fr}{p q:Nat}{ca cb:List Value}{vl ul:Value}{vs us:List Value}{l m:List (List Int)}(g2:fr0.get 2=some (.pointer (some ⟨p,0,none⟩))) (g3:fr0.get 3=some (.pointer (some ⟨q,0,none⟩))) (wp:τ.row p=some ca) (wq:τ.row q=some cb) (s1:sub ca 13 1=some [vl]) (q1:sub cb 13 1=some [ul])
  (hl:SL τ 1 vl (vs.map fun v=>[v])) (hvl:FP (Fk τ) vs l) (hku:SL τ 1 ul (us.map fun v=>[v])) (hul:FP (Fk τ) us m) (hlen:l.length=m.length) (hn:l.length<=100) (hi:∀ c∈l,c.length<=100) (hi2:∀ c∈m,c.length<=100) :
  Ev (lim Tryz.prog HS none (eqC [1,1,1,1,1,1,1,0]) fr0 τ) (fun r=>(∃ fr,r=⟨.normal,fr,τ⟩/\l=m)\/(∃ fr,r=⟨.ret,fr,τ⟩/\fr.get 4=some (.bool false)/\l≠m)) ⟨⟩:=by
 obtain⟨a,c,b,off,cells,rfl,h1,h2⟩:=SL.Pe hl;obtain⟨a',c',b',qL,j8,rfl,h1',h2'⟩:=SL.Pe hku;have e1:=hvl.len;have e2:=hul.len;simp only[eqC,Tryz.f21,J4,M0,BP,BQ,BR,BS];refine gU1 (aI @A4 @D3) ?_
 refine F4 vs.length (fun i fr Z'=>fr.get 10=some (.int .i64 i)/\fr.get 2=some (.pointer (some ⟨p,0,none⟩))/\fr.get 3=some (.pointer (some ⟨q,0,none⟩))/\Z'=τ/\l.take i=m.take i)
  (fun r=>(∃ fr,r=⟨.exit 8,fr,τ⟩/\l=m)\/(∃ fr,r=⟨.ret,fr,τ⟩/\fr.get 4=some (.bool false)/\l≠m)) ?_ ?_ ?_ ?_
 ·exact⟨fR,fR1 g2,fR1 g3,rfl,by simp⟩
 ·clear g2 g3 fr0;rintro i fr Z' hk ⟨gi,g2,g3,rfl,hm⟩;have hc:=J2 hk;have hck:i<us.length:=om;obtain⟨x,hx⟩:=E8 hk;obtain⟨y,hy⟩:=E8 hck;obtain⟨A,hA⟩:=E8 (show i<l.length by omega);obtain⟨B,hB⟩:=E8 (show i<m.length by omega);obtain⟨sp,rfl,hb,hr⟩:=h1 om;obtain⟨sp',rfl,hb',hr'⟩:=h1' om;have h2:=h2 i x hx;have h2':=h2' i y hy;rw[Df]at h2 h2';have i1:=hvl.get hx hA;have i2:=hul.get hy hB;have c1:=hi A (W8 hA);have c2:=hi2 B (W8 hB);obtain⟨xa,xc,xb,xo,xcs,rfl,-,-⟩:=i1.use;obtain⟨ya,yc,yb,yo,ycs,rfl,-,-⟩:=i2.use;refine gU1 (aI @A4 (aI @D3 (aI gi (aI g2 (aI g3 (aI wp (aI wq (aI s1 (aI q1 (aI hc (aI hr (aI hr' (aI h2 h2'))))))))))))) ?_;refine(qK i1 i2 c1 c2).mono ?_;rintro r rfl;cases hd2:decide (A=B)with
  | true=>
    have hxy:A=B:=z6z hd2;refine gU1 (aI @A4 (aI @D3 (aI gi (aI g2 g3)))) ?_
    try refine Ar.intro (by(repeat first|simp(disch:=omega) only[DH,Gc,Bq,asx (Ext.refl _)]|rw[IT (by kernel_rfl)]);first|done|rfl) ?_
    try(refine gP1 (aI gi (aI g2 g3)) ?_;try exact⟨⟩)
    exact⟨fR,fR1 g2,fR1 g3,by trivial,by rw[Dj,Dj,hm,hA,hB,hxy]⟩
  | false=>
    have hxy:¬ A=B:=z9z hd2;refine gU1 (aI @A4 (aI @D3 (aI gi (aI g2 g3)))) ?_
    try refine Ar.intro (by(repeat first|simp(disch:=omega) only[DH,Gc,Bq,asx (Ext.refl _)]|rw[IT (by kernel_rfl)]);first|done|rfl) ?_
    try(refine gP1 (aI gi (aI g2 g3)) ?_;try exact⟨⟩)
    refine .inr ⟨_,rfl,fR,fun h=>?_⟩;subst h;rw[hA]at hB;cases hB;exact hxy rfl
 ·clear g2 g3 fr0;rintro fr Z' ⟨gi,g2,g3,rfl,hm⟩;refine gU1 (aI @A4 (aI @D3 (aI gi (aI g2 (aI g3 (aI wp (aI s1 @EJ))))))) ?_;rw[e1,Bl,hlen,Bl]at hm;exact .inl ⟨_,rfl,hm⟩
 ·rintro r (⟨fr,rfl,hm⟩|⟨fr,rfl,g4,hm⟩)
  ·refine gU1 (aI @A4 @D3) ?_;exact .inl ⟨_,rfl,hm⟩
  ·refine gU1 (aI @A4 @D3) ?_;exact .inr ⟨_,rfl,g4,hm⟩
end Go.Proofs.T
