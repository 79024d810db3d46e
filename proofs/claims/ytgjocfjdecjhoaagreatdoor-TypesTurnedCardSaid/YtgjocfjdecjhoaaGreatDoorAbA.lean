/- As8 an abstract machine for the HI code: VS grow BA2 new blocks, dV run in the order of the text, and Hs is not covered has no result. -/
import Derived.Orders
import Derived.KernelRfl
import Derived.Laws.Cells
import Derived.Laws.Strings
import Derived.MapKept
import Derived.RangeFuncRecord
set_option linter.unusedSimpArgs false
set_option linter.unusedVariables false
set_option linter.defProp false
set_option maxHeartbeats 32000000
set_option maxRecDepth 100000
namespace Go.Ab
def om {p:Prop} (h:p:=by omega):p:=h
def z0z:=@if_neg
def z1z:=@if_pos
def z2z:=@List.length_map
def z3z:=@decide_eq_true_iff
def z4z:=@decide_eq_false
def z5z:=@Nat.lt_of_lt_of_le
def z6z:=@of_decide_eq_true
def z7z:=@Bool.eq_iff_iff
def z8z:=@Option.some.inj
def z9z:=@of_decide_eq_false
def Bs:=@List.mem_of_getElem?
def AV:=@Nat.le_trans
def AW:=@Nat.lt_or_ge
def BF:=@Nat.le_refl
def Q7:=@Bool.and_eq_true
def IY:=@List.map_append
def BM:=@Nat.zero_le
def Aa:=@Nat.eq_of_beq_eq_true
def CE:=@List.length_cons
def Be:=@decide_eq_true
def Dc:=@List.length_append
def Y5:=@List.mem_cons
def JF:=@List.take_length
def MJ:=@Bool.false_and
def DW:=@Nat.mul_comm
def Bt:=@Nat.blt_eq
def MH:=@Nat.mul_one
def HX:=@List.mem_append
def IE:=@Bool.true_and
def IK:=@List.length_take
def Sw:=@List.take_add_one
def FP:=@if_true
def AG:=@Nat.add_zero
def Gf:=@Nat.mul_assoc
def Ng:=@List.length_drop
def XN:=@Bool.not_false
def GA:=@List.mem_cons_of_mem
def Lf:=@List.mem_singleton
def Hr:=@Nat.pow_succ
def HC:=@Nat.zero_add
def GJ:=@List.all_eq_true
def Gc:=@if_false
def NO:=@Bool.and_false
def br:=@Bool.not_true
def VR:=@decide_eq_false_iff_not
def Fp:=@Nat.zero_mul
def Hh:=@Array.getD_eq_getD_getElem?
def IH:=@Bool.false_eq_true
def MN:=@Nat.mod_lt
def Sn:=@Bool.or_eq_true
def Dn:=@decide_eq_true_eq
def Kf:=@List.mem_cons_self
def FV:=@List.append_nil
def JQ:=@List.length_nil
def JM:=@Nat.le_of_ble_eq_true
def JN:=@Int.ofNat_eq_natCast
def Ql:=@List.take_of_length_le
def PI:=@List.append_assoc
def dk:=@List.drop_drop
def FN:=@List.not_mem_nil
def PL:=@List.drop_eq_getElem_cons
def Em:=@or_false
def II:=@Nat.lt_succ_self
def cO:=@List.mem_map
def Jb:=@List.nil_append
def PE:=@Array.length_toList
def Mp:=@List.cons_append
def Va:=@Nat.sub_zero
def VD:=@Nat.add_assoc
def Sp:=@Nat.succ_mul
def Sr:=@Nat.add_mul
def Sz:=@Nat.mul_add
def jJ:=@Nat.mul_le_mul_right
def Xp:=@List.all_cons
def Sv:=@List.drop_zero
def pS:=@Nat.pow_le_pow_right
def wh:=@Nat.min_eq_left
def Vu:=@List.flatten_cons
def PF:=@List.mem_of_mem_take
def bh:=@Bool.and_true
def vU:=@List.takeWhile_cons
def VV:=@Nat.eq_zero_or_pos
def XB:=@List.eq_nil_of_length_eq_zero
def pR:=@Nat.pow_pos
def QA:=@Nat.one_mul
def PG:=@List.length_eq_zero_iff
def uy:=@List.mem_range
def bJ:=@List.mem_of_mem_drop
def AQ3:=@beq_eq_false_iff_ne
def Fo:=@Int.eq_ofNat_of_zero_le
def cP:=@Nat.mul_zero
def jy:=@Nat.lt_trichotomy
def dA:=@Int.negSucc_eq
def Vb:=@Nat.sub_self
def YW:=@List.map_cons
def QB:=@List.foldl_cons
def QE:=@Nat.mod_eq_of_lt
def TS:=@Option.map_some
def QH:=@Nat.gcd_comm
def rB:=@List.all_append
def Ti:=@Option.map_none
def Qp:=@Array.toList_inj
def Tz:=@List.take_take
def Rc:=@Nat.div_add_mod
def SB:=@Classical.byContradiction
def Ue:=@mem_ready
def Uf:=@Nat.add_right_cancel_iff
def AC5:=@Nat.le_add_right
def XH:=@Array.size_append
def XI:=@Nat.mul_le_mul_left
def OO:=@Int.toNat_natCast
def OX:=@Nat.div_le_self
def gu:=@List.foldl_append
def Oa:=@List.take_zero
def fh:=@List.drop_length
def mz:=@Nat.mul_le_mul
def Zx:=@Nat.testBit_or
def aW:=@Nat.le_antisymm
def AH7:=@List.length_singleton
def fE:=@Array.size_replicate
def AE2:=@Nat.gcd_pos_of_pos_right
def AG8:=@Option.map_eq_some_iff
def oC:=@Option.isSome_none
def oZ:=@Bool.eq_false_iff
def rN:=@List.drop_take
def gG:=@Nat.div_lt_of_lt_mul
def gH:=@Nat.add_le_add_right
def BM7:=@List.length_pos_iff
def gY:=@Nat.pow_zero
def gp:=@List.count_cons
def gB:=@Nat.add_comm
def fD:=@Array.foldl_toList
def mc:=@Array.toList_map
def me:=@List.mapM_cons
def mf:=@Nat.gcd_zero_right
def mg:=@Nat.gcd_rec
def nU:=@Nat.div_one
def oB:=@List.length_set
def qM:=@Nat.mul_mod
def qO:=@Nat.zero_mod
def sT:=@Nat.mul_lt_mul_left
def sU:=@Nat.mul_eq_zero
def sW:=@Nat.div_eq_of_lt
def sX:=@List.mem_flatten
def sY:=@Oper.upon_value
def tN:=@Nat.mod_two_eq_zero_or_one
def TQ:=@Int.mul_ediv_cancel_left
def Xr:=@List.drop_of_length_le
def AC4:=@Array.mapM_eq_mapM_toList
def AC6:=@Array.toList_append
def AC7:=@Nat.le_mul_of_pos_right
def AC9:=@Nat.ble_eq_true_of_le
def AE8:=@List.mem_or_eq_of_mem_set
def AE9:=@Array.toList_extract
def AF0:=@List.extract_eq_take_drop
def AF2:=@Nat.div_le_of_le_mul
def fV:=@List.take_append_drop
def AF6:=@Int.negSucc_lt_zero
def XC:=@Int.tmod_eq_emod_of_nonneg
def BM8:=@List.pairwise_iff_getElem
def AG2:=@Array.size_setIfInBounds
def AG5:=@List.replicate_succ
def AG6:=@Nat.eq_of_mul_eq_mul_left
def AH8:=@Nat.add_sub_cancel_left
def AH0:=@List.eq_nil_iff_forall_not_mem
def AH1:=@Array.toList_setIfInBounds
def AH9:=@Nat.lt_of_mul_lt_mul_right
theorem aI {a b:Prop} (x:a) (y:b):a/\b:=⟨x,y⟩
theorem a3N {p0 p1 p2:Prop}(x0:p0)(x1:p1)(x2:p2):p0/\p1/\p2:=⟨x0,x1,x2⟩
theorem a4N {p0 p1 p2 p3:Prop}(x0:p0)(x1:p1)(x2:p2)(x3:p3):p0/\p1/\p2/\p3:=⟨x0,x1,x2,x3⟩
theorem a5N {p0 p1 p2 p3 p4:Prop}(x0:p0)(x1:p1)(x2:p2)(x3:p3)(x4:p4):p0/\p1/\p2/\p3/\p4:=⟨x0,x1,x2,x3,x4⟩
theorem a6N {p0 p1 p2 p3 p4 p5:Prop}(x0:p0)(x1:p1)(x2:p2)(x3:p3)(x4:p4)(x5:p5):p0/\p1/\p2/\p3/\p4/\p5:=⟨x0,x1,x2,x3,x4,x5⟩
theorem a7N {p0 p1 p2 p3 p4 p5 p6:Prop}(x0:p0)(x1:p1)(x2:p2)(x3:p3)(x4:p4)(x5:p5)(x6:p6):p0/\p1/\p2/\p3/\p4/\p5/\p6:=⟨x0,x1,x2,x3,x4,x5,x6⟩
theorem a8N {p0 p1 p2 p3 p4 p5 p6 p7:Prop}(x0:p0)(x1:p1)(x2:p2)(x3:p3)(x4:p4)(x5:p5)(x6:p6)(x7:p7):p0/\p1/\p2/\p3/\p4/\p5/\p6/\p7:=⟨x0,x1,x2,x3,x4,x5,x6,x7⟩
theorem a9N {p0 p1 p2 p3 p4 p5 p6 p7 p8:Prop}(x0:p0)(x1:p1)(x2:p2)(x3:p3)(x4:p4)(x5:p5)(x6:p6)(x7:p7)(x8:p8):p0/\p1/\p2/\p3/\p4/\p5/\p6/\p7/\p8:=⟨x0,x1,x2,x3,x4,x5,x6,x7,x8⟩
theorem a10N {p0 p1 p2 p3 p4 p5 p6 p7 p8 p9:Prop}(x0:p0)(x1:p1)(x2:p2)(x3:p3)(x4:p4)(x5:p5)(x6:p6)(x7:p7)(x8:p8)(x9:p9):p0/\p1/\p2/\p3/\p4/\p5/\p6/\p7/\p8/\p9:=⟨x0,x1,x2,x3,x4,x5,x6,x7,x8,x9⟩
theorem a11N {p0 p1 p2 p3 p4 p5 p6 p7 p8 p9 p10:Prop}(x0:p0)(x1:p1)(x2:p2)(x3:p3)(x4:p4)(x5:p5)(x6:p6)(x7:p7)(x8:p8)(x9:p9)(x10:p10):p0/\p1/\p2/\p3/\p4/\p5/\p6/\p7/\p8/\p9/\p10:=⟨x0,x1,x2,x3,x4,x5,x6,x7,x8,x9,x10⟩
theorem a12N {p0 p1 p2 p3 p4 p5 p6 p7 p8 p9 p10 p11:Prop}(x0:p0)(x1:p1)(x2:p2)(x3:p3)(x4:p4)(x5:p5)(x6:p6)(x7:p7)(x8:p8)(x9:p9)(x10:p10)(x11:p11):p0/\p1/\p2/\p3/\p4/\p5/\p6/\p7/\p8/\p9/\p10/\p11:=⟨x0,x1,x2,x3,x4,x5,x6,x7,x8,x9,x10,x11⟩
theorem a13N {p0 p1 p2 p3 p4 p5 p6 p7 p8 p9 p10 p11 p12:Prop}(x0:p0)(x1:p1)(x2:p2)(x3:p3)(x4:p4)(x5:p5)(x6:p6)(x7:p7)(x8:p8)(x9:p9)(x10:p10)(x11:p11)(x12:p12):p0/\p1/\p2/\p3/\p4/\p5/\p6/\p7/\p8/\p9/\p10/\p11/\p12:=⟨x0,x1,x2,x3,x4,x5,x6,x7,x8,x9,x10,x11,x12⟩
theorem a14N {p0 p1 p2 p3 p4 p5 p6 p7 p8 p9 p10 p11 p12 p13:Prop}(x0:p0)(x1:p1)(x2:p2)(x3:p3)(x4:p4)(x5:p5)(x6:p6)(x7:p7)(x8:p8)(x9:p9)(x10:p10)(x11:p11)(x12:p12)(x13:p13):p0/\p1/\p2/\p3/\p4/\p5/\p6/\p7/\p8/\p9/\p10/\p11/\p12/\p13:=⟨x0,x1,x2,x3,x4,x5,x6,x7,x8,x9,x10,x11,x12,x13⟩
theorem a15N {p0 p1 p2 p3 p4 p5 p6 p7 p8 p9 p10 p11 p12 p13 p14:Prop}(x0:p0)(x1:p1)(x2:p2)(x3:p3)(x4:p4)(x5:p5)(x6:p6)(x7:p7)(x8:p8)(x9:p9)(x10:p10)(x11:p11)(x12:p12)(x13:p13)(x14:p14):p0/\p1/\p2/\p3/\p4/\p5/\p6/\p7/\p8/\p9/\p10/\p11/\p12/\p13/\p14:=⟨x0,x1,x2,x3,x4,x5,x6,x7,x8,x9,x10,x11,x12,x13,x14⟩
theorem a16N {p0 p1 p2 p3 p4 p5 p6 p7 p8 p9 p10 p11 p12 p13 p14 p15:Prop}(x0:p0)(x1:p1)(x2:p2)(x3:p3)(x4:p4)(x5:p5)(x6:p6)(x7:p7)(x8:p8)(x9:p9)(x10:p10)(x11:p11)(x12:p12)(x13:p13)(x14:p14)(x15:p15):p0/\p1/\p2/\p3/\p4/\p5/\p6/\p7/\p8/\p9/\p10/\p11/\p12/\p13/\p14/\p15:=⟨x0,x1,x2,x3,x4,x5,x6,x7,x8,x9,x10,x11,x12,x13,x14,x15⟩
theorem a17N {p0 p1 p2 p3 p4 p5 p6 p7 p8 p9 p10 p11 p12 p13 p14 p15 p16:Prop}(x0:p0)(x1:p1)(x2:p2)(x3:p3)(x4:p4)(x5:p5)(x6:p6)(x7:p7)(x8:p8)(x9:p9)(x10:p10)(x11:p11)(x12:p12)(x13:p13)(x14:p14)(x15:p15)(x16:p16):p0/\p1/\p2/\p3/\p4/\p5/\p6/\p7/\p8/\p9/\p10/\p11/\p12/\p13/\p14/\p15/\p16:=⟨x0,x1,x2,x3,x4,x5,x6,x7,x8,x9,x10,x11,x12,x13,x14,x15,x16⟩
theorem a18N {p0 p1 p2 p3 p4 p5 p6 p7 p8 p9 p10 p11 p12 p13 p14 p15 p16 p17:Prop}(x0:p0)(x1:p1)(x2:p2)(x3:p3)(x4:p4)(x5:p5)(x6:p6)(x7:p7)(x8:p8)(x9:p9)(x10:p10)(x11:p11)(x12:p12)(x13:p13)(x14:p14)(x15:p15)(x16:p16)(x17:p17):p0/\p1/\p2/\p3/\p4/\p5/\p6/\p7/\p8/\p9/\p10/\p11/\p12/\p13/\p14/\p15/\p16/\p17:=⟨x0,x1,x2,x3,x4,x5,x6,x7,x8,x9,x10,x11,x12,x13,x14,x15,x16,x17⟩
theorem a19N {p0 p1 p2 p3 p4 p5 p6 p7 p8 p9 p10 p11 p12 p13 p14 p15 p16 p17 p18:Prop}(x0:p0)(x1:p1)(x2:p2)(x3:p3)(x4:p4)(x5:p5)(x6:p6)(x7:p7)(x8:p8)(x9:p9)(x10:p10)(x11:p11)(x12:p12)(x13:p13)(x14:p14)(x15:p15)(x16:p16)(x17:p17)(x18:p18):p0/\p1/\p2/\p3/\p4/\p5/\p6/\p7/\p8/\p9/\p10/\p11/\p12/\p13/\p14/\p15/\p16/\p17/\p18:=⟨x0,x1,x2,x3,x4,x5,x6,x7,x8,x9,x10,x11,x12,x13,x14,x15,x16,x17,x18⟩
theorem a20N {p0 p1 p2 p3 p4 p5 p6 p7 p8 p9 p10 p11 p12 p13 p14 p15 p16 p17 p18 p19:Prop}(x0:p0)(x1:p1)(x2:p2)(x3:p3)(x4:p4)(x5:p5)(x6:p6)(x7:p7)(x8:p8)(x9:p9)(x10:p10)(x11:p11)(x12:p12)(x13:p13)(x14:p14)(x15:p15)(x16:p16)(x17:p17)(x18:p18)(x19:p19):p0/\p1/\p2/\p3/\p4/\p5/\p6/\p7/\p8/\p9/\p10/\p11/\p12/\p13/\p14/\p15/\p16/\p17/\p18/\p19:=⟨x0,x1,x2,x3,x4,x5,x6,x7,x8,x9,x10,x11,x12,x13,x14,x15,x16,x17,x18,x19⟩
theorem a21N {p0 p1 p2 p3 p4 p5 p6 p7 p8 p9 p10 p11 p12 p13 p14 p15 p16 p17 p18 p19 p20:Prop}(x0:p0)(x1:p1)(x2:p2)(x3:p3)(x4:p4)(x5:p5)(x6:p6)(x7:p7)(x8:p8)(x9:p9)(x10:p10)(x11:p11)(x12:p12)(x13:p13)(x14:p14)(x15:p15)(x16:p16)(x17:p17)(x18:p18)(x19:p19)(x20:p20):p0/\p1/\p2/\p3/\p4/\p5/\p6/\p7/\p8/\p9/\p10/\p11/\p12/\p13/\p14/\p15/\p16/\p17/\p18/\p19/\p20:=⟨x0,x1,x2,x3,x4,x5,x6,x7,x8,x9,x10,x11,x12,x13,x14,x15,x16,x17,x18,x19,x20⟩
theorem a22N {p0 p1 p2 p3 p4 p5 p6 p7 p8 p9 p10 p11 p12 p13 p14 p15 p16 p17 p18 p19 p20 p21:Prop}(x0:p0)(x1:p1)(x2:p2)(x3:p3)(x4:p4)(x5:p5)(x6:p6)(x7:p7)(x8:p8)(x9:p9)(x10:p10)(x11:p11)(x12:p12)(x13:p13)(x14:p14)(x15:p15)(x16:p16)(x17:p17)(x18:p18)(x19:p19)(x20:p20)(x21:p21):p0/\p1/\p2/\p3/\p4/\p5/\p6/\p7/\p8/\p9/\p10/\p11/\p12/\p13/\p14/\p15/\p16/\p17/\p18/\p19/\p20/\p21:=⟨x0,x1,x2,x3,x4,x5,x6,x7,x8,x9,x10,x11,x12,x13,x14,x15,x16,x17,x18,x19,x20,x21⟩
theorem a23N {p0 p1 p2 p3 p4 p5 p6 p7 p8 p9 p10 p11 p12 p13 p14 p15 p16 p17 p18 p19 p20 p21 p22:Prop}(x0:p0)(x1:p1)(x2:p2)(x3:p3)(x4:p4)(x5:p5)(x6:p6)(x7:p7)(x8:p8)(x9:p9)(x10:p10)(x11:p11)(x12:p12)(x13:p13)(x14:p14)(x15:p15)(x16:p16)(x17:p17)(x18:p18)(x19:p19)(x20:p20)(x21:p21)(x22:p22):p0/\p1/\p2/\p3/\p4/\p5/\p6/\p7/\p8/\p9/\p10/\p11/\p12/\p13/\p14/\p15/\p16/\p17/\p18/\p19/\p20/\p21/\p22:=⟨x0,x1,x2,x3,x4,x5,x6,x7,x8,x9,x10,x11,x12,x13,x14,x15,x16,x17,x18,x19,x20,x21,x22⟩
theorem a24N {p0 p1 p2 p3 p4 p5 p6 p7 p8 p9 p10 p11 p12 p13 p14 p15 p16 p17 p18 p19 p20 p21 p22 p23:Prop}(x0:p0)(x1:p1)(x2:p2)(x3:p3)(x4:p4)(x5:p5)(x6:p6)(x7:p7)(x8:p8)(x9:p9)(x10:p10)(x11:p11)(x12:p12)(x13:p13)(x14:p14)(x15:p15)(x16:p16)(x17:p17)(x18:p18)(x19:p19)(x20:p20)(x21:p21)(x22:p22)(x23:p23):p0/\p1/\p2/\p3/\p4/\p5/\p6/\p7/\p8/\p9/\p10/\p11/\p12/\p13/\p14/\p15/\p16/\p17/\p18/\p19/\p20/\p21/\p22/\p23:=⟨x0,x1,x2,x3,x4,x5,x6,x7,x8,x9,x10,x11,x12,x13,x14,x15,x16,x17,x18,x19,x20,x21,x22,x23⟩
theorem a25N {p0 p1 p2 p3 p4 p5 p6 p7 p8 p9 p10 p11 p12 p13 p14 p15 p16 p17 p18 p19 p20 p21 p22 p23 p24:Prop}(x0:p0)(x1:p1)(x2:p2)(x3:p3)(x4:p4)(x5:p5)(x6:p6)(x7:p7)(x8:p8)(x9:p9)(x10:p10)(x11:p11)(x12:p12)(x13:p13)(x14:p14)(x15:p15)(x16:p16)(x17:p17)(x18:p18)(x19:p19)(x20:p20)(x21:p21)(x22:p22)(x23:p23)(x24:p24):p0/\p1/\p2/\p3/\p4/\p5/\p6/\p7/\p8/\p9/\p10/\p11/\p12/\p13/\p14/\p15/\p16/\p17/\p18/\p19/\p20/\p21/\p22/\p23/\p24:=⟨x0,x1,x2,x3,x4,x5,x6,x7,x8,x9,x10,x11,x12,x13,x14,x15,x16,x17,x18,x19,x20,x21,x22,x23,x24⟩
theorem a26N {p0 p1 p2 p3 p4 p5 p6 p7 p8 p9 p10 p11 p12 p13 p14 p15 p16 p17 p18 p19 p20 p21 p22 p23 p24 p25:Prop}(x0:p0)(x1:p1)(x2:p2)(x3:p3)(x4:p4)(x5:p5)(x6:p6)(x7:p7)(x8:p8)(x9:p9)(x10:p10)(x11:p11)(x12:p12)(x13:p13)(x14:p14)(x15:p15)(x16:p16)(x17:p17)(x18:p18)(x19:p19)(x20:p20)(x21:p21)(x22:p22)(x23:p23)(x24:p24)(x25:p25):p0/\p1/\p2/\p3/\p4/\p5/\p6/\p7/\p8/\p9/\p10/\p11/\p12/\p13/\p14/\p15/\p16/\p17/\p18/\p19/\p20/\p21/\p22/\p23/\p24/\p25:=⟨x0,x1,x2,x3,x4,x5,x6,x7,x8,x9,x10,x11,x12,x13,x14,x15,x16,x17,x18,x19,x20,x21,x22,x23,x24,x25⟩
theorem a27N {p0 p1 p2 p3 p4 p5 p6 p7 p8 p9 p10 p11 p12 p13 p14 p15 p16 p17 p18 p19 p20 p21 p22 p23 p24 p25 p26:Prop}(x0:p0)(x1:p1)(x2:p2)(x3:p3)(x4:p4)(x5:p5)(x6:p6)(x7:p7)(x8:p8)(x9:p9)(x10:p10)(x11:p11)(x12:p12)(x13:p13)(x14:p14)(x15:p15)(x16:p16)(x17:p17)(x18:p18)(x19:p19)(x20:p20)(x21:p21)(x22:p22)(x23:p23)(x24:p24)(x25:p25)(x26:p26):p0/\p1/\p2/\p3/\p4/\p5/\p6/\p7/\p8/\p9/\p10/\p11/\p12/\p13/\p14/\p15/\p16/\p17/\p18/\p19/\p20/\p21/\p22/\p23/\p24/\p25/\p26:=⟨x0,x1,x2,x3,x4,x5,x6,x7,x8,x9,x10,x11,x12,x13,x14,x15,x16,x17,x18,x19,x20,x21,x22,x23,x24,x25,x26⟩
theorem a28N {p0 p1 p2 p3 p4 p5 p6 p7 p8 p9 p10 p11 p12 p13 p14 p15 p16 p17 p18 p19 p20 p21 p22 p23 p24 p25 p26 p27:Prop}(x0:p0)(x1:p1)(x2:p2)(x3:p3)(x4:p4)(x5:p5)(x6:p6)(x7:p7)(x8:p8)(x9:p9)(x10:p10)(x11:p11)(x12:p12)(x13:p13)(x14:p14)(x15:p15)(x16:p16)(x17:p17)(x18:p18)(x19:p19)(x20:p20)(x21:p21)(x22:p22)(x23:p23)(x24:p24)(x25:p25)(x26:p26)(x27:p27):p0/\p1/\p2/\p3/\p4/\p5/\p6/\p7/\p8/\p9/\p10/\p11/\p12/\p13/\p14/\p15/\p16/\p17/\p18/\p19/\p20/\p21/\p22/\p23/\p24/\p25/\p26/\p27:=⟨x0,x1,x2,x3,x4,x5,x6,x7,x8,x9,x10,x11,x12,x13,x14,x15,x16,x17,x18,x19,x20,x21,x22,x23,x24,x25,x26,x27⟩
theorem a29N {p0 p1 p2 p3 p4 p5 p6 p7 p8 p9 p10 p11 p12 p13 p14 p15 p16 p17 p18 p19 p20 p21 p22 p23 p24 p25 p26 p27 p28:Prop}(x0:p0)(x1:p1)(x2:p2)(x3:p3)(x4:p4)(x5:p5)(x6:p6)(x7:p7)(x8:p8)(x9:p9)(x10:p10)(x11:p11)(x12:p12)(x13:p13)(x14:p14)(x15:p15)(x16:p16)(x17:p17)(x18:p18)(x19:p19)(x20:p20)(x21:p21)(x22:p22)(x23:p23)(x24:p24)(x25:p25)(x26:p26)(x27:p27)(x28:p28):p0/\p1/\p2/\p3/\p4/\p5/\p6/\p7/\p8/\p9/\p10/\p11/\p12/\p13/\p14/\p15/\p16/\p17/\p18/\p19/\p20/\p21/\p22/\p23/\p24/\p25/\p26/\p27/\p28:=⟨x0,x1,x2,x3,x4,x5,x6,x7,x8,x9,x10,x11,x12,x13,x14,x15,x16,x17,x18,x19,x20,x21,x22,x23,x24,x25,x26,x27,x28⟩
theorem a30N {p0 p1 p2 p3 p4 p5 p6 p7 p8 p9 p10 p11 p12 p13 p14 p15 p16 p17 p18 p19 p20 p21 p22 p23 p24 p25 p26 p27 p28 p29:Prop}(x0:p0)(x1:p1)(x2:p2)(x3:p3)(x4:p4)(x5:p5)(x6:p6)(x7:p7)(x8:p8)(x9:p9)(x10:p10)(x11:p11)(x12:p12)(x13:p13)(x14:p14)(x15:p15)(x16:p16)(x17:p17)(x18:p18)(x19:p19)(x20:p20)(x21:p21)(x22:p22)(x23:p23)(x24:p24)(x25:p25)(x26:p26)(x27:p27)(x28:p28)(x29:p29):p0/\p1/\p2/\p3/\p4/\p5/\p6/\p7/\p8/\p9/\p10/\p11/\p12/\p13/\p14/\p15/\p16/\p17/\p18/\p19/\p20/\p21/\p22/\p23/\p24/\p25/\p26/\p27/\p28/\p29:=⟨x0,x1,x2,x3,x4,x5,x6,x7,x8,x9,x10,x11,x12,x13,x14,x15,x16,x17,x18,x19,x20,x21,x22,x23,x24,x25,x26,x27,x28,x29⟩
theorem a31N {p0 p1 p2 p3 p4 p5 p6 p7 p8 p9 p10 p11 p12 p13 p14 p15 p16 p17 p18 p19 p20 p21 p22 p23 p24 p25 p26 p27 p28 p29 p30:Prop}(x0:p0)(x1:p1)(x2:p2)(x3:p3)(x4:p4)(x5:p5)(x6:p6)(x7:p7)(x8:p8)(x9:p9)(x10:p10)(x11:p11)(x12:p12)(x13:p13)(x14:p14)(x15:p15)(x16:p16)(x17:p17)(x18:p18)(x19:p19)(x20:p20)(x21:p21)(x22:p22)(x23:p23)(x24:p24)(x25:p25)(x26:p26)(x27:p27)(x28:p28)(x29:p29)(x30:p30):p0/\p1/\p2/\p3/\p4/\p5/\p6/\p7/\p8/\p9/\p10/\p11/\p12/\p13/\p14/\p15/\p16/\p17/\p18/\p19/\p20/\p21/\p22/\p23/\p24/\p25/\p26/\p27/\p28/\p29/\p30:=⟨x0,x1,x2,x3,x4,x5,x6,x7,x8,x9,x10,x11,x12,x13,x14,x15,x16,x17,x18,x19,x20,x21,x22,x23,x24,x25,x26,x27,x28,x29,x30⟩
theorem a32N {p0 p1 p2 p3 p4 p5 p6 p7 p8 p9 p10 p11 p12 p13 p14 p15 p16 p17 p18 p19 p20 p21 p22 p23 p24 p25 p26 p27 p28 p29 p30 p31:Prop}(x0:p0)(x1:p1)(x2:p2)(x3:p3)(x4:p4)(x5:p5)(x6:p6)(x7:p7)(x8:p8)(x9:p9)(x10:p10)(x11:p11)(x12:p12)(x13:p13)(x14:p14)(x15:p15)(x16:p16)(x17:p17)(x18:p18)(x19:p19)(x20:p20)(x21:p21)(x22:p22)(x23:p23)(x24:p24)(x25:p25)(x26:p26)(x27:p27)(x28:p28)(x29:p29)(x30:p30)(x31:p31):p0/\p1/\p2/\p3/\p4/\p5/\p6/\p7/\p8/\p9/\p10/\p11/\p12/\p13/\p14/\p15/\p16/\p17/\p18/\p19/\p20/\p21/\p22/\p23/\p24/\p25/\p26/\p27/\p28/\p29/\p30/\p31:=⟨x0,x1,x2,x3,x4,x5,x6,x7,x8,x9,x10,x11,x12,x13,x14,x15,x16,x17,x18,x19,x20,x21,x22,x23,x24,x25,x26,x27,x28,x29,x30,x31⟩
theorem a33N {p0 p1 p2 p3 p4 p5 p6 p7 p8 p9 p10 p11 p12 p13 p14 p15 p16 p17 p18 p19 p20 p21 p22 p23 p24 p25 p26 p27 p28 p29 p30 p31 p32:Prop}(x0:p0)(x1:p1)(x2:p2)(x3:p3)(x4:p4)(x5:p5)(x6:p6)(x7:p7)(x8:p8)(x9:p9)(x10:p10)(x11:p11)(x12:p12)(x13:p13)(x14:p14)(x15:p15)(x16:p16)(x17:p17)(x18:p18)(x19:p19)(x20:p20)(x21:p21)(x22:p22)(x23:p23)(x24:p24)(x25:p25)(x26:p26)(x27:p27)(x28:p28)(x29:p29)(x30:p30)(x31:p31)(x32:p32):p0/\p1/\p2/\p3/\p4/\p5/\p6/\p7/\p8/\p9/\p10/\p11/\p12/\p13/\p14/\p15/\p16/\p17/\p18/\p19/\p20/\p21/\p22/\p23/\p24/\p25/\p26/\p27/\p28/\p29/\p30/\p31/\p32:=⟨x0,x1,x2,x3,x4,x5,x6,x7,x8,x9,x10,x11,x12,x13,x14,x15,x16,x17,x18,x19,x20,x21,x22,x23,x24,x25,x26,x27,x28,x29,x30,x31,x32⟩
theorem a34N {p0 p1 p2 p3 p4 p5 p6 p7 p8 p9 p10 p11 p12 p13 p14 p15 p16 p17 p18 p19 p20 p21 p22 p23 p24 p25 p26 p27 p28 p29 p30 p31 p32 p33:Prop}(x0:p0)(x1:p1)(x2:p2)(x3:p3)(x4:p4)(x5:p5)(x6:p6)(x7:p7)(x8:p8)(x9:p9)(x10:p10)(x11:p11)(x12:p12)(x13:p13)(x14:p14)(x15:p15)(x16:p16)(x17:p17)(x18:p18)(x19:p19)(x20:p20)(x21:p21)(x22:p22)(x23:p23)(x24:p24)(x25:p25)(x26:p26)(x27:p27)(x28:p28)(x29:p29)(x30:p30)(x31:p31)(x32:p32)(x33:p33):p0/\p1/\p2/\p3/\p4/\p5/\p6/\p7/\p8/\p9/\p10/\p11/\p12/\p13/\p14/\p15/\p16/\p17/\p18/\p19/\p20/\p21/\p22/\p23/\p24/\p25/\p26/\p27/\p28/\p29/\p30/\p31/\p32/\p33:=⟨x0,x1,x2,x3,x4,x5,x6,x7,x8,x9,x10,x11,x12,x13,x14,x15,x16,x17,x18,x19,x20,x21,x22,x23,x24,x25,x26,x27,x28,x29,x30,x31,x32,x33⟩
def kR {p:Prop}(h:p:=by kernel_rfl):p:=h
def sI {p:Prop}(h:p:=by simp):p:=h
def nL {n:Nat}:n<=n:=BF n
def dF {p:Prop}[Decidable p](h: ¬p:=by omega):decide p=false:=z4z h
def dT {p:Prop}[Decidable p](h:p:=by omega):decide p=true:=Be h
def eT {α:Type}{a b c:α}(h:a=b)(g:b=c):a=c:=h.trans g
def nm {α:Type}(a:α):∃ b,a=b:=⟨_,rfl⟩
noncomputable section
open Go
def ob {α β:Type}(x:Option α) (f:α->Option β):Option β:=Option.rec (motive:=fun _=>Option β) none f x
def bb {β:Type}(c:Bool) (x:Option β):Option β:=Bool.rec (motive:=fun _=>Option β) none x c
def bi {β:Type}(c:Bool) (x y:β):β:=Bool.rec (motive:=fun _=>β) y x c
def pr {α β γ:Type}(p:α×β) (f:α->β->γ):γ:=Prod.rec (motive:=fun _=>γ) f p
inductive Tr (α:Type) where
 |nil
 |node (l:Tr α) (v:Option α) (r:Tr α)
def Tr.get {α:Type}(t:Tr α):Nat->Option α :=
 Tr.rec (motive:=fun _=>Nat->Option α) (fun _=>none)
  (fun _ v _ gl gr n=>Nat.rec (motive:=fun _=>Option α) v (fun m _=>Nat.rec (motive:=fun _=>Option α) (gl (m / 2)) (fun _ _=>gr (m / 2)) (m % 2)) n) t
def Tr.one {α:Type}(f:Nat):Nat->α->Tr α :=
 Nat.rec (motive:=fun _=>Nat->α->Tr α) (fun _ _=> .nil)
  (fun _ ih n a=>Nat.rec (motive:=fun _=>Tr α) (.node .nil (some a) .nil) (fun m _=>Nat.rec (motive:=fun _=>Tr α) (.node (ih (m / 2) a) none .nil) (fun _ _=> .node .nil none (ih (m / 2) a)) (m % 2)) n) f
def Tr.set {α:Type}(t:Tr α):Nat->α->Tr α :=
 Tr.rec (motive:=fun _=>Nat->α->Tr α) (fun n a=>Tr.one (n+1) n a)
  (fun l v r sl sr n a=>Nat.rec (motive:=fun _=>Tr α) (.node l (some a) r) (fun m _=>Nat.rec (motive:=fun _=>Tr α) (.node (sl (m / 2) a) v r) (fun _ _=> .node l v (sr (m / 2) a)) (m % 2)) n) t
inductive Kind where
 |row (t:Option TypeId)
 |map
 |loop (fr:Tr Value) (ps:List Nat) (assign body:Code) (st:LoopState) (R8:Option Code)
structure Blk where
 cells:List Value
 live:Bool
 own:Bool
 ver:Nat
 kind:Kind
structure St where
 h:Tr Blk
 n:Nat
inductive Out where
 |normal|exit (id:Nat)|ret|pan (v:Value)
def St.Dd (Z:St) (cs:List Value) (k:Kind):St:=⟨Z.h.set Z.n ⟨cs,true,true,0,k⟩,Z.n+1⟩
def St.new (Z:St) (cs:List Value) (t:Option TypeId:=none):St:=Z.Dd cs (.row t)
def St.blk (Z:St) (b:Nat):Option Blk:=ob (Z.h.get b) fun B=>bb B.live (some B)
def St.GK (Z:St) (b:Nat):Option Blk:=ob (Z.blk b) fun B=>Kind.rec (motive:=fun _=>Option Blk) (fun _=>some B) none (fun _ _ _ _ _ _=>none) B.kind
def St.Ss (Z:St) (b:Nat):Option Blk:=ob (Z.blk b) fun B=>Kind.rec (motive:=fun _=>Option Blk) (fun _=>none) (some B) (fun _ _ _ _ _ _=>none) B.kind
def St.ver (Z:St) (b:Nat):Nat:=match Z.h.get b with
 |some B=>B.ver
 |none=>0
def takeN {α:Type}(n:Nat):List α->Option (List α) :=
 Nat.rec (motive:=fun _=>List α->Option (List α)) (fun _=>some [])
  (fun _ ih l=>List.rec (motive:=fun _=>Option (List α)) none (fun x xs _=>ob (ih xs) fun r=>some (x::r)) l) n
def Ug {α:Type}(n:Nat):List α->Option (List α) :=
 Nat.rec (motive:=fun _=>List α->Option (List α)) (fun l=>some l)
  (fun _ ih l=>List.rec (motive:=fun _=>Option (List α)) none (fun _ xs _=>ih xs) l) n
def sub {α:Type}(cs:List α) (off n:Nat):Option (List α):=ob (Ug off cs) fun l=>takeN n l
def over {α:Type}(new:List α):List α->Option (List α) :=
 List.rec (motive:=fun _=>List α->Option (List α)) (fun l=>some l)
  (fun v _ ih l=>List.rec (motive:=fun _=>Option (List α)) none (fun _ xs _=>ob (ih xs) fun r=>some (v::r)) l) new
def M7 {α:Type}(cs:List α) (off:Nat) (new:List α):Option (List α) :=
 (Nat.rec (motive:=fun _=>List α->Option (List α)) (fun l=>over new l)
   (fun _ ih l=>List.rec (motive:=fun _=>Option (List α)) none (fun x xs _=>ob (ih xs) fun r=>some (x::r)) l) off:List α->Option (List α)) cs
def St.read (Z:St) (b off n:Nat):Option (List Value):=ob (Z.GK b) fun B=>sub B.cells off n
def St.write (Z:St) (b off:Nat) (vs:List Value):Option St:=ob (Z.GK b) fun B=>bb B.own (ob (M7 B.cells off vs) fun cs=>some ⟨Z.h.set b ⟨cs,true,true,B.ver+1,B.kind⟩,Z.n⟩)
def St.kill (Z:St) (b:Nat):Option St:=ob (Z.GK b) fun B=>bb B.own (some ⟨Z.h.set b ⟨[],false,true,B.ver+1,.row none⟩,Z.n⟩)
def St.AO1 (Z:St) (b:Nat) (cs:List Value):Option St:=ob (Z.Ss b) fun B=>bb B.own (some ⟨Z.h.set b ⟨cs,true,true,B.ver+1,.map⟩,Z.n⟩)
def St.BT (Z:St) (b:Nat) (st:LoopState) (R8:Option Code):Option St:=ob (Z.blk b) fun B=>bb B.own (Kind.rec (motive:=fun _=>Option St) (fun _=>none) none (fun fr ps as bd _ _=>some ⟨Z.h.set b ⟨[],true,true,B.ver+1,.loop fr ps as bd st R8⟩,Z.n⟩) B.kind)
def J6 (v:Value):List Value:=match v with| .agg cs=>cs.toList|v=>[v]
def P9:Value:= .tuple #[]
def K4 (v:Value):Bool:=match v with
 | .agg _=>false
 | .tuple _=>false
 |_=>true
def Di (v:Value):Bool:=match v with
 | .tuple _=>true
 |_=>false
def I1 (v:Value):Bool:=match v with
 | .bool _| .int .. | .string _| .float .. | .complex .. | .nilFunc| .nilIface=>true
 | .pointer none| .map none| .chan none| .slice none 0 0=>true
 |_=>false
def HF (l:List Value):Bool:=List.rec (motive:=fun _=>Bool) true (fun v _ ih=>bi (I1 v) ih false) l
def Ji (v:Value):Bool:=match v with
 | .agg ⟨l⟩=>HF l
 |v=>I1 v
def tV (v:Value):Bool:=match v with
 | .tuple ⟨l⟩=>HF l
 |v=>Ji v
def cst (v:Value):Option Value:=bb (Ji v) (some v)
def N7 {α:Type}(p:Program):Sem α->Option α
 | .pure a=>some a
 | .program k=>N7 p (k p)
 | .mark _ k=>N7 p k
 |_=>none
mutual
def flat:Value->Bool
 | .bool _| .int .. | .string _| .float .. | .complex .. | .nilFunc| .nilIface=>true
 | .pointer a=>a.isNone
 | .map a=>a.isNone
 | .chan a=>a.isNone
 | .agg cs=>LB cs
 | .tuple cs=>LB cs
 | .iface _ v=>flat v
 | .slice none 0 0=>true
 | .slice .. | .func .. =>false
def LB:Array Value->Bool
 | ⟨l⟩=>TV l
def TV:List Value->Bool
 | []=>true
 |v::vs=>(match flat v with|true=>TV vs|false=>false)
end
abbrev Fr:=Tr Value
def ev (fr:Fr) (x:Operand):Option Value :=
 Operand.rec (motive:=fun _=>Option Value) (fun t=>fr.get t) cst (fun g=>some (.pointer (some ⟨g,0,none⟩))) (fun f=>some (.func (.func f) #[] #[])) x
def evs (fr:Fr) (l:List Operand):Option (List Value) :=
 List.rec (motive:=fun _=>Option (List Value)) (some []) (fun o _ ih=>ob (ev fr o) fun v=>ob ih fun vs=>some (v::vs)) l
def size? (P:Program) (t:TypeId):Option Nat:=match P.info? t with|some i=>some i.size|none=>none
def Ao2:TypeDesc->Bool
 | .struct _| .array _ _=>true
 |_=>false
def Lw (P:Program) (t:TypeId):Option Bool:=match P.underlying t with
 |some d=>some (Ao2 d)
 |none=>none
def Ke (l:List Value):Option Value:=match l with
 | [v]=>some v
 |_=>none
def gK (P:Program) (Z:St) (t:TypeId) (b off:Nat):Option Value :=
 ob (Lw P t) fun g=>bi g (ob (size? P t) fun n=>ob (Z.read b off n) fun cs=>some (.agg ⟨cs⟩)) (ob (Z.read b off 1) Ke)
def at? (v:Value):Option (Nat×Nat):=match v with
 | .pointer (some ⟨b,off,none⟩)=>some (b,off)
 |_=>none
def Om (P:Program) (Z:St) (t:TypeId) (a:Value):Option Value:=ob (at? a) fun p=>pr p fun b off=>gK P Z t b off
def RO (P:Program) (Z:St) (t:TypeId) (a v:Value):Option St :=
 ob (at? a) fun p=>pr p fun b off=>ob (size? P t) fun n=>bi (Di v) none (bb ((J6 v).length.beq n) (Z.write b off (J6 v)))
def BJ (P:Program) (t:TypeId):Option Value:=ob (P.info? t) fun i=>ob i.zero cst
def tu (P:Program) (t:TypeId) (cs:List Value) (off:Nat):Option Value :=
 ob (Lw P t) fun g=>bi g (ob (size? P t) fun n=>ob (sub cs off n) fun l=>some (.agg ⟨l⟩)) (ob (sub cs off 1) Ke)
def nat? (v:Value):Option Nat:=match v with
 | .int _ (.ofNat n)=>some n
 |_=>none
def ju (dl:Nat) (hi:Option Value):Option Nat:=match hi with|some v=>nat? v|none=>some dl
def bw (dl cap:Nat) (lo hi:Option Value):Option (Nat×Nat) :=
 ob (ju dl hi) fun h=>bb (h.ble cap) (ob (ju 0 lo) fun l=>bb (l.ble h) (some (l,h)))
def rep {α:Type}(l:List α) (n:Nat):List α:=Nat.rec (motive:=fun _=>List α) [] (fun _ ih=>l++ih) n
def Cq (place:Nat->Option (Nat×Nat)) (parts:List (Nat×Value)):List Value->Option (List Value) :=
 List.rec (motive:=fun _=>List Value->Option (List Value)) (fun cells=>some cells)
  (fun p _ ih cells=>pr p fun i v=>ob (place i) fun q=>pr q fun off n=>bi (Di v) none (bb ((J6 v).length.beq n) (ob (M7 cells off (J6 v)) ih))) parts
def Dw (s:List UInt8):List Value:=s.map fun b=> .int .u8 b.toNat
def PB (v:Value):Option UInt8:=match v with
 | .int .u8 n=>some (UInt8.ofNat n.toNat)
 |_=>none
def BQ (l:List Value):Option (List UInt8) :=
 List.rec (motive:=fun _=>Option (List UInt8)) (some []) (fun v _ ih=>ob (PB v) fun b=>ob ih fun bs=>some (b::bs)) l
def Ao (Z:St) (size:Nat) (v:Value):Option (Nat×List Value):=match v with
 | .slice none n _=>bb (n.beq 0) (some (0,[]))
 | .slice (some ⟨b,off,_⟩) n _=>ob (Z.read b off (n*size)) fun cs=>some (n,cs)
 | .string s=>bb (Nat.beq size 1) (some (s.data.toList.length,Dw s.data.toList))
 |_=>none
def elem? (P:Program) (t:TypeId):Option TypeId:=match P.underlying t with|some (.slice e)=>some e|_=>none
def room:Nat:=4294967296
def DT (Z:St) (size:Nat) (B8:Option Addr) (len cap n:Nat) (new:List Value):Option (Value×St):=match B8 with
 |some ⟨b,off,sp⟩=>ob (Z.write b (off+len*size) new) fun Z=>some (.slice (some ⟨b,off,sp⟩) (len+n) cap,Z)
 |none=>bb (Nat.beq (len+n+cap) 0) (some (.slice none 0 0,Z))
def St.typ (Z:St) (b:Nat):Option TypeId:=ob (Z.h.get b) fun B=>Kind.rec (motive:=fun _=>Option TypeId) (fun t=>t) none (fun _ _ _ _ _ _=>none) B.kind
def OQ (e:TypeId) (off:Nat) (t:Option TypeId):Option TypeId:=ob t fun x=>bb (Nat.beq x e) (bb (Nat.beq off 0) (some e))
def Ch (e:TypeId) (Z:St) (size:Nat) (B8:Option Addr) (len n:Nat) (new:List Value):Option (Value×St):=match B8 with
 |none=>bb (Nat.beq len 0) (some (.slice (some ⟨Z.n,0,some size⟩) n n,Z.new new (some e)))
 |some ⟨b,off,none⟩=>ob (Z.read b off (len*size)) fun old=>some (.slice (some ⟨Z.n,0,some size⟩) (len+n) (len+n),Z.new (old++new) (some e))
 |some ⟨b,off,some s⟩=>bb (Nat.beq s size) (ob (Z.read b off (len*size)) fun old=>ob (Z.kill b) fun Z'=>some (.slice (some ⟨Z'.n,0,some size⟩) (len+n) (len+n),Z'.new (old++new) (OQ e off (Z.typ b))))
def FL (P:Program) (Z:St) (t:TypeId) (s x:Value):Option (Value×St) :=
 ob (elem? P t) fun e=>ob (P.info? e) fun i=>match s with
  | .slice B8 len cap=>ob (Ao Z i.size x) fun p=>pr p fun n new=>bb (Nat.ble 1 i.size) (bi (Nat.ble (len+n) cap)
     (DT Z i.size B8 len cap n new)
     (bb (Nat.ble ((len+n)*(i.bytes+1)) room) (ob (BJ P e) fun z=>bb ((J6 z).length.beq i.size) (Ch e Z i.size B8 len n new))))
  |_=>none
def oD (d:Option TypeDesc) (v:Value):Option Nat:=match d with
 |some .string=>(match v with| .string s=>some s.data.toList.length|_=>none)
 |some (.slice _)=>(match v with| .slice _ n _=>some n|_=>none)
 |_=>none
def inR (k:IntKind) (n:Int):Bool:=match k,n with
 | .i64,.ofNat m=>Nat.blt m 9223372036854775808
 | .i64,.negSucc m=>Nat.blt m 9223372036854775808
 | .u8,.ofNat m=>Nat.blt m 256
 | .u64,.ofNat m=>Nat.blt m 18446744073709551616
 |_,_=>false
def M6 (k:IntKind) (n:Int):Int:=bi (inR k n) n (k.wrap n)
def ieq (a b:Int):Bool:=match a,b with
 | .ofNat a,.ofNat b=>Nat.beq a b
 | .negSucc a,.negSucc b=>Nat.beq a b
 |_,_=>false
def ilt (a b:Int):Bool:=match a,b with
 | .ofNat a,.ofNat b=>Nat.blt a b
 | .negSucc a,.negSucc b=>Nat.blt b a
 | .negSucc _,.ofNat _=>true
 | .ofNat _,.negSucc _=>false
def keq (a b:IntKind):Bool:=Nat.beq a.ctorIdx b.ctorIdx
def Li (a:List UInt8):List UInt8->Bool :=
 List.rec (motive:=fun _=>List UInt8->Bool) (fun b=>List.rec (motive:=fun _=>Bool) true (fun _ _ _=>false) b)
  (fun x _ ih b=>List.rec (motive:=fun _=>Bool) false (fun y ys _=>bi (Nat.beq x.toNat y.toNat) (ih ys) false) b) a
def Ai9 (op:BinOp):IntKind->Int->Int->Option Value :=
 BinOp.rec (motive:=fun _=>IntKind->Int->Int->Option Value)
  (fun k a b=>some (.int k (M6 k (a+b))))
  (fun k a b=>some (.int k (M6 k (a-b))))
  (fun k a b=>some (.int k (M6 k (a*b))))
  (fun _ _ _=>none)
  (fun _ _ _=>none)
  (fun _ _ _=>none)
  (fun _ _ _=>none)
  (fun _ _ _=>none)
  (fun _ _ _=>none)
  (fun _ _ _=>none)
  (fun _ _ _=>none)
  (fun _ a b=>some (.bool (ieq a b)))
  (fun _ a b=>some (.bool (bi (ieq a b) false true)))
  (fun _ a b=>some (.bool (ilt a b)))
  (fun _ a b=>some (.bool (bi (ilt b a) false true)))
  (fun _ a b=>some (.bool (ilt b a)))
  (fun _ a b=>some (.bool (bi (ilt a b) false true))) op
def BC1 (op:BinOp):ByteArray->ByteArray->Option Value :=
 BinOp.rec (motive:=fun _=>ByteArray->ByteArray->Option Value)
  (fun a b=>bb (Nat.ble (a.data.toList.length+b.data.toList.length) room) (some (.string ⟨(a.data.toList++b.data.toList).toArray⟩)))
  (fun _ _=>none)
  (fun _ _=>none)
  (fun _ _=>none)
  (fun _ _=>none)
  (fun _ _=>none)
  (fun _ _=>none)
  (fun _ _=>none)
  (fun _ _=>none)
  (fun _ _=>none)
  (fun _ _=>none)
  (fun a b=>some (.bool (Li a.data.toList b.data.toList)))
  (fun a b=>some (.bool (bi (Li a.data.toList b.data.toList) false true)))
  (fun _ _=>none)
  (fun _ _=>none)
  (fun _ _=>none)
  (fun _ _=>none) op
def Ix (op:BinOp) (x y:Value):Option Value:=match x with
 | .int k a=>(match y with
   | .int k' b=>bb (keq k k') (Ai9 op k a b)
   |_=>none)
 | .string a=>(match y with
   | .string b=>BC1 op a b
   |_=>none)
 |_=>none
def Jd (isMax:Bool) (v w:Value):Option Value:=match v with
 | .int k x=>(match w with
   | .int _ y=>some (.int k (bi isMax (bi (ilt x y) y x) (bi (ilt y x) y x)))
   |_=>none)
 |_=>none
def mm (isMax:Bool) (l:List Value):Value->Option Value :=
 List.rec (motive:=fun _=>Value->Option Value) (fun v=>some v) (fun x _ ih v=>ob (Jd isMax v x) ih) l
def EH (d:Option TypeDesc) (x y:Value):Option Bool:=match d with
 | some (.pointer _)=>(match x,y with
   | .pointer none,.pointer none=>some true
   | .pointer none,.pointer (some _)=>some false
   | .pointer (some _),.pointer none=>some false
   |_,_=>none)
 | some (.slice _)=>(match x,y with
   | .slice none _ _,.slice none _ _=>some true
   | .slice none _ _,.slice (some _) _ _=>some false
   | .slice (some _) _ _,.slice none _ _=>some false
   |_,_=>none)
 | some (.func ..)=>(match x,y with
   | .nilFunc,.nilFunc=>some true
   | .nilFunc,.func .. =>some false
   | .func ..,.nilFunc=>some false
   |_,_=>none)
 | some (.interface _)=>(match x,y with
   | .nilIface,.iface .. =>some false
   | .iface ..,.nilIface=>some false
   |_,_=>none)
 |_=>none
def Kj (n:Option Next):Option Value:=match n with
 |some (.value v)=>some v
 |_=>none
def Kn (P:Program) (fr:Fr) (o:Oper):Option Value :=
 ob (Kj (N7 P (execOp (fun x=>(ev fr x).getD P9) o))) cst
def oM (P:Program) (t:TypeId) (op:BinOp) (x y:Value):Option Value:=match op with
 | .eql=>ob (EH (P.underlying t) x y) fun b=>some (.bool b)
 | .neq=>ob (EH (P.underlying t) x y) fun b=>some (.bool !b)
 |_=>none
def orV (x y:Option Value):Option Value:=Option.rec (motive:=fun _=>Option Value) y (fun v=>some v) x
def wC (P:Program) (fr:Fr) (o:Oper) (op:BinOp) (t:TypeId) (x y:Value):Option Value :=
 orV (Ix op x y) (bi (flat x&&flat y) (Kn P fr o) (oM P t op x y))
/- The operations that do not BM9 memory. -/
def bool? (v:Value):Option Bool:=match v with
 | .bool b=>some b
 |_=>none
def Je (fr:Fr) (c a b:Operand):Option Value:=ob (ev fr c) fun v=>ob (bool? v) fun t=>bi t (ev fr a) (ev fr b)
def Uv (P:Program) (l:List Field):Option (List (Nat×Nat)) :=
 List.rec (motive:=fun _=>Option (List (Nat×Nat))) (some []) (fun f _ ih=>ob (size? P f.type) fun n=>ob ih fun r=>some ((f.offset,n)::r)) l
def DM (P:Program) (t:TypeId) (z:List Value) (parts:List (Nat×Value)):Option Value:=match P.underlying t with
 |some (.struct fs)=>ob (Uv P fs.toList) fun ps=>ob (Cq (fun i=>ps[i]?) parts z) fun l=>some (.agg ⟨l⟩)
 |some (.array _ e)=>ob (size? P e) fun n=>ob (Cq (fun i=>some (i*n,n)) parts z) fun l=>some (.agg ⟨l⟩)
 |_=>none
def Ft (P:Program) (fr:Fr) (t:TypeId) (parts:Array (Nat×Operand)):Option Value :=
 ob (BJ P t) fun z=>ob (evs fr (parts.toList.map (·.2))) fun vs=>DM P t (J6 z) ((parts.toList.map (·.1)).zip vs)
def cH (v:Value):Option Value:=match v with
 | .pointer (some a)=>some (.pointer (some a))
 | .func (.func f) a b=>some (.func (.func f) a b)
 | .iface t v=>some (.iface t v)
 |_=>none
def Bo (fr:Fr) (x:Operand):Option Value:=ob (ev fr x) cH
def Qt (P:Program) (fr:Fr) (o:Oper) (b:BinOp) (t:TypeId) (x y:Operand):Option Value:=ob (ev fr x) fun a=>ob (ev fr y) fun c=>wC P fr o b t a c
def Ej (P:Program) (fr:Fr) (o:Oper) (x:Operand):Option Value:=ob (ev fr x) fun a=>bb (flat a) (Kn P fr o)
def concrete (d:Option TypeDesc):Bool:=match d with
 |some (.interface _)=>false
 |some _=>true
 |none=>false
def oO (P:Program) (fr:Fr) (t:TypeId) (x:Operand):Option Value:=ob (ev fr x) fun v=>bb (concrete (P.underlying t)) (some (.iface t v))
def Wq (fn:Fn):Bool:=match fn with
 | .func _=>true
 |_=>false
def RA (fr:Fr) (fn:Fn) (fs cs:Array Operand):Option Value:=ob (evs fr fs.toList) fun a=>ob (evs fr cs.toList) fun b=>bb (Wq fn) (some (.func fn ⟨a⟩ ⟨b⟩))
def evO (fr:Fr) (x:Option Operand):Option (Option Value):=match x with
 |some o=>ob (ev fr o) fun v=>some (some v)
 |none=>some none
def uA (s:ByteArray) (b:Option (Nat×Nat)):Option Value:=ob b fun p=>pr p fun lo hi=>ob (sub s.data.toList lo (hi-lo)) fun l=>some (.string ⟨l.toArray⟩)
def sliceAt (n:Nat) (a:Option Addr) (lo hi cap:Nat):Option Value:=match a with
 |some ⟨b,off,none⟩=>some (.slice (some ⟨b,off+lo*n,none⟩) (hi-lo) (cap-lo))
 |some ⟨b,off,some s⟩=>bb (Nat.beq s n) (some (.slice (some ⟨b,off+lo*n,some s⟩) (hi-lo) (cap-lo)))
 |none=>bb (Nat.beq cap 0) (some (.slice none 0 0))
def iq (P:Program) (e:TypeId) (a:Option Addr) (cap:Nat) (b:Option (Nat×Nat)):Option Value :=
 ob b fun p=>pr p fun lo hi=>ob (size? P e) fun n=>sliceAt n a lo hi cap
def Ve (P:Program) (t:TypeId) (v:Value) (lo hi:Option Value):Option Value:=match v with
 | .string s=>(match P.underlying t with
   |some .string=>uA s (bw s.data.toList.length s.data.toList.length lo hi)
   |_=>none)
 | .slice a len cap=>(match P.underlying t with
   |some (.slice e)=>iq P e a cap (bw len cap lo hi)
   |_=>none)
 | .pointer (some ⟨b,off,none⟩)=>(match P.underlying t with
   |some (.array m e)=>iq P e (some ⟨b,off,none⟩) m (bw m m lo hi)
   |_=>none)
 |_=>none
def LY (P:Program) (fr:Fr) (t:TypeId) (x:Operand) (lo hi mx:Option Operand):Option Value :=
 bb mx.isNone (ob (ev fr x) fun v=>ob (evO fr lo) fun lo=>ob (evO fr hi) fun hi=>Ve P t v lo hi)
def Mg (P:Program) (s:TypeId) (f:Nat):Option Field:=match P.underlying s with
 |some (.struct fs)=>fs[f]?
 |_=>none
def AY (P:Program) (fr:Fr) (s:TypeId) (x:Operand) (f:Nat):Option Value :=
 ob (ev fr x) fun v=>ob (at? v) fun p=>pr p fun b off=>ob (Mg P s f) fun fd=>ob (size? P fd.type) fun n=>bb (Nat.ble 1 n) (some (.pointer (some ⟨b,off+fd.offset,none⟩)))
def oP (v:Value):Option (List Value):=match v with
 | .agg cs=>some cs.toList
 |_=>none
def Vh (P:Program) (fr:Fr) (s:TypeId) (x:Operand) (f:Nat):Option Value :=
 ob (ev fr x) fun v=>ob (oP v) fun cs=>ob (Mg P s f) fun fd=>tu P fd.type cs fd.offset
def evN (fr:Fr) (x:Operand):Option Nat:=ob (ev fr x) nat?
def AM3 (P:Program) (e:TypeId) (b off i len:Nat):Option Value:=bb (Nat.blt i len) (ob (size? P e) fun n=>some (.pointer (some ⟨b,off+i*n,none⟩)))
def Gp (P:Program) (t:TypeId) (v:Value) (i:Nat):Option Value:=match v with
 | .slice (some ⟨b,off,_⟩) len _=>ob (elem? P t) fun e=>AM3 P e b off i len
 | .pointer (some ⟨b,off,none⟩)=>(match P.underlying t with
   |some (.array len e)=>AM3 P e b off i len
   |_=>none)
 |_=>none
def Al (P:Program) (fr:Fr) (t:TypeId) (x ix:Operand):Option Value:=ob (evN fr ix) fun i=>ob (ev fr x) fun v=>Gp P t v i
def jW (l:List UInt8):Option Value:=match l with
 | [b]=>some (.int .u8 b.toNat)
 |_=>none
def cJ (P:Program) (t:TypeId) (v:Value) (i:Nat):Option Value:=match v with
 | .agg cs=>(match P.underlying t with
   |some (.array len e)=>bb (Nat.blt i len) (ob (size? P e) fun n=>tu P e cs.toList (i*n))
   |_=>none)
 | .string s=>(match P.underlying t with
   |some .string=>ob (sub s.data.toList i 1) jW
   |_=>none)
 |_=>none
def Ld (P:Program) (fr:Fr) (t:TypeId) (x ix:Operand):Option Value:=ob (evN fr ix) fun i=>ob (ev fr x) fun v=>cJ P t v i
def cK (v:Value):Option (List Value):=match v with
 | .tuple cs=>some cs.toList
 |_=>none
def Cs (fr:Fr) (t:Operand) (ix:Nat):Option Value:=ob (ev fr t) fun v=>ob (cK v) fun vs=>ob (sub vs ix 1) Ke
def QL (c:Call):Option TypeId:=match c.argTypes.toList with|t::_=>some t|[]=>none
def Qq (P:Program) (fr:Fr) (c:Call):Option Value :=
 ob (evs fr c.args.toList) fun vs=>ob (Ke vs) fun x=>ob (QL c) fun t=>ob (oD (P.underlying t) x) fun n=>some (.int .i64 n)
def pMM (fr:Fr) (isMax:Bool) (c:Call):Option Value :=
 ob (evs fr c.args.toList) fun vs=>List.rec (motive:=fun _=>Option Value) none (fun x xs _=>mm isMax xs x) vs
/- Operations that make one new block, of cells that values alone Ae7: the cells, and what the operation fN, of the As9 number. -/
def ptrTo (n:Nat):Value:= .pointer (some ⟨n,0,none⟩)
def X8 (P:Program) (t:TypeId):Option (List Value×(Nat->Value)):=ob (BJ P t) fun z=>some (J6 z,ptrTo)
def bL (fr:Fr) (x:Operand):Option (List Value×(Nat->Value)):=ob (ev fr x) fun v=>bi (Di v) none (some (J6 v,ptrTo))
def Gb (P:Program) (fr:Fr) (t:TypeId) (len:Nat) (parts:Array (Nat×Operand)):Option (List Value×(Nat->Value)) :=
 ob (elem? P t) fun e=>ob (size? P e) fun m=>ob (BJ P e) fun z=>ob (evs fr (parts.toList.map (·.2))) fun vs=>bb ((J6 z).length.beq m) (bb (Nat.ble (len*m) 16777216)
  (ob (Cq (fun i=>some (i*m,m)) ((parts.toList.map (·.1)).zip vs) (rep (J6 z) len)) fun l=>some (l,fun n=> .slice (some ⟨n,0,none⟩) len len)))
def isByte (d:Option TypeDesc):Bool:=match d with
 |some (.int .u8)=>true
 |_=>false
def KF (v:Value):Option (List UInt8):=match v with
 | .string s=>some s.data.toList
 |_=>none
def Gd (P:Program) (fr:Fr) (s d:TypeId) (x:Operand):Option (List Value×(Nat->Value)):=bb (P.underlying s).isSome <|
 ob (ev fr x) fun v=>ob (KF v) fun s=>ob (elem? P d) fun e=>bb (isByte (P.underlying e)) (some (Dw s,fun n=> .slice (some ⟨n,0,some 1⟩) s.length s.length))
def QG (P:Program) (fr:Fr) (t:TypeId) (l c:Operand):Option (List Value×(Nat->Value)) :=
 ob (elem? P t) fun e=>ob (P.info? e) fun i=>ob (BJ P e) fun z=>ob (evN fr l) fun l=>ob (evN fr c) fun c=>bb (Nat.ble l c) (bb (Nat.ble (c*(i.bytes+1)) room) (bb ((J6 z).length.beq i.size)
  (some (rep (J6 z) c,fun n=> .slice (some ⟨n,0,none⟩) l c))))
/- Operations that read one block: what YB vh, and which cells. -/
structure An where
 b:Nat
 off:Nat
 n:Nat
def span? (P:Program) (t:TypeId):Option Nat:=ob (Lw P t) fun g=>bi g (size? P t) (some 1)
def Ht (P:Program) (fr:Fr) (Z:St) (t:TypeId) (a:Operand):Option (Value×An) :=
 ob (ev fr a) fun v=>ob (at? v) fun p=>pr p fun b off=>ob (span? P t) fun n=>ob (gK P Z t b off) fun v=>some (v,⟨b,off,n⟩)
def isStr (d:Option TypeDesc):Bool:=match d with
 |some .string=>true
 |_=>false
def No (v:Value):Option An:=match v with
 | .slice (some ⟨b,off,_⟩) n _=>some ⟨b,off,n⟩
 |_=>none
def pra {γ:Type}(p:An) (f:Nat->Nat->Nat->γ):γ:=An.rec (motive:=fun _=>γ) f p
def DD (P:Program) (fr:Fr) (Z:St) (s d:TypeId) (x:Operand):Option (Value×An) :=
 ob (ev fr x) fun v=>ob (No v) fun p=>pra p fun b off n=>ob (elem? P s) fun e=>bb (isByte (P.underlying e)) (bb (isStr (P.underlying d))
  (ob (Z.read b off n) fun l=>ob (BQ l) fun l=>some (.string ⟨l.toArray⟩,⟨b,off,n⟩)))
/- Operations that may change memory. -/
def Gs (P:Program) (fr:Fr) (Z:St) (t:TypeId) (a v:Operand):Option (Value×St) :=
 ob (ev fr a) fun a=>ob (ev fr v) fun v=>ob (RO P Z t a v) fun Z=>some (P9,Z)
def copyV (P:Program) (Z:St) (t:TypeId) (d s:Value):Option (Value×St) :=
 ob (elem? P t) fun e=>ob (size? P e) fun size=>ob (No d) fun p=>pra p fun b off dl=>ob (Ao Z size s) fun q=>pr q fun n cs=>ob (takeN (Nat.min n dl*size) cs) fun cs=>ob (Z.write b off cs) fun Z=>some (.int .i64 (Nat.min n dl:Nat),Z)
def AU3 (P:Program) (Z:St) (t:TypeId) (x:Value):Option (Value×St) :=
 ob (elem? P t) fun e=>ob (BJ P e) fun z=>ob (No x) fun p=>pra p fun b off n=>ob (Z.write b off (rep (J6 z) n)) fun Z=>some (P9,Z)
def qH (l:List Value):Option (Value×Value):=match l with
 | [v,w]=>some (v,w)
 |_=>none
def fI (c:Call):Option TypeId:=match c.argTypes.toList with|_::t::_=>some t|_=>none
def NV (d:Option TypeDesc):Bool:=match d with
 |some (.int _)=>false
 |some _=>true
 |none=>false
def Dx (P:Program) (fr:Fr) (Z:St) (c:Call):Option (Value×St) :=
 ob (evs fr c.args.toList) fun vs=>ob (qH vs) fun p=>pr p fun s x=>ob (QL c) fun t=>ob (fI c) fun t2=>bb (NV (P.underlying t2)) (FL P Z t s x)
def AI0 (P:Program) (fr:Fr) (Z:St) (c:Call):Option (Value×St) :=
 ob (evs fr c.args.toList) fun vs=>ob (qH vs) fun p=>pr p fun d s=>ob (QL c) fun t=>copyV P Z t d s
def uB (P:Program) (fr:Fr) (Z:St) (c:Call):Option (Value×St) :=
 ob (evs fr c.args.toList) fun vs=>ob (Ke vs) fun x=>ob (QL c) fun t=>AU3 P Z t x
inductive Tgt where
 |fn (g:Nat)
 |yld (b:Nat)
structure Fun where
 g:Tgt
 first:List Value
 captured:List Value
def Mo (v:Value):Option Fun:=match v with
 | .func (.func g) first captured=>some ⟨.fn g,first.toList,captured.toList⟩
 | .func (.yield b) ⟨[]⟩ ⟨[]⟩=>some ⟨.yld b,[],[]⟩
 |_=>none
structure CR where
 pan:Bool
 v:Value
 Z:St
abbrev X6:=Tgt->List Value->St->Option CR
def HQ (call:X6) (fr:Fr) (Z:St) (c:Call) (f:Operand):Option CR :=
 ob (evs fr c.args.toList) fun vs=>ob (ev fr f) fun v=>ob (Mo v) fun f=>Fun.rec (motive:=fun _=>Option CR) (fun g first captured=>call g (first++vs++captured) Z) f
/- Ak1. -/
def DI (d:Option TypeDesc) (k:Value):Bool:=match d with
 | some .string=>(match k with
   | .string _=>true
   |_=>false)
 | some (.int i)=>(match k with
   | .int j _=>keq i j
   |_=>false)
 |_=>false
def Kz (a b:Value):Option Bool:=match a with
 | .string s=>(match b with
   | .string t=>some (Li s.data.toList t.data.toList)
   |_=>none)
 | .int k n=>(match b with
   | .int l m=>bb (keq k l) (some (ieq n m))
   |_=>none)
 |_=>none
def PS (k:Value) (l:List Value):Option (Option Value) :=
 (List.rec (motive:=fun _=>Option Value->Option (Option Value)) (fun _=>some none)
   (fun x _ ih p=>Option.rec (motive:=fun _=>Option (Option Value)) (ih (some x)) (fun y=>ob (Kz k y) fun s=>bi s (some (some x)) (ih none)) p) l:Option Value->Option (Option Value)) none
def Mw (k v:Value) (l:List Value):Option (List Value) :=
 (List.rec (motive:=fun _=>Option Value->Option (List Value)) (fun _=>some [k,v])
   (fun x xs ih p=>Option.rec (motive:=fun _=>Option (List Value)) (ih (some x)) (fun y=>ob (Kz k y) fun s=>bi s (some (k::v::xs)) (ob (ih none) fun r=>some (y::x::r))) p) l:Option Value->Option (List Value)) none
def xy (v:Value):Option (Option Nat):=match v with
 | .map a=>some a
 |_=>none
def Iw (P:Program) (t:TypeId):Option (TypeId×TypeId):=match P.underlying t with
 |some (.map k e)=>some (k,e)
 |_=>none
def AU4 (Z:St) (a:Option Nat):Option (List Value):=Option.rec (motive:=fun _=>Option (List Value)) (some []) (fun b=>ob (Z.Ss b) fun B=>some B.cells) a
def found (P:Program) (e:TypeId) (x:Option Value):Option (Value×Bool):=Option.rec (motive:=fun _=>Option (Value×Bool)) (ob (BJ P e) fun z=>some (z,false)) (fun v=>some (v,true)) x
def GO (P:Program) (fr:Fr) (Z:St) (t:TypeId) (x ix:Operand) (ok:Bool):Option (Value×St) :=
 ob (Iw P t) fun p=>pr p fun kt e=>ob (ev fr x) fun v=>ob (xy v) fun a=>ob (ev fr ix) fun k=>bb (DI (P.underlying kt) k) (ob (AU4 Z a) fun cs=>ob (PS k cs) fun r=>ob (found P e r) fun r=>pr r fun v b=>some (bi ok (.tuple ⟨[v,.bool b]⟩) v,Z))
def Bb (P:Program) (fr:Fr) (Z:St) (t:TypeId) (m k x:Operand):Option (Value×St) :=
 ob (Iw P t) fun p=>pr p fun kt _=>ob (ev fr m) fun v=>ob (xy v) fun a=>ob a fun b=>ob (ev fr k) fun k=>bb (DI (P.underlying kt) k) (ob (ev fr x) fun x=>ob (Z.Ss b) fun B=>ob (Mw k x B.cells) fun cs=>ob (Z.AO1 b cs) fun Z=>some (P9,Z))
def Fg (_fr:Fr) (Z:St) (r:Option Operand):Option (Value×St):=bb r.isNone (some (.map (some Z.n),Z.Dd [] .map))
inductive Did where
 |none
 |read (r:An)
 |eff
 |pan
structure Stepped where
 v:Value
 Z:St
 d:Did
def J5 (Z:St) (v:Option Value):Option Stepped:=ob v fun v=>some ⟨v,Z,.none⟩
def asNew (Z:St) (r:Option (List Value×(Nat->Value))) (t:Option TypeId:=none):Option Stepped:=ob r fun r=>pr r fun cs v=>some ⟨v Z.n,Z.new cs t,.none⟩
def Df (Z:St) (r:Option (Value×An)):Option Stepped:=ob r fun r=>pr r fun v b=>some ⟨v,Z,.read b⟩
def GF (r:Option (Value×St)):Option Stepped:=ob r fun r=>pr r fun v Z=>some ⟨v,Z,.eff⟩
def RK (r:Option CR):Option Stepped:=ob r fun r=>CR.rec (motive:=fun _=>Option Stepped) (fun p v Z=>some ⟨v,Z,bi p .pan .eff⟩) r
def pK (fr:Fr) (Z:St) (x:Operand):Option Stepped:=ob (ev fr x) fun v=>match v with
 | .iface t v=>some ⟨.iface t v,Z,.pan⟩
 |_=>none
def orS (x y:Option Stepped):Option Stepped:=Option.rec (motive:=fun _=>Option Stepped) y (fun v=>some v) x
def AF4 (b:Builtin):Program->Fr->St->Call->Option Stepped :=
 Builtin.rec (motive:=fun _=>Program->Fr->St->Call->Option Stepped)
  (fun P fr Z c=>GF (Dx P fr Z c))
  (fun _ _ _ _=>none)
  (fun P fr Z c=>GF (uB P fr Z c))
  (fun _ _ _ _=>none)
  (fun _ _ _ _=>none)
  (fun P fr Z c=>GF (AI0 P fr Z c))
  (fun _ _ _ _=>none)
  (fun _ _ _ _=>none)
  (fun P fr Z c=>J5 Z (Qq P fr c))
  (fun _ _ _ _=>none)
  (fun _ fr Z c=>J5 Z (pMM fr true c))
  (fun _ fr Z c=>J5 Z (pMM fr false c))
  (fun _ _ _ _=>none)
  (fun _ _ _ _=>none)
  (fun _ _ _ _=>none)
  (fun _ _ _ _=>none)
  (fun _ _ _ _=>none)
  (fun _ _ _ _=>none)
  (fun _ _ _ _=>none)
  (fun _ _ _ _=>none)
  (fun _ _ _ _=>none)
  (fun _ _ _ _=>none)
  (fun _ _ _ _=>none)
  (fun _ _ _ _=>none)
  (fun _ _ _ _=>none)
  (fun _ _ _ _=>none) b
def YX (P:Program) (call:X6) (fr:Fr) (Z:St) (c:Call):Option Stepped :=
 Callee.rec (motive:=fun _=>Option Stepped) (fun f=>RK (HQ call fr Z c f)) (fun _ _=>none) (fun b=>AF4 b P fr Z c) c.callee
abbrev OpK:=Program->X6->Fr->St->Oper->Option Stepped
def ou (x:Op):OpK :=
 Op.rec (motive:=fun _=>OpK)
  (fun x _ _ fr Z _=>J5 Z (ev fr x))
  (fun x _ _ fr Z _=>J5 Z (ev fr x))
  (fun c a b _ _ fr Z _=>J5 Z (Je fr c a b))
  (fun t P _ _ Z _=>asNew Z (X8 P t) (some t))
  (fun _ x _ _ fr Z _=>asNew Z (bL fr x))
  (fun t parts P _ fr Z _=>J5 Z (Ft P fr t parts))
  (fun t len parts P _ fr Z _=>asNew Z (Gb P fr t len parts))
  (fun t m k x P _ fr Z _=>GF (Bb P fr Z t m k x))
  (fun t a P _ fr Z _=>Df Z (Ht P fr Z t a))
  (fun t a v P _ fr Z _=>GF (Gs P fr Z t a v))
  (fun _ _ _ _ _ _=>none)
  (fun _ _ _ _ _ _=>none)
  (fun x _ _ fr Z _=>J5 Z (Bo fr x))
  (fun b t x y _ P _ fr Z o=>J5 Z (Qt P fr o b t x y))
  (fun _ _ x P _ fr Z o=>J5 Z (Ej P fr o x))
  (fun s d x P _ fr Z o=>orS (asNew Z (Gd P fr s d x)) (orS (Df Z (DD P fr Z s d x)) (J5 Z (Ej P fr o x))))
  (fun _ _ _ _ _ _ _=>none)
  (fun t x P _ fr Z _=>J5 Z (oO P fr t x))
  (fun fn fs cs _ _ fr Z _=>J5 Z (RA fr fn fs cs))
  (fun _ r _ _ fr Z _=>GF (Fg fr Z r))
  (fun _ _ _ _ _ _ _=>none)
  (fun t l c P _ fr Z _=>asNew Z (QG P fr t l c))
  (fun t x lo hi mx P _ fr Z _=>J5 Z (LY P fr t x lo hi mx))
  (fun s x f P _ fr Z _=>J5 Z (AY P fr s x f))
  (fun s x f P _ fr Z _=>J5 Z (Vh P fr s x f))
  (fun t x ix P _ fr Z _=>J5 Z (Al P fr t x ix))
  (fun t x ix P _ fr Z _=>J5 Z (Ld P fr t x ix))
  (fun t x ix ok P _ fr Z _=>GF (GO P fr Z t x ix ok))
  (fun t m k x P _ fr Z _=>GF (Bb P fr Z t m k x))
  (fun _ _ _ _ _ _ _ _=>none)
  (fun _ _ _ _ _ _ _ _ _=>none)
  (fun _ _ _ _ _ _ _=>none)
  (fun _ _ _ _ _ _ _=>none)
  (fun _ _ _ _ _ _=>none)
  (fun _ _ _ _ _ _ _ _ _=>none)
  (fun t ix _ _ fr Z _=>J5 Z (Cs fr t ix))
  (fun c P call fr Z _=>YX P call fr Z c)
  (fun _ _ _ _ _ _=>none)
  (fun _ _ _ _ _ _=>none)
  (fun x _ _ fr Z _=>pK fr Z x)
  (fun _ _ _ _ _ _ _=>none)
  (fun _ _ _ _ _ _ _ _=>none)
  (fun _ _ _ _ _ _ _=>none) x
def step (P:Program) (call:X6) (fr:Fr) (Z:St) (o:Oper):Option Stepped:=ou o.op P call fr Z o
def yieldOf (want:Bool) (v:Value):Bool:=match v with
 | .bool b=>(match want with|true=>b|false=> !b)
 |_=>false
def Fc (all:Array Oper) (j:Nat):Option Tmp:=match all[j]? with
 |some p=>p.dst
 |none=>none
def U9 (all:Array Oper) (fr:Fr) (o:Oper):Option Bool :=
 Option.rec (motive:=fun _=>Option Bool) (some true) (fun g=>pr g fun j want=>Option.rec (motive:=fun _=>Option Bool) (some false) (fun d=>ob (fr.get d) fun v=>some (yieldOf want v)) (Fc all j)) o.guard
def I2 (fr:Fr) (d:Option Tmp) (v:Value):Fr:=Option.rec (motive:=fun _=>Fr) fr (fun d=>fr.set d v) d
structure Res where
 o:Out
 fr:Fr
 Z:St
def Oh {β:Type}(d:Did) (x y:β):β:=Did.rec (motive:=fun _=>β) x (fun _=>x) x y d
def opsV (P:Program) (call:X6) (all:Array Oper) (l:List Oper):Fr->St->Option Res :=
 List.rec (motive:=fun _=>Fr->St->Option Res) (fun fr Z=>some ⟨.normal,fr,Z⟩)
 (fun o _ ih fr Z=>ob (U9 all fr o) fun c=>bi c (ob (step P call fr Z o) fun r=>Stepped.rec (motive:=fun _=>Option Res) (fun v Z d=>Oh d (ih (I2 fr o.dst v) Z) (some ⟨.pan v,fr,Z⟩)) r) (ih (I2 fr o.dst P9) Z)) l
inductive Trace where
 |read (i:Nat) (r:An)
 |eff (i:Nat) (pre post:St)
def Jl (i:Nat) (Z Z':St) (d:Did) (ds:List Trace):List Trace:=match d with
 | .none=>ds
 | .read b=> .read i b::ds
 | .eff=> .eff i Z Z'::ds
 | .pan=>ds
def DH (o:Op):Bool:=match o with
 | .store .. =>true
 | .lookup .. =>true
 | .mapUpdate .. =>true
 | .insert .. =>true
 | .makeMap .. =>true
 | .panic .. =>true
 | .call c=>(match c.callee with
   | .builtin .len| .builtin .max| .builtin .min=>false
   |_=>true)
 |_=>false
structure FST where
 fr:Fr
 Z:St
 ds:List Trace
 p:Option Value
def Se (o:Op):Bool:=match o with
 | .move _=>true
 | .assign _=>true
 | .nilCheck _=>true
 | .fieldAddr .. =>true
 | .field .. =>true
 |_=>false
def Od (P:Program) (call:X6) (all:Array Oper) (bs:List Nat) (i:Nat) (l:List Oper):Nat->Fr->St->Option Unit :=
 List.rec (motive:=fun _=>Nat->Fr->St->Option Unit) (fun _ _ _=>some ())
  (fun o _ ih j fr Z=>bi (Nat.testBit (bs.getD j 0) i) (ih (j+1) fr Z)
    (bb (Se o.op) (ob (U9 all fr o) fun c=>bi c (ob (step P call fr Z o) fun r=>ih (j+1) (I2 fr o.dst r.v) r.Z) (ih (j+1) (I2 fr o.dst P9) Z)))) l
def kF (P:Program) (call:X6) (all:Array Oper) (op:Op) (l:List Oper) (i:Nat) (fr:Fr) (Z0:St) (v:Value) (Z:St) (ds:List Trace):Option FST :=
 bb (DH op) (ob (Od P call all (Region.before all).toList i l (i+1) fr Z0) fun _=>some ⟨.nil,Z,ds,some v⟩)
def xr (p:Option Value):Out:=match p with
 |none=> .normal
 |some v=> .pan v
def M5 (P:Program) (call:X6) (all:Array Oper) (l:List Oper):Nat->Fr->St->List Trace->Option FST :=
 List.rec (motive:=fun _=>Nat->Fr->St->List Trace->Option FST) (fun _ fr Z ds=>some ⟨fr,Z,ds,none⟩)
 (fun o l ih i fr Z ds=>ob (U9 all fr o) fun c=>bi c (ob (step P call fr Z o) fun r=>Stepped.rec (motive:=fun _=>Option FST) (fun v Z' d=>Oh d (ih (i+1) (I2 fr o.dst v) Z' (Jl i Z Z' d ds)) (kF P call all o.op l i fr Z v Z' ds)) r)
   (ih (i+1) (I2 fr o.dst P9) Z ds)) l
def ordered (b:List Nat) (i j:Nat):Bool:=bi (Nat.testBit (b.getD j 0) i) true (Nat.testBit (b.getD i 0) j)
def veq (v w:Value):Bool:=match v with
 | .bool b=>(match w with
   | .bool c=>bi b c (bi c false true)
   |_=>false)
 | .int k n=>(match w with
   | .int l m=>bi (keq k l) (ieq n m) false
   |_=>false)
 | .string s=>(match w with
   | .string t=>Li s.data.toList t.data.toList
   |_=>false)
 | .pointer none=>(match w with
   | .pointer none=>true
   |_=>false)
 | .pointer (some ⟨b,o,none⟩)=>(match w with
   | .pointer (some ⟨c,p,none⟩)=>bi (Nat.beq b c) (Nat.beq o p) false
   |_=>false)
 | .slice none n k=>(match w with
   | .slice none m l=>bi (Nat.beq n m) (Nat.beq k l) false
   |_=>false)
 | .slice (some ⟨b,o,none⟩) n k=>(match w with
   | .slice (some ⟨c,p,none⟩) m l=>bi (Nat.beq b c) (bi (Nat.beq o p) (bi (Nat.beq n m) (Nat.beq k l) false) false) false
   |_=>false)
 | .slice (some ⟨b,o,some s⟩) n k=>(match w with
   | .slice (some ⟨c,p,some t⟩) m l=>bi (Nat.beq b c) (bi (Nat.beq o p) (bi (Nat.beq s t) (bi (Nat.beq n m) (Nat.beq k l) false) false) false) false
   |_=>false)
 | .map none=>(match w with
   | .map none=>true
   |_=>false)
 | .map (some b)=>(match w with
   | .map (some c)=>Nat.beq b c
   |_=>false)
 |_=>false
def AU5 (l:List Value):List Value->Bool :=
 List.rec (motive:=fun _=>List Value->Bool) (fun k=>List.rec (motive:=fun _=>Bool) true (fun _ _ _=>false) k)
  (fun x _ ih k=>List.rec (motive:=fun _=>Bool) false (fun y ys _=>bi (veq x y) (ih ys) false) k) l
def CJ (x y:Option (List Value)):Bool :=
 Option.rec (motive:=fun _=>Bool) false (fun l=>Option.rec (motive:=fun _=>Bool) false (fun k=>AU5 l k) y) x
def Pu (bs:List Nat) (i:Nat) (r:An) (d:Trace):Bool:=match d with
 | .eff j pre post=>bi (ordered bs i j) true (bi (Nat.blt r.b pre.n) (bi (Nat.beq (pre.ver r.b) (post.ver r.b)) true (CJ (pre.read r.b r.off r.n) (post.read r.b r.off r.n))) true)
 | .read .. =>true
def W3 (bs:List Nat) (i:Nat) (r:An):List Trace->Bool
 | []=>true
 |d::ds=>bi (Pu bs i r d) (W3 bs i r ds) false
def BL (bs:List Nat) (all:List Trace):List Trace->Bool
 | []=>true
 | d::ds=>(match d with
   | .read i r=>bi (W3 bs i r all) (BL bs all ds) false
   | .eff .. =>BL bs all ds)
def drawn (os:Array Oper) (r:Option FST):Option Res :=
 ob r fun r=>FST.rec (motive:=fun _=>Option Res) (fun fr Z ds p=>bb (BL (Region.before os).toList ds ds) (some ⟨xr p,fr,Z⟩)) r
def IA (o:Oper):Nat:=match o.dst with
 |some t=>2 ^ t
 |none=>0
def AH2 (x:Operand):Nat:=match x with
 | .tmp t=>2 ^ t
 |_=>0
def Hz (l:List Operand):Nat:=List.rec (motive:=fun _=>Nat) 0 (fun x _ ih=>Nat.lor (AH2 x) ih) l
def JB (os:Array Oper) (o:Oper):Nat:=match o.guard with
 | some (j,_)=>(match Fc os j with
   |some t=>2 ^ t
   |none=>0)
 |none=>0
structure tF where
 i:Nat
 d:Nat
 m:Nat
 e:Bool
def AU6 (b d m:Nat) (e:Bool) (p:tF):Bool :=
 bi (Nat.beq (Nat.land p.d (Nat.lor d m)) 0&&(Nat.beq (Nat.land d p.m) 0&& !(e&&p.e))) true (Nat.testBit b p.i)
def tG (j:Nat) (e:Edge):Bool:= !(Region.binds .any e)||Nat.blt e.on j
def Wm (os:Array Oper):List Oper->List Nat->Nat->List tF->Bool
 | [],_,_,_=>true
 |_::_,[],_,_=>false
 |o::l,b::bs,j,prev=>(o.after.toList.all (tG j))&&((prev.all (AU6 b (IA o) (Nat.lor (Hz o.op.operands.toList) (JB os o)) (DH o.op))) &&
    Wm os l bs (j+1) (⟨j,IA o,Nat.lor (Hz o.op.operands.toList) (JB os o),DH o.op⟩::prev))
def QV (os:Array Oper):Bool:=Wm os os.toList (Region.before os).toList 0 []
structure Gh where
 tm:Nat
 tv:Nat
 key:Nat
 ty:TypeId
 k1:Value
 v1:Value
 k2:Value
 v2:Value
def BC2 (o:Op):Bool:=match o with
 | .makeMap _ none=>true
 |_=>false
def FX (l:List Oper):Bool:=match l with
 |_::_::o::_=>BC2 o.op
 |_=>false
def AT0 (o:Oper):Option (Nat×TypeId):=match o.dst with
 | some t=>(match o.op with
   | .makeMap ty none=>some (t,ty)
   |_=>none)
 |none=>none
def iR (o:Oper):Option (Nat×TypeId×Value×Value):=match o.dst with
 | none=>(match o.op with
   | .insert ty (.tmp m) (.const k) (.const v)=>some (m,ty,k,v)
   |_=>none)
 |some _=>none
def sd (o:Oper):Option (Nat×Nat):=match o.dst with
 | some d=>(match o.op with
   | .move (.tmp m)=>some (d,m)
   |_=>none)
 |none=>none
def AT1 (o:Oper):Option (Nat×TypeId×Nat):=match o.op with
 | .lookup ty (.tmp m) (.tmp k) false=>some (m,ty,k)
 |_=>none
def El (o:Oper):Oper:={ o with dst:=none,op:= .move (.const (.bool false)) }
def UT (o:Oper) (V:Value):Oper:={ o with op:= .move (.const V) }
def ET (l:List Oper) (V:Value):List Oper:=match l with
 |a0::a1::a2::a3::a4::a5::a6::a7::a8::N3=>a0::a1::El a2::El a3::El a4::El a5::a6::a7::UT a8 V::N3
 |l=>l
def DJ (o:Oper) (i:Nat):Bool:=o.after.toList.any fun e=>Region.binds .any e&&Nat.beq e.on i
def AT2 (l:List Oper):Option Gh:=match l with
 | _::_::a2::a3::a4::a5::_::_::a8::_=>ob (AT0 a2) fun m=>ob (iR a3) fun i1=>ob (iR a4) fun i2=>ob (sd a5) fun mv=>ob (AT1 a8) fun lk=>
   bb (Nat.beq i1.1 m.1&&(Nat.beq i1.2.1 m.2&&(Nat.beq i2.1 m.1&&(Nat.beq i2.2.1 m.2&&(Nat.beq mv.2 m.1&&(Nat.beq lk.1 mv.1&&(Nat.beq lk.2.1 m.2 &&
    (DJ a3 2&&(DJ a4 2&&(DJ a5 3&&(DJ a5 4&&DJ a8 5))))))))))) (some ⟨m.1,mv.1,lk.2.2,m.2,i1.2.2.1,i1.2.2.2,i2.2.2.1,i2.2.2.2⟩)
 |_=>none
def Rw (t:Nat) (o:Oper):Bool:=match o.dst with
 |some d=> !(Nat.beq d t)
 |none=>true
def rP (a8:Oper) (key:Nat):List Oper->Nat->Bool
 | [],_=>true
 |o::l,j=>(Rw key o||(Nat.blt j 8&&DJ a8 j))&&rP a8 key l (j+1)
def Ao3 (l:List Oper) (f:Oper->Bool):Bool:=match l with
 |_::_::_::_::_::_::_::_::a8::_=>f a8
 |_=>false
def Al7 (l l':List Oper) (g:Gh):Bool :=
 l.all (fun o=>o.guard.isNone&& !(Nat.beq g.tm g.tv))&&(l'.all (Rw g.tm)&&(l'.all (Rw g.tv)&&Ao3 l fun a8=>rP a8 g.key l' 0))
def AG1 (P:Program) (g:Gh) (kv:Value):Option Value :=
 ob (Iw P g.ty) fun p=>bb (DI (P.underlying p.1) g.k1&&(DI (P.underlying p.1) g.k2&&(DI (P.underlying p.1) kv&&(Ji g.k1&&(Ji g.k2&&(Ji g.v1&&Ji g.v2)))))) <|
  ob (Mw g.k2 g.v2 [g.k1,g.v1]) fun c12=>ob (Mw g.k1 g.v1 [g.k2,g.v2]) fun c21=>ob (PS kv c12) fun r1=>ob (PS kv c21) fun r2=>
   ob (found P p.2 r1) fun x1=>ob (found P p.2 r2) fun x2=>bb (veq x1.1 x2.1&&Ji x1.1) (some x1.1)
def Ao4 (os':Array Oper) (key:Nat) (kv:Value) (r:FST):Option Res :=
 FST.rec (motive:=fun _=>Option Res) (fun fr Z ds p=>bb (BL (Region.before os').toList ds ds&&p.isNone) (ob (fr.get key) fun kv'=>bb (veq kv' kv) (some ⟨.normal,fr,Z⟩))) r
def QU (P:Program) (call:X6) (l:List Oper) (fr:Fr) (Z:St):Option Res :=
 ob (AT2 l) fun g=>bb ((fr.get g.tm).isNone&&(fr.get g.tv).isNone) <|
  ob (M5 P call (ET l (.string ⟨#[]⟩)).toArray (ET l (.string ⟨#[]⟩)) 0 fr Z []) fun r0=>ob (r0.fr.get g.key) fun kv=>ob (AG1 P g kv) fun V=>
   bb (Al7 l (ET l V) g&&QV (ET l V).toArray) <| ob (M5 P call (ET l V).toArray (ET l V) 0 fr Z []) (Ao4 (ET l V).toArray g.key kv)
def HZ (l:List Value):Nat->Fr->Fr :=
 List.rec (motive:=fun _=>Nat->Fr->Fr) (fun _ fr=>fr) (fun v _ ih k fr=>ih (k+1) (fr.set k v)) l
def Ao5 (P:Program) (fr:Fr) (Z:St) (r:ResultVar):Option Value:=match r with
 | .tmp t=>fr.get t
 | .cell a t=>ob (fr.get a) fun p=>Om P Z t p
def IP (P:Program) (fr:Fr) (Z:St) (l:List ResultVar):Option (List Value) :=
 List.rec (motive:=fun _=>Option (List Value)) (some []) (fun r _ ih=>ob (Ao5 P fr Z r) fun v=>ob ih fun vs=>some (v::vs)) l
def tup (l:List Value):Value:=match l with
 | [v]=>v
 |vs=> .tuple ⟨vs⟩
abbrev RunT:=Option Nat->Code->Fr->St->Option Res
def Le (run run':RunT):Prop:=∀ rd c fr Z r,run rd c fr Z=some r->run' rd c fr Z=some r
structure L8 {α:Type}(Φ:RunT->Option α):Prop where
 mono:∀ run run',Le run run'->∀ r,Φ run=some r->Φ run'=some r
 fin:∀ (ch:Nat->RunT) (l:RunT),(∀ f g,f<=g->Le (ch f) (ch g))->(∀ rd c fr Z r,l rd c fr Z=some r->∃ f,ch f rd c fr Z=some r)->∀ r,Φ l=some r->∃ f,Φ (ch f)=some r
def L8.const {α:Type}(x:Option α):L8 fun _=>x:=⟨fun _ _ _ _ h=>h,fun _ _ _ _ _ h=>⟨0,h⟩⟩
structure oK where
 f:RunT->List Value->St->Option CR
 cont:∀ vs Z,L8 fun run=>f run vs Z
def oK.plain (f:List Value->St->Option CR):oK:=⟨fun _ vs Z=>f vs Z,fun _ _=> .const _⟩
abbrev Dq:=Nat->Option oK
def HM (P:Program) (fn:Func) (r:Res):Option CR :=
 Res.rec (motive:=fun _=>Option CR) (fun o fr Z=>Out.rec (motive:=fun _=>Option CR)
  (ob (IP P fr Z fn.results.toList) fun vs=>some ⟨false,tup vs,Z⟩) (fun _=>none) (ob (IP P fr Z fn.results.toList) fun vs=>some ⟨false,tup vs,Z⟩) (fun v=>some ⟨true,v,Z⟩) o) r
def zf (P:Program) (run:RunT) (fn:Func) (body:Code) (vs:List Value) (Z:St):Option CR :=
 ob (run none body (HZ vs 0 .nil) Z) (HM P fn)
def OT (P:Program) (H:Dq) (run:RunT) (g:Nat) (vs:List Value) (Z:St):Option CR :=
 Option.rec (motive:=fun _=>Option CR)
  (ob (P.funcs[g]?) fun fn=>Option.rec (motive:=fun _=>Option CR)
    (bb (TV vs) (ob (Kj (N7 P (callFunc g vs.toArray))) fun v=>bb (tV v) (some ⟨false,v,Z⟩)))
    (fun body=>zf P run fn body vs Z) fn.body)
  (fun s=>s.f run vs Z) (H g)
structure Oq where
 fr:Fr
 ps:List Nat
 assign:Code
 body:Code
 st:LoopState
 R8:Option Code
def St.Ih (Z:St) (b:Nat):Option Oq:=ob (Z.blk b) fun B=>bb B.own (Kind.rec (motive:=fun _=>Option Oq) (fun _=>none) none (fun fr ps as bd st R8=>some ⟨fr,ps,as,bd,st,R8⟩) B.kind)
def Ru (ps:List Nat):List Value->Fr->Option Fr :=
 List.rec (motive:=fun _=>List Value->Fr->Option Fr) (fun vs fr=>List.rec (motive:=fun _=>Option Fr) (some fr) (fun _ _ _=>none) vs)
  (fun p _ ih vs fr=>List.rec (motive:=fun _=>Option Fr) none (fun v vs _=>ih vs (fr.set p v)) vs) ps
def isReady (s:LoopState):Bool:=match s with
 | .ready=>true
 |_=>false
def SX (s:LoopState):Bool:=match s with
 | .busy=>true
 |_=>false
def iI {β:Type}(o:Out) (x:Option β):Option β:=Out.rec (motive:=fun _=>Option β) x (fun _=>none) none (fun _=>none) o
def aX (b:Nat) (r:Res):Option CR :=
 Res.rec (motive:=fun _=>Option CR) (fun o _ Z=>Out.rec (motive:=fun _=>Option CR)
  (ob (Z.BT b .ready none) fun Z=>some ⟨false,.bool true,Z⟩)
  (fun i=>ob (Z.BT b .done (some (.exit i))) fun Z=>some ⟨false,.bool false,Z⟩)
  (ob (Z.BT b .done (some .ret)) fun Z=>some ⟨false,.bool false,Z⟩) (fun _=>none) o) r
def XX (run:RunT) (b:Nat) (vs:List Value) (Z:St):Option CR :=
 ob (Z.Ih b) fun L=>Oq.rec (motive:=fun _=>Option CR) (fun fr ps assign body st _=>bb (isReady st) (ob (Ru ps vs fr) fun fr=>ob (run (some b) assign fr Z) fun r=>
  Res.rec (motive:=fun _=>Option CR) (fun o fr Z=>iI o (ob (Z.Ih b) fun L=>Oq.rec (motive:=fun _=>Option CR) (fun _ _ _ _ st R8=>bb (isReady st) (ob (Z.BT b .busy R8) fun Z=>ob (run (some b) body fr Z) (aX b))) L)) r)) L
def DG (P:Program) (H:Dq) (run:RunT) (t:Tgt) (vs:List Value) (Z:St):Option CR :=
 Tgt.rec (motive:=fun _=>Option CR) (fun g=>OT P H run g vs Z) (fun b=>XX run b vs Z) t
def Aj (r:Res) (next:Fr->St->Option Res):Option Res :=
 Res.rec (motive:=fun _=>Option Res) (fun o fr Z=>Out.rec (motive:=fun _=>Option Res) (next fr Z) (fun i=>some ⟨.exit i,fr,Z⟩) (some ⟨.ret,fr,Z⟩) (fun v=>some ⟨.pan v,fr,Z⟩) o) r
def Hb (id:Nat) (r:Res):Option Res :=
 Res.rec (motive:=fun _=>Option Res) (fun o fr Z=>Out.rec (motive:=fun _=>Option Res) (some ⟨.normal,fr,Z⟩) (fun i=>bi (Nat.beq i id) (some ⟨.normal,fr,Z⟩) (some ⟨.exit i,fr,Z⟩)) (some ⟨.ret,fr,Z⟩) (fun v=>some ⟨.pan v,fr,Z⟩) o) r
def zi (Z:St) (rd:Option Nat):Bool:=Option.rec (motive:=fun _=>Bool) true (fun b=>(Z.Ih b).isSome) rd
def aL (c:Option Code):Option Out:=match c with
 |none=>some .normal
 |some .ret=>some .ret
 |some (.exit i)=>some (.exit i)
 |_=>none
def zj (b:Nat) (fr:Fr) (r:CR):Option Res :=
 CR.rec (motive:=fun _=>Option Res) (fun p _ Z=>bi p none (ob (Z.Ih b) fun L=>Oq.rec (motive:=fun _=>Option Res) (fun _ _ _ _ st R8=>bi (SX st) none (ob (Z.BT b .exhausted R8) fun Z=>ob (aL R8) fun o=>some ⟨o,fr,Z⟩)) L)) r
def AH5 (t:Tgt):Option Nat:=match t with
 | .fn g=>some g
 | .yld _=>none
def Ps (P:Program) (g:Nat):Bool:=match P.funcs[g]? with
 |some fn=>fn.body.isSome
 |none=>false
def cw (P:Program) (call:X6) (rd:Option Nat) (f:Operand) (ps:List Nat) (assign body:Code) (fr:Fr) (Z:St):Option Res :=
 bb (zi Z rd) (ob (ev fr f) fun v=>ob (Mo v) fun f=>Fun.rec (motive:=fun _=>Option Res) (fun t first captured=>ob (AH5 t) fun g=>bb (Ps P g) <|
  ob (call (.fn g) (first++[.func (.yield Z.n) #[] #[]]++captured) (Z.Dd [] (.loop fr ps assign body .ready none))) (zj Z.n fr)) f)
abbrev AI1:=Program->Dq->RunT->Option Nat->Fr->St->Option Res
def ov (c:Code):AI1 :=
 Code.rec (motive:=fun _=>AI1)
  (fun _ _ _ _ fr Z=>some ⟨.normal,fr,Z⟩)
  (fun _ os draw P H ih _ fr Z=>bi draw (bi (FX os.toList) (QU P (DG P H ih) os.toList fr Z) (drawn os (M5 P (DG P H ih) os os.toList 0 fr Z []))) (opsV P (DG P H ih) os os.toList fr Z))
  (fun a b _ _ _ _ ih rd fr Z=>ob (ih rd a fr Z) fun r=>Aj r (ih rd b))
  (fun c a b _ _ _ _ ih rd fr Z=>ob (ev fr c) fun v=>ob (bool? v) fun t=>bi t (ih rd a fr Z) (ih rd b fr Z))
  (fun id c _ _ _ ih rd fr Z=>ob (ih rd c fr Z) (Hb id))
  (fun c _ _ _ ih rd fr Z=>ob (ih rd c fr Z) fun r=>Aj r (ih rd (.loop c)))
  (fun f ps assign body _ _ P H ih rd fr Z=>cw P (DG P H ih) rd f ps.toList assign body fr Z)
  (fun id _ _ _ _ fr Z=>some ⟨.exit id,fr,Z⟩)
  (fun c _ _ _ ih rd fr Z=>ih rd c fr Z)
  (fun _ _ _ _ _ fr Z=>some ⟨.normal,fr,Z⟩)
  (fun _ _ _ _ _ _ _=>none)
  (fun _ _ _ _ fr Z=>some ⟨.ret,fr,Z⟩)
  (fun _ _ _ _ _ _ _=>none) c
def AF3 (P:Program) (H:Dq) (ih:RunT) (rd:Option Nat) (c:Code) (fr:Fr) (Z:St):Option Res:=ov c P H ih rd fr Z
def exec (P:Program) (H:Dq) (f:Nat):RunT :=
 Nat.rec (motive:=fun _=>RunT) (fun _ _ _ _=>none) (fun _ ih=>AF3 P H ih) f
def call (P:Program) (H:Dq) (f:Nat) (g:Nat) (vs:List Value) (Z:St):Option CR:=OT P H (exec P H f) g vs Z
end
end Go.Ab
namespace Go.Ab
open Go
section
variable {v v':Value}{n off:Nat}
@[simp] theorem D4 {α β:Type} (a:α) (f:α->Option β):ob (some a) f=f a:=rfl
@[simp] theorem wK {α β:Type} (f:α->Option β):ob (none:Option α) f=none:=rfl
@[simp] theorem Ax {β:Type} (x:Option β):bb true x=x:=rfl
@[simp] theorem An6 {β:Type} (x:Option β):bb false x=none:=rfl
@[simp] theorem GN {β:Type} (x y:β):bi true x y=x:=rfl
@[simp] theorem BR {β:Type} (x y:β):bi false x y=y:=rfl
@[simp] theorem Jv {α β γ:Type} (a:α) (b:β) (f:α->β->γ):pr (a,b) f=f a b:=rfl
@[simp] theorem BB8 {γ:Type} (a b c:Nat) (f:Nat->Nat->Nat->γ):pra ⟨a,b,c⟩ f=f a b c:=rfl
theorem A8 {α β:Type}{x:Option α}{f:α->Option β}{b:β}(h:ob x f=some b):∃ a,x=some a/\f a=some b:=by
 cases x with
 |none=>cases h
 |some a=>exact⟨a,rfl,h⟩
def G7 {β:Type}{c:Bool}{x:Option β}{b:β}(h:bb c x=some b):c=true/\x=some b:=by
 cases c with
 |false=>cases h
 |true=>exact⟨rfl,h⟩
/- Tables. -/
def Tr.get_nil {α:Type}(n:Nat):(Tr.nil:Tr α).get n=none:=rfl
def Tr.NH {α:Type}(l:Tr α) (v:Option α) (r:Tr α):(Tr.node l v r).get 0=v:=rfl
def Tr.Fl {α:Type}(l:Tr α) (v:Option α) (r:Tr α) (m:Nat):(Tr.node l v r).get (m+1)=if m % 2=0 then l.get (m / 2)else r.get (m / 2):=by
 show(Nat.rec (motive:=fun _=>Option α) (l.get (m / 2)) (fun _ _=>r.get (m / 2)) (m % 2):Option α)=_;rcases tN m with h|h<;>rw[h]<;>rfl
def Tr.tO {α:Type}(f:Nat) (a:α):Tr.one (f+1) 0 a= .node .nil (some a) .nil:=rfl
def Tr.tP {α:Type}(f m:Nat) (a:α):Tr.one (f+1) (m+1) a=if m % 2=0 then .node (Tr.one f (m / 2) a) none .nil else .node .nil none (Tr.one f (m / 2) a):=by
 show(Nat.rec (motive:=fun _=>Tr α) (.node (Tr.one f (m / 2) a) none .nil) (fun _ _=> .node .nil none (Tr.one f (m / 2) a)) (m % 2):Tr α)=_;rcases tN m with h|h<;>rw[h]<;>rfl
def Tr.zZ {α:Type}(a:α):∀ (f n m:Nat),n<f->(Tr.one f n a).get m=if m=n then some a else none:=by
 intro f;induction f with
 |zero=>intro n m h;omega
 | succ f ih=>
   intro n m h;cases n with
   | zero=>
     rw[Tr.tO];cases m with
     |zero=>rfl
     |succ m=>rw[Tr.Fl];simp[Tr.get_nil]
   | succ n=>
     rw[Tr.tP];by_cases hn:n % 2=0
     ·rw [z1z hn];cases m with
      |zero=>rw[Tr.NH];simp
      | succ m=>
        rw[Tr.Fl,ih (n / 2) (m / 2) om,Tr.get_nil];by_cases hm:m % 2=0
        ·rw[z1z hm];simp only[Uf];by_cases he:m=n
         ·subst he;simp
         ·rw[z0z om,z0z he]
        ·rw[z0z hm,z0z om]
     ·rw [z0z hn];cases m with
      |zero=>rw[Tr.NH];simp
      | succ m=>
        rw[Tr.Fl,ih (n / 2) (m / 2) om,Tr.get_nil];by_cases hm:m % 2=0
        ·rw[z1z hm,z0z om]
        ·rw[z0z hm];simp only[Uf];by_cases he:m=n
         ·subst he;simp
         ·rw[z0z om,z0z he]
def Tr.set_nil {α:Type}(n:Nat) (a:α):(Tr.nil:Tr α).set n a=Tr.one (n+1) n a:=rfl
def Tr.tQ {α:Type}(l:Tr α) (v:Option α) (r:Tr α) (a:α):(Tr.node l v r).set 0 a= .node l (some a) r:=rfl
def Tr.tR {α:Type}(l:Tr α) (v:Option α) (r:Tr α) (m:Nat) (a:α):(Tr.node l v r).set (m+1) a=if m % 2=0 then .node (l.set (m / 2) a) v r else .node l v (r.set (m / 2) a):=by
 show(Nat.rec (motive:=fun _=>Tr α) (.node (l.set (m / 2) a) v r) (fun _ _=> .node l v (r.set (m / 2) a)) (m % 2):Tr α)=_;rcases tN m with h|h<;>rw[h]<;>rfl
def Tr.Au {α:Type}(a:α) (t:Tr α):∀ (n m:Nat),(t.set n a).get m=if m=n then some a else t.get m:=by
 induction t with
 |nil=>intro n m;rw[Tr.set_nil,Tr.zZ a _ _ _ om,Tr.get_nil]
 | node l v r ihl ihr=>
   intro n m;cases n with
   | zero=>
     rw[Tr.tQ];cases m with
     |zero=>rfl
     |succ m=>simp[Tr.Fl]
   | succ n=>
     rw[Tr.tR];by_cases hn:n % 2=0
     ·rw [z1z hn];cases m with
      |zero=>simp[Tr.NH]
      | succ m=>
        rw[Tr.Fl,ihl,Tr.Fl];by_cases hm:m % 2=0
        ·rw[z1z hm,z1z hm];simp only[Uf];by_cases he:m=n
         ·subst he;simp
         ·rw[z0z om,z0z he]
        ·rw[z0z hm,z0z hm];simp only[Uf];rw[z0z om]
     ·rw [z0z hn];cases m with
      |zero=>simp[Tr.NH]
      | succ m=>
        rw[Tr.Fl,ihr,Tr.Fl];by_cases hm:m % 2=0
        ·rw[z1z hm,z1z hm];simp only[Uf];rw[z0z om]
        ·rw[z0z hm,z0z hm];simp only[Uf];by_cases he:m=n
         ·subst he;simp
         ·rw[z0z om,z0z he]
def Tr.get_set_same {α:Type}(t:Tr α) (n:Nat) (a:α):(t.set n a).get n=some a:=by rw[Tr.Au,z1z rfl]
def Tr.L7 {α:Type}(t:Tr α){m:Nat}(a:α) (h:m≠n):(t.set n a).get m=t.get m:=by rw[Tr.Au,z0z h]
/- sP. -/
def SY {α:Type}:∀ (n:Nat) (l r:List α),takeN n l=some r->n<=l.length/\r=l.take n:=by
 intro n;induction n with
 |zero=>intro l r h;cases h;simp
 | succ n ih=>
   intro l r h;cases l with
   |nil=>cases h
   | cons x xs=>
     obtain⟨r',h1,h2⟩:=A8 (show ob (takeN n xs) (fun r=>some (x::r))=some r from h);cases h2;obtain⟨h3,h4⟩:=ih _ _ h1;exact⟨by simp;omega,by simp[h4]⟩
def tS {α:Type}:∀ (n:Nat) (l:List α),n<=l.length->takeN n l=some (l.take n):=by
 intro n;induction n with
 |zero=>intro l _;rfl
 | succ n ih=>
   intro l h;cases l with
   |nil=>simp at h
   | cons x xs=>
     show ob (takeN n xs) (fun r=>some (x::r))=_;rw[ih xs (by simpa using h)];rfl
def tT {α:Type}:∀ (n:Nat) (l r:List α),Ug n l=some r->n<=l.length/\r=l.drop n:=by
 intro n;induction n with
 |zero=>intro l r h;cases h;simp
 | succ n ih=>
   intro l r h;cases l with
   |nil=>cases h
   | cons x xs=>
     obtain⟨h3,h4⟩:=ih _ _ (show Ug n xs=some r from h);exact⟨by simp;omega,by simp[h4]⟩
def tU {α:Type}:∀ (n:Nat) (l:List α),n<=l.length->Ug n l=some (l.drop n):=by
 intro n;induction n with
 |zero=>intro l _;rfl
 | succ n ih=>
   intro l h;cases l with
   |nil=>simp at h
   |cons x xs=>show Ug n xs=_;rw[ih xs (by simpa using h)];rfl
def sub_eq {α:Type}{l r:List α}(h:sub l off n=some r):off+n<=l.length/\r=(l.drop off).take n:=by
 obtain⟨l',h1,h2⟩:=A8 h;obtain⟨h3,rfl⟩:=tT _ _ _ h1;obtain⟨h4,rfl⟩:=SY _ _ _ h2;exact⟨by simp at h4;omega,rfl⟩
def o9 {α:Type}{l:List α}(h:off+n<=l.length):sub l off n=some ((l.drop off).take n):=by
 show ob (Ug off l) (fun l=>takeN n l)=_;rw[tU _ _ om];exact tS _ _ (by simp;omega)
def za {α:Type}:∀ (new l r:List α),over new l=some r->new.length<=l.length/\r=new++l.drop new.length:=by
 intro new;induction new with
 |nil=>intro l r h;cases h;simp
 | cons v vs ih=>
   intro l r h;cases l with
   |nil=>cases h
   | cons x xs=>
     obtain⟨r',h1,h2⟩:=A8 (show ob (over vs xs) (fun r=>some (v::r))=some r from h);cases h2;obtain⟨h3,h4⟩:=ih _ _ h1;exact⟨by simp;omega,by simp[h4]⟩
def TR {α:Type}(new:List α):∀ (off:Nat) (l r:List α),M7 l off new=some r->off+new.length<=l.length/\r=l.take off++new++l.drop (off+new.length):=by
 intro off;induction off with
 | zero=>
   intro l r h;obtain⟨h1,h2⟩:=za new l r h;exact⟨om,by simp[h2]⟩
 | succ off ih=>
   intro l r h;cases l with
   |nil=>cases h
   | cons x xs=>
     obtain⟨r',h1,h2⟩:=A8 (show ob (M7 xs off new) (fun r=>some (x::r))=some r from h);cases h2;obtain⟨h3,h4⟩:=ih _ _ h1;exact⟨by simp;omega,by simp[h4,Nat.add_right_comm]⟩
/- How values tM to each other. -/
structure BK where
 c:Nat
 o:Nat
 m:Nat
abbrev Place:=Nat->Option BK
mutual
inductive H3 (O:Place):Value->Value->Prop
 |I1 {v:Value} (h:I1 v=true):H3 O v v
 |ptr {b off:Nat}{q:BK} (h:O b=some q):H3 O (.pointer (some ⟨b,off,none⟩)) (.pointer (some ⟨q.c,q.o+off,none⟩))
 |slice {b off n k:Nat}{q:BK} (h:O b=some q):H3 O (.slice (some ⟨b,off,none⟩) n k) (.slice (some ⟨q.c,q.o+off,none⟩) n k)
 |grow {b off s n k k':Nat}{q:BK} (h:O b=some q) (hk:k<=k') (hm:q.o+off+k'*s<=q.m):H3 O (.slice (some ⟨b,off,some s⟩) n k) (.slice (some ⟨q.c,q.o+off,none⟩) n k')
 |Bl {b off:Nat}{sp:Option Nat}{q:BK}{x:Addr} (h:O b=some q):H3 O (.slice (some ⟨b,off,sp⟩) 0 0) (.slice (some x) 0 0)
 |func {fn:Fn}{f f' c c':List Value} (hy:Wq fn=true) (h1:E7 O f f') (h2:E7 O c c'):H3 O (.func fn ⟨f⟩ ⟨c⟩) (.func fn ⟨f'⟩ ⟨c'⟩)
 |map {b:Nat}{q:BK} (h:O b=some q):H3 O (.map (some b)) (.map (some q.c))
 |yld {b:Nat}{q:BK} (h:O b=some q):H3 O (.func (.yield b) ⟨[]⟩ ⟨[]⟩) (.func (.yield q.c) ⟨[]⟩ ⟨[]⟩)
 |iface {t:TypeId}{v v':Value} (h:H3 O v v'):H3 O (.iface t v) (.iface t v')
 |agg {l l':List Value} (hc:∀ v∈l,K4 v=true) (h:E7 O l l'):H3 O (.agg ⟨l⟩) (.agg ⟨l'⟩)
 |tuple {l l':List Value} (h:E7 O l l'):H3 O (.tuple ⟨l⟩) (.tuple ⟨l'⟩)
inductive E7 (O:Place):List Value->List Value->Prop
 |nil:E7 O [] []
 |cons {v v':Value}{l l':List Value} (h:H3 O v v') (hs:E7 O l l'):E7 O (v::l) (v'::l')
end
def Place.le (O O':Place):Prop:=∀ b p,O b=some p->O' b=some p
def Place.le_refl (O:Place):O.le O:=fun _ _ h=>h
def Place.le_trans {O O' O'':Place}(h:O.le O') (h':O'.le O''):O.le O'':=fun b p k=>h' b p (h b p k)
mutual
theorem H3.mono {O O':Place}(hm:O.le O'){v v':Value}(h:H3 O v v'):H3 O' v v':=by
 cases h with
 |I1 h=>exact .I1 h
 |ptr h=>exact .ptr (hm _ _ h)
 |slice h=>exact .slice (hm _ _ h)
 |grow h hk hc=>exact .grow (hm _ _ h) hk hc
 |Bl h=>exact .Bl (hm _ _ h)
 |func hy h1 h2=>exact .func hy (E7.mono hm h1) (E7.mono hm h2)
 |map h=>exact .map (hm _ _ h)
 |yld h=>exact .yld (hm _ _ h)
 |iface h=>exact .iface (H3.mono hm h)
 |agg hc h=>exact .agg hc (E7.mono hm h)
 |tuple h=>exact .tuple (E7.mono hm h)
theorem E7.mono {O O':Place}(hm:O.le O'){l l':List Value}(h:E7 O l l'):E7 O' l l':=by
 cases h with
 |nil=>exact .nil
 |cons h hs=>exact .cons (H3.mono hm h) (E7.mono hm hs)
end
def E7.length {O:Place}:∀ {l l':List Value},E7 O l l'->l.length=l'.length:=by
 intro l;induction l with
 |nil=>intro l' h;cases h;rfl
 |cons v l ih=>intro l' h;cases h with|cons h hs=>simp[ih hs]
def E7.get {O:Place}:∀ {l l':List Value}{i:Nat}{v:Value},E7 O l l'->l[i]? =some v->∃ v',l'[i]? =some v'/\H3 O v v':=by
 intro l;induction l with
 |nil=>intro l' i v _ hv;simp at hv
 | cons x l ih=>
   intro l' i v h hv;cases h with
   | cons h hs=>
     cases i with
     |zero=>simp at hv;subst hv;exact⟨_,rfl,h⟩
     |succ i=>simpa using ih hs (by simpa using hv)
def E7.Fs {O:Place}:∀ {l l':List Value},l.length=l'.length->(∀ (i:Nat) (v:Value),l[i]? =some v->∃ v',l'[i]? =some v'/\H3 O v v')->E7 O l l':=by
 intro l;induction l with
 |nil=>intro l' h _;cases l' with|nil=>exact .nil|cons=>simp at h
 | cons x l ih=>
   intro l' h hv;cases l' with
   |nil=>simp at h
   | cons x' l'=>
     obtain⟨v',h1,h2⟩:=hv 0 x rfl;simp at h1;subst h1;exact .cons h2 (ih (by simpa using h) fun i v hi=>by simpa using hv (i+1) v (by simpa using hi))
def E7.append {O:Place}{k k':List Value}(h2:E7 O k k'):∀ {l l':List Value},E7 O l l'->E7 O (l++k) (l'++k'):=by
 intro l;induction l with
 |nil=>intro l' h;cases h;exact h2
 |cons v l ih=>intro l' h;cases h with|cons h hs=>exact .cons h (ih hs)
def E7.take {O:Place}(n:Nat):∀ {l l':List Value},E7 O l l'->E7 O (l.take n) (l'.take n):=by
 induction n with
 |zero=>intro l l' _;simp;exact .nil
 |succ n ih=>intro l l' h;cases h with|nil=>simp;exact .nil|cons h hs=>exact .cons h (ih hs)
def E7.drop {O:Place}(n:Nat):∀ {l l':List Value},E7 O l l'->E7 O (l.drop n) (l'.drop n):=by
 induction n with
 |zero=>intro l l' h;simpa using h
 |succ n ih=>intro l l' h;cases h with|nil=>simp;exact .nil|cons h hs=>exact ih hs
def E7.ML {O:Place}:∀ {l:List Value},HF l=true->E7 O l l:=by
 intro l;induction l with
 |nil=>intro _;exact .nil
 | cons v l ih=>
   intro h;change bi (I1 v) (HF l) false=true at h;cases hs:I1 v with
   |false=>rw[hs]at h;cases h
   |true=>rw[hs]at h;exact .cons (.I1 hs) (ih h)
def JL (h:I1 v=true):K4 v=true:=by
 cases v<;>first|rfl|(simp[I1]at h)
def FG:∀ {l:List Value},HF l=true->∀ v∈l,K4 v=true:=by
 intro l;induction l with
 |nil=>intro _ v hv;simp at hv
 | cons x l ih=>
   intro h v hv;change bi (I1 x) (HF l) false=true at h;cases hs:I1 x with
   |false=>rw[hs]at h;cases h
   | true=>
     rw[hs]at h;rcases Y5.1 hv with rfl|hv
     ·exact JL hs
     ·exact ih h v hv
def H3.cst {O:Place}{u:Value}(h:cst v=some u):u=v/\H3 O v v:=by
 obtain⟨h1,h2⟩:=G7 h;cases h2;refine⟨rfl,?_⟩;cases v with
 | agg cs=>
   obtain⟨l⟩:=cs;exact .agg (FG h1) (E7.ML h1)
 |_=>exact .I1 h1
def H3.out {O:Place}(h:tV v=true):H3 O v v:=by
 unfold tV at h;split at h
 ·exact .tuple (E7.ML h)
 ·exact(H3.cst (u:=v) (show bb (Ji v) (some v)=some v by rw[h];rfl)).2
def H3.K4 {O:Place}(h:H3 O v v'):K4 v'=K4 v:=by cases h<;>rfl
mutual
theorem H3.flat {O:Place}{v v':Value}(h:H3 O v v') (hf:flat v=true):v'=v:=by
 cases h with
 |I1 h=>rfl
 |ptr h=>simp[Ab.flat]at hf
 |slice h=>simp[Ab.flat]at hf
 |grow h hk hc=>simp[Ab.flat]at hf
 |Bl h=>simp[Ab.flat]at hf
 |func hy h1 h2=>simp[Ab.flat]at hf
 |map h=>simp[Ab.flat]at hf
 |yld h=>simp[Ab.flat]at hf
 |iface h=>rw[H3.flat h (by simpa[Ab.flat]using hf)]
 |agg hc h=>rw[E7.flat h (by simpa[Ab.flat,Ab.LB]using hf)]
 |tuple h=>rw[E7.flat h (by simpa[Ab.flat,Ab.LB]using hf)]
theorem E7.flat {O:Place}{l l':List Value}(h:E7 O l l') (hf:TV l=true):l'=l:=by
 cases h with
 |nil=>rfl
 | @cons v v' l l' h hs=>
   unfold TV at hf;cases hv:Ab.flat v with
   |false=>rw[hv]at hf;cases hf
   |true=>rw[hv]at hf;rw[H3.flat h hv,E7.flat hs hf]
end
def H3.cells {O:Place}(h:H3 O v v') (ht:Ab.Di v=false):E7 O (J6 v) v'.cells.toList/\∀ u∈J6 v,Ab.K4 u=true:=by
 cases h with
 |agg hc h=>exact⟨h,hc⟩
 | I1 hs=>
   cases v with
   |agg=>simp[Ab.I1]at hs
   |tuple=>simp[Ab.I1]at hs
   |_=>exact⟨.cons (.I1 hs) .nil,by intro u hu;simp[J6]at hu;subst hu;rfl⟩
 |ptr h=>exact⟨.cons (.ptr h) .nil,by intro u hu;simp[J6]at hu;subst hu;rfl⟩
 |slice h=>exact⟨.cons (.slice h) .nil,by intro u hu;simp[J6]at hu;subst hu;rfl⟩
 |grow h hk hm=>exact⟨.cons (.grow h hk hm) .nil,by intro u hu;simp[J6]at hu;subst hu;rfl⟩
 |Bl h=>exact⟨.cons (.Bl h) .nil,by intro u hu;simp[J6]at hu;subst hu;rfl⟩
 |func hy h1 h2=>exact⟨.cons (.func hy h1 h2) .nil,by intro u hu;simp[J6]at hu;subst hu;rfl⟩
 |map h=>exact⟨.cons (.map h) .nil,by intro u hu;simp[J6]at hu;subst hu;rfl⟩
 |yld h=>exact⟨.cons (.yld h) .nil,by intro u hu;simp[J6]at hu;subst hu;rfl⟩
 |iface h=>exact⟨.cons (.iface h) .nil,by intro u hu;simp[J6]at hu;subst hu;rfl⟩
 |tuple h=>simp[Ab.Di]at ht
end
section
variable {w w':World}{Z Z':St}{b c i off n N:Nat}{B:Blk}{q:BK}{arr:Array Value}{f:Nat×Nat}{P:Program}{v:Value}{cells vs:List Value}
def addr_add (c o n:Nat):(⟨c,o,none⟩:Addr).add n=⟨c,o+n,none⟩:=by
 unfold Addr.add;by_cases h:n=0
 ·subst h;rfl
 ·rw[z0z h]
def IJ {e:TypeId}(h:w.heap[c]? =some (.cells arr e f)):w.cell? ⟨c,i,none⟩=arr[i]? :=by
 simp[World.cell?,h]
structure Env where
 lo:Nat
 chk:Nat->Code->Bool
 w0:World
def Env.Low (B8:Env) (w:World):Prop:=B8.lo<=w.heap.size/\∀ c,c<B8.lo->w.heap[c]? =B8.w0.heap[c]?
def Env.Low.next {B8:Env}(h:B8.Low w) (hs:w.heap.size<=w'.heap.size) (hk:∀ c,c<B8.lo->w'.heap[c]? =w.heap[c]?):B8.Low w':=⟨AV h.1 hs,fun c hc=>by rw[hk c hc];exact h.2 c hc⟩
def Row (B8:Env) (O:Place) (w:World) (q:BK) (cells:List Value):Prop :=
 ∃ (arr:Array Value) (e:TypeId) (lo hi:Nat),w.heap[q.c]? =some (.cells arr e (lo,hi))/\arr.size=q.m/\q.o+cells.length<=q.m/\(B8.lo<=q.c->q.m<=lo\/hi<=lo) /\
  (∀ v∈cells,K4 v=true)/\∀ (i:Nat) (v:Value),cells[i]? =some v->∃ v',arr[q.o+i]? =some v'/\H3 O v v'
def Row.mono {B8:Env}{O O':Place}(hm:O.le O') (hw:w'.heap[q.c]? =w.heap[q.c]?) (h:Row B8 O w q cells):Row B8 O' w' q cells:=by
 obtain⟨arr,e,lo,hi,h1,h0,h2,h3,h4,h5⟩:=h;refine⟨arr,e,lo,hi,by rw[hw,h1],h0,h2,h3,h4,fun i v hv=>?_⟩;obtain⟨v',h6,h7⟩:=h5 i v hv;exact⟨v',h6,h7.mono hm⟩
def run_read {o:Nat}{e:TypeId}(h:w.heap[c]? =some (.cells arr e f)) (n:Nat) (hn:o+n<=arr.size):
  (loadCells ⟨c,o,none⟩ n).run P w= .ok (arr.toList.drop o |>.take n).toArray w:=by
 have:=run_loadCells_list (P:=P) (w:=w) ⟨c,o,none⟩ ((arr.toList.drop o).take n) (by
  intro j v hv;rw[addr_add,IJ h];have hj:j<n:=by
   rcases AW j n with hh|hh
   ·exact hh
   ·rw[List.getElem?_eq_none (by simp;omega)]at hv;cases hv
  rw[List.getElem?_take_of_lt hj,List.getElem?_drop]at hv;rw[<- Array.getElem?_toList];exact hv)
 rw[show((arr.toList.drop o).take n).length=n from by simp;omega]at this;exact this
def Row.read {B8:Env}{O:Place}{cs:List Value}(h:Row B8 O w q cells)(hs:sub cells off n=some cs):
  ∃ vs:List Value,(loadCells ⟨q.c,q.o+off,none⟩ n).run P w= .ok vs.toArray w/\E7 O cs vs/\∀ v∈cs,K4 v=true:=by
 obtain⟨arr,e,lo,hi,h1,h0,h2,h3,h4,h5⟩:=h;obtain⟨h6,rfl⟩:=sub_eq hs;refine⟨_,run_read h1 n om,?_,fun v hv=>h4 v (bJ (PF hv))⟩;apply E7.Fs
 ·simp;omega
 ·intro i v hv;have hi':i<n:=by
   rcases AW i n with hh|hh
   ·exact hh
   ·rw[List.getElem?_eq_none (by simp;omega)]at hv;cases hv
  rw[List.getElem?_take_of_lt hi',List.getElem?_drop]at hv ⊢;obtain⟨v',h7,h8⟩:=h5 _ _ hv;exact⟨v',by rw[Array.getElem?_toList,show q.o+off+i=q.o+(off+i)from by omega];exact h7,h8⟩
def LN (w:World) (c o:Nat):List Value->World
 | []=>w
 |v::vs=>LN (w.setCell ⟨c,o,none⟩ v) c (o+1) vs
def Fq (arr:Array Value) (o:Nat):List Value->Array Value
 | []=>arr
 |v::vs=>Fq (arr.setIfInBounds o v) (o+1) vs
def JK:∀ (vs:List Value) (arr:Array Value) (o:Nat),(Fq arr o vs).size=arr.size:=by
 intro vs;induction vs with
 |nil=>intro arr o;rfl
 |cons v vs ih=>intro arr o;rw[Fq,ih];simp
def LI:∀ (vs:List Value) (arr:Array Value) (o j:Nat),o+vs.length<=arr.size ->
  (Fq arr o vs)[j]? =if o<=j/\j<o+vs.length then vs[j-o]? else arr[j]? :=by
 intro vs;induction vs with
 |nil=>intro arr o j _;rw[Fq,z0z (by simp only[JQ];omega)]
 | cons v vs ih=>
   intro arr o j h;simp only[CE]at h;rw[Fq,ih _ _ _ (by simp;omega)];by_cases h1:o+1<=j/\j<o+1+vs.length
   ·rw[z1z h1,z1z (by simp;omega),show j-o=(j-(o+1))+1 from by omega,List.getElem?_cons_succ]
   ·rw[z0z h1,Array.getElem?_setIfInBounds];by_cases h2:o=j
    ·subst h2;rw[z1z rfl,z1z om,z1z (by simp)];simp
    ·rw[z0z h2,z0z (by simp;omega)]
def MU {e:TypeId}(h:w.heap[c]? =some (.cells arr e f)):
  (w.setCell ⟨c,i,none⟩ v).heap[c]? =some (.cells (arr.setIfInBounds i v) e f):=by
 simp[World.setCell,Array.getElem?_modify,h]
def PH {c':Nat}(h:c'≠c):(w.setCell ⟨c,i,none⟩ v).heap[c']? =w.heap[c']? :=by
 simp only[World.setCell,Array.getElem?_modify];rw[z0z (by simpa using fun hh:c=c'=>h hh.symm)]
structure Outside (w w':World):Prop where
 os:w'.os=w.os
 tape:w'.tape=w.tape
 output:w'.output=w.output
def Outside.refl (w:World):Outside w w:=⟨rfl,rfl,rfl⟩
def Outside.trans {a b c:World}(h:Outside a b) (k:Outside b c):Outside a c:=⟨k.os.trans h.os,k.tape.trans h.tape,k.output.trans h.output⟩
def QO:∀ (vs:List Value) (w:World) (c o:Nat) (arr:Array Value) (e:TypeId) (f:Nat×Nat),w.heap[c]? =some (.cells arr e f) ->
  (LN w c o vs).heap[c]? =some (.cells (Fq arr o vs) e f)/\(∀ c',c'≠c->(LN w c o vs).heap[c']? =w.heap[c']?)/\(LN w c o vs).heap.size=w.heap.size/\Outside w (LN w c o vs):=by
 intro vs;induction vs with
 |nil=>intro w c o arr e f h;exact⟨h,fun _ _=>rfl,rfl,.refl _⟩
 | cons v vs ih=>
   intro w c o arr e f h;obtain⟨h1,h2,h3,h4⟩:=ih (w.setCell ⟨c,o,none⟩ v) c (o+1) _ e f (MU h);exact⟨h1,fun c' hc=>by rw[LN,h2 c' hc,PH hc],by rw[LN,h3];simp,Outside.trans (b:=w.setCell ⟨c,o,none⟩ v) ⟨rfl,rfl,rfl⟩ h4⟩
def MV (h:K4 v=true):v.oneCell'=true:=by cases v<;>first|rfl|simp[K4]at h
def JR (c o:Nat):∀ (vs:List Value) (w:World) (i:Nat) (arr:Array Value) (e:TypeId) (lo hi:Nat),w.heap[c]? =some (.cells arr e (lo,hi)) ->
  o+i+vs.length<=arr.size->(arr.size<=lo\/hi<=lo)->(∀ v∈vs,K4 v=true)->(storeCells ⟨c,o,none⟩ vs i).run P w= .ok () (LN w c (o+i) vs):=by
 intro vs;induction vs with
 |nil=>intro w i arr e lo hi _ _ _ _;rfl
 | cons v vs ih=>
   intro w i arr e lo hi h h1 h2 h3;simp only[CE]at h1;unfold storeCells;rw[Sem.run_bind,addr_add,run_store _ _ _ _ _ (MV (h3 v (by simp)))];have hc:w.cell? ⟨c,o+i,none⟩=some arr[o+i]:=by rw[IJ h];exact Array.getElem?_eq_getElem om
   rw[hc];have hf:w.frozen? ⟨c,o+i,none⟩=false:=by
    simp only[World.frozen?,h];rcases h2 with h2|h2
    ·simp;omega
    ·simp;omega
   simp only[hf,IH,Gc,Result.andThen_ok];rw[ih (w.setCell ⟨c,o+i,none⟩ v) (i+1) _ e lo hi (MU h) (by simp;omega) (by simpa using h2) (fun v hv=>h3 v (by simp[hv]))];rfl
inductive Entries (O:Place):List Value->List MapEntry->Prop
 |nil:Entries O [] []
 |cons {k v:Value}{e:MapEntry}{l:List Value}{es:List MapEntry} (hk:flat k=true) (he:e.key=k) (hv:H3 O v e.val) (h:Entries O l es):Entries O (k::v::l) (e::es)
def Entries.mono {O O':Place}(hm:O.le O'){l:List Value}{es:List MapEntry}(h:Entries O l es):Entries O' l es:=by
 induction h with
 |nil=>exact .nil
 |cons hk he hv _ ih=>exact .cons hk he (hv.mono hm) ih
def Fv (O:Place) (w:World) (c:Nat) (cells:List Value):Prop:=∃ (es:Array MapEntry) (clock:Nat),w.heap[c]? =some (.map es clock)/\Entries O cells es.toList
structure HJ (B8:Env) (O:Place) (w:World) (c:Nat) (fr:Fr) (ps:List Nat) (assign body:Code) (st:LoopState) (R8:Option Code) (r:Loop):Prop where
 Ux:w.heap[c]? =some (.loop r)
 hst:r.state=st
 XO:r.pending=R8
 hps:r.params.toList=ps
 has:r.assign=assign
 hbd:r.body=body
 hfr:∀ t v,fr.get t=some v->∃ v',r.tmps[t]? =some v'/\H3 O v v'
 hlt:∀ p∈ps,p<r.tmps.size
 Fu:∃ n,n<=r.tmps.size/\B8.chk n assign=true/\B8.chk n body=true
def HJ.mono {B8:Env}{O O':Place}{w w':World}{c:Nat}{fr:Fr}{ps:List Nat}{assign body:Code}{st:LoopState}{R8:Option Code}{r:Loop}(hm:O.le O') (hw:w'.heap[c]? =w.heap[c]?)
  (h:HJ B8 O w c fr ps assign body st R8 r):HJ B8 O' w' c fr ps assign body st R8 r :=
 ⟨by rw[hw];exact h.Ux,h.hst,h.XO,h.hps,h.has,h.hbd,fun t v ht=>let ⟨v',h1,h2⟩:=h.hfr t v ht;⟨v',h1,h2.mono hm⟩,h.hlt,h.Fu⟩
def Typed (w:World) (q:BK) (t:Option TypeId):Prop:=∀ x,t=some x->q.o=0/\∃ arr f,w.heap[q.c]? =some (.cells arr x f)
def Typed.none:Typed w q none:=fun _ h=>by cases h
def Typed.mono {t:Option TypeId}(hw:w'.heap[q.c]? =w.heap[q.c]?) (h:Typed w q t):Typed w' q t:=fun x hx=>by rw[hw];exact h x hx
def FR (B8:Env) (O:Place) (w:World) (q:BK) (B:Blk):Prop:=match B.kind with
 | .row t=>Row B8 O w q B.cells/\Typed w q t
 | .map=>Fv O w q.c B.cells
 | .loop fr ps assign body st R8=>∃ r,HJ B8 O w q.c fr ps assign body st R8 r
def FR.mono {B8:Env}{O O':Place}(hm:O.le O') (hw:w'.heap[q.c]? =w.heap[q.c]?) (h:FR B8 O w q B):FR B8 O' w' q B:=by
 unfold FR at h ⊢;split
 ·rename_i hk;rw[hk]at h;exact⟨Row.mono hm hw h.1,h.2.mono hw⟩
 ·rename_i hk;rw[hk]at h;obtain⟨es,clock,h1,h2⟩:=h;exact⟨es,clock,by rw[hw,h1],h2.mono hm⟩
 ·rename_i hk;rw[hk]at h;obtain⟨r,h⟩:=h;exact⟨r,h.mono hm hw⟩
def FR.row {B8:Env}{O:Place}{t:Option TypeId}(hk:B.kind= .row t) (h:Row B8 O w q B.cells) (ht:Typed w q t:=by exact Typed.none):FR B8 O w q B:=by
 unfold FR;rw[hk];exact⟨h,ht⟩
def FR.map {B8:Env}{O:Place}(hk:B.kind= .map) (h:Fv O w q.c B.cells):FR B8 O w q B:=by
 unfold FR;rw[hk];exact h
def FR.loop {B8:Env}{O:Place}{w:World}{q:BK}{B:Blk}{fr:Fr}{ps:List Nat}{assign body:Code}{st:LoopState}{R8:Option Code}{r:Loop}(hk:B.kind= .loop fr ps assign body st R8)
  (h:HJ B8 O w q.c fr ps assign body st R8 r):FR B8 O w q B:=by
 unfold FR;rw[hk];exact⟨r,h⟩
structure Rel (B8:Env) (O:Place) (Z:St) (w:World):Prop where
 fresh:∀ b,Z.n<=b->Z.h.get b=none
 Hm:∀ b q B,O b=some q->Z.blk b=some B->FR B8 O w q B
 dom:∀ b q,O b=some q->q.c<w.heap.size
 own:∀ b q B,O b=some q->Z.blk b=some B->B.own=true->B8.lo<=q.c
 sep:∀ b q B b' q',O b=some q->Z.blk b=some B->B.own=true->b'≠b->O b'=some q'->(Z.n<=b'\/∃ B',Z.blk b'=some B')->q'.c≠q.c
 low:B8.Low w
def AH (h:Z.blk b=some B):Z.h.get b=some B/\B.live=true:=by
 obtain⟨B',h1,h2⟩:=A8 h;obtain⟨h3,h4⟩:=G7 h2;cases h4;exact⟨h1,h3⟩
def NX (h:Z.h.get b=some B) (hl:B.live=true):Z.blk b=some B:=by
 show ob (Z.h.get b) (fun B=>bb B.live (some B))=_;rw[h];show bb B.live (some B)=_;rw[hl];rfl
def y9 (h:Z.GK b=some B):Z.blk b=some B/\∃ t,B.kind= .row t:=by
 obtain⟨B',h1,h2⟩:=A8 h;obtain⟨cells,live,own,ver,kind⟩:=B';cases kind with
 |row=>cases h2;exact⟨h1,_,rfl⟩
 |map=>cases h2
 |loop=>cases h2
def QP (h:Z.Ss b=some B):Z.blk b=some B/\B.kind= .map:=by
 obtain⟨B',h1,h2⟩:=A8 h;obtain⟨cells,live,own,ver,kind⟩:=B';cases kind with
 |row=>cases h2
 |map=>cases h2;exact⟨h1,rfl⟩
 |loop=>cases h2
def Rel.row {B8:Env}{O:Place}(h:Rel B8 O Z w) (b:Nat) (q:BK) (B:Blk) (hb:O b=some q) (hB:Z.GK b=some B):Row B8 O w q B.cells:=by
 obtain⟨h1,t,h2⟩:=y9 hB;have:=h.Hm b q B hb h1;unfold FR at this;rw[h2]at this;exact this.1
def Rel.typed {B8:Env}{O:Place}(h:Rel B8 O Z w){t:Option TypeId}(hb:O b=some q) (hB:Z.blk b=some B) (hk:B.kind= .row t):Typed w q t:=by
 have:=h.Hm b q B hb hB;unfold FR at this;rw[hk]at this;exact this.2
def Rel.map {B8:Env}{O:Place}(h:Rel B8 O Z w) (b:Nat) (q:BK) (B:Blk) (hb:O b=some q) (hB:Z.Ss b=some B):Fv O w q.c B.cells:=by
 obtain⟨h1,h2⟩:=QP hB;have:=h.Hm b q B hb h1;unfold FR at this;rw[h2]at this;exact this
def Rel.lt {B8:Env}{O:Place}(h:Rel B8 O Z w)(hb:Z.blk b=some B):b<Z.n:=by
 rcases AW b Z.n with hh|hh
 ·exact hh
 ·exact absurd (AH hb).1 (by rw[h.fresh b hh];simp)
structure X9 (O:Place) (Z:St) (w:World) (O':Place) (Z':St) (w':World):Prop where
 ext:∀ b,b<Z.n\/Z'.n<=b->O' b=O b
 n:Z.n<=Z'.n
 size:w.heap.size<=w'.heap.size
 H4:∀ c,c<w.heap.size->(∀ b q B,O b=some q->q.c=c->Z.blk b=some B->B.own=false)->w'.heap[c]? =w.heap[c]?
 owned:∀ b q B,O' b=some q->Z'.blk b=some B->q.c<w.heap.size->∃ b₀ q₀ B₀,O b₀=some q₀/\q₀.c=q.c/\Z.blk b₀=some B₀/\(B.own=true->B₀.own=true)
 out:Outside w w'
 same:∀ b,b<Z.n->O b=none->Z'.h.get b=Z.h.get b
def X9.refl (O:Place) (Z:St) (w:World):X9 O Z w O Z w :=
 ⟨fun _ _=>rfl,BF _,BF _,fun _ _ _=>rfl,fun b q B h1 h2 _=>⟨b,q,B,h1,rfl,h2,fun h=>h⟩,.refl _,fun _ _ _=>rfl⟩
def X9.trans {O O' O'':Place}{Z'':St}{w'':World}(h:X9 O Z w O' Z' w') (k:X9 O' Z' w' O'' Z'' w''):X9 O Z w O'' Z'' w'':=by
 have hn:=h.n;have kn:=k.n;refine⟨fun b hb=>?_,AV h.n k.n,AV h.size k.size,fun c hc ho=>?_,fun b q B h1 h2 hc=>?_,h.out.trans k.out,fun b h1 h2=>?_⟩
 ·rw[k.ext b om,h.ext b om]
 ·rw[k.H4 c (z5z hc h.size) ?_,h.H4 c hc ho];intro b q B h1 hq h2;cases hB:B.own with
  |false=>rfl
  | true=>
    obtain⟨b₀,q₀,B₀,k1,k2,k3,k4⟩:=h.owned b q B h1 h2 om;have k5:=k4 hB;rw[ho b₀ q₀ B₀ k1 om k3]at k5;cases k5
 ·obtain⟨b₀,q₀,B₀,k1,k2,k3,k4⟩:=k.owned b q B h1 h2 (z5z hc h.size);obtain⟨b₁,q₁,B₁,j1,j2,j3,j4⟩:=h.owned b₀ q₀ B₀ k1 k3 om;exact⟨b₁,q₁,B₁,j1,om,j3,fun hO=>j4 (k4 hO)⟩
 ·rw[k.same b om (by rw[h.ext b (.inl h1)];exact h2),h.same b h1 h2]
def Cc (O:Place) (n N:Nat):Prop:=∀ b,n<=b->b<N->O b=none
def X9.le {O O':Place}(h:X9 O Z w O' Z' w')(hf:Cc O Z.n N) (hN:Z'.n<=N):O.le O':=by
 intro b p hp;rw[h.ext b ?_]
 ·exact hp
 ·rcases AW b Z.n with hh|hh
  ·exact .inl hh
  ·rcases AW b Z'.n with hh'|hh'
   ·rw[hf b hh om]at hp;cases hp
   ·exact .inr hh'
def X9.free {O O':Place}(h:X9 O Z w O' Z' w')(hf:Cc O Z.n N):Cc O' Z'.n N:=by
 intro b h1 h2;rw[h.ext b (.inr h1)];exact hf b (AV h.n h1) h2
def Place.put (O:Place) (n:Nat) (q:BK):Place:=fun b=>if b=n then some q else O b
def Place.O7 (O:Place) (n:Nat) (q:BK):(O.put n q) n=some q:=by unfold Place.put;rw[z1z rfl]
def Place.Ae (O:Place)(q:BK) (h:b≠n):(O.put n q) b=O b:=by unfold Place.put;rw[z0z h]
def Place.HY {O:Place}(q:BK) (hf:O n=none):O.le (O.put n q):=by
 intro b p hp;by_cases hb:b=n
 ·subst hb;rw[hf]at hp;cases hp
 ·rw[Place.Ae _ _ hb];exact hp
def Su (Z:St) (cs:List Value) (k:Kind):(Z.Dd cs k).blk Z.n=some ⟨cs,true,true,0,k⟩:=NX (Tr.get_set_same _ _ _) rfl
def Dj (Z:St) (cs:List Value) (k:Kind)(h:b≠Z.n):(Z.Dd cs k).blk b=Z.blk b:=by
 show ob ((Z.h.set Z.n _).get b) _=_;rw[Tr.L7 _ _ h];rfl
def VE (Z:St) (cs:List Value) (t:Option TypeId:=none):(Z.new cs t).blk Z.n=some ⟨cs,true,true,0,.row t⟩:=NX (Tr.get_set_same _ _ _) rfl
def LO (Z:St) (cs:List Value){t:Option TypeId}(h:b≠Z.n):(Z.new cs t).blk b=Z.blk b:=by
 show ob ((Z.h.set Z.n _).get b) _=_;rw[Tr.L7 _ _ h];rfl
def Rel.Af5 {B8:Env}{O:Place}{Z:St}{w w':World}(h:Rel B8 O Z w) (hf:O Z.n=none){cs:List Value}{k:Kind}{q:BK}(FT:FR B8 (O.put Z.n q) w' q ⟨cs,true,true,0,k⟩)
  (hs:w.heap.size<=w'.heap.size) (hold:∀ c,c<w.heap.size->c≠q.c->w'.heap[c]? =w.heap[c]?)
  (hq:q.c<w'.heap.size) (hb:B8.lo<=q.c) (hno:∀ b q' ,O b=some q'->(Z.n<=b\/∃ B,Z.blk b=some B)->q'.c≠q.c) :
  Rel B8 (O.put Z.n q) (Z.Dd cs k) w':=by
 have hle:=Place.HY q hf;have Dk:=Place.O7 O Z.n q;have hne:∀ b,b≠Z.n->(O.put Z.n q) b=O b:=fun b hb=>Place.Ae _ _ hb;refine⟨?_,?_,?_,?_,?_,?_⟩
 ·intro b hb;change Z.n+1<=b at hb;show(Z.h.set Z.n _).get b=none;rw[Tr.L7 _ _ om];exact h.fresh b om
 ·intro b q' B hb hB;by_cases hbn:b=Z.n
  ·subst hbn;rw[Dk]at hb;cases hb;rw[Su]at hB;cases hB;exact FT
  ·rw[hne b hbn]at hb;rw[Dj _ _ _ hbn]at hB;exact(h.Hm b q' B hb hB).mono hle (hold q'.c (h.dom b q' hb) (hno b q' hb (.inr ⟨B,hB⟩)))
 ·intro b q' hb;by_cases hbn:b=Z.n
  ·subst hbn;rw[Dk]at hb;cases hb;exact hq
  ·rw[hne b hbn]at hb;have:=h.dom b q' hb;omega
 ·intro b q' B hb' hB hO;by_cases hbn:b=Z.n
  ·subst hbn;rw[Dk]at hb';cases hb';exact hb
  ·rw[hne b hbn]at hb';rw[Dj _ _ _ hbn]at hB;exact h.own b q' B hb' hB hO
 ·intro b q1 B b' q2 hb1 hB hO hbb hb2 hl;by_cases hbn:b=Z.n
  ·subst hbn;rw[Dk]at hb1;cases hb1;rw[hne b' hbb]at hb2;rw[Dj _ _ _ hbb]at hl;refine hno b' q2 hb2 ?_;rcases hl with hl|hl
   ·change Z.n+1<=b' at hl;exact .inl om
   ·exact .inr hl
  ·rw[hne b hbn]at hb1;rw[Dj _ _ _ hbn]at hB;by_cases jK:b'=Z.n
   ·subst jK;rw[Dk]at hb2;cases hb2;exact fun e=>hno b q1 hb1 (.inr ⟨B,hB⟩) e.symm
   ·rw[hne b' jK]at hb2;rw[Dj _ _ _ jK]at hl;refine h.sep b q1 B b' q2 hb1 hB hO hbb hb2 ?_;rcases hl with hl|hl
    ·change Z.n+1<=b' at hl;exact .inl om
    ·exact .inr hl
 ·exact h.low.next hs fun c hc=>hold c (z5z hc h.low.1) om
def Rel.put {B8:Env}{O:Place}{Z:St}{w w':World}(h:Rel B8 O Z w) (hf:O Z.n=none){cs:List Value}{t:Option TypeId}{q:BK}(FT:Row B8 (O.put Z.n q) w' q cs)
  (hs:w.heap.size<=w'.heap.size) (hold:∀ c,c<w.heap.size->c≠q.c->w'.heap[c]? =w.heap[c]?)
  (hq:q.c<w'.heap.size) (hb:B8.lo<=q.c) (hno:∀ b q' ,O b=some q'->(Z.n<=b\/∃ B,Z.blk b=some B)->q'.c≠q.c) (ht:Typed w' q t:=by exact Typed.none) :
  Rel B8 (O.put Z.n q) (Z.new cs t) w':=h.Af5 hf (.row rfl FT ht) hs hold hq hb hno
def Rel.new {B8:Env}{O:Place}{Z:St}{w w':World}(h:Rel B8 O Z w) (hf:O Z.n=none){cs:List Value}{t:Option TypeId}{arr:Array Value}{e:TypeId}{lo hi:Nat}
  (hs:w'.heap.size=w.heap.size+1) (LL:w'.heap[w.heap.size]? =some (.cells arr e (lo,hi))) (hold:∀ c,c<w.heap.size->w'.heap[c]? =w.heap[c]?)
  (ho:Outside w w') (hfz:arr.size<=lo\/hi<=lo) (hc:∀ v∈cs,K4 v=true) (hv:∃ vs more,arr.toList=vs++more/\E7 O cs vs) (ht:∀ x,t=some x->x=e:=by exact fun _ h=>by cases h) :
  Rel B8 (O.put Z.n ⟨w.heap.size,0,arr.size⟩) (Z.new cs t) w'/\X9 O Z w (O.put Z.n ⟨w.heap.size,0,arr.size⟩) (Z.new cs t) w':=by
 have hle:=Place.HY ⟨w.heap.size,0,arr.size⟩ hf;refine⟨h.put hf ?_ om (fun c hc _=>hold c hc) (by show w.heap.size<_;omega) h.low.1 (fun b q' hb _=>by have:=h.dom b q' hb;show q'.c≠w.heap.size;omega) (fun x hx=>by cases ht x hx;exact⟨rfl,_,_,LL⟩),⟨?_,?_,?_,?_,?_,ho,fun b h1 _=>Tr.L7 _ _ om⟩⟩
 ·obtain⟨vs,more,h1,h2⟩:=hv;have hl:=h2.length;refine⟨arr,e,lo,hi,LL,rfl,?_,fun _=>hfz,hc,fun i v hi'=>?_⟩
  ·show 0+cs.length<=arr.size;rw[<- PE,h1];simp;omega
  ·obtain⟨v',h3,h4⟩:=h2.get hi';refine⟨v',?_,h4.mono hle⟩;show arr[0+i]? =_;rw[<- Array.getElem?_toList,h1,HC,List.getElem?_append_left (List.getElem?_eq_some_iff.1 h3).1];exact h3
 ·intro b hb;refine Place.Ae _ _ ?_;rcases hb with hb|hb
  ·omega
  ·change Z.n+1<=b at hb;omega
 ·show Z.n<=Z.n+1;omega
 ·omega
 ·intro c hc' _;exact hold c hc'
 ·intro b q B hb hB hcs;by_cases hbn:b=Z.n
  ·subst hbn;rw[Place.O7]at hb;cases hb;change w.heap.size<w.heap.size at hcs;omega
  ·rw[Place.Ae _ _ hbn]at hb;rw[LO _ _ hbn]at hB;exact⟨b,q,B,hb,rfl,hB,fun h=>h⟩
def JS (h:Z.write b off vs=some Z'):
  ∃ B cs,Z.GK b=some B/\B.own=true/\off+vs.length<=B.cells.length/\cs=B.cells.take off++vs++B.cells.drop (off+vs.length)/\Z'=⟨Z.h.set b ⟨cs,true,true,B.ver+1,B.kind⟩,Z.n⟩:=by
 obtain⟨B,h1,h2⟩:=A8 h;obtain⟨h3,h4⟩:=G7 h2;obtain⟨cs,h5,h6⟩:=A8 h4;cases h6;obtain⟨h7,h8⟩:=TR _ _ _ _ h5;exact⟨B,cs,h1,h3,h7,h8,rfl⟩
def VF (Z:St) (b:Nat) (cs:List Value) (k:Nat) (K:Kind):(⟨Z.h.set b ⟨cs,true,true,k,K⟩,Z.n⟩:St).blk b=some ⟨cs,true,true,k,K⟩:=NX (Tr.get_set_same _ _ _) rfl
def CF (Z:St){b':Nat}(B:Blk) (h:b'≠b):(⟨Z.h.set b B,Z.n⟩:St).blk b'=Z.blk b':=by
 show ob ((Z.h.set b B).get b') _=_;rw[Tr.L7 _ _ h];rfl
def QC {α:Type}{l vs:List α}(h:off+vs.length<=l.length) (i:Nat):
  (l.take off++vs++l.drop (off+vs.length))[i]? =if off<=i/\i<off+vs.length then vs[i-off]? else l[i]? :=by
 rw[PI];by_cases h1:i<off
 ·rw[z0z om,List.getElem?_append_left (by simp;omega),List.getElem?_take_of_lt h1]
 ·rw[List.getElem?_append_right (by simp;omega)];simp only[IK];rw[show min off l.length=off from by omega];by_cases h2:i<off+vs.length
  ·rw[z1z om,List.getElem?_append_left om]
  ·rw[z0z om,List.getElem?_append_right om,List.getElem?_drop];congr 1;omega
def E7.fJ {O:Place}{vs':List Value}(hr:E7 O vs vs') (hc:∀ v∈vs,K4 v=true):∀ v∈vs',K4 v=true:=by
 intro v hv;have hl:=hr.length;obtain⟨i,hi'⟩:=List.getElem?_of_mem hv;have hi2:i<vs.length:=by have:=(List.getElem?_eq_some_iff.1 hi').1;omega
 obtain⟨v',k1,k2⟩:=hr.get (List.getElem?_eq_getElem hi2);rw[hi']at k1;cases k1;rw[k2.K4];exact hc _ (List.getElem_mem hi2)
def Rel.write {B8:Env}{O:Place}{Z Z':St}{w:World}(h:Rel B8 O Z w){b off:Nat}{q:BK}(hb:O b=some q){vs vs':List Value}(hw:Z.write b off vs=some Z')
  (hr:E7 O vs vs') (hc:∀ v∈vs,K4 v=true) :
  (∀ (P:Program),(storeCells ⟨q.c,q.o+off,none⟩ vs').run P w= .ok () (LN w q.c (q.o+off) vs'))/\Rel B8 O Z' (LN w q.c (q.o+off) vs')/\X9 O Z w O Z' (LN w q.c (q.o+off) vs'):=by
 obtain⟨B,cs,hr1,h2,h3,h4,rfl⟩:=JS hw;obtain⟨arr,e,lo,hi,r1,r0,r2,r3,r4,r5⟩:=h.row b q B hb hr1;obtain⟨h1,tk,hk⟩:=y9 hr1;have r3':=r3 (h.own b q B hb h1 h2);have hl:=hr.length;have hc':=hr.fJ hc;obtain⟨p1,p2,p3,p4⟩:=QO vs' w q.c (q.o+off) arr e (lo,hi) r1;refine⟨fun P=>?_,⟨?_,?_,?_,?_,?_,?_⟩,⟨?_,?_,?_,?_,?_,p4,fun b' _ hn=>Tr.L7 _ _ (by intro he;subst he;rw[hb]at hn;cases hn)⟩⟩
 ·exact JR q.c (q.o+off) vs' w 0 arr e lo hi r1 om om hc'
 ·intro b' hb';have:=h.lt h1;change Z.n<=b' at hb';show(Z.h.set b _).get b'=none;rw[Tr.L7 _ _ om];exact h.fresh b' hb'
 ·intro b' q' B' hb' hB';by_cases hbb:b'=b
  ·subst hbb;rw[hb]at hb';cases hb';rw[VF]at hB';cases hB';subst h4
   refine .row hk ⟨_,e,lo,hi,p1,by rw[JK];exact r0,?_,r3,?_,?_⟩ (fun x hx=>by
    obtain⟨o1,a0,f0,h0⟩:=h.typed hb h1 hk x hx;rw[r1]at h0;cases h0;exact⟨o1,_,_,p1⟩)
   ·simp;omega
   ·intro v hv;rcases HX.1 hv with hv|hv
    ·rcases HX.1 hv with hv|hv
     ·exact r4 v (PF hv)
     ·exact hc v hv
    ·exact r4 v (bJ hv)
   ·intro i v hv;rw[QC h3]at hv;rw[LI _ _ _ _ om];by_cases hi':off<=i/\i<off+vs.length
    ·rw[z1z hi']at hv;obtain⟨v',k1,k2⟩:=hr.get hv;exact⟨v',by rw[z1z om,show q.o+i-(q.o+off)=i-off from by omega];exact k1,k2⟩
    ·rw[z0z hi']at hv;obtain⟨v',k1,k2⟩:=r5 i v hv;exact⟨v',by rw[z0z om];exact k1,k2⟩
  ·rw[CF _ _ hbb]at hB';exact(h.Hm b' q' B' hb' hB').mono (Place.le_refl _) (p2 q'.c (h.sep b q B b' q' hb h1 h2 hbb hb' (.inr ⟨B',hB'⟩)))
 ·intro b' q' hb';rw[p3];exact h.dom b' q' hb'
 ·intro b' q' B' hb' hB' hO;by_cases hbb:b'=b
  ·subst hbb;rw[hb]at hb';cases hb';exact h.own b' q B hb h1 h2
  ·rw[CF _ _ hbb]at hB';exact h.own b' q' B' hb' hB' hO
 ·intro b1 q1 B1 b2 q2 k1 k2 k3 k4 k5 k6;have hl1:∃ B0,Z.blk b1=some B0/\B0.own=true:=by
   by_cases hbb:b1=b
   ·subst hbb;exact⟨B,h1,h2⟩
   ·rw[CF _ _ hbb]at k2;exact⟨B1,k2,k3⟩
  obtain⟨B0,j1,j2⟩:=hl1;refine h.sep b1 q1 B0 b2 q2 k1 j1 j2 k4 k5 ?_;rcases k6 with k6|⟨B2,k6⟩
  ·exact .inl k6
  ·by_cases hbb:b2=b
   ·subst hbb;exact .inr ⟨B,h1⟩
   ·rw[CF _ _ hbb]at k6;exact .inr ⟨B2,k6⟩
 ·exact h.low.next (by rw[p3];exact BF _) fun c' hc=>p2 c' fun he=>by have:=h.own b q B hb h1 h2;omega
 ·intro _ _;rfl
 ·exact BF _
 ·omega
 ·intro c' _ hno;refine p2 c' fun he=>?_;rw[hno b q B hb he.symm h1]at h2;cases h2
 ·intro b' q' B' hb' hB' _;by_cases hbb:b'=b
  ·subst hbb;rw[hb]at hb';cases hb';exact⟨b',q,B,hb,rfl,h1,fun _=>h2⟩
  ·rw[CF _ _ hbb]at hB';exact⟨b',q',B',hb',rfl,hB',fun h=>h⟩
def Gi (h:Z.kill b=some Z'):∃ B,Z.GK b=some B/\B.own=true/\Z'=⟨Z.h.set b ⟨[],false,true,B.ver+1,.row none⟩,Z.n⟩:=by
 obtain⟨B,h1,h2⟩:=A8 h;obtain⟨h3,h4⟩:=G7 h2;cases h4;exact⟨B,h1,h3,rfl⟩
def FH (Z:St) (b k:Nat):(⟨Z.h.set b ⟨[],false,true,k,.row none⟩,Z.n⟩:St).blk b=none:=by
 show ob ((Z.h.set b _).get b) _=_;rw[Tr.get_set_same];rfl
def Rel.kill {B8:Env}{O:Place}(h:Rel B8 O Z w)(hb:∃ q,O b=some q) (hk:Z.kill b=some Z'):Rel B8 O Z' w/\X9 O Z w O Z' w:=by
 obtain⟨B,hr1,h2,rfl⟩:=Gi hk;have h1:=(y9 hr1).1;have old:∀ b' B',(⟨Z.h.set b ⟨[],false,true,B.ver+1,.row none⟩,Z.n⟩:St).blk b'=some B'->Z.blk b'=some B':=by
  intro b' B' hB';by_cases hbb:b'=b
  ·subst hbb;rw[FH]at hB';cases hB'
  ·rw[CF _ _ hbb]at hB';exact hB'
 refine⟨⟨?_,fun b' q' B' hb' hB'=>h.Hm b' q' B' hb' (old _ _ hB'),h.dom,fun b' q' B' hb' hB'=>h.own b' q' B' hb' (old _ _ hB'),?_,h.low⟩,⟨fun _ _=>rfl,BF _,BF _,fun _ _ _=>rfl,?_,.refl _,fun b' _ hn=>Tr.L7 _ _ (by intro he;subst he;obtain⟨q,hq⟩:=hb;rw[hq]at hn;cases hn)⟩⟩
 ·intro b' hb';have:=h.lt h1;change Z.n<=b' at hb';show(Z.h.set b _).get b'=none;rw[Tr.L7 _ _ om];exact h.fresh b' hb'
 ·intro b1 q1 B1 b2 q2 k1 k2 k3 k4 k5 k6;refine h.sep b1 q1 B1 b2 q2 k1 (old _ _ k2) k3 k4 k5 ?_;rcases k6 with k6|⟨B2,k6⟩
  ·exact .inl k6
  ·exact .inr ⟨B2,old _ _ k6⟩
 ·intro b' q' B' hb' hB' _;exact⟨b',q',B',hb',rfl,old _ _ hB',fun h=>h⟩
def Rel.grow {B8:Env}{O:Place}{Z Z':St}{w:World}(h:Rel B8 O Z w) (hf:O Z.n=none){b off:Nat}{q:BK}(hb:O b=some q){old new W6:List Value}
  (hr:Z.read b off old.length=some old) (hk:Z.kill b=some Z') (hn:E7 O new W6) (hc:∀ v∈new,K4 v=true) (hm:q.o+off+old.length+new.length<=q.m)
  {t:Option TypeId} (ht:∀ x,t=some x->off=0/\q.o=0/\∃ arr f,w.heap[q.c]? =some (.cells arr x f):=by exact fun _ h=>by cases h) :
  (∀ (P:Program),(storeCells ⟨q.c,q.o+off+old.length,none⟩ W6).run P w= .ok () (LN w q.c (q.o+off+old.length) W6)) /\
  Rel B8 (O.put Z.n ⟨q.c,q.o+off,q.m⟩) (Z'.new (old++new) t) (LN w q.c (q.o+off+old.length) W6) /\
  X9 O Z w (O.put Z.n ⟨q.c,q.o+off,q.m⟩) (Z'.new (old++new) t) (LN w q.c (q.o+off+old.length) W6):=by
 obtain⟨hk1,hk2⟩:=h.kill ⟨q,hb⟩ hk;obtain⟨B,hr1,h2,rfl⟩:=Gi hk;have h1:=(y9 hr1).1;obtain⟨B',hB',Gg⟩:=A8 hr;rw[hr1]at hB';cases hB';obtain⟨hs1,hs2⟩:=sub_eq Gg;obtain⟨arr,e,lo,hi,r1,r0,r2,r3,r4,r5⟩:=h.row b q B hb hr1;have hl:=hn.length;have r3':=r3 (h.own b q B hb h1 h2);have hc':=hn.fJ hc;have hle:=Place.HY (⟨q.c,q.o+off,q.m⟩:BK) hf;have hold:∀ v∈old,K4 v=true:=by
  intro v hv;rw[hs2]at hv;exact r4 v (bJ (PF hv))
 obtain⟨p1,p2,p3,p4⟩:=QO W6 w q.c (q.o+off+old.length) arr e (lo,hi) r1;refine⟨fun P=>JR q.c (q.o+off+old.length) W6 w 0 arr e lo hi r1 om om hc',?_,⟨?_,?_,?_,?_,?_,p4,fun b' hlt hn=>?_⟩⟩
 ·refine hk1.put (Z:=⟨Z.h.set b _,Z.n⟩) hf (q:=⟨q.c,q.o+off,q.m⟩) ?_ om (fun c _ hcc=>p2 c hcc) (by rw[p3];exact h.dom b q hb) (h.own b q B hb h1 h2) ?_ (fun x hx=>by
    obtain⟨o1,o2,a0,f0,h0⟩:=ht x hx;rw[r1]at h0;cases h0;exact⟨by show q.o+off=0;omega,_,_,p1⟩)
  ·refine⟨_,e,lo,hi,p1,by rw[JK];exact r0,?_,r3,?_,?_⟩
   ·show q.o+off+(old++new).length<=q.m;rw[Dc];omega
   ·intro v hv;rcases HX.1 hv with hv|hv
    ·exact hold v hv
    ·exact hc v hv
   ·intro i v hv;show ∃ v',(Fq arr (q.o+off+old.length) W6)[q.o+off+i]? =some v'/\_;rw[LI _ _ _ _ om];by_cases hi':i<old.length
    ·rw[List.getElem?_append_left hi']at hv;rw[z0z om];rw[hs2]at hv;rw[List.getElem?_take_of_lt hi',List.getElem?_drop]at hv;obtain⟨v',k1,k2⟩:=r5 _ v hv;exact⟨v',by rw[show q.o+off+i=q.o+(off+i)from by omega];exact k1,k2.mono hle⟩
    ·rw[List.getElem?_append_right om]at hv;obtain⟨v',k1,k2⟩:=hn.get hv;have:=(List.getElem?_eq_some_iff.1 k1).1;exact⟨v',by rw[z1z om,show q.o+off+i-(q.o+off+old.length)=i-old.length from by omega];exact k1,k2.mono hle⟩
  ·intro b' q' hb' hl' hcc;change q'.c=q.c at hcc;by_cases hbb:b'=b
   ·subst hbb;rcases hl' with hl'|⟨B2,hl'⟩
    ·have:=h.lt h1;change Z.n<=b' at hl';omega
    ·rw[FH]at hl';cases hl'
   ·refine h.sep b q B b' q' hb h1 h2 hbb hb' ?_ hcc;rcases hl' with hl'|⟨B2,hl'⟩
    ·exact .inl hl'
    ·rw[CF _ _ hbb]at hl';exact .inr ⟨B2,hl'⟩
 ·intro b' hb';refine Place.Ae _ _ ?_;rcases hb' with hb'|hb'
  ·omega
  ·change Z.n+1<=b' at hb';omega
 ·show Z.n<=Z.n+1;omega
 ·omega
 ·intro c _ hno;refine p2 c fun he=>?_;rw[hno b q B hb he.symm h1]at h2;cases h2
 ·intro b' q' B2 hb' hB2 hcs;by_cases hbn:b'=Z.n
  ·subst hbn;rw[Place.O7]at hb';cases hb';exact⟨b,q,B,hb,rfl,h1,fun _=>h2⟩
  ·rw[Place.Ae _ _ hbn]at hb';have hB3:=LO (t:=t) (⟨Z.h.set b ⟨[],false,true,B.ver+1,.row none⟩,Z.n⟩:St) (old++new) (b:=b') hbn;rw[hB3]at hB2;by_cases hbb:b'=b
   ·subst hbb;rw[FH]at hB2;cases hB2
   ·rw[CF _ _ hbb]at hB2;exact⟨b',q',B2,hb',rfl,hB2,fun h=>h⟩
 ·show(Tr.set (Z.h.set b _) Z.n _).get b'=_;rw[Tr.L7 _ _ om,Tr.L7 _ _ (by intro he;subst he;rw[hb]at hn;cases hn)]
end
def FI {α:Type}{P:Program}(s:Sem α):∀ {a:α},N7 P s=some a->∀ w,s.run P w= .ok a w:=by
 induction s with
 |pure a=>intro b h w;cases h;rfl
 |program k ih=>intro b h w;exact ih P h w
 |mark m k ih=>intro b h w;exact ih h w
 |_=>intro b h;cases h
def P4 (O:Place) (fr:Fr) (ev':Operand->Value) (l:List Operand):Prop:=∀ x v,x∈l->ev fr x=some v->H3 O v (ev' x)
def P4.sub {O:Place}{fr:Fr}{e:Operand->Value}{l k:List Operand}(h:P4 O fr e l) (hs:∀ x,x∈k->x∈l):P4 O fr e k:=fun x v hx hv=>h x v (hs x hx) hv
def P4.evs {O:Place}{fr:Fr}{e:Operand->Value}:∀ {l:List Operand}{vs:List Value},P4 O fr e l->Ab.evs fr l=some vs->E7 O vs (l.map e):=by
 intro l;induction l with
 |nil=>intro vs _ h;cases h;exact .nil
 | cons x l ih=>
   intro vs hk h;obtain⟨v,h1,h2⟩:=A8 (show ob (ev fr x) (fun v=>ob (Ab.evs fr l) fun vs=>some (v::vs))=some vs from h);obtain⟨us,h3,h4⟩:=A8 h2;cases h4;exact .cons (hk x v (by simp) h1) (ih (hk.sub fun y hy=>by simp[hy]) h3)
section
variable {P:Program}{O:Place}{fr:Fr}{e:Operand->Value}{o:Oper}{w:World}{v:Value}
def BE (P:Program) (O:Place) (e:Operand->Value) (o:Oper) (w:World) (v:Value):Prop:=∃ v',(execOp e o).run P w= .ok (.value v') w/\H3 O v v'
def Th {v v':Value}{n:Nat}(h:H3 O v v') (hn:nat? v=some n):∃ k,v'= .int k (Int.ofNat n):=by
 cases v with
 | int k m=>
   cases m with
   |ofNat m=>cases hn;cases h;exact⟨k,rfl⟩
   |negSucc m=>cases hn
 |_=>cases hn
def PX {x:Operand}{n:Nat}{l:List Operand}(hk:P4 O fr e l) (hx:x∈l) (h:evN fr x=some n):∃ k,e x= .int k (Int.ofNat n):=by
 obtain⟨v,h1,h2⟩:=A8 h;exact Th (hk x v hx h1) h2
def Lc {v v':Value}{b off:Nat}(h:H3 O v v') (hb:at? v=some (b,off)):∃ q,O b=some q/\v'= .pointer (some ⟨q.c,q.o+off,none⟩):=by
 unfold at? at hb;split at hb
 ·cases hb;cases h with
  |ptr hq=>exact⟨_,hq,rfl⟩
  |I1 h=>simp[I1]at h
 ·cases hb
def Bh {t:TypeId}{n:Nat}(h:size? P t=some n) (w:World):(sizeOf t).run P w= .ok n w:=by
 unfold size? at h;split at h
 ·rename_i i hi;cases h;simp[sizeOf,typeInfo,hi]
 ·cases h
def fF {t:TypeId}{i:TypeInfo}(h:P.info? t=some i) (w:World):(typeInfo t).run P w= .ok i w:=by simp[typeInfo,h]
def G1 {t:TypeId}{d:TypeDesc}(h:P.underlying t=some d) (w:World):(underlying t).run P w= .ok d w:=by simp[underlying,h]
def Wb {t:TypeId}{g:Bool}(h:Lw P t=some g) (w:World):(isAgg t).run P w= .ok g w:=by
 unfold Lw at h;split at h
 ·rename_i d hd;cases h;simp only[isAgg,Sem.run_bind,G1 hd,Result.andThen_ok];cases d<;>rfl
 ·cases h
def HD {t e:TypeId}(h:elem? P t=some e):P.underlying t=some (.slice e):=by
 unfold elem? at h;split at h
 ·cases h;assumption
 ·cases h
def Dv {t:TypeId}{z:Value}(h:BJ P t=some z) (w:World):(zeroValue t).run P w= .ok z w/\H3 O z z/\∃ i,P.info? t=some i/\i.zero=some z:=by
 obtain⟨i,h1,h2⟩:=A8 h;obtain⟨z',h3,h4⟩:=A8 h2;obtain⟨h5,h6⟩:=H3.cst (O:=O) h4;subst h5;exact⟨by simp[zeroValue,typeInfo,h1,h3],h6,i,h1,h3⟩
def YG {t:TypeId}{cs cs':List Value}{off:Nat}(hr:E7 O cs cs') (hc:∀ v∈cs,K4 v=true) (h:tu P t cs off=some v) :
  ∃ v',(part t ⟨cs'⟩ off).run P w= .ok v' w/\H3 O v v':=by
 obtain⟨g,h1,h2⟩:=A8 h;have hg:=Wb h1 w;cases g with
 | true=>
   obtain⟨n,h3,h4⟩:=A8 (show ob (size? P t) _=some v from h2);obtain⟨l,h5,h6⟩:=A8 h4;cases h6;obtain⟨h7,rfl⟩:=sub_eq h5;refine⟨.agg ((⟨cs'⟩:Array Value).extract off (off+n)),?_,?_⟩
   ·simp only[part,Sem.run_bind,hg,Result.andThen_ok,FP,Bh h3,Sem.run_pure]
   ·have hx:(⟨cs'⟩:Array Value).extract off (off+n)=⟨(cs'.drop off).take n⟩:=by
     rw[<- Qp,AE9,AF0];simp
    rw[hx];exact .agg (fun u hu=>hc u (bJ (PF hu))) ((hr.drop off).take n)
 | false=>
   obtain⟨l,h3,h4⟩:=A8 (show ob (sub cs off 1) _=some v from h2);obtain⟨h7,rfl⟩:=sub_eq h3;have hv:cs[off]? =some v:=by
    unfold Ke at h4;split at h4
    ·rename_i u hu;cases h4;have:=congrArg (fun l:List Value=>l[0]?) hu
     simpa[List.getElem?_take]using this
    ·cases h4
   obtain⟨v',h8,h9⟩:=hr.get hv;refine⟨v',?_,h9⟩;have h8':(⟨cs'⟩:Array Value)[off]? =some v':=by simpa using h8
   simp only[part,Sem.run_bind,hg,Result.andThen_ok,IH,Gc,h8',Sem.run_pure]
def Ob (hk:P4 O fr e o.op.operands.toList) (hs:∀ cs b,o.op≠ .select cs b) (hf:∀ x∈o.op.operands.toList,∃ u,ev fr x=some u/\flat u=true)
  (h:Kn P fr o=some v):BE P O e o w v:=by
 obtain⟨u,h1,h2⟩:=A8 h;obtain⟨h3,h4⟩:=H3.cst (O:=O) h2;subst h3;have hc:execOp (fun x=>(ev fr x).getD P9) o=execOp e o:=by
  apply execOp_congr o hs;intro x hx;obtain⟨u,h5,h6⟩:=hf x (by simpa using hx);rw[h5];exact((hk x u (by simpa using hx) h5).flat h6).symm
 rw[hc]at h1;unfold Kj at h1;split at h1
 ·rename_i v0 hv0;cases h1;exact⟨_,FI _ hv0 w,h4⟩
 ·cases h1
def Vg (a b:Int):ilt a b=decide (a<b):=by
 rw[z7z,z3z];cases a with
 | ofNat a=>
   cases b with
   |ofNat b=>show Nat.blt a b=true↔_;rw[Bt];simp only[JN];omega
   |negSucc b=>show false=true↔_;simp only[JN];constructor<;>intro h<;>first|cases h|omega
 | negSucc a=>
   cases b with
   |ofNat b=>exact⟨fun _=>by rw[dA,JN];omega,fun _=>rfl⟩
   |negSucc b=>show Nat.blt b a=true↔_;rw[Bt];simp only[dA];omega
def Mv (a b:Int):ieq a b=(a==b):=by
 rw[z7z,beq_iff_eq];cases a with
 | ofNat a=>
   cases b with
   |ofNat b=>show Nat.beq a b=true↔_;rw[Nat.beq_eq];simp only[JN];omega
   |negSucc b=>show false=true↔_;simp only[JN];constructor<;>intro h<;>first|cases h|omega
 | negSucc a=>
   cases b with
   |ofNat b=>show false=true↔_;simp only[JN];constructor<;>intro h<;>first|cases h|omega
   |negSucc b=>show Nat.beq a b=true↔_;rw[Nat.beq_eq];omega
def p64:(2:Int) ^ 64=18446744073709551616:=by decide
def p63:(2:Int) ^ 63=9223372036854775808:=by decide
def p8:(2:Int) ^ 8=256:=by decide
def wrap_i64 (n:Int):IntKind.i64.wrap n=if n % 18446744073709551616>=9223372036854775808 then n % 18446744073709551616-18446744073709551616 else n % 18446744073709551616:=by
 show(if (true&&decide (n % (2 ^ 64:Int)>=(2 ^ 63:Int)))=true then n % (2 ^ 64:Int)-(2 ^ 64:Int)else n % (2 ^ 64:Int))=_;rw[p64,p63,IE];simp only[Dn]
def wrap_u64 (n:Int):IntKind.u64.wrap n=n % 18446744073709551616:=by
 show(if (false&&decide (n % (2 ^ 64:Int)>=(2 ^ 63:Int)))=true then n % (2 ^ 64:Int)-(2 ^ 64:Int)else n % (2 ^ 64:Int))=_;rw[p64,MJ,z0z (by simp)]
def wrap_u8 (n:Int):IntKind.u8.wrap n=n % 256:=by
 show(if (false&&decide (n % (2 ^ 8:Int)>=(2 ^ 7:Int)))=true then n % (2 ^ 8:Int)-(2 ^ 8:Int)else n % (2 ^ 8:Int))=_;rw[p8,MJ,z0z (by simp)]
def uP {k:IntKind}{n:Int}(h:inR k n=true):k.wrap n=n:=by
 unfold inR at h;split at h
 ·rw[Bt]at h;rw[wrap_i64];simp only[JN];split<;>omega
 ·rw[Bt]at h;rw[wrap_i64];split<;>omega
 ·rw[Bt]at h;rw[wrap_u8];simp only[JN];omega
 ·rw[Bt]at h;rw[wrap_u64];simp only[JN];omega
 ·cases h
def Ac (k:IntKind) (n:Int):M6 k n=k.wrap n:=by
 unfold M6;cases h:inR k n with
 |true=>rw[uP h];rfl
 |false=>rfl
def WO {a b:IntKind}(h:keq a b=true):a=b:=by
 cases a<;>cases b<;>first|rfl|(simp[keq,IntKind.ctorIdx]at h)
def Rr:∀ (a b:List UInt8),Li a b=(a==b):=by
 intro a;induction a with
 |nil=>intro b;cases b<;>rfl
 | cons x a ih=>
   intro b;cases b with
   |nil=>rfl
   | cons y b=>
     show bi (Nat.beq x.toNat y.toNat) (Li a b) false=_;rw[ih];by_cases hxy:x=y
     ·subst hxy;simp
     ·have:Nat.beq x.toNat y.toNat=false:=by
       rw[oZ];intro hb;exact hxy (UInt8.toNat_inj.1 (Aa hb))
      rw[this];simp[hxy]
def eo (c:Bool):bi c false true= !c:=by cases c<;>rfl
def cF {op:BinOp}{x y:Value}{t yt:TypeId}{xo yo:Operand}(ho:o.op= .binOp op t xo yo yt) (h:Ix op x y=some v) (hx:e xo=x) (hy:e yo=y):BE P O e o w v:=by
 unfold Ix at h;split at h
 ·rename_i k a;split at h
  ·rename_i k' b;obtain⟨h1,h2⟩:=G7 h;have hkk:=WO h1;subst hkk;have hg:(eqGuard op t xo yo (.int k a) (.int k b)).run P w= .ok () w:=by
    unfold eqGuard;cases op<;>rfl
   suffices hb:∃ v',(binOp op t (.int k a) (.int k b)).run P w= .ok v' w/\H3 O v v' by
    obtain⟨v',h3,h4⟩:=hb;refine⟨v',?_,h4⟩;simp only[execOp,ho,hx,hy,Sem.run_bind,hg,Result.andThen_ok,h3,Sem.run_pure]
   cases op<;>first
    | (cases h2;done)
    | (cases h2;refine⟨_,?_,.I1 rfl⟩;simp[binOp,Op.intArith,Op.intCmp,Ac,Vg,Mv,eo];done)
    | (cases h2;refine⟨_,?_,.I1 rfl⟩;simp[binOp,Op.intArith,Op.intCmp,Ac,Vg,Mv,eo];rw[z7z];simp;done)
  ·cases h
 ·rename_i a;split at h
  ·rename_i b;have hg:(eqGuard op t xo yo (.string a) (.string b)).run P w= .ok () w:=by
    unfold eqGuard;cases op<;>rfl
   suffices hb:∃ v',(binOp op t (.string a) (.string b)).run P w= .ok v' w/\H3 O v v' by
    obtain⟨v',h3,h4⟩:=hb;refine⟨v',?_,h4⟩;simp only[execOp,ho,hx,hy,Sem.run_bind,hg,Result.andThen_ok,h3,Sem.run_pure]
   cases op<;>first
    | (cases h;done)
    | (cases h;refine⟨_,?_,.I1 rfl⟩;simp[binOp,Op.stringOp,Rr,ByteArray.toList_eq,eo];done)
    |skip
   obtain⟨h1,h2⟩:=G7 (show bb _ _=some v from h);cases h2;refine⟨_,?_,.I1 rfl⟩;have hle:=JM h1;have:¬ ((a.size+b.size:Nat):Int)>IntKind.i64.max:=by
    have e1:a.size=a.data.toList.length:=Array.length_toList.symm;have e2:b.size=b.data.toList.length:=Array.length_toList.symm;have e3:IntKind.i64.max=9223372036854775807:=by decide
    rw[e1,e2,e3];unfold room at hle;omega
   have hab:(⟨(a.data.toList++b.data.toList).toArray⟩:ByteArray)=a++b:=by
    apply ByteArray.ext;simp[ByteArray.data_append]
   simp only[binOp,Op.stringOp,this,Gc,Sem.run_pure,hab]
  ·cases h
 ·cases h
end
section
variable {x ix:Operand}{y x' y':Value}{b:Bool}{f:Nat}
section
variable {P:Program}{O:Place}{fr:Fr}{e:Operand->Value}{o:Oper}{w:World}{v:Value}
def vz {op:BinOp}{x:Value}(h:Ix op x y=some v) (hx:H3 O x x') (hy:H3 O y y'):x'=x/\y'=y:=by
 unfold Ix at h;split at h
 ·split at h
  ·cases hx;cases hy;exact⟨rfl,rfl⟩
  ·cases h
 ·split at h
  ·cases hx;cases hy;exact⟨rfl,rfl⟩
  ·cases h
 ·cases h
def YD {t:TypeId}{d:TypeDesc}{x:Value}(k:Nat) (hd:P.underlying t=some d) (h:EH (some d) x y=some b) (hx:H3 O x x') (hy:H3 O y y'):
  (Op.equalIn (k+1) t x' y').run P w= .ok b w/\∀ op xo yo,(eqGuard op t xo yo x' y').run P w= .ok () w:=by
 cases d with
 | pointer el=>
   unfold EH at h;simp only at h;split at h
   ·cases h;cases hx;cases hy;exact⟨by(unfold Op.equalIn;rw[Sem.run_bind,G1 hd];rfl),fun op xo yo=>by unfold eqGuard;cases op<;>rfl⟩
   ·cases h;cases hx;cases hy<;>first
     |exact⟨by(unfold Op.equalIn;rw[Sem.run_bind,G1 hd];rfl),fun op xo yo=>by unfold eqGuard;cases op<;>rfl⟩
     | (rename_i hs;simp[I1]at hs;done)
   ·cases h;cases hy;cases hx<;>first
     |exact⟨by(unfold Op.equalIn;rw[Sem.run_bind,G1 hd];rfl),fun op xo yo=>by unfold eqGuard;cases op<;>rfl⟩
     | (rename_i hs;simp[I1]at hs;done)
   ·cases h
 | slice el=>
   unfold EH at h;simp only at h;split at h
   ·cases h;cases hx;cases hy;exact⟨by(unfold Op.equalIn;rw[Sem.run_bind,G1 hd];rfl),fun op xo yo=>by unfold eqGuard;cases op<;>rfl⟩
   ·cases h;cases hx;cases hy<;>first
     |exact⟨by(unfold Op.equalIn;rw[Sem.run_bind,G1 hd];rfl),fun op xo yo=>by unfold eqGuard;cases op<;>rfl⟩
     | (rename_i hs;simp[I1]at hs;done)
   ·cases h;cases hy;cases hx<;>first
     |exact⟨by(unfold Op.equalIn;rw[Sem.run_bind,G1 hd];rfl),fun op xo yo=>by unfold eqGuard;cases op<;>rfl⟩
     | (rename_i hs;simp[I1]at hs;done)
   ·cases h
 | func a r vr=>
   unfold EH at h;simp only at h;split at h
   ·cases h;cases hx;cases hy;exact⟨by(unfold Op.equalIn;rw[Sem.run_bind,G1 hd];rfl),fun op xo yo=>by unfold eqGuard;cases op<;>rfl⟩
   ·cases h;cases hx;cases hy<;>first
     |exact⟨by(unfold Op.equalIn;rw[Sem.run_bind,G1 hd];rfl),fun op xo yo=>by unfold eqGuard;cases op<;>rfl⟩
     | (rename_i hs;simp[I1]at hs;done)
   ·cases h;cases hy;cases hx<;>first
     |exact⟨by(unfold Op.equalIn;rw[Sem.run_bind,G1 hd];rfl),fun op xo yo=>by unfold eqGuard;cases op<;>rfl⟩
     | (rename_i hs;simp[I1]at hs;done)
   ·cases h
 | interface ms=>
   unfold EH at h;simp only at h;split at h
   ·cases h;cases hx;cases hy<;>first
     |exact⟨by(unfold Op.equalIn;rw[Sem.run_bind,G1 hd];rfl),fun op xo yo=>by unfold eqGuard;cases op<;>rfl⟩
     | (rename_i hs;simp[I1]at hs;done)
   ·cases h;cases hy;cases hx<;>first
     |exact⟨by(unfold Op.equalIn;rw[Sem.run_bind,G1 hd];rfl),fun op xo yo=>by unfold eqGuard;cases op<;>rfl⟩
     | (rename_i hs;simp[I1]at hs;done)
   ·cases h
 |_=>cases h
def je {t:TypeId}{d:TypeDesc}{x:Value}(hd:P.underlying t=some d) (h:EH (some d) x y=some b) (hx:H3 O x x') (hy:H3 O y y'):
  (Op.equal t x' y').run P w= .ok b w/\∀ op xo yo,(eqGuard op t xo yo x' y').run P w= .ok () w:=YD 9999 hd h hx hy
def Mf {d:Option TypeDesc}{x:Value}(h:EH d x y=some b) (hx:H3 O x x') (hy:H3 O y y') (t:TypeId):
  binOp .eql t x' y'=(do pure (.bool (<- Op.equal t x' y')))/\binOp .neq t x' y'=(do pure (.bool (!(<- Op.equal t x' y')))):=by
 unfold EH at h
 split at h<;>(try split at h)<;>(try(cases h;done))<;>cases hx<;>cases hy<;>first
  |exact⟨rfl,rfl⟩
  | (rename_i hs;simp[I1]at hs;done)
  | (rename_i hs _;simp[I1]at hs;done)
def jg {op:BinOp}{t yt:TypeId}{xo yo:Operand}(ho:o.op= .binOp op t xo yo yt) (hk:P4 O fr e o.op.operands.toList) (h:Qt P fr o op t xo yo=some v):BE P O e o w v:=by
 obtain⟨x,h1,h2⟩:=A8 h;obtain⟨y,h3,h4⟩:=A8 h2;have hx:=hk xo x (by simp[ho,Op.operands]) h1;have hy:=hk yo y (by simp[ho,Op.operands]) h3;unfold wC at h4;cases hf:Ix op x y with
 | some u=>
   rw[hf]at h4;cases h4;obtain⟨hx',hy'⟩:=vz hf hx hy;exact cF ho hf hx' hy'
 | none=>
   rw[hf]at h4;change bi (flat x&&flat y) (Kn P fr o) (oM P t op x y)=some v at h4;cases hfl:flat x&&flat y with
   | true=>
     rw[hfl]at h4;rw[Q7]at hfl;refine Ob hk (by simp[ho]) ?_ h4;intro z hz;simp[ho,Op.operands]at hz;rcases hz with rfl|rfl
     ·exact⟨x,h1,hfl.1⟩
     ·exact⟨y,h3,hfl.2⟩
   | false=>
     rw[hfl]at h4;change oM P t op x y=some v at h4;have key:∀ b,EH (P.underlying t) x y=some b->(Op.equal t (e xo) (e yo)).run P w= .ok b w/\∀ op xo' yo',(eqGuard op t xo' yo' (e xo) (e yo)).run P w= .ok () w:=by
      intro b hb;cases hd:P.underlying t with
      |none=>rw[hd]at hb;cases hb
      |some d=>rw[hd]at hb;exact je hd hb hx hy
     unfold oM at h4;split at h4
     ·obtain⟨b,h5,h6⟩:=A8 h4;cases h6;obtain⟨k1,k2⟩:=key b h5;refine⟨.bool b,?_,.I1 rfl⟩;simp only[execOp,ho,Sem.run_bind,k2,Result.andThen_ok,(Mf h5 hx hy t).1,k1,Sem.run_pure]
     ·obtain⟨b,h5,h6⟩:=A8 h4;cases h6;obtain⟨k1,k2⟩:=key b h5;refine⟨.bool !b,?_,.I1 rfl⟩;simp only[execOp,ho,Sem.run_bind,k2,Result.andThen_ok,(Mf h5 hx hy t).2,k1,Sem.run_pure]
     ·cases h4
def Qu (ho:o.op= .move x\/o.op= .assign x) (hk:P4 O fr e o.op.operands.toList) (h:ev fr x=some v):BE P O e o w v:=by
 rcases ho with ho|ho
 ·exact⟨e x,by simp[execOp,ho],hk x v (by simp[ho,Op.operands]) h⟩
 ·exact⟨e x,by simp[execOp,ho],hk x v (by simp[ho,Op.operands]) h⟩
def cG {c a b:Operand}(ho:o.op= .pick c a b) (hk:P4 O fr e o.op.operands.toList) (h:Je fr c a b=some v):BE P O e o w v:=by
 obtain⟨x,h1,h2⟩:=A8 h;obtain⟨t,h3,h4⟩:=A8 h2;have hx:=hk c x (by simp[ho,Op.operands]) h1;have ht:e c= .bool t:=by
  unfold bool? at h3;split at h3
  ·cases h3;generalize e c=y at hx;cases hx;rfl
  ·cases h3
 cases t with
 |true=>exact⟨e a,by simp[execOp,ho,ht,asBool],hk a v (by simp[ho,Op.operands]) h4⟩
 |false=>exact⟨e b,by simp[execOp,ho,ht,asBool],hk b v (by simp[ho,Op.operands]) h4⟩
def Qv (ho:o.op= .nilCheck x) (hk:P4 O fr e o.op.operands.toList) (h:Bo fr x=some v):BE P O e o w v:=by
 obtain⟨u,h1,h2⟩:=A8 h;have hx:=hk x u (by simp[ho,Op.operands]) h1;unfold cH at h2;split at h2
 ·cases h2;refine⟨e x,?_,hx⟩;generalize he:e x=y at hx;cases hx with
  |ptr hq=>simp[execOp,ho,he]
  |I1 hs=>simp[I1]at hs
 ·cases h2;refine⟨e x,?_,hx⟩;generalize he:e x=y at hx;cases hx with
  |func=>simp[execOp,ho,he]
  |I1 hs=>simp[I1]at hs
 ·cases h2;refine⟨e x,?_,hx⟩;generalize he:e x=y at hx;cases hx with
  |iface=>simp[execOp,ho,he]
  |I1 hs=>simp[I1]at hs
 ·cases h2
def Oc (Jf:o.op.operands.toList=[x]) (hs:∀ cs b,o.op≠ .select cs b) (hk:P4 O fr e o.op.operands.toList) (h:Ej P fr o x=some v):BE P O e o w v:=by
 obtain⟨u,h1,h2⟩:=A8 h;obtain⟨h3,h4⟩:=G7 h2;refine Ob hk hs ?_ h4;intro z hz;rw[Jf]at hz;simp at hz;subst hz;exact⟨u,h1,h3⟩
def YE {t:TypeId}(ho:o.op= .makeInterface t x) (hk:P4 O fr e o.op.operands.toList) (h:oO P fr t x=some v):BE P O e o w v:=by
 obtain⟨u,h1,h2⟩:=A8 h;obtain⟨h3,h4⟩:=G7 h2;cases h4;have hx:=hk x u (by simp[ho,Op.operands]) h1;refine⟨.iface t (e x),?_,.iface hx⟩;unfold concrete at h3;split at h3
 ·cases h3
 ·rename_i d hd hne;have:=G1 hne w;simp only[execOp,ho,Instr.makeInterface,Sem.run_bind,this,Result.andThen_ok];cases d<;>first|rfl|exact absurd rfl (hd _)
 ·cases h3
def cI {fn:Fn}{fs cs:Array Operand}(ho:o.op= .makeFunc fn fs cs) (hk:P4 O fr e o.op.operands.toList) (h:RA fr fn fs cs=some v):BE P O e o w v:=by
 obtain⟨a,h1,h2⟩:=A8 h;obtain⟨b,h3,h4⟩:=A8 h2;obtain⟨h0,h4⟩:=G7 h4;cases h4;have ha:=(hk.sub (k:=fs.toList) fun y hy=>by simp[ho,Op.operands];exact .inl (by simpa using hy)).evs h1;have hb:=(hk.sub (k:=cs.toList) fun y hy=>by simp[ho,Op.operands];exact .inr (by simpa using hy)).evs h3;refine⟨.func fn ⟨fs.toList.map e⟩ ⟨cs.toList.map e⟩,?_,.func h0 ha hb⟩;have e1:fs.map e=⟨fs.toList.map e⟩:=by rw[<- Qp];simp
 have e2:cs.map e=⟨cs.toList.map e⟩:=by rw[<- Qp];simp
 simp[execOp,ho,Instr.makeFunc,e1,e2]
def RB {s:TypeId}{fd:Field}(h:Mg P s f=some fd):∃ fs,P.underlying s=some (.struct fs)/\fs[f]? =some fd:=by
 unfold Mg at h;split at h
 ·exact⟨_,by assumption,h⟩
 ·cases h
def PM {s:TypeId}(ho:o.op= .fieldAddr s x f) (hk:P4 O fr e o.op.operands.toList) (h:AY P fr s x f=some v):BE P O e o w v:=by
 obtain⟨u,h1,h2⟩:=A8 h;obtain⟨⟨b,off⟩,h3,h4⟩:=A8 h2;obtain⟨fd,h5,h6⟩:=A8 (show ob (Mg P s f) _=some v from h4);obtain⟨n,h7,h8⟩:=A8 h6;obtain⟨h9,h10⟩:=G7 h8;cases h10;have hn:=JM h9;obtain⟨q,hq,hx⟩:=Lc (hk x u (by simp[ho,Op.operands]) h1) h3;obtain⟨fs,hu,hf⟩:=RB h5;refine⟨.pointer (some ⟨q.c,q.o+(off+fd.offset),none⟩),?_,.ptr hq⟩;simp only[execOp,ho,hx,Instr.fieldAt,Sem.run_bind,G1 hu,Result.andThen_ok,hf,Instr.sureAddr,Sem.run_pure,fieldPlace,Bh h7,Sem.run_ite];rw[z0z om];simp only[Sem.run_pure,Result.andThen_ok,addr_add,VD]
def fo {u u':Value}{cs:List Value}(h:H3 O u u') (hc:oP u=some cs):∃ cs',u'= .agg ⟨cs'⟩/\E7 O cs cs'/\∀ v∈cs,K4 v=true:=by
 unfold oP at hc;split at hc
 ·cases hc;cases h with
  |agg h1 h2=>exact⟨_,rfl,h2,h1⟩
  |I1 hs=>simp[I1]at hs
 ·cases hc
def YF {s:TypeId}(ho:o.op= .field s x f) (hk:P4 O fr e o.op.operands.toList) (h:Vh P fr s x f=some v):BE P O e o w v:=by
 obtain⟨u,h1,h2⟩:=A8 h;obtain⟨cs,h3,h4⟩:=A8 h2;obtain⟨fd,h5,h6⟩:=A8 h4;obtain⟨cs',hx,hr,hc⟩:=fo (hk x u (by simp[ho,Op.operands]) h1) h3;obtain⟨fs,hu,hf⟩:=RB h5;obtain⟨v',h7,h8⟩:=YG (P:=P) (w:=w) hr hc h6;refine⟨v',?_,h8⟩;simp only[execOp,ho,hx,Instr.field,Sem.run_bind,G1 hu,Result.andThen_ok,hf,asAgg,Sem.run_pure,h7]
def PN {t:TypeId}(ho:o.op= .indexAddr t x ix) (hk:P4 O fr e o.op.operands.toList) (h:Al P fr t x ix=some v):BE P O e o w v:=by
 obtain⟨i,h1,h2⟩:=A8 h;obtain⟨u,h3,h4⟩:=A8 h2;obtain⟨k,hi⟩:=PX hk (by simp[ho,Op.operands]) h1;have hx:=hk x u (by simp[ho,Op.operands]) h3;have core:∀ (el:TypeId) (b off len:Nat) (q:BK),O b=some q->AM3 P el b off i len=some v->i<len/\∃ n,(∀ w,(sizeOf el).run P w= .ok n w)/\H3 O v (.pointer (some ⟨q.c,q.o+off+i*n,none⟩)):=by
  intro el b off len q hq ha;obtain⟨k1,k2⟩:=G7 ha;obtain⟨n,k3,k4⟩:=A8 k2;cases k4;rw[Bt]at k1;refine⟨k1,n,Bh k3,?_⟩;rw[VD];exact .ptr hq
 generalize hE:e x=y at hx;unfold Gp at h4;split at h4
 ·rename_i b off sp len cap;obtain⟨el,h5,h6⟩:=A8 h4;have hu:=HD h5;cases hx with
  | slice hq=>
    rename_i q;obtain⟨hlt,n,hn,hr⟩:=core el b off len _ hq h6;refine⟨_,?_,hr⟩;simp only[execOp,ho,hi,hE,Instr.indexAt,asIntOf,Sem.run_bind,Sem.run_pure,Result.andThen_ok,G1 hu,NO,Sem.run_ite];rw[z1z ⟨by simp,by simpa using hlt⟩];simp only[Sem.run_bind,hn,Result.andThen_ok,Sem.run_pure,addr_add,JN,OO]
  | grow hq hk' hm=>
    rename_i s k' q;obtain⟨hlt,n,hn,hr⟩:=core el b off len _ hq h6;refine⟨_,?_,hr⟩;simp only[execOp,ho,hi,hE,Instr.indexAt,asIntOf,Sem.run_bind,Sem.run_pure,Result.andThen_ok,G1 hu,NO,Sem.run_ite];rw[z1z ⟨by simp,by simpa using hlt⟩];simp only[Sem.run_bind,hn,Result.andThen_ok,Sem.run_pure,addr_add,JN,OO]
  | Bl hq=>
    obtain⟨hlt,_⟩:=core el b off 0 _ hq h6;omega
  |I1 hs=>simp[I1]at hs
 ·rename_i b off;split at h4
  ·rename_i len el hu;cases hx with
   | ptr hq=>
     rename_i q;obtain⟨hlt,n,hn,hr⟩:=core el b off len _ hq h4;refine⟨_,?_,hr⟩;simp only[execOp,ho,hi,hE,Instr.indexAt,asIntOf,Sem.run_bind,Sem.run_pure,Result.andThen_ok,G1 hu,Instr.sureAddr,Sem.run_ite];rw[z1z ⟨by simp,by simpa using hlt⟩];simp only[Sem.run_bind,hn,Result.andThen_ok,Sem.run_pure,addr_add,JN,OO]
   |I1 hs=>simp[I1]at hs
  ·cases h4
 ·cases h4
def oQ {l:List UInt8}{i:Nat}{r:List UInt8}(h1:sub l i 1=some r) (h2:jW r=some v):∃ b,l[i]? =some b/\v= .int .u8 b.toNat:=by
 obtain⟨h3,rfl⟩:=sub_eq h1;unfold jW at h2;split at h2
 ·rename_i u hu;cases h2;have:=congrArg (fun l:List UInt8=>l[0]?) hu;exact⟨u,by simpa[List.getElem?_take]using this,rfl⟩
 ·cases h2
def YH {t:TypeId}(ho:o.op= .index t x ix) (hk:P4 O fr e o.op.operands.toList) (h:Ld P fr t x ix=some v):BE P O e o w v:=by
 obtain⟨i,h1,h2⟩:=A8 h;obtain⟨u,h3,h4⟩:=A8 h2;obtain⟨k,hi⟩:=PX hk (by simp[ho,Op.operands]) h1;have hx:=hk x u (by simp[ho,Op.operands]) h3;unfold cJ at h4;split at h4
 ·rename_i cs;split at h4
  ·rename_i len el hu;obtain⟨h5,h6⟩:=G7 h4;obtain⟨n,h7,h8⟩:=A8 h6;rw[Bt]at h5;obtain⟨cs',hE,hr,hc⟩:=fo (u:= .agg cs) (cs:=cs.toList) hx rfl;obtain⟨v',h9,h10⟩:=YG (P:=P) (w:=w) hr hc h8;refine⟨v',?_,h10⟩;simp only[execOp,ho,hi,hE,Instr.index,asIntOf,Sem.run_bind,Sem.run_pure,Result.andThen_ok,G1 hu,Sem.run_ite];rw[z1z ⟨by simp,by simpa using h5⟩];simp only[Sem.run_bind,Bh h7,Result.andThen_ok,JN,OO,h9]
  ·cases h4
 ·rename_i s;split at h4
  ·rename_i hu;obtain⟨r,h5,h6⟩:=A8 h4;obtain⟨b,h7,rfl⟩:=oQ h5 h6;generalize hE:e x=y at hx;cases hx with
   | I1 hs=>
     refine⟨_,?_,.I1 rfl⟩;have hg:s[i]? =some b:=by
      have hlt:=(List.getElem?_eq_some_iff.1 h7).1;have hb:=(List.getElem?_eq_some_iff.1 h7).2;have hsz:i<s.size:=by rw[show s.size=s.data.toList.length from Array.length_toList.symm];exact hlt
      rw[getElem?_pos s i hsz];congr 1
     simp only[execOp,ho,hi,hE,Instr.index,asIntOf,Sem.run_bind,Sem.run_pure,Result.andThen_ok,G1 hu];simp[hg]
  ·cases h4
 ·cases h4
def TA {t:Operand}{ix:Nat}(ho:o.op= .extract t ix) (hk:P4 O fr e o.op.operands.toList) (h:Cs fr t ix=some v):BE P O e o w v:=by
 obtain⟨u,h1,h2⟩:=A8 h;obtain⟨vs,h3,h4⟩:=A8 h2;obtain⟨l,h5,h6⟩:=A8 h4;have hx:=hk t u (by simp[ho,Op.operands]) h1;obtain⟨h7,rfl⟩:=sub_eq h5;have hv:vs[ix]? =some v:=by
  unfold Ke at h6;split at h6
  ·rename_i u hu;cases h6;have:=congrArg (fun l:List Value=>l[0]?) hu
   simpa[List.getElem?_take]using this
  ·cases h6
 unfold cK at h3;split at h3
 ·cases h3;generalize hE:e t=y at hx;cases hx with
  | tuple hs=>
    rename_i l l';obtain⟨v',h8,h9⟩:=hs.get hv;refine⟨v',?_,h9⟩;have:(⟨l'⟩:Array Value)[ix]? =some v':=by simpa using h8
    simp[execOp,ho,hE,Instr.extract,this]
  |I1 hs=>simp[I1]at hs
 ·cases h3
end
end
section
variable {P:Program}{O:Place}{fr:Fr}{e:Operand->Value}{o:Oper}{w:World}{v:Value}
def Tg {v v':Value}{n y:Nat}{code:BoundsCode}(hr:H3 O v v') (hn:nat? v=some n) (hle:n<=y):(Instr.sliceBound v' y code).run P w= .ok n w:=by
 obtain⟨k,rfl⟩:=Th hr hn;simp only[Instr.sliceBound,asIntOf,Sem.run_bind,Sem.run_pure,Result.andThen_ok,Sem.run_ite];rw[z1z ⟨by simp,by simpa using hle⟩];simp
def fj {x:Option Operand}{u:Option Value}{l:List Operand}(hk:P4 O fr e l) (hx:∀ y,x=some y->y∈l) (h:evO fr x=some u) :
  (u=none/\x=none)\/∃ v y,u=some v/\x=some y/\H3 O v (e y):=by
 cases x with
 |none=>cases h;exact .inl ⟨rfl,rfl⟩
 | some y=>
   obtain⟨v,h1,h2⟩:=A8 h;cases h2;exact .inr ⟨v,y,rfl,rfl,hk y v (hx y rfl) h1⟩
def LX {lo hi:Option Operand}{lv hv:Option Value}{l:List Operand}(hk:P4 O fr e l) (hlo:∀ y,lo=some y->y∈l) (hhi:∀ y,hi=some y->y∈l)
  (h1:evO fr lo=some lv) (h2:evO fr hi=some hv) {dl cap BW a b:Nat}{isSlice:Bool} (h:bw dl cap lv hv=some (a,b)) (hc:cap<=BW) :
  (Instr.sliceBounds isSlice dl BW (lo.map e) (hi.map e) none).run P w= .ok (a,b,BW) w/\a<=b/\b<=cap:=by
 obtain⟨hb,h3,h4⟩:=A8 h;obtain⟨h5,h6⟩:=G7 h4;obtain⟨la,h7,h8⟩:=A8 h6;obtain⟨h9,h10⟩:=G7 h8;cases h10;have hb1:=JM h5;have hb2:=JM h9;refine⟨?_,hb2,hb1⟩;unfold Instr.sliceBounds;simp only[Sem.run_bind,Sem.run_pure,Result.andThen_ok];rcases fj hk hhi h2 with⟨rfl,rfl⟩|⟨v2,y2,rfl,rfl,r2⟩
 rotate_left
 simp only[TS,Tg r2 h3 (AV hb1 hc),Result.andThen_ok,Sem.run_bind]
 rotate_left
 cases h3;simp only[Ti,Sem.run_pure,Result.andThen_ok]
 all_goals
  rcases fj hk hlo h1 with⟨rfl,rfl⟩|⟨v1,y1,rfl,rfl,r1⟩
  ·cases h7;simp
  ·simp only[TS,Tg r1 h7 hb2,Result.andThen_ok,Sem.run_bind,Sem.run_pure]
def Km (s:ByteArray) (a b:Nat) (h:b<=s.data.toList.length):s.extract a b=⟨((s.data.toList.drop a).take (b-a)).toArray⟩:=by
 apply ByteArray.ext;rw[ByteArray.data_extract];apply Qp.1;rw[AE9,AF0]
def Xt {t:TypeId}{x:Operand}{lo hi mx:Option Operand}(ho:o.op= .slice t x lo hi mx) (hk:P4 O fr e o.op.operands.toList) (h:LY P fr t x lo hi mx=some v):BE P O e o w v:=by
 obtain⟨h0,k0⟩:=G7 h;clear h;cases mx with
 |some y=>cases h0
 |none=>
 clear h0;obtain⟨u,h1,k1⟩:=A8 k0;clear k0;obtain⟨lv,h2,k2⟩:=A8 k1;clear k1;obtain⟨hv,h3,h⟩:=A8 k2;clear k2;have hx:=hk x u (by simp[ho,Op.operands]) h1;have hlo:∀ y,lo=some y->y∈o.op.operands.toList:=by intro y hy;subst hy;simp[ho,Op.operands]
 have hhi:∀ y,hi=some y->y∈o.op.operands.toList:=by intro y hy;subst hy;simp[ho,Op.operands]
 generalize hE:e x=y at hx;unfold Ve at h;split at h
 ·rename_i s;split at h
  ·rename_i hu;obtain⟨⟨a,b⟩,h4,k4⟩:=A8 h;clear h;obtain⟨l,h5,k5⟩:=A8 (show ob (sub s.data.toList a (b-a)) _=some v from k4);cases k5;obtain⟨h6,rfl⟩:=sub_eq h5;obtain⟨hb,hab,hbl⟩:=LX (P:=P) (w:=w) (isSlice:=false) hk hlo hhi h2 h3 h4 nL;cases hx with
   | I1 hs=>
     refine⟨_,?_,.I1 rfl⟩;have hsz:s.size=s.data.toList.length:=Array.length_toList.symm
     simp only[execOp,ho,hE,Instr.sliceAt,Sem.run_bind,G1 hu,Result.andThen_ok,Instr.slice,Ti,oC,IH,Gc,hsz,hb,Sem.run_pure,
      Km s a b hbl]
  ·cases h
 ·rename_i a0 len cap;split at h
  ·rename_i el hu;obtain⟨⟨a,b⟩,h4,k4⟩:=A8 h;clear h;obtain⟨n,h5,h⟩:=A8 (show ob (size? P el) _=some v from k4);clear k4;have hn:=Bh h5
   have go:∀ (a0':Option Addr) (BW:Nat),y= .slice a0' len BW->cap<=BW ->
     (execOp e o).run P w= .ok (.value (.slice (if BW=a then a0' else a0'.map (·.add (a*n))) (b-a) (BW-a))) w/\a<=b/\b<=cap:=by
    intro a0' BW hy hc;obtain⟨hb,hab,hbl⟩:=LX (P:=P) (w:=w) (isSlice:=true) hk hlo hhi h2 h3 h4 hc;refine⟨?_,hab,hbl⟩;simp only[execOp,ho,hE,hy,Instr.sliceAt,Sem.run_bind,G1 hu,Result.andThen_ok,Instr.slice,Ti,hb,hn,Sem.run_pure]
   unfold sliceAt at h;split at h
   ·rename_i b0 off;cases h;cases hx with
    | slice hq=>
      obtain⟨g1,g2,g3⟩:=go _ _ rfl nL;refine⟨_,g1,?_⟩;by_cases hca:cap=a
      ·rw[z1z hca];have:b-a=0:=om;rw[this,show cap-a=0 from by omega];exact .Bl hq
      ·rw[z0z hca];simp only[TS,addr_add,VD];exact .slice hq
    | Bl hq=>
      obtain⟨g1,g2,g3⟩:=go _ _ rfl nL;refine⟨_,g1,?_⟩;have ha:a=0:=om;subst ha;rw[z1z rfl,show b-0=0 from by omega];exact .Bl hq
    |I1 hs=>simp[I1]at hs
   ·rename_i b0 off s0;obtain⟨h6,h7⟩:=G7 h;cases h7;have hsn:=Aa h6;subst hsn;cases hx with
    | grow hq hkk hm=>
      rename_i k' q;obtain⟨g1,g2,g3⟩:=go _ _ rfl hkk;refine⟨_,g1,?_⟩;by_cases hca:k'=a
      ·rw[z1z hca];have:b-a=0:=om;rw[this,show cap-a=0 from by omega,show k'-a=0 from by omega];exact .Bl hq
      ·rw[z0z hca];simp only[TS,addr_add,VD];refine .grow hq om ?_;have:a*s0+(k'-a)*s0=k'*s0:=by rw[<- Sr];congr 1;omega
       omega
    | Bl hq=>
      obtain⟨g1,g2,g3⟩:=go _ _ rfl nL;refine⟨_,g1,?_⟩;have ha:a=0:=om;subst ha;rw[z1z rfl,show b-0=0 from by omega];exact .Bl hq
    |I1 hs=>simp[I1]at hs
   ·obtain⟨h6,h7⟩:=G7 h;cases h7;have hc0:=Aa h6;cases hx with
    | I1 hs=>
      obtain⟨g1,g2,g3⟩:=go _ _ rfl nL;refine⟨_,g1,?_⟩;have ha:a=0:=om;subst ha;rw[z1z hc0,show b-0=0 from by omega,show cap-0=0 from by omega];exact .I1 rfl
  ·cases h
 ·rename_i b0 off;split at h
  ·rename_i m el hu;obtain⟨⟨a,b⟩,h4,k4⟩:=A8 h;clear h;obtain⟨n,h5,h⟩:=A8 (show ob (size? P el) _=some v from k4);clear k4;have hn:=Bh h5;cases h;obtain⟨hb,hab,hbl⟩:=LX (P:=P) (w:=w) (isSlice:=false) hk hlo hhi h2 h3 h4 nL;cases hx with
   | ptr hq=>
     rename_i q;refine⟨.slice (some (if m=a then⟨q.c,q.o+off,none⟩else(⟨q.c,q.o+off,none⟩:Addr).add (a*n))) (b-a) (m-a),?_,?_⟩
     ·simp only[execOp,ho,hE,Instr.sliceAt,Sem.run_bind,G1 hu,Result.andThen_ok,Instr.sureAddr,Ti,hb,hn,Sem.run_pure]
     ·by_cases hca:m=a
      ·rw[z1z hca,show b-a=0 from by omega,show m-a=0 from by omega];exact .Bl hq
      ·rw[z0z hca];simp only[addr_add,VD];exact .slice hq
   |I1 hs=>simp[I1]at hs
  ·cases h
 ·cases h
def Vf {l:List Value}(h:Ke l=some v):l=[v]:=by
 unfold Ke at h;split at h
 ·cases h;rfl
 ·cases h
def Ep {c:Call}(ho:o.op= .call c) (hk:P4 O fr e o.op.operands.toList):P4 O fr e c.args.toList :=
 hk.sub fun y hy=>by
  simp only[ho,Op.operands,Call.operands,AC6,HX];exact .inr hy
def Cy {c:Call}{t:TypeId}(h:QL c=some t):c.argTypes[0]? =some t:=by
 unfold QL at h;split at h
 ·rename_i u r hu;cases h;have:=congrArg (fun l:List TypeId=>l[0]?) hu
  simpa using this
 ·cases h
def JP (c:Call) (e:Operand->Value):c.args.map e=⟨c.args.toList.map e⟩:=by rw[<- Qp];simp
def jY {c:Call}(ho:o.op= .call c) (hc:c.callee= .builtin .len) (hk:P4 O fr e o.op.operands.toList) (h:Qq P fr c=some v):BE P O e o w v:=by
 obtain⟨vs,h1,k1⟩:=A8 h;clear h;obtain⟨x,h2,k2⟩:=A8 k1;clear k1;obtain⟨t,h3,k3⟩:=A8 k2;clear k2;obtain⟨n,h4,k4⟩:=A8 k3;clear k3;cases k4;have hr:=(Ep ho hk).evs h1;rw[Vf h2]at hr;generalize hE:c.args.toList.map e=L at hr;cases hr with
 |cons hx hs=>
 cases hs;rename_i x';refine⟨.int .i64 n,?_,.I1 rfl⟩;have Dy:c.args.map e=#[x']:=by rw[JP,hE]
 unfold oD at h4;split at h4
 ·rename_i hu;split at h4
  ·cases h4;cases hx;simp only[execOp,ho,resolve,hc,Sem.run_bind,Sem.run_pure,Result.andThen_ok,invoke,builtin,Builtin.len_,Cy h3,Dy];simp[G1 hu,goInt]
  ·cases h4
 ·rename_i el hu;split at h4
  ·cases h4
   cases hx<;>first
    | (simp only[execOp,ho,resolve,hc,Sem.run_bind,Sem.run_pure,Result.andThen_ok,invoke,builtin,Builtin.len_,Cy h3,Dy]
       simp[G1 hu,goInt];done)
    | (rename_i hs;simp[I1]at hs;done)
  ·cases h4
 ·cases h4
def oE (a b:Int) (x y:Int):bi (ilt a b) x y=if a<b then x else y:=by
 rw[Vg];by_cases h:a<b
 ·simp[h]
 ·simp[h]
def AL7 (isMax:Bool):∀ (l:List Value) (x v:Value) (l':List Value) (x':Value),mm isMax l x=some v->E7 O l l'->H3 O x x' ->
  ∃ v',(l'.foldlM (if isMax then Builtin.max2 else Builtin.min2) x').run P w= .ok v' w/\H3 O v v':=by
 intro l;induction l with
 |nil=>intro x v l' x' h hl hx;cases h;cases hl;exact⟨x',rfl,hx⟩
 | cons y l ih=>
   intro x v l' x' h hl hx;obtain⟨u,h1,h2⟩:=A8 (show ob (Jd isMax x y) (mm isMax l)=some v from h);cases hl with
   |cons hy hl=>
   rename_i y' l';unfold Jd at h1;split at h1
   ·split at h1
    ·rename_i k a k' b;cases h1;cases hx;cases hy;obtain⟨v',h3,h4⟩:=ih _ v l' _ h2 hl (.I1 rfl);refine⟨v',?_,h4⟩;rw[List.foldlM_cons,Sem.run_bind];cases isMax with
     | true=>
       simp only[FP,Builtin.max2,Sem.run_pure,Result.andThen_ok]
       simpa[oE]using h3
     | false=>
       simp only[IH,Gc,Builtin.min2,Sem.run_pure,Result.andThen_ok]
       simpa[oE]using h3
    ·cases h1
   ·cases h1
def Xu {c:Call}(isMax:Bool) (ho:o.op= .call c) (hc:c.callee= .builtin (if isMax then .max else .min)) (hk:P4 O fr e o.op.operands.toList) (h:pMM fr isMax c=some v):BE P O e o w v:=by
 obtain⟨vs,h1,k1⟩:=A8 h;clear h;have hr:=(Ep ho hk).evs h1;generalize hE:c.args.toList.map e=L at hr;cases hr with
 |nil=>cases k1
 |cons hx hs=>
 rename_i x x' l l';obtain⟨v',h3,h4⟩:=AL7 (P:=P) (w:=w) isMax l x v l' x' k1 hs hx;refine⟨v',?_,h4⟩;have Dy:c.args.map e=⟨x'::l'⟩:=by rw[JP,hE]
 cases isMax with
 | true=>
   simp only[FP]at h3 hc;simp only[execOp,ho,resolve,hc,Sem.run_bind,Sem.run_pure,Result.andThen_ok,invoke,builtin,Builtin.max_,Dy,h3]
 | false=>
   simp only[IH,Gc]at h3 hc;simp only[execOp,ho,resolve,hc,Sem.run_bind,Sem.run_pure,Result.andThen_ok,invoke,builtin,Builtin.min_,Dy,h3]
end
section
variable {cs:List Value}{vf:Nat->Value}
section
variable {P:Program}{O:Place}{fr:Fr}{e:Operand->Value}{o:Oper}{w:World}{v:Value}
def jF (off:Nat):∀ (l:List Value) (k:Nat) (arr:Array Value),(l.zipIdx k).foldl (fun cs (x:Value×Nat)=>cs.setIfInBounds (off+x.2) x.1) arr=Fq arr (off+k) l:=by
 intro l;induction l with
 |nil=>intro k arr;rfl
 |cons v l ih=>intro k arr;rw[List.zipIdx_cons,QB,ih];rfl
def bI {cells BV r vs vs':List Value}{off:Nat}(h:M7 cells off vs=some r) (hc:E7 O cells BV) (hv:E7 O vs vs')
  (h1:∀ c∈cells,K4 c=true) (h2:∀ c∈vs,K4 c=true) :
  E7 O r (Fq ⟨BV⟩ off vs').toList/\(∀ c∈r,K4 c=true)/\off+vs'.length<=BV.length:=by
 obtain⟨h3,rfl⟩:=TR _ _ _ _ h;have l1:=hc.length;have l2:=hv.length;refine⟨E7.Fs ?_ ?_,?_,om⟩
 ·rw[show(Fq ⟨BV⟩ off vs').toList.length=(Fq ⟨BV⟩ off vs').size from PE,JK];simp;omega
 ·intro i v hi;rw[QC h3]at hi;rw[Array.getElem?_toList,LI _ _ _ _ (by simp;omega)];by_cases hin:off<=i/\i<off+vs.length
  ·rw[z1z hin]at hi;rw[z1z om];exact hv.get hi
  ·rw[z0z hin]at hi;rw[z0z om]
   simpa using hc.get hi
 ·intro c hcm;rcases HX.1 hcm with hcm|hcm
  ·rcases HX.1 hcm with hcm|hcm
   ·exact h1 c (PF hcm)
   ·exact h2 c hcm
  ·exact h1 c (bJ hcm)
def KD {β:Type}{c:Bool}{x:Option β}{b:β}(h:bi c none x=some b):c=false/\x=some b:=by
 cases c with
 |true=>cases h
 |false=>exact⟨rfl,h⟩
def QD {place place':Nat->Option (Nat×Nat)}(hp:∀ i,place' i=place i):∀ (is:List Nat) (vs vs' cells r BV:List Value),E7 O vs vs'->Cq place (is.zip vs) cells=some r ->
  E7 O cells BV->(∀ c∈cells,K4 c=true)->∃ r',Instr.fill place' ⟨BV⟩ (is.zip vs')=some ⟨r'⟩/\E7 O r r'/\∀ c∈r,K4 c=true:=by
 intro is;induction is with
 | nil=>
   intro vs vs' cells r BV _ h hc h1;cases h;exact⟨BV,rfl,hc,h1⟩
 | cons i is ih=>
   intro vs vs' cells r BV hv h hc h1;cases hv with
   |nil=>cases h;exact⟨BV,rfl,hc,h1⟩
   | cons hx hs=>
     rename_i x x' l l';obtain⟨⟨off,n⟩,h2,h3⟩:=A8 (show ob (place i) (fun q=>pr q fun off n=>bi (Di x) none (bb ((J6 x).length.beq n) (ob (M7 cells off (J6 x)) (Cq place (is.zip l)))))=some r from h);obtain⟨ht,h4⟩:=KD (show bi (Di x) none _=some r from h3);obtain⟨h5,h6⟩:=G7 h4;obtain⟨AJ1,h7,h8⟩:=A8 h6;have hn:=Aa h5;obtain⟨hcx,hcc⟩:=hx.cells ht;obtain⟨k1,k2,k3⟩:=bI h7 hc hcx h1 hcc;obtain⟨r',k4,k5,k6⟩:=ih l l' AJ1 r _ hs h8 k1 k2;refine⟨r',?_,k5,k6⟩;have hl:=hcx.length;rw[List.zip_cons_cons];unfold Instr.fill;rw[hp i,h2];simp only;have hsz:x'.cells.size=n:=by rw[<- PE,<- hl,hn]
     rw[z0z (by simp[hsz];rw[PE]at k3;omega)];rw[<- k4];congr 1;rw[<- fD,Array.toList_zipIdx];have:=jF off x'.cells.toList 0 ⟨BV⟩;rw[AG]at this;exact this
def KE (parts:Array (Nat×Operand)) (e:Operand->Value):(parts.map fun(x:Nat×Operand)=>(x.1,e x.2)).toList=(parts.toList.map (·.1)).zip ((parts.toList.map (·.2)).map e):=by
 rw[mc];induction parts.toList with
 |nil=>rfl
 |cons x l ih=>simp[ih]
def bK:∀ (fs:List Field) (ps:List (Nat×Nat)),Uv P fs=some ps->∀ w,(fs.mapM fun f=>do pure (f.offset,<- sizeOf f.type):Sem (List (Nat×Nat))).run P w= .ok ps w:=by
 intro fs;induction fs with
 |nil=>intro ps h w;cases h;rfl
 | cons f fs ih=>
   intro ps h w;obtain⟨n,h1,h2⟩:=A8 (show ob (size? P f.type) (fun n=>ob (Uv P fs) fun r=>some ((f.offset,n)::r))=some ps from h);obtain⟨r,h3,h4⟩:=A8 h2;cases h4;rw[me];simp only[Sem.run_bind,Bh h1,Result.andThen_ok,Sem.run_pure,ih r h3]
def Db {t:TypeId}{z:Value}(h:BJ P t=some z):(J6 z=z.cells.toList)/\E7 O (J6 z) z.cells.toList/\∀ c∈J6 z,K4 c=true:=by
 obtain⟨i,h1,h2⟩:=A8 h;obtain⟨z',h3,h4⟩:=A8 h2;obtain⟨h5,h6⟩:=G7 h4;cases h6;cases z with
 |agg cs=>obtain⟨l⟩:=cs;exact⟨rfl,E7.ML h5,FG h5⟩
 |tuple vs=>cases h5
 |_=>exact⟨rfl,.cons (.I1 h5) .nil,by intro c hc;simp[J6]at hc;subst hc;exact JL h5⟩
def XD {t:TypeId}{parts:Array (Nat×Operand)}(ho:o.op= .build t parts) (hk:P4 O fr e o.op.operands.toList) (h:Ft P fr t parts=some v):BE P O e o w v:=by
 obtain⟨z,h1,k1⟩:=A8 h;clear h;obtain⟨vs,h2,h3⟩:=A8 k1;clear k1;have hr:=(hk.sub (k:=parts.toList.map (·.2)) fun y hy=>by simpa[ho,Op.operands]using hy).evs h2;obtain⟨hz,_,_⟩:=Dv (O:=O) h1 w;obtain⟨zc1,zc2,zc3⟩:=Db (O:=O) h1;unfold DM at h3;split at h3
 ·rename_i fs hu;obtain⟨ps,h4,h5⟩:=A8 h3;obtain⟨l,h6,h7⟩:=A8 h5;cases h7;have hps:(fs.mapM fun f=>do pure (f.offset,<- sizeOf f.type):Sem (Array (Nat×Nat))).run P w= .ok ps.toArray w:=by
   rw[AC4,Sem.run_map,bK _ _ h4];rfl
  obtain⟨r',k1,k2,k3⟩:=QD (place:=fun i=>ps[i]?) (place':=fun i=>ps.toArray[i]?) (fun i=>by simp) _ vs _ _ l _ hr h6 zc2 zc3;refine⟨.agg ⟨r'⟩,?_,.agg k3 k2⟩;simp only[execOp,ho,Instr.build,Sem.run_bind,hz,Result.andThen_ok,G1 hu,hps,KE];rw[show z.cells=⟨z.cells.toList⟩from rfl,k1];rfl
 ·rename_i m el hu;obtain⟨n,h4,h5⟩:=A8 h3;obtain⟨l,h6,h7⟩:=A8 h5;cases h7;obtain⟨r',k1,k2,k3⟩:=QD (place:=fun i=>some (i*n,n)) (place':=fun i=>some (i*n,n)) (fun i=>rfl) _ vs _ _ l _ hr h6 zc2 zc3;refine⟨.agg ⟨r'⟩,?_,.agg k3 k2⟩;simp only[execOp,ho,Instr.build,Sem.run_bind,hz,Result.andThen_ok,G1 hu,Bh h4,KE];rw[show z.cells=⟨z.cells.toList⟩from rfl,k1];rfl
 ·cases h3
def It (P:Program) (O:Place) (e:Operand->Value) (o:Oper) (w:World) (cs:List Value) (v:Nat->Value) (t:Option TypeId:=none):Prop :=
 ∃ (w':World) (v':Value) (arr:Array Value) (el:TypeId) (lo hi:Nat) (vs more:List Value),(execOp e o).run P w= .ok (.value v') w'/\w'.heap.size=w.heap.size+1/\w'.heap[w.heap.size]? =some (.cells arr el (lo,hi)) /\
  (∀ c,c<w.heap.size->w'.heap[c]? =w.heap[c]?)/\Outside w w'/\(arr.size<=lo\/hi<=lo)/\(∀ c∈cs,K4 c=true)/\arr.toList=vs++more/\E7 O cs vs/\(∀ x,t=some x->x=el) /\
  ∀ (O':Place) (n:Nat),O' n=some ⟨w.heap.size,0,arr.size⟩->H3 O' (v n) v'
def It.row {cs:List Value}{t:Option TypeId}{vf:Nat->Value}{v':Value}{arr:Array Value}{el:TypeId} (En:(execOp e o).run P w= .ok (.value v') { w with heap:=w.heap.push (.cells arr el) })
  (hc:∀ c∈cs,K4 c=true) (hr:E7 O cs arr.toList) (hv:∀ (O':Place) (n:Nat),O' n=some ⟨w.heap.size,0,arr.size⟩->H3 O' (vf n) v') (ht:∀ x,t=some x->x=el:=by exact fun _ h=>by cases h):It P O e o w cs vf t :=
 ⟨_,v',arr,el,0,0,arr.toList,[],En,by simp,by simp,fun c hc=>by simp[Array.getElem?_push];intro h;omega,⟨rfl,rfl,rfl⟩,.inr nL,hc,by simp,hr,ht,hv⟩
def NQ {c m:Nat}(O':Place) (n:Nat) (h:O' n=some ⟨c,0,m⟩):H3 O' (ptrTo n) (.pointer (some ⟨c,0,none⟩)):= .ptr (off:=0) h
def XE {t:TypeId}(ho:o.op= .alloc t) (h:X8 P t=some (cs,vf)):It P O e o w cs vf (some t):=by
 obtain⟨z,h1,h2⟩:=A8 h;cases h2;obtain⟨hz,_,_⟩:=Dv (O:=O) h1 w;obtain⟨zc1,zc2,zc3⟩:=Db (O:=O) h1;refine It.row (v':= .pointer (some ⟨w.heap.size,0,none⟩)) (arr:=z.cells) (el:=t) ?_ zc3 zc2 NQ (fun _ h=>by cases h;rfl);simp only[execOp,ho,Instr.alloc,Sem.run_bind,hz,Result.andThen_ok,newVar,newRow,run_newObj,Sem.run_pure]
def jG {t:TypeId}{x:Operand}(ho:o.op= .box t x) (hk:P4 O fr e o.op.operands.toList) (h:bL fr x=some (cs,vf)):It P O e o w cs vf:=by
 obtain⟨u,h1,h2⟩:=A8 h;obtain⟨ht,h3⟩:=KD h2;cases h3;obtain⟨k1,k2⟩:=(hk x u (by simp[ho,Op.operands]) h1).cells ht;refine It.row (v':= .pointer (some ⟨w.heap.size,0,none⟩)) (arr:=(e x).cells) (el:=t) ?_ k2 k1 NQ;simp only[execOp,ho,Instr.box,newVar,newRow,Sem.run_bind,run_newObj,Result.andThen_ok,Sem.run_pure]
def MM {α:Type}(l:List α) (n:Nat):(Ab.rep l n).length=n*l.length:=by
 induction n with
 |zero=>show([]:List α).length=0*l.length;simp
 |succ n ih=>show(l++Ab.rep l n).length=_;rw[Dc,ih,Sp];omega
def PW {α:Type}(l:List α):∀ (n i:Nat),i<n*l.length->(Ab.rep l n)[i]? =l[i % l.length]? :=by
 intro n;induction n with
 |zero=>intro i h;omega
 | succ n ih=>
   intro i h;show(l++Ab.rep l n)[i]? =_;by_cases hi:i<l.length
   ·rw[List.getElem?_append_left hi,QE hi]
   ·rw[List.getElem?_append_right om,ih _ (by rw[Sp]at h;omega)];congr 1;rw[<- Nat.mod_eq_sub_mod om]
def NR {z z':List Value}(hz:E7 O z z') (n k:Nat) (hk:k=n*z.length):E7 O (Ab.rep z n) ((Array.range k).map fun i=>(⟨z'⟩:Array Value)[i % (⟨z'⟩:Array Value).size]!).toList:=by
 have hl:=hz.length;refine E7.Fs (by rw[MM];simp[hk]) ?_;intro i v hi;have hlt:i<n*z.length:=by rw[<- MM];exact(List.getElem?_eq_some_iff.1 hi).1
 rw[PW z n i hlt]at hi;obtain⟨v',h1,h2⟩:=hz.get hi;refine⟨v',?_,h2⟩;simp only[mc,Array.toList_range,List.getElem?_map];rw[List.getElem?_range om];simp only[TS,Option.some.injEq,List.size_toArray];have h3:(⟨z'⟩:Array Value)[i % z'.length]? =some v':=by rw[<- hl];simpa using h1
 rw[getElem!_def,h3]
def NS {t:TypeId}{len:Nat}{parts:Array (Nat×Operand)}{cs:List Value}{vf:Nat->Value}(ho:o.op= .buildSlice t len parts) (hk:P4 O fr e o.op.operands.toList)
  (h:Gb P fr t len parts=some (cs,vf)):It P O e o w cs vf:=by
 obtain⟨el,h1,k1⟩:=A8 h;obtain⟨m,h2,k2⟩:=A8 k1;obtain⟨z,h3,k3⟩:=A8 k2;obtain⟨vs,h4,k4⟩:=A8 k3;obtain⟨h5,k5⟩:=G7 k4;obtain⟨h6,k6⟩:=G7 k5;obtain⟨l,h7,k7⟩:=A8 k6;clear h k1 k2 k3 k4 k5 k6;cases k7;have hm:=Aa h5;have hle:=JM h6;have hr:=(hk.sub (k:=parts.toList.map (·.2)) fun y hy=>by simpa[ho,Op.operands]using hy).evs h4;obtain⟨hz,_,_⟩:=Dv (O:=O) h3 w;obtain⟨zc1,zc2,zc3⟩:=Db (O:=O) h3;have Uw:∀ c∈Ab.rep (J6 z) len,K4 c=true:=by
  intro c hc;obtain⟨i,hi⟩:=List.getElem?_of_mem hc;have hlt:i<len*(J6 z).length:=by rw[<- MM];exact(List.getElem?_eq_some_iff.1 hi).1
  rw[PW _ _ _ hlt]at hi;exact zc3 c (Bs hi)
 have hzr:=NR zc2 len (len*m) (by rw[hm]);obtain⟨r',k1,k2,k3⟩:=QD (place:=fun i=>some (i*m,m)) (place':=fun i=>some (i*m,m)) (fun i=>rfl) _ vs _ _ _ _ hr h7 hzr Uw;refine It.row (v':= .slice (some ⟨w.heap.size,0,none⟩) len len) (arr:=⟨r'⟩) (el:=el) ?_ k3 k2 (fun O' n hq=> .slice (off:=0) hq);have hu:=HD h1;have hcz:(⟨z.cells.toList⟩:Array Value)=z.cells:=rfl;by_cases h0:len*m=0
 ·simp only[execOp,ho,Instr.buildSlice,Sem.run_bind,G1 hu,Result.andThen_ok,Bh h2,Sem.run_ite,h0];rw[z0z om];simp only[FP,Sem.run_bind,Sem.run_pure,Result.andThen_ok];rw[h0]at k1;simp only[KE];have he:((Array.range 0).map fun i=>(#[]:Array Value)[i % (#[]:Array Value).size]!)=⟨((Array.range 0).map fun i=>(⟨z.cells.toList⟩:Array Value)[i % (⟨z.cells.toList⟩:Array Value).size]!).toList⟩:=by
   simp
  rw[he,k1];simp only[newRow,Sem.run_bind,run_newObj,Result.andThen_ok,Sem.run_pure]
 ·simp only[execOp,ho,Instr.buildSlice,Sem.run_bind,G1 hu,Result.andThen_ok,Bh h2,Sem.run_ite,h0];rw[z0z om];simp only[Gc,Sem.run_bind,Sem.run_pure,Result.andThen_ok,hz];simp only[KE];have he:((Array.range (len*m)).map fun i=>z.cells[i % z.cells.size]!)=⟨((Array.range (len*m)).map fun i=>(⟨z.cells.toList⟩:Array Value)[i % (⟨z.cells.toList⟩:Array Value).size]!).toList⟩:=rfl;rw[he,k1];simp only[newRow,Sem.run_bind,run_newObj,Result.andThen_ok,Sem.run_pure]
def HE (l:List UInt8):HF (Dw l)=true:=by
 induction l with
 |nil=>rfl
 |cons b l ih=>show bi true (HF (Dw l)) false=true;exact ih
def XG {s d:TypeId}{x:Operand}{cs:List Value}{vf:Nat->Value}(ho:o.op= .convert s d x) (hk:P4 O fr e o.op.operands.toList)
  (h:Gd P fr s d x=some (cs,vf)):It P O e o w cs vf:=by
 obtain⟨hs0,h⟩:=G7 h;have hs:∃ ds,P.underlying s=some ds:=Option.isSome_iff_exists.1 hs0;obtain⟨u,h1,k1⟩:=A8 h;obtain⟨l,h2,k2⟩:=A8 k1;obtain⟨el,h3,k3⟩:=A8 k2;obtain⟨h4,k4⟩:=G7 k3;clear h k1 k2 k3;cases k4;have hx:=hk x u (by simp[ho,Op.operands]) h1;unfold KF at h2;split at h2
 ·rename_i b;cases h2;generalize hE:e x=y at hx;cases hx with
  | I1 _=>
    obtain⟨ds,hds⟩:=hs;have hud:=HD h3;have hue:P.underlying el=some (.int .u8):=by
     unfold isByte at h4;split at h4
     ·assumption
     ·cases h4
    have hsz:b.size=b.data.toList.length:=Array.length_toList.symm;have At8:b.size<=(Question.appendCap b.size 0 el).cut (w.tape w.drawn (.appendCap b.size 0 el)):=AC5 _ _;generalize hK:(Question.appendCap b.size 0 el).cut (w.tape w.drawn (.appendCap b.size 0 el))=K at At8;have Kc:((b.data.map fun b:UInt8=>Value.int .u8 b.toNat)++Array.replicate (K-b.size) (Value.int .u8 0)).toList=Dw b.data.toList++List.replicate (K-b.size) (.int .u8 0):=by
     rw[AC6,mc,Array.toList_replicate];rfl
    have At9:((b.data.map fun b:UInt8=>Value.int .u8 b.toNat)++Array.replicate (K-b.size) (Value.int .u8 0)).size=K:=by
     rw[XH,Array.size_map,fE];show b.size+_=K;omega
    generalize ha:(b.data.map fun b:UInt8=>Value.int .u8 b.toNat)++Array.replicate (K-b.size) (Value.int .u8 0)=arr at Kc At9
    refine⟨(({ w with drawn:=w.drawn+1,heap:=w.heap.push (.cells arr el) }:World).freeze ⟨w.heap.size,arr.size,none⟩ 1),.slice (some ⟨w.heap.size,0,none⟩) b.size K,arr,el,arr.size,arr.size+1,
     Dw b.data.toList,List.replicate (K-b.size) (.int .u8 0),?_,?_,?_,?_,⟨rfl,rfl,rfl⟩,.inl nL,FG (HE _),Kc,E7.ML (HE _),(fun _ h=>by cases h),?_⟩
    ·have hf:(Question.appendCap b.size 0 el).forced=false:=rfl;simp only[execOp,ho,hE,convert,Sem.run_bind,G1 hds,Result.andThen_ok,G1 hud]
     cases ds<;>simp only[Sem.run_bind,G1 hue,Result.andThen_ok,Conv.stringToBytes,run_choose,hf,IH,Gc,hK,newRow,run_newObj,Sem.run_pure,ha,markStringish,run_shape]<;>
      simp[World.shape?,ha]
    ·simp[World.freeze]
    ·simp only[World.freeze];rw[z0z om];show((w.heap.push (.cells arr el)).modify w.heap.size _)[w.heap.size]? =_;rw[Array.getElem?_modify];simp
    ·intro c hc;simp[World.freeze,Array.getElem?_modify,Array.getElem?_push];rw[z0z om,z0z om]
    ·intro O' n hq;rw[hsz];exact .grow hq om (by show 0+0+K*1<=arr.size;omega)
 ·cases h2
def wrap_small {n:Nat}(h:n<9223372036854775808):IntKind.i64.wrap (n:Int)=n:=by
 rw[wrap_i64];split<;>omega
def bM {t:TypeId}{l c:Operand}{cs:List Value}{vf:Nat->Value}(ho:o.op= .makeSlice t l c) (hk:P4 O fr e o.op.operands.toList)
  (h:QG P fr t l c=some (cs,vf)):It P O e o w cs vf:=by
 obtain⟨el,h1,k1⟩:=A8 h;obtain⟨i,h2,k2⟩:=A8 k1;obtain⟨z,h3,k3⟩:=A8 k2;obtain⟨n,h4,k4⟩:=A8 k3;obtain⟨m,h5,k5⟩:=A8 k4;obtain⟨h6,k6⟩:=G7 k5;obtain⟨h7,k7⟩:=G7 k6;obtain⟨h8,k8⟩:=G7 k7;clear h k1 k2 k3 k4 k5 k6 k7;cases k8;have hnm:=JM h6;have Cj:=JM h7;have hsz:=Aa h8;unfold room at Cj;have BN7:m<=4294967296:=AV (AC7 m om) Cj;have hbm:m*i.bytes<=4294967296:=AV (XI m om) Cj;obtain⟨kl,hl⟩:=PX hk (x:=l) (by simp[ho,Op.operands]) h4;obtain⟨kc,hc⟩:=PX hk (x:=c) (by simp[ho,Op.operands]) h5;obtain⟨hz,_,_⟩:=Dv (O:=O) h3 w;obtain⟨zc1,zc2,zc3⟩:=Db (O:=O) h3;have Uw:∀ c∈Ab.rep (J6 z) m,K4 c=true:=by
  intro c hc;obtain⟨i,hi⟩:=List.getElem?_of_mem hc;have hlt:i<m*(J6 z).length:=by rw[<- MM];exact(List.getElem?_eq_some_iff.1 hi).1
  rw[PW _ _ _ hlt]at hi;exact zc3 c (Bs hi)
 have hzr:=NR zc2 m (m*i.size) (by rw[hsz]);have Au0:P.cellsOf el=i.size:=by simp[Program.cellsOf,h2]
 have hso:(sizeOf el).run P w= .ok i.size w:=by simp[sizeOf,typeInfo,h2]
 have hu:=HD h1;have e1:IntKind.i64.wrap ((n:Nat):Int)=n:=wrap_small om;have e2:IntKind.i64.wrap ((m:Nat):Int)=m:=wrap_small om;have p48:(2:Int) ^ 48=281474976710656:=by decide
 refine It.row (v':= .slice (some ⟨w.heap.size,0,none⟩) n m) (arr:=⟨((Array.range (m*i.size)).map fun j=>(⟨z.cells.toList⟩:Array Value)[j % (⟨z.cells.toList⟩:Array Value).size]!).toList⟩) (el:=el) ?_ Uw hzr (fun O' n hq=> .slice (off:=0) hq);have BN8:(i.bytes:Int)*(m:Int)<=4294967296:=by
  have h9:=Int.ofNat_le.2 hbm;rw[Int.natCast_mul]at h9;rw[Int.mul_comm];exact h9
 have c2:¬ ((decide (IntKind.i64.wrap (m:Int)<0)||decide ((i.bytes:Int)*IntKind.i64.wrap (m:Int)>2 ^ 48)||decide (IntKind.i64.wrap (n:Int)<0)||decide (IntKind.i64.wrap (n:Int)>IntKind.i64.wrap (m:Int)))=true):=by
  rw[e1,e2,p48,Sn,Sn,Sn,Dn,Dn,Dn,Dn];omega
 simp only[execOp,ho,hl,hc,Instr.makeSlice,Sem.run_bind,G1 hu,Result.andThen_ok,asInt,asIntOf,Sem.run_pure,fF h2,JN];rw[z0z c2];rw[e1,e2];simp only[Sem.run_bind,run_askRoom,Result.andThen_ok,hso,OO,Sem.run_ite];by_cases h0:m*i.size=0
 ·rw[z1z h0];simp only[Sem.run_bind,Sem.run_pure,Result.andThen_ok,newRow,run_newObj];congr 4;rw[h0];simp
 ·rw[z0z h0];simp only[Sem.run_bind,Sem.run_pure,Result.andThen_ok,newRow,run_newObj,hz]
end
end
section
variable {off n b:Nat}{cs l cells:List Value}{q:BK}{B8:Env}{Z:St}{x:Value}
section
variable {P:Program}{O:Place}{fr:Fr}{e:Operand->Value}{o:Oper}{w:World}{v:Value}
def Seg (O:Place) (w:World) (q:BK) (off:Nat) (cs:List Value):Prop:=∃ (arr:Array Value) (e:TypeId) (f:Nat×Nat),w.heap[q.c]? =some (.cells arr e f)/\q.o+off+cs.length<=arr.size/\(∀ v∈cs,K4 v=true) /\
 ∀ (i:Nat) (v:Value),cs[i]? =some v->∃ v',arr[q.o+off+i]? =some v'/\H3 O v v'
def Row.seg (h:Row B8 O w q cells) (hs:sub cells off n=some cs):Seg O w q off cs/\cs.length=n:=by
 obtain⟨arr,el,lo,hi,h1,h0,h2,h3,h4,h5⟩:=h;obtain⟨h6,rfl⟩:=sub_eq hs;refine⟨⟨arr,el,(lo,hi),h1,by simp;omega,fun v hv=>h4 v (bJ (PF hv)),fun i v hv=>?_⟩,by simp;omega⟩;have hi':i<n:=by
  rcases AW i n with hh|hh
  ·exact hh
  ·rw[List.getElem?_eq_none (by simp;omega)]at hv;cases hv
 rw[List.getElem?_take_of_lt hi',List.getElem?_drop]at hv;obtain⟨v',h7,h8⟩:=h5 _ _ hv;exact⟨v',by rw[show q.o+off+i=q.o+(off+i)from by omega];exact h7,h8⟩
def Seg.read (h:Seg O w q off cs):∃ vs:List Value,(loadCells ⟨q.c,q.o+off,none⟩ cs.length).run P w= .ok vs.toArray w/\E7 O cs vs/\∀ v∈cs,K4 v=true:=by
 obtain⟨arr,e,f,h1,h2,h4,h5⟩:=h;refine⟨_,run_read h1 cs.length om,?_,h4⟩;apply E7.Fs
 ·simp;omega
 ·intro i v hv;have hi':i<cs.length:=(List.getElem?_eq_some_iff.1 hv).1;rw[List.getElem?_take_of_lt hi',List.getElem?_drop];obtain⟨v',h7,h8⟩:=h5 _ _ hv;exact⟨v',by rw[Array.getElem?_toList];exact h7,h8⟩
def Seg.one (h:Seg O w q off cs) (hv:Ke cs=some v):
  ∃ v',(load ⟨q.c,q.o+off,none⟩).run P w= .ok v' w/\H3 O v v':=by
 obtain⟨arr,el,f,h1,h2,h4,h5⟩:=h;obtain⟨v',h7,h8⟩:=h5 0 v (by rw[Vf hv];rfl);refine⟨v',?_,h8⟩;rw[run_load,IJ h1,show q.o+off=q.o+off+0 from rfl,h7]
def Row.one (h:Row B8 O w q cells) (hs:sub cells off 1=some cs) (hv:Ke cs=some v):
  ∃ v',(load ⟨q.c,q.o+off,none⟩).run P w= .ok v' w/\H3 O v v':=(h.seg hs).1.one hv
def W7 (h:Z.read b off n=some cs):∃ B,Z.GK b=some B/\sub B.cells off n=some cs:=A8 h
def Rel.seg (hR:Rel B8 O Z w)(hq:O b=some q) (h:Z.read b off n=some cs):Seg O w q off cs:=by
 obtain⟨B,h1,h2⟩:=W7 h;exact((hR.row b q B hq h1).seg h2).1
def Jx (h:Z.read b off n=some cs):cs.length=n:=by
 obtain⟨B,h1,h2⟩:=W7 h;obtain⟨h3,h4⟩:=sub_eq h2;rw[h4];simp;omega
def cX {Z:St}{t:TypeId}{x:Operand}{r:An}(ho:o.op= .load t x) (hk:P4 O fr e o.op.operands.toList) (h:Ht P fr Z t x=some (v,r))
  (zk:∀ q cs,O r.b=some q->Z.read r.b r.off r.n=some cs->Seg O w q r.off cs):BE P O e o w v:=by
 obtain⟨u,h1,k1⟩:=A8 h;obtain⟨⟨b',off⟩,h2,k2⟩:=A8 k1;obtain⟨m,hm,k2⟩:=A8 (show ob (span? P t) _=some (v,r)from k2);obtain⟨v0,h3,k3⟩:=A8 (show ob (gK P Z t b' off) _=some (v,r)from k2);clear h k1 k2;cases k3;obtain⟨q,hq,hx⟩:=Lc (hk x u (by simp[ho,Op.operands]) h1) h2;obtain⟨g,h4,h5⟩:=A8 h3;obtain⟨g',hg',hm⟩:=A8 hm;rw[h4]at hg';cases hg';have hg:=Wb h4 w;cases g with
 | true=>
   obtain⟨n,h6,h7⟩:=A8 (show ob (size? P t) _=some v from h5);obtain⟨cs,h8,h9⟩:=A8 h7;cases h9;rw[show size? P t=some m from hm]at h6;cases h6;obtain⟨vs,k1,k2,k3⟩:=(zk q cs hq h8).read (P:=P);rw[Jx h8]at k1;refine⟨.agg vs.toArray,?_,.agg k3 k2⟩;simp only[execOp,ho,hx,Instr.loadAt,Instr.sureAddr,Sem.run_bind,Sem.run_pure,Result.andThen_ok,loadVar,hg,FP,Bh (show size? P t=some m from hm),k1]
 | false=>
   cases hm;obtain⟨cs,h8,h9⟩:=A8 (show ob (Z.read b' off 1) _=some v from h5);obtain⟨v',k1,k2⟩:=(zk q cs hq h8).one (P:=P) h9;refine⟨v',?_,k2⟩;simp only[execOp,ho,hx,Instr.loadAt,Instr.sureAddr,Sem.run_bind,Sem.run_pure,Result.andThen_ok,loadVar,hg,IH,Gc,k1]
def Hu {u u':Value}{p:An}(h:H3 O u u') (hp:No u=some p):∃ q a k',O p.b=some q/\u'= .slice (some a) p.n k'/\(a=⟨q.c,q.o+p.off,none⟩\/p.n=0):=by
 unfold No at hp;split at hp
 ·cases hp;cases h with
  |slice hq=>exact⟨_,_,_,hq,rfl,.inl rfl⟩
  |grow hq _ _=>exact⟨_,_,_,hq,rfl,.inl rfl⟩
  |Bl hq=>exact⟨_,_,_,hq,rfl,.inr rfl⟩
  |I1 hs=>simp[I1]at hs
 ·cases hp
def eh {P:Program}{w:World}:∀ (l:List Value) (r:List UInt8) (s:ByteArray),BQ l=some r ->
  (forIn l s (fun(c:Value) (s:ByteArray)=>(match c with
    | .int .u8 n=>pure (ForInStep.yield (s.push (UInt8.ofNat n.toNat)))
    | _=>do
      stuck "bytesToString: byte expected"
      pure (ForInStep.yield s):Sem (ForInStep ByteArray)))).run P w= .ok ⟨(s.data.toList++r).toArray⟩ w:=by
 intro l;induction l with
 |nil=>intro r s h;cases h;simp[forIn,List.forIn']
 | cons v l ih=>
   intro r s h;obtain⟨b,h1,h2⟩:=A8 (show ob (PB v) (fun b=>ob (BQ l) fun bs=>some (b::bs))=some r from h);obtain⟨bs,h3,h4⟩:=A8 h2;cases h4;unfold PB at h1;split at h1
   ·cases h1;rw[List.forIn_cons];simp only[Sem.run_bind,Sem.run_pure,Result.andThen_ok];rw[ih bs _ h3];simp[ByteArray.push]
   ·cases h1
def E7.BQ {l':List Value}{r:List UInt8}(h:E7 O l l') (hu:Ab.BQ l=some r):Ab.BQ l'=some r:=by
 induction l generalizing l' r with
 |nil=>cases h;exact hu
 | cons v l ih=>
   cases h with
   |cons hv hs=>
   rename_i v' l';obtain⟨b,h1,h2⟩:=A8 (show ob (PB v) (fun b=>ob (Ab.BQ l) fun bs=>some (b::bs))=some r from hu);obtain⟨bs,h3,h4⟩:=A8 h2;cases h4;show ob (PB v') (fun b=>ob (Ab.BQ l') fun bs=>some (b::bs))=_;have:v'=v:=by
    unfold PB at h1;split at h1
    ·cases hv;rfl
    ·cases h1
   rw[this,h1,ih hs h3];rfl
def ld {d:Option TypeDesc}(h:isByte d=true):d=some (.int .u8):=by
 unfold isByte at h;split at h
 ·rfl
 ·cases h
def uC {d:Option TypeDesc}(h:isStr d=true):d=some .string:=by
 unfold isStr at h;split at h
 ·rfl
 ·cases h
def WA {Z:St}{s d:TypeId}{x:Operand}{r:An}(ho:o.op= .convert s d x) (hk:P4 O fr e o.op.operands.toList) (h:DD P fr Z s d x=some (v,r))
  (zk:∀ q cs,O r.b=some q->Z.read r.b r.off r.n=some cs->Seg O w q r.off cs):BE P O e o w v:=by
 obtain⟨u,h1,k1⟩:=A8 h;obtain⟨⟨b',off,n⟩,h2,k2⟩:=A8 k1;obtain⟨el,h3,k3⟩:=A8 (show ob (elem? P s) _=some (v,r)from k2);obtain⟨h4,k4⟩:=G7 k3;obtain⟨h5,k5⟩:=G7 k4;obtain⟨l,h6,k6⟩:=A8 k5;obtain⟨r',h7,k7⟩:=A8 k6;clear h k1 k2 k3 k4 k5 k6;cases k7;obtain⟨q,a,k',hq,hx,ha⟩:=Hu (hk x u (by simp[ho,Op.operands]) h1) h2;obtain⟨vs,k1,k2,k3⟩:=(zk q l hq h6).read (P:=P);rw[Jx h6]at k1;have Ao6:(loadCells a n).run P w= .ok vs.toArray w:=by
  rcases ha with ha|ha
  ·rw[ha];exact k1
  ·change n=0 at ha;subst ha;have:vs=[]:=by
    have h12:=k2.length;rw[Jx h6]at h12;exact PG.1 h12.symm
   subst this;rfl
 refine⟨.string ⟨r'.toArray⟩,?_,.I1 rfl⟩;simp only[execOp,ho,hx,convert,Sem.run_bind,G1 (HD h3),G1 (uC h5),Result.andThen_ok,G1 (ld h4),Conv.bytesToString,Ao6,Sem.run_pure];have hl:=eh (P:=P) (w:=w) vs r' ByteArray.empty (k2.BQ h7);rw[List.forIn_toArray];refine(congrArg (fun r:Result ByteArray=>(r.andThen fun a w'=>Result.ok (Value.string a) w').andThen fun a w'=>Result.ok (Next.value a) w') hl).trans ?_;rfl
def Ao7 (v:Value):Next->Prop
 | .value v'=>v'=v
 | .skip=>v=undef
 |_=>False
def Kh (P:Program) (B8:Env) (O:Place) (e:Operand->Value) (o:Oper) (Z:St) (w:World) (Z':St) (v:Value):Prop :=
 ∃ (w':World) (nx:Next) (v':Value) (O':Place),(execOp e o).run P w= .ok nx w'/\Ao7 v' nx/\Rel B8 O' Z' w'/\X9 O Z w O' Z' w'/\H3 O' v v'
def Ye {B8:Env}{Z Z':St}{t:TypeId}{x y:Operand}(ho:o.op= .store t x y) (hk:P4 O fr e o.op.operands.toList) (hR:Rel B8 O Z w)
  (h:Gs P fr Z t x y=some (v,Z')):Kh P B8 O e o Z w Z' v:=by
 obtain⟨a,h1,k1⟩:=A8 h;obtain⟨u,h2,k2⟩:=A8 k1;obtain⟨Z1,h3,k3⟩:=A8 k2;clear h k1 k2;cases k3;obtain⟨⟨b,off⟩,h4,k4⟩:=A8 h3;obtain⟨n,h5,k5⟩:=A8 (show ob (size? P t) _=some Z' from k4);obtain⟨ht,k6⟩:=KD k5;obtain⟨h6,h7⟩:=G7 k6;clear h3 k4 k5 k6;have hn:=Aa h6;obtain⟨q,hq,hx⟩:=Lc (hk x a (by simp[ho,Op.operands]) h1) h4;obtain⟨c1,c2⟩:=(hk y u (by simp[ho,Op.operands]) h2).cells ht;obtain⟨w1,w2,w3⟩:=hR.write hq h7 c1 c2;refine⟨_,.skip,undef,O,?_,rfl,w2,w3,.tuple .nil⟩;have hl:=c1.length;have hsz:(e y).cells.size=n:=by rw[<- PE,<- hl,hn]
 simp only[execOp,ho,hx,Instr.storeAt,Instr.sureAddr,Sem.run_bind,Sem.run_pure,Result.andThen_ok,storeVar,Bh h5,ne_eq];rw[z0z (by simp[hsz])];rw[w1 P];rfl
def VC {size:Nat}{x':Value}{new:List Value}(hR:Rel B8 O Z w) (hx:H3 O x x') (h:Ao Z size x=some (n,new)):
  (Builtin.lenOf x').run P w= .ok n w/\new.length=n*size/\(∀ v∈new,K4 v=true) /\
  ∀ k,k<=n->∃ W6,(Builtin.firstCells size k x').run P w= .ok (W6:List Value).toArray w/\E7 O (new.take (k*size)) W6:=by
 unfold Ao at h;split at h
 ·rename_i n0 cap;obtain⟨h1,h2⟩:=G7 h;cases h2;have:=Aa h1;subst this;cases hx with
  | I1 hs=>
    refine⟨rfl,by simp,by simp,fun k hk=>?_⟩;have:k=0:=om;subst this;exact⟨[],rfl,by simp;exact .nil⟩
 ·rename_i b off sp n0 cap;obtain⟨cs,h1,h2⟩:=A8 h;cases h2;obtain⟨q,a,k',hq,hx',ha⟩:=Hu (p:=⟨b,off,n⟩) hx rfl;obtain⟨B,h10,h11⟩:=W7 h1;obtain⟨h12,h13⟩:=sub_eq h11;have FT:=hR.row b q B hq h10;subst hx';have hlen:new.length=n*size:=by
   have:=congrArg List.length h13;simp at this;omega
  refine⟨rfl,hlen,?_,fun k hk=>?_⟩
  ·obtain⟨_,_,_,k3⟩:=FT.read (P:=P) h11;exact k3
  ·have hks:k*size<=n*size:=jJ size hk;obtain⟨vs,k1,k2,k3⟩:=FT.read (P:=P) (off:=off) (n:=k*size) (o9 om);refine⟨vs,?_,?_⟩
   ·rcases ha with ha|ha
    ·simp only[Builtin.firstCells];rw[ha];exact k1
    ·change n=0 at ha;have hk0:k=0:=om;subst hk0;have:vs=[]:=by
      have:=k2.length;simp at this;exact PG.1 this.symm
     subst this;simp only[Builtin.firstCells,Fp];rfl
   ·have h14:new.take (k*size)=(B.cells.drop off).take (k*size):=by
     rw[h13,Tz,wh hks]
    rw[h14];exact k2
 ·rename_i s;obtain⟨h1,h2⟩:=G7 h;cases h2;have hs1:=Aa h1;subst hs1;cases hx with
  | I1 hs=>
    have hsz:s.size=s.data.toList.length:=Array.length_toList.symm;refine⟨by simp only[Builtin.lenOf,Sem.run_pure,hsz],by simp[Dw],FG (HE _),fun k hk=>⟨Dw (s.data.toList.take k),?_,?_⟩⟩
    ·simp only[Builtin.firstCells,Sem.run_pure];congr 1;rw[Km s 0 k hk];simp[Dw]
    ·rw[MH];have:(Dw s.data.toList).take k=Dw (s.data.toList.take k):=by simp[Dw]
     rw[this];exact E7.ML (HE _)
 ·cases h
def lf {r:List Value}(h:takeN n l=some r):r=l.take n/\n<=l.length:=⟨(SY _ _ _ h).2,(SY _ _ _ h).1⟩
def TU {Z':St}(hR:Rel B8 O Z w) (hq:O b=some q) (h:Z.write b off []=some Z'):Rel B8 O Z' w/\X9 O Z w O Z' w:=by
 obtain⟨_,w2,w3⟩:=hR.write hq h .nil (by simp);exact⟨w2,w3⟩
def mu {y:Value}(h:qH l=some (x,y)):l=[x,y]:=by
 unfold qH at h;split at h
 ·cases h;rfl
 ·cases h
def aZ {B8:Env}{Z Z':St}{b off n:Nat}{q:BK}{a:Addr}{vs vs':List Value}(hR:Rel B8 O Z w) (hq:O b=some q) (ha:a=⟨q.c,q.o+off,none⟩\/n=0)
  (hn:n=0->vs=[]) (h:Z.write b off vs=some Z') (hr:E7 O vs vs') (hc:∀ v∈vs,K4 v=true) :
  ∃ w',(storeCells a vs').run P w= .ok () w'/\Rel B8 O Z' w'/\X9 O Z w O Z' w':=by
 rcases ha with ha|ha
 ·subst ha;obtain⟨w1,w2,w3⟩:=hR.write hq h hr hc;exact⟨_,w1 P,w2,w3⟩
 ·have:=hn ha;subst this;cases hr;obtain⟨w2,w3⟩:=TU hR hq h;exact⟨w,rfl,w2,w3⟩
def cY {B8:Env}{Z Z':St}{c:Call}(ho:o.op= .call c) (hc:c.callee= .builtin .copy) (hk:P4 O fr e o.op.operands.toList) (hR:Rel B8 O Z w)
  (h:AI0 P fr Z c=some (v,Z')):Kh P B8 O e o Z w Z' v:=by
 obtain⟨vs,h1,k1⟩:=A8 h;obtain⟨⟨d,s⟩,h2,k2⟩:=A8 k1;obtain⟨t,h3,k3⟩:=A8 (show ob (QL c) _=some (v,Z')from k2);obtain⟨el,h4,k4⟩:=A8 (show ob (elem? P t) _=some (v,Z')from k3);obtain⟨size,h5,k5⟩:=A8 k4;obtain⟨⟨b,off,dl⟩,h6,k6⟩:=A8 k5;obtain⟨⟨n,cs⟩,h7,k7⟩:=A8 (show ob (Ao Z size s) _=some (v,Z')from k6);obtain⟨cs2,h8,k8⟩:=A8 (show ob (takeN (Nat.min n dl*size) cs) _=some (v,Z')from k7);obtain⟨Z2,h9,k9⟩:=A8 k8;clear h k1 k2 k3 k4 k5 k6 k7 k8;cases k9;have hr:=(Ep ho hk).evs h1;rw[mu h2]at hr;generalize hE:c.args.toList.map e=L at hr;cases hr with
 |cons hd hs=>
 cases hs with
 |cons hs mw=>
 cases mw;rename_i d' s';have Dy:c.args.map e=#[d',s']:=by rw[JP,hE]
 obtain⟨q,a,k',hq,hd',ha⟩:=Hu hd h6;change d'= .slice (some a) dl k' at hd';change a=⟨q.c,q.o+off,none⟩\/dl=0 at ha;subst hd';obtain⟨s1,s2,s3,s4⟩:=VC (P:=P) hR hs h7;obtain⟨W6,s5,s6⟩:=s4 (Nat.min n dl) (Nat.min_le_left _ _);obtain⟨rfl,s7⟩:=lf h8;obtain⟨w',g1,g2,g3⟩:=aZ (P:=P) hR hq ha (fun h0=>by subst h0;simp) h9 s6 (fun v hv=>s3 v (PF hv));refine⟨w',.value _,_,O,?_,rfl,g2,g3,.I1 rfl⟩;have hm:Nat.min n dl=min n dl:=rfl;simp only[execOp,ho,resolve,hc,Sem.run_bind,Sem.run_pure,Result.andThen_ok,invoke,builtin,Builtin.copy_,Cy h3,Dy];simp[G1 (HD h4),s1,Bh h5,goInt];rw[s5];simp only[Result.andThen_ok,g1]
def Yf {B8:Env}{Z Z':St}{c:Call}(ho:o.op= .call c) (hc:c.callee= .builtin .clear) (hk:P4 O fr e o.op.operands.toList) (hR:Rel B8 O Z w)
  (h:uB P fr Z c=some (v,Z')):Kh P B8 O e o Z w Z' v:=by
 obtain⟨vs,h1,k1⟩:=A8 h;obtain⟨x,h2,k2⟩:=A8 k1;obtain⟨t,h3,k3⟩:=A8 k2;obtain⟨el,h4,k4⟩:=A8 (show ob (elem? P t) _=some (v,Z')from k3);obtain⟨z,h5,k5⟩:=A8 k4;obtain⟨⟨b,off,n⟩,h6,k6⟩:=A8 k5;obtain⟨Z2,h9,k9⟩:=A8 (show ob (Z.write b off (rep (J6 z) n)) _=some (v,Z')from k6);clear h k1 k2 k3 k4 k5 k6;cases k9;have hr:=(Ep ho hk).evs h1;rw[Vf h2]at hr;generalize hE:c.args.toList.map e=L at hr;cases hr with
 |cons hx hs=>
 cases hs;rename_i x';have Dy:c.args.map e=#[x']:=by rw[JP,hE]
 obtain⟨q,a,k',hq,hx',ha⟩:=Hu hx h6;change x'= .slice (some a) n k' at hx';change a=⟨q.c,q.o+off,none⟩\/n=0 at ha;subst hx';obtain⟨hz,_,_⟩:=Dv (O:=O) h5 w;obtain⟨zc1,zc2,zc3⟩:=Db (O:=O) h5;have Uw:∀ c∈Ab.rep (J6 z) n,K4 c=true:=by
  intro c hc;obtain⟨i,hi⟩:=List.getElem?_of_mem hc;have hlt:i<n*(J6 z).length:=by rw[<- MM];exact(List.getElem?_eq_some_iff.1 hi).1
  rw[PW _ _ _ hlt]at hi;exact zc3 c (Bs hi)
 have hzr:=NR zc2 n (n*z.cells.size) (by rw[zc2.length,PE]);obtain⟨w',g1,g2,g3⟩:=aZ (P:=P) hR hq ha (fun h0=>by subst h0;rfl) h9 hzr Uw;refine⟨w',.value _,_,O,?_,rfl,g2,g3,.tuple .nil⟩;have hu:=HD h4;by_cases h0:n=0
 ·subst h0;have hw:w'=w:=by
   have:((Array.range (0*z.cells.size)).map fun i=>(⟨z.cells.toList⟩:Array Value)[i % (⟨z.cells.toList⟩:Array Value).size]!).toList=[]:=sI;rw[this]at g1;cases g1;rfl
  subst hw;simp only[execOp,ho,resolve,hc,Sem.run_bind,Sem.run_pure,Result.andThen_ok,invoke,builtin,Builtin.clear_,Cy h3,Dy];simp[G1 hu]
 ·simp only[execOp,ho,resolve,hc,Sem.run_bind,Sem.run_pure,Result.andThen_ok,invoke,builtin,Builtin.clear_,Cy h3,Dy];have hg:(storeCells a (Builtin.zeroCells z.cells n).toList).run P w= .ok () w':=g1;obtain⟨m,rfl⟩:∃ m,n=m+1:=⟨n-1,om⟩
  simp[G1 hu,hz,hg]
def zl (TO:Nat):∀ (k c:Nat),256<=c->c<TO->Builtin.growBy TO k c<=2*TO:=by
 intro k;induction k with
 |zero=>intro c _ h;unfold Builtin.growBy;omega
 | succ k ih=>
   intro c h1 h2;unfold Builtin.growBy;rw[z0z om];by_cases h3:c+(c+768) / 4<TO
   ·exact ih _ om h3
   ·cases k with
    |zero=>unfold Builtin.growBy;omega
    |succ k=>unfold Builtin.growBy;rw[z1z om];omega
def vJ (TO cap:Nat) (h:cap<TO):Builtin.nextslicecap TO cap<=2*TO:=by
 unfold Builtin.nextslicecap;split
 ·omega
 ·split
  ·omega
  ·exact zl TO 4 cap om h
end
end
section
variable {Z:St}{B8:Env}{b off x:Nat}{q:BK}
section
variable {P:Program}{O:Place}{fr:Fr}{e:Operand->Value}{o:Oper}{w:World}{v:Value}
def Rel.heap {w w':World}(h:Rel B8 O Z w) (hw:w'.heap=w.heap):Rel B8 O Z w' :=
 ⟨h.fresh,fun b q B h1 h2=>(h.Hm b q B h1 h2).mono (Place.le_refl _) (by rw[hw]),fun b q h1=>by rw[hw];exact h.dom b q h1,h.own,h.sep,h.low.next (by rw[hw];exact BF _) fun c _=>by rw[hw]⟩
def jI {d:Option TypeDesc}(h:NV d=true):∃ d',d=some d'/\NV (some d')=true:=by
 cases d with
 |none=>cases h
 |some d=>exact⟨d,rfl,h⟩
def FQ {c:Call}{t:TypeId}(h:fI c=some t):c.argTypes[1]? =some t:=by
 unfold fI at h;split at h
 ·rename_i u u2 r hu;cases h;have:=congrArg (fun l:List TypeId=>l[1]?) hu
  simpa using this
 ·cases h
def DS {ts:Array TypeId}{ty t t2 el:TypeId}{i:TypeInfo}{d2:TypeDesc}{base':Option Addr}{len BW n:Nat}{x':Value}{W6:Array Value}{w':World}
  (h0:ts[0]? =some t) (h1:ts[1]? =some t2) (hu:P.underlying t=some (.slice el)) (hu2:P.underlying t2=some d2) (hd2:NV (some d2)=true) (hi:P.info? el=some i)
  (hn:(Builtin.lenOf x').run P w= .ok n w) (hx:(Builtin.firstCells i.size n x').run P w= .ok W6 w) (hle:len+n<=BW)
  (hst:match base' with|some a=>(storeCells (a.add (len*i.size)) W6.toList).run P w= .ok () w'|none=>w'=w) :
  (Builtin.append_ ts ty #[.slice base' len BW,x']).run P w= .ok (.slice base' (len+n) BW) w':=by
 have hso:(sizeOf el).run P w= .ok i.size w:=by simp[sizeOf,typeInfo,hi]
 have a0:(#[Value.slice base' len BW,x']:Array Value)[0]? =some (.slice base' len BW):=rfl;have a1:(#[Value.slice base' len BW,x']:Array Value)[1]? =some x':=rfl;unfold Builtin.append_;simp only[h0,h1,a0,a1,Sem.run_bind,G1 hu,Result.andThen_ok,hso,G1 hu2,Sem.run_pure];cases base' with
 | none=>
   subst hst
   cases d2<;>first
    | (cases hd2;done)
    | (simp only[IH,Gc,Sem.run_bind,hn,Result.andThen_ok,Sem.run_ite,z1z hle,XN,FP,hx,Sem.run_pure])
 | some a=>
   cases d2<;>first
    | (cases hd2;done)
    | (simp only[IH,Gc,Sem.run_bind,hn,Result.andThen_ok,Sem.run_ite,z1z hle,XN,FP,hx,hst,Sem.run_pure])
def Ge {ts:Array TypeId}{ty t t2 el:TypeId}{i:TypeInfo}{d2:TypeDesc}{base':Option Addr}{len BW n:Nat}{x' z:Value}{old' W6:Array Value}
  (h0:ts[0]? =some t) (h1:ts[1]? =some t2) (hu:P.underlying t=some (.slice el)) (hu2:P.underlying t2=some d2) (hd2:NV (some d2)=true) (hi:P.info? el=some i) (hz:i.zero=some z)
  (hn:(Builtin.lenOf x').run P w= .ok n w) (hold:(Builtin.firstCells i.size len (.slice base' len BW)).run P w.drew= .ok old' w.drew) (hx:(Builtin.firstCells i.size n x').run P w.drew= .ok W6 w.drew)
  (hlt:BW<len+n) (Cj:(len+n)*(i.bytes+1)<=room) :
  ∃ K,len+n<=K/\(Builtin.append_ ts ty #[.slice base' len BW,x']).run P w =
   .ok (.slice (some ⟨w.heap.size,0,none⟩) (len+n) K) { w.drew with heap:=w.heap.push (.cells (old'++W6++Builtin.zeroCells z.cells (K-(len+n))) el) }:=by
 have hso:∀ w,(sizeOf el).run P w= .ok i.size w:=fun w=>by simp[sizeOf,typeInfo,hi]
 have hzo:∀ w,(zeroValue el).run P w= .ok z w:=fun w=>by simp[zeroValue,typeInfo,hi,hz]
 have a0:(#[Value.slice base' len BW,x']:Array Value)[0]? =some (.slice base' len BW):=rfl;have a1:(#[Value.slice base' len BW,x']:Array Value)[1]? =some x':=rfl;refine⟨(Question.appendCap (len+n) BW el).cut (w.tape w.drawn (.appendCap (len+n) BW el)),AC5 _ _,?_⟩;have hf:(Question.appendCap (len+n) BW el).forced=false:=rfl;generalize hK:(Question.appendCap (len+n) BW el).cut (w.tape w.drawn (.appendCap (len+n) BW el))=K;unfold room at Cj;have hb1:len+n<=4294967296:=AV (AC7 _ om) Cj;have hb2:(len+n)*i.bytes<=4294967296:=AV (XI _ om) Cj;have hc1:¬ (((len+n:Nat):Int)>IntKind.i64.max):=by
  have e3:IntKind.i64.max=9223372036854775807:=by decide
  rw[e3];omega
 have hc2:¬ (Builtin.nextslicecap (len+n) BW*i.bytes>2 ^ 48):=by
  have p48:(2:Nat) ^ 48=281474976710656:=by decide
  have h3:=vJ (len+n) BW hlt;have h4:Builtin.nextslicecap (len+n) BW*i.bytes<=2*(len+n)*i.bytes:=jJ _ h3;rw[Gf]at h4;rw[p48];omega
 have hcc:∀ (p:Prop),¬ (((len+n:Nat):Int)>IntKind.i64.max/\p):=fun p h=>hc1 h.1;unfold Builtin.append_;simp only[h0,h1,a0,a1,Sem.run_bind,G1 hu,Result.andThen_ok,hso,G1 hu2,Sem.run_pure]
 cases d2<;>first
  | (cases hd2;done)
  | (simp only[IH,Gc,Sem.run_bind,hn,Result.andThen_ok,Sem.run_ite,z0z (Nat.not_le.2 hlt),XN,FP,fF hi,z0z (hcc _),z0z hc2,run_choose,hf,hK,run_askRoom,World.drew_eq,hold,hx,hzo,newRow,run_newObj,Sem.run_pure]
     rfl)
def Sq (zero:Array Value) (n:Nat):(Builtin.zeroCells zero n).size=n*zero.size:=by simp[Builtin.zeroCells]
def NW {B8:Env}{Z:St}{old new old' W6:List Value}{N3:Array Value}{el:TypeId}{n K size:Nat}(hR:Rel B8 O Z w) (hf:O Z.n=none)
  (ho:E7 O old old') (hn:E7 O new W6) (co:∀ v∈old,K4 v=true) (cn:∀ v∈new,K4 v=true) (hK:n<=K) (hsz:K*size<=old'.length+W6.length+N3.size) {t:Option TypeId} (ht:∀ x,t=some x->x=el:=by exact fun _ h=>by cases h) :
  ∃ O',Rel B8 O' (Z.new (old++new) t) { w.drew with heap:=w.heap.push (.cells (old'.toArray++W6.toArray++N3) el) } /\
   X9 O Z w O' (Z.new (old++new) t) { w.drew with heap:=w.heap.push (.cells (old'.toArray++W6.toArray++N3) el) } /\
   H3 O' (.slice (some ⟨Z.n,0,some size⟩) n n) (.slice (some ⟨w.heap.size,0,none⟩) n K):=by
 obtain⟨g1,g2⟩:=hR.new (t:=t) (w':={ w.drew with heap:=w.heap.push (.cells (old'.toArray++W6.toArray++N3) el) }) hf (cs:=old++new) (arr:=old'.toArray++W6.toArray++N3) (e:=el) (lo:=0) (hi:=0)
  (by simp) (by simp) (fun c hc=>by simp[Array.getElem?_push];intro h;omega) ⟨rfl,rfl,rfl⟩ (.inr nL)
  (fun v hv=>by rcases HX.1 hv with hv|hv;exact co v hv;exact cn v hv) ⟨old'++W6,N3.toList,by simp,E7.append hn ho⟩ ht
 exact⟨_,g1,g2,.grow (q:=⟨w.heap.size,0,_⟩) (Place.O7 _ _ _) hK (by show 0+0+K*size<=_;simp only[XH,List.size_toArray];omega)⟩
def QK {el:Nat}{t:Option TypeId}(h:OQ el off t=some x):x=el/\off=0/\t=some x:=by
 obtain⟨y,rfl,h2⟩:=A8 h;obtain⟨h1,h3⟩:=G7 h2;obtain⟨h4,h5⟩:=G7 h3;cases h5;exact⟨rfl,Aa h4,by rw[Aa h1]⟩
def AJ3 (h:Z.typ b=some x):∃ B,Z.h.get b=some B/\B.kind= .row (some x):=by
 obtain⟨⟨cells,live,own,ver,kind⟩,h1,h2⟩:=A8 h;cases kind with
 |row t=>exact⟨_,h1,by cases h2;rfl⟩
 |map=>cases h2
 |loop=>cases h2
def Rel.typ (hR:Rel B8 O Z w){x:TypeId}(hq:O b=some q) (hb:∃ B,Z.blk b=some B) (h:Z.typ b=some x):q.o=0/\∃ arr f,w.heap[q.c]? =some (.cells arr x f):=by
 obtain⟨B,h1,h2⟩:=AJ3 h;obtain⟨B',hB⟩:=hb;obtain⟨h3,h4⟩:=AH hB;rw[h1]at h3;cases h3;exact hR.typed hq hB h2 x rfl
def bR (hR:Rel B8 O Z w){el:TypeId}(hq:O b=some q) (hb:∃ B,Z.blk b=some B):∀ x,OQ el off (Z.typ b)=some x->off=0/\q.o=0/\∃ arr f,w.heap[q.c]? =some (.cells arr x f):=fun x hx=>
 ⟨(QK hx).2.1,hR.typ hq hb (QK hx).2.2⟩
def VB {B8:Env}{N:Nat}{Z Z':St}{c:Call}(ho:o.op= .call c) (hc:c.callee= .builtin .append) (hk:P4 O fr e o.op.operands.toList) (hR:Rel B8 O Z w)
  (hF:Cc O Z.n N) (hN:Z'.n<=N) (h:Dx P fr Z c=some (v,Z')):Kh P B8 O e o Z w Z' v:=by
 obtain⟨vs,h1,k1⟩:=A8 h;obtain⟨⟨s,x⟩,h2,k2⟩:=A8 k1;obtain⟨t,h3,k3⟩:=A8 (show ob (QL c) _=some (v,Z')from k2);obtain⟨t2,h4,k4⟩:=A8 k3;obtain⟨h5,k5⟩:=G7 k4;obtain⟨el,h6,k6⟩:=A8 (show ob (elem? P t) _=some (v,Z')from k5);obtain⟨i,h7,k7⟩:=A8 k6;clear h k1 k2 k3 k4 k5 k6;obtain⟨d2,hu2,hd2⟩:=jI h5;have hu:=HD h6;have hr:=(Ep ho hk).evs h1;rw[mu h2]at hr;generalize hE:c.args.toList.map e=L at hr;cases hr with
 |cons hs hr=>
 cases hr with
 |cons hx mw=>
 cases mw;rename_i s' x';have Dy:c.args.map e=#[s',x']:=by rw[JP,hE]
 have HG:∀ (r:Value) (w':World),(∀ ty,(Builtin.append_ c.argTypes ty #[s',x']).run P w= .ok r w')->(execOp e o).run P w= .ok (.value r) w':=by
  intro r w' hh;simp only[execOp,ho,resolve,hc,Sem.run_bind,Sem.run_pure,Result.andThen_ok,invoke,builtin,Dy,hh]
 split at k7
 ·rename_i bs len cap;obtain⟨⟨n,new⟩,h8,k8⟩:=A8 k7;obtain⟨h9,k9⟩:=G7 (show bb (Nat.ble 1 i.size) _=some (v,Z')from k8);clear k7 k8;have AC8:=JM h9;obtain⟨s1,s2,s3,s4⟩:=VC (P:=P) hR hx h8;obtain⟨W6,s5,s6⟩:=s4 n nL;rw[<- s2,JF]at s6;cases hle:Nat.ble (len+n) cap with
  | true=>
    rw[hle]at k9;have vK:=JM hle;change DT Z i.size bs len cap n new=some (v,Z')at k9;unfold DT at k9;split at k9
    ·rename_i b off sp;obtain⟨Z2,h10,k10⟩:=A8 k9;cases k10;cases hs with
     | slice hq=>
       obtain⟨w1,w2,w3⟩:=hR.write hq h10 s6 s3;refine⟨_,.value _,_,O,HG _ _ fun ty=>DS (Cy h3) (FQ h4) hu hu2 hd2 h7 s1 s5 vK ?_,rfl,w2,w3,.slice hq⟩;simp only[addr_add];rw[show ∀ q:BK,q.o+off+len*i.size=q.o+(off+len*i.size)from fun q=>VD _ _ _];exact w1 P
     | grow hq hkk hm=>
       obtain⟨w1,w2,w3⟩:=hR.write hq h10 s6 s3;refine⟨_,.value _,_,O,HG _ _ fun ty=>DS (Cy h3) (FQ h4) hu hu2 hd2 h7 s1 s5 (AV vK hkk) ?_,rfl,w2,w3,.grow hq hkk hm⟩;simp only[addr_add];rw[show ∀ q:BK,q.o+off+len*i.size=q.o+(off+len*i.size)from fun q=>VD _ _ _];exact w1 P
     | Bl hq=>
       have hn0:n=0:=om;subst hn0;have LL:new=[]:=PG.1 (by rw[s2,Fp]);subst LL;cases s6;obtain⟨w2,w3⟩:=TU hR hq h10;refine⟨w,.value _,_,O,HG _ _ fun ty=>DS (Cy h3) (FQ h4) hu hu2 hd2 h7 s1 s5 vK ?_,rfl,w2,w3,.Bl hq⟩;rfl
     |I1 hsc=>simp[I1]at hsc
    ·obtain⟨h10,k10⟩:=G7 k9;cases k10;have h0:=Aa h10;cases hs with
     | I1 hsc=>
       have hl:len=0:=om;have hn0:n=0:=om;have hca:cap=0:=om;subst hl hn0 hca;refine⟨w,.value _,_,O,HG _ _ fun ty=>DS (Cy h3) (FQ h4) hu hu2 hd2 h7 s1 s5 vK rfl,rfl,hR,.refl _ _ _,.I1 rfl⟩
  | false=>
    rw[hle]at k9;have hlt:cap<len+n:=by
     rcases AW cap (len+n)with hh|hh
     ·exact hh
     ·rw[AC9 hh]at hle;cases hle
    obtain⟨h10,k10⟩:=G7 (show bb _ _=some (v,Z')from k9);have Cj:=JM h10;obtain⟨z,h11,k11⟩:=A8 k10;obtain⟨h12,k12⟩:=G7 k11;clear k9 k10 k11;have hzs:=Aa h12;obtain⟨_,_,i',hi',hzi⟩:=Dv (O:=O) h11 w;rw[h7]at hi';cases hi';obtain⟨zc1,zc2,_⟩:=Db (O:=O) h11;have Au2:z.cells.size=i.size:=by rw[<- hzs,zc1,PE]
    have hRd:Rel B8 O Z w.drew:=hR.heap rfl;obtain⟨t1,t2',t3,t4⟩:=VC (P:=P) hRd hx h8;obtain⟨BN9,t5,t6⟩:=t4 n nL;rw[<- t2',JF]at t6;have hnl:=t6.length;have bS:∀ K,len+n<=K->(Builtin.zeroCells z.cells (K-(len+n))).size=(K-(len+n))*i.size:=by intro K _;rw[Sq,Au2]
    have my:∀ K,len+n<=K->K*i.size=len*i.size+n*i.size+(K-(len+n))*i.size:=by
     intro K hK;rw[<- Sr,<- Sr];congr 1;omega
    unfold Ch at k12;split at k12
    ·obtain⟨h13,k13⟩:=G7 k12;cases k13;have hl:=Aa h13;subst hl;cases hs with
     | I1 hsc=>
       have Af4:cap=0:=by
        cases cap with
        |zero=>rfl
        |succ k=>cases hsc
       subst Af4;obtain⟨K,hK,En⟩:=Ge (ts:=c.argTypes) (ty:=o.type) (P:=P) (w:=w) (base':=none) (Cy h3) (FQ h4) hu hu2 hd2 h7 hzi s1 (old':=#[]) rfl t5 hlt Cj;have QM:∀ ty,(Builtin.append_ c.argTypes ty #[.slice none 0 0,x']).run P w=_:=fun ty=>En
       obtain⟨O',g1,g2,g3⟩:=NW (B8:=B8) (el:=el) (size:=i.size) (n:=n) (K:=K) (old:=[]) (old':=[]) (t:=some el) (ht:=fun x hx=>by cases hx;rfl) (N3:=Builtin.zeroCells z.cells (K-(0+n))) hR (hF Z.n nL (z5z (II _) hN)) .nil t6 (by simp) t3 om
        (by rw[bS K hK,my K hK];simp only[JQ];omega)
       exact⟨_,.value _,_,O',HG _ _ QM,rfl,g1,g2,by rw[HC];exact g3⟩
    ·rename_i b off;obtain⟨old,h13,k13⟩:=A8 k12;cases k13;have HH:O Z.n=none:=hF Z.n nL (z5z (II _) hN);obtain⟨B,hB,Gg⟩:=W7 h13;obtain⟨hsl,hse⟩:=sub_eq Gg;have QN:old.length=len*i.size:=by have:=congrArg List.length hse;simp at this;omega
     have fin:∀ (q:BK) (a:Addr) (BW:Nat),O b=some q->s'= .slice (some a) len BW->(a=⟨q.c,q.o+off,none⟩\/len=0)->BW<len+n->Kh P B8 O e o Z w (Z.new (old++new) (some el)) (.slice (some ⟨Z.n,0,some i.size⟩) (len+n) (len+n)):=by
      intro q a BW hq hs' ha bT;subst hs';obtain⟨ovs,o1,o2,o3⟩:=(hRd.row b q B hq hB).read (P:=P) Gg;have hld:(Builtin.firstCells i.size len (.slice (some a) len BW)).run P w.drew= .ok ovs.toArray w.drew:=by
       rcases ha with ha|ha
       ·subst ha;exact o1
       ·subst ha;have:ovs=[]:=by have:=o2.length;simp at QN;rw[QN]at this;exact PG.1 this.symm
        subst this;simp only[Builtin.firstCells,Fp];rfl
      obtain⟨K,hK,En⟩:=Ge (ts:=c.argTypes) (ty:=o.type) (P:=P) (w:=w) (Cy h3) (FQ h4) hu hu2 hd2 h7 hzi s1 hld t5 bT Cj;have QM:∀ ty,(Builtin.append_ c.argTypes ty #[.slice (some a) len BW,x']).run P w=_:=fun ty=>En;have hol:=o2.length
      obtain⟨O',g1,g2,g3⟩:=NW (B8:=B8) (el:=el) (size:=i.size) (n:=len+n) (K:=K) (t:=some el) (ht:=fun x hx=>by cases hx;rfl) (N3:=Builtin.zeroCells z.cells (K-(len+n))) hR HH o2 t6 o3 t3 hK
       (by rw[bS K hK,my K hK];omega)
      exact⟨_,.value _,_,O',HG _ _ QM,rfl,g1,g2,g3⟩
     cases hs with
     |slice hq=>exact fin _ _ _ hq rfl (.inl rfl) hlt
     |Bl hq=>exact fin _ _ _ hq rfl (.inr rfl) hlt
     |I1 hsc=>simp[I1]at hsc
    ·rename_i b off sz;obtain⟨h13,k13⟩:=G7 k12;obtain⟨old,h14,k14⟩:=A8 k13;obtain⟨Z1,h15,k15⟩:=A8 k14;cases k15;have Au3:=Aa h13;subst Au3;have hn1:Z1.n=Z.n:=by obtain⟨_,_,_,rfl⟩:=Gi h15;rfl
     have HH:O Z.n=none:=hF Z.n nL (by have:(Z1.new (old++new) (OQ el off (Z.typ b))).n=Z1.n+1:=rfl;omega);obtain⟨B,hB,Gg⟩:=W7 h14;obtain⟨hsl,hse⟩:=sub_eq Gg;have QN:old.length=len*i.size:=by have:=congrArg List.length hse;simp at this;omega
     have fin:∀ (q:BK) (a:Addr) (BW:Nat),O b=some q->s'= .slice (some a) len BW->(a=⟨q.c,q.o+off,none⟩\/len=0)->BW<len+n->Kh P B8 O e o Z w (Z1.new (old++new) (OQ el off (Z.typ b))) (.slice (some ⟨Z1.n,0,some i.size⟩) (len+n) (len+n)):=by
      intro q a BW hq hs' ha bT;subst hs';obtain⟨ovs,o1,o2,o3⟩:=(hRd.row b q B hq hB).read (P:=P) Gg;have hld:(Builtin.firstCells i.size len (.slice (some a) len BW)).run P w.drew= .ok ovs.toArray w.drew:=by
       rcases ha with ha|ha
       ·subst ha;exact o1
       ·subst ha;have:ovs=[]:=by have:=o2.length;simp at QN;rw[QN]at this;exact PG.1 this.symm
        subst this;simp only[Builtin.firstCells,Fp];rfl
      obtain⟨K,hK,En⟩:=Ge (ts:=c.argTypes) (ty:=o.type) (P:=P) (w:=w) (Cy h3) (FQ h4) hu hu2 hd2 h7 hzi s1 hld t5 bT Cj;have QM:∀ ty,(Builtin.append_ c.argTypes ty #[.slice (some a) len BW,x']).run P w=_:=fun ty=>En;have hol:=o2.length;obtain⟨hk1,hk2⟩:=hR.kill ⟨q,hq⟩ h15
      obtain⟨O',g1,g2,g3⟩:=NW (B8:=B8) (el:=el) (size:=i.size) (n:=len+n) (K:=K) (t:=OQ el off (Z.typ b)) (ht:=fun x hx=>(QK hx).1) (N3:=Builtin.zeroCells z.cells (K-(len+n))) hk1 (by rw[hn1];exact HH) o2 t6 o3 t3 hK
       (by rw[bS K hK,my K hK];omega)
      exact⟨_,.value _,_,O',HG _ _ QM,rfl,g1,hk2.trans g2,g3⟩
     cases hs with
     | grow hq hkk hm=>
       rename_i k' q;by_cases hin:len+n<=k'
       ·rw[<- QN]at h14;have hmm:q.o+off+old.length+new.length<=q.m:=by
         have:(len+n)*i.size<=k'*i.size:=jJ _ hin;rw[Sr]at this;omega
        obtain⟨g1,g2,g3⟩:=hR.grow (t:=OQ el off (Z.typ b)) HH hq h14 h15 s6 s3 hmm (bR hR hq ⟨B,(y9 hB).1⟩);refine⟨_,.value _,_,_,HG _ _ fun ty=>DS (Cy h3) (FQ h4) hu hu2 hd2 h7 s1 s5 hin ?_,rfl,g2,g3,?_⟩
        ·simp only[addr_add,<- QN];exact g1 P
        ·rw[hn1];exact .grow (q:=⟨q.c,q.o+off,q.m⟩) (off:=0) (Place.O7 _ _ _) hin (by show q.o+off+0+k'*i.size<=q.m;omega)
       ·exact fin _ _ _ hq rfl (.inl rfl) om
     |Bl hq=>exact fin _ _ _ hq rfl (.inr rfl) hlt
     |I1 hsc=>simp[I1]at hsc
 ·cases k7
end
end
def TF (Z:St) (b:Nat){B:Blk}(hl:B.live=true):(⟨Z.h.set b B,Z.n⟩:St).blk b=some B:=NX (Tr.get_set_same _ _ _) hl
def Fi (Z:St){b b':Nat}(B:Blk) (h:b'≠b):(⟨Z.h.set b B,Z.n⟩:St).blk b'=Z.blk b':=by
 show ob ((Z.h.set b B).get b') _=_;rw[Tr.L7 _ _ h];rfl
def Rel.set {B8:Env}{O:Place}{Z:St}{w w':World}(h:Rel B8 O Z w){b:Nat}{q:BK}{B B':Blk}(hb:O b=some q) (hB:Z.blk b=some B) (hO:B.own=true) (hl:B'.live=true) (hO':B'.own=true)
  (hw:∀ c,c≠q.c->w'.heap[c]? =w.heap[c]?) (hs:w'.heap.size=w.heap.size) (ho:Outside w w') (qo:FR B8 O w' q B') :
  Rel B8 O ⟨Z.h.set b B',Z.n⟩ w'/\X9 O Z w O ⟨Z.h.set b B',Z.n⟩ w':=by
 refine⟨⟨?_,?_,?_,?_,?_,?_⟩,⟨?_,?_,?_,?_,?_,ho,fun b' _ hn=>Tr.L7 _ _ (by intro he;subst he;rw[hb]at hn;cases hn)⟩⟩
 ·intro b' hb';have:=h.lt hB;change Z.n<=b' at hb';show(Z.h.set b _).get b'=none;rw[Tr.L7 _ _ om];exact h.fresh b' hb'
 ·intro b' q' B2 hb' hB';by_cases hbb:b'=b
  ·subst hbb;rw[hb]at hb';cases hb';rw[TF _ _ hl]at hB';cases hB';exact qo
  ·rw[Fi _ _ hbb]at hB';exact(h.Hm b' q' B2 hb' hB').mono (Place.le_refl _) (hw q'.c (h.sep b q B b' q' hb hB hO hbb hb' (.inr ⟨B2,hB'⟩)))
 ·intro b' q' hb';rw[hs];exact h.dom b' q' hb'
 ·intro b' q' B2 hb' hB' hO2;by_cases hbb:b'=b
  ·subst hbb;rw[hb]at hb';cases hb';exact h.own b' q B hb hB hO
  ·rw[Fi _ _ hbb]at hB';exact h.own b' q' B2 hb' hB' hO2
 ·intro b1 q1 B1 b2 q2 k1 k2 k3 k4 k5 k6;have hl1:∃ B0,Z.blk b1=some B0/\B0.own=true:=by
   by_cases hbb:b1=b
   ·subst hbb;exact⟨B,hB,hO⟩
   ·rw[Fi _ _ hbb]at k2;exact⟨B1,k2,k3⟩
  obtain⟨B0,j1,j2⟩:=hl1;refine h.sep b1 q1 B0 b2 q2 k1 j1 j2 k4 k5 ?_;rcases k6 with k6|⟨B2,k6⟩
  ·exact .inl k6
  ·by_cases hbb:b2=b
   ·subst hbb;exact .inr ⟨B,hB⟩
   ·rw[Fi _ _ hbb]at k6;exact .inr ⟨B2,k6⟩
 ·exact h.low.next (by rw[hs];exact BF _) fun c' hc=>hw c' fun he=>by have:=h.own b q B hb hB hO;omega
 ·intro _ _;rfl
 ·exact BF _
 ·omega
 ·intro c' _ hno;refine hw c' fun he=>?_;rw[hno b q B hb he.symm hB]at hO;cases hO
 ·intro b' q' B2 hb' hB' _;by_cases hbb:b'=b
  ·subst hbb;rw[hb]at hb';cases hb';exact⟨b',q,B,hb,rfl,hB,fun _=>hO⟩
  ·rw[Fi _ _ hbb]at hB';exact⟨b',q',B2,hb',rfl,hB',fun h=>h⟩
def Rel.Dd {B8:Env}{O:Place}{Z:St}{w w':World}(h:Rel B8 O Z w) (hf:O Z.n=none){cs:List Value}{k:Kind}{c:Nat}
  (hc:w.heap.size<=c) (hc':c<w'.heap.size) (hs:w.heap.size<=w'.heap.size) (hold:∀ c,c<w.heap.size->w'.heap[c]? =w.heap[c]?) (ho:Outside w w')
  (qo:FR B8 (O.put Z.n ⟨c,0,0⟩) w' ⟨c,0,0⟩ ⟨cs,true,true,0,k⟩) :
  Rel B8 (O.put Z.n ⟨c,0,0⟩) (Z.Dd cs k) w'/\X9 O Z w (O.put Z.n ⟨c,0,0⟩) (Z.Dd cs k) w':=by
 refine⟨h.Af5 hf qo hs (fun c hc _=>hold c hc) hc' (by have:=h.low.1;show B8.lo<=c;omega) (fun b q' hb _=>by have:=h.dom b q' hb;show q'.c≠c;omega),⟨?_,?_,?_,?_,?_,ho,fun b h1 _=>Tr.L7 _ _ om⟩⟩
 ·intro b hb;refine Place.Ae _ _ ?_;rcases hb with hb|hb
  ·omega
  ·change Z.n+1<=b at hb;omega
 ·show Z.n<=Z.n+1;omega
 ·exact hs
 ·intro c hc' _;exact hold c hc'
 ·intro b q B hb hB hcs;by_cases hbn:b=Z.n
  ·subst hbn;rw[Place.O7]at hb;cases hb;change c<w.heap.size at hcs;omega
  ·rw[Place.Ae _ _ hbn]at hb;rw[Dj _ _ _ hbn]at hB;exact⟨b,q,B,hb,rfl,hB,fun h=>h⟩
end Go.Ab
namespace Go.Ab
open Go Go.MapKept
section
variable {k:Value}
section
variable {P:Program}{O:Place}{fr:Fr}{e:Operand->Value}{o:Oper}{w:World}{v:Value}
def WM (a b:ByteArray):Li a.data.toList b.data.toList=(a==b):=by
 rw[Rr];by_cases h:a=b
 ·subst h;rw[(bytes_beq a a).2 rfl];simp
 ·have h1:(a==b)=false:=by
   cases hh:(a==b)with
   |false=>rfl
   |true=>exact absurd ((bytes_beq a b).1 hh) h
  rw[h1];rw[AQ3];intro hl;apply h;obtain⟨⟨x⟩⟩:=a;obtain⟨⟨y⟩⟩:=b;cases hl;rfl
def Dg {d:Option TypeDesc}(h:DI d k=true):flat k=true/\I1 k=true/\∃ d',d=some d'/\IsKey d' k:=by
 unfold DI at h;split at h
 ·split at h
  ·exact⟨rfl,rfl,_,rfl,by simp[IsKey]⟩
  ·cases h
 ·split at h
  ·have:=WO h;subst this;exact⟨rfl,rfl,_,rfl,by simp[IsKey]⟩
  ·cases h
 ·cases h
def UQ {d:TypeDesc}{y:Value}{s:Bool}(hk:DI (some d) k=true) (h:Kz k y=some s):Instr.sameNow d k y=some s/\(s=true->y=k):=by
 unfold DI at hk;split at hk
 ·rename_i hd;cases hd;split at hk
  ·rename_i s0;unfold Kz at h;cases y with
   | string t=>
     cases h;refine⟨by simp only[Instr.sameNow];rw[WM],fun ht=>?_⟩;rw[WM]at ht;rw[(bytes_beq _ _).1 ht]
   |_=>cases h
  ·cases hk
 ·rename_i ik hd;cases hd;split at hk
  ·rename_i jk n;unfold Kz at h;cases y with
   | int l m=>
     obtain⟨h1,h2⟩:=G7 h;cases h2;have hkk:=WO h1;subst hkk;refine⟨by simp[Instr.sameNow,Mv],fun ht=>?_⟩;rw[Mv]at ht;rw[eq_of_beq ht]
   |_=>cases h
  ·cases hk
 ·cases hk
def ZJ {d:TypeDesc}(hk:DI (some d) k=true):∀ {cells:List Value}{es:List MapEntry}{r:Option Value},Entries O cells es->PS k cells=some r->∀ i,
  (r=none->Instr.findNow d k es i=some none)/\∀ v,r=some v->∃ j v',Instr.findNow d k es i=some (some (j,v'))/\H3 O v v':=by
 intro cells es r hE;induction hE with
 | nil=>
   intro h i;cases h;exact⟨fun _=>rfl,fun v hv=>by cases hv⟩
 | @cons x y en l es hx he hv hE ih=>
   intro h i;obtain⟨s,h1,h2⟩:=A8 (show ob (Kz k x) _=some r from h);obtain⟨h3,h4⟩:=UQ hk h1;rw[<- he]at h3;cases s with
   | true=>
     cases h2;refine⟨fun hn=>(nomatch hn),fun v hv'=>?_⟩;cases hv';exact⟨i,en.val,by simp[Instr.findNow,h3],hv⟩
   | false=>
     obtain⟨g1,g2⟩:=ih h2 (i+1);refine⟨fun hn=>by simp[Instr.findNow,h3,g1 hn],fun v hv'=>?_⟩;obtain⟨j,v',k1,k2⟩:=g2 v hv';exact⟨j,v',by simp[Instr.findNow,h3,k1],k2⟩
def ZK {d:TypeDesc}{u u':Value}(hk:DI (some d) k=true) (hu:H3 O u u'):∀ {cells BV:List Value}{es:List MapEntry},Entries O cells es->Mw k u cells=some BV->∀ i,
  (Instr.findNow d k es i=some none/\∀ born,Entries O BV (es++[⟨k,u',born⟩])) \/
  ∃ j v' en,Instr.findNow d k es i=some (some (i+j,v'))/\es[j]? =some en/\en.key=k/\Entries O BV (es.modify j fun en=>{ en with key:=k,val:=u' }):=by
 intro cells BV es hE;induction hE generalizing BV with
 | nil=>
   intro h i;cases h;exact .inl ⟨rfl,fun born=> .cons (Dg hk).1 rfl hu .nil⟩
 | @cons x y en l es hx he hv hE ih=>
   intro h i;obtain⟨s,h1,h2⟩:=A8 (show ob (Kz k x) _=some BV from h);obtain⟨h3,h4⟩:=UQ hk h1;rw[<- he]at h3;cases s with
   | true=>
     cases h2;exact .inr ⟨0,en.val,en,by simp[Instr.findNow,h3],rfl,by rw[he];exact h4 rfl,.cons (Dg hk).1 rfl hu hE⟩
   | false=>
     obtain⟨r,h5,h6⟩:=A8 (show ob (Mw k u l) _=some BV from h2);cases h6;rcases ih h5 (i+1)with⟨g1,g2⟩|⟨j,v',en',g1,g2,g3,g4⟩
     ·exact .inl ⟨by simp[Instr.findNow,h3,g1],fun born=> .cons hx he hv (g2 born)⟩
     ·exact .inr ⟨j+1,v',en',by simp[Instr.findNow,h3,g1];omega,by simpa using g2,g3,by simpa using Entries.cons hx he hv g4⟩
def gm {v v':Value}{a:Option Nat}(h:H3 O v v') (hm:xy v=some a):(a=none/\v'= .map none)\/∃ b q,a=some b/\O b=some q/\v'= .map (some q.c):=by
 unfold xy at hm;split at hm
 ·cases hm;cases h with
  | I1 hs=>
    cases a with
    |none=>exact .inl ⟨rfl,rfl⟩
    |some b=>simp[I1]at hs
  |map hq=>exact .inr ⟨_,_,rfl,hq,rfl⟩
 ·cases hm
def Pn {t kt el:TypeId}(h:Iw P t=some (kt,el)):P.underlying t=some (.map kt el):=by
 unfold Iw at h;split at h
 ·cases h;assumption
 ·cases h
def FM {d:TypeDesc}{kt:TypeId}(hd:P.underlying kt=some d) (hk:IsKey d k) (em:Bool):(Instr.checkKey em 10000 kt k).run P w= .ok () w:=run_checkKey hd hk em 9999
def Ai {d:TypeDesc}{kt:TypeId}{es:List MapEntry}{r:Option (Nat×Value)}(hd:P.underlying kt=some d) (h:Instr.findNow d k es 0=some r):(Instr.findKey kt k es).run P w= .ok r w:=by
 simp only[Instr.findKey,Sem.run_bind,G1 hd,Result.andThen_ok,h,Sem.run_pure]
def WB {B8:Env}{Z Z':St}{t:TypeId}{x ix:Operand}{ok:Bool}(ho:o.op= .lookup t x ix ok) (hk:P4 O fr e o.op.operands.toList) (hR:Rel B8 O Z w)
  (h:GO P fr Z t x ix ok=some (v,Z')):Kh P B8 O e o Z w Z' v:=by
 obtain⟨⟨kt,el⟩,h1,k1⟩:=A8 h;obtain⟨m,h2,k2⟩:=A8 (show ob (ev fr x) _=some (v,Z')from k1);obtain⟨a,h3,k3⟩:=A8 k2;obtain⟨k,h4,k4⟩:=A8 k3;obtain⟨h5,k5⟩:=G7 k4;obtain⟨cs,h6,k6⟩:=A8 k5;obtain⟨r,h7,k7⟩:=A8 k6;obtain⟨⟨u,b⟩,h8,k8⟩:=A8 k7;clear h k1 k2 k3 k4 k5 k6 k7;cases k8;obtain⟨hf,hs,d,hd,hik⟩:=Dg h5;rw[hd]at h5;have Lr:=Pn h1;have hx:=hk x m (by simp[ho,Op.operands]) h2;have hix:=hk ix k (by simp[ho,Op.operands]) h4;have TE:=hix.flat hf;have qZ:∀ es:List MapEntry,Entries O cs es->∃ fr',Instr.findNow d k es 0=some fr'/\∃ u',H3 O u u'/\((fr'=none/\b=false/\(zeroValue el).run P w= .ok u' w)\/(b=true/\∃ j,fr'=some (j,u'))):=by
  intro es hE;obtain⟨g1,g2⟩:=ZJ h5 hE h7 0;cases r with
  | none=>
    obtain⟨z,h9,h10⟩:=A8 (show ob (BJ P el) _=some (u,b)from h8);cases h10;exact⟨none,g1 rfl,u,(Dv h9 w).2.1,.inl ⟨rfl,rfl,(Dv (O:=O) h9 w).1⟩⟩
  | some v0=>
    cases h8;obtain⟨j,v',g3,g4⟩:=g2 _ rfl;exact⟨_,g3,v',g4,.inr ⟨rfl,j,rfl⟩⟩
 have fin:∀ u',H3 O u u'->H3 O (bi ok (.tuple ⟨[u,.bool b]⟩) u) (if ok then .tuple #[u',.bool b]else u'):=by
  intro u' hur;cases ok with
  |true=>exact .tuple (.cons hur (.cons (.I1 rfl) .nil))
  |false=>exact hur
 rcases gm hx h3 with⟨rfl,hxe⟩|⟨mb,q,rfl,hq,hxe⟩
 ·cases h6;obtain⟨fr',f1,u',f2,f3⟩:=qZ [] .nil;refine⟨w,.value (if ok then .tuple #[u',.bool b]else u'),_,O,?_,rfl,hR,.refl _ _ _,fin u' f2⟩;rcases f3 with⟨rfl,rfl,f4⟩|⟨rfl,j,rfl⟩
  ·simp only[execOp,ho,hxe,TE,Instr.lookup,Sem.run_bind,G1 Lr,Result.andThen_ok,Sem.run_pure,FM hd hik,Ai hd f1,f4]
  ·simp only[execOp,ho,hxe,TE,Instr.lookup,Sem.run_bind,G1 Lr,Result.andThen_ok,Sem.run_pure,FM hd hik,Ai hd f1]
 ·obtain⟨B,h9,h10⟩:=A8 (show ob (Z.Ss mb) _=some cs from h6);cases h10;obtain⟨es,clock,h11,h12⟩:=hR.map mb q B hq h9;obtain⟨fr',f1,u',f2,f3⟩:=qZ es.toList h12;refine⟨w,.value (if ok then .tuple #[u',.bool b]else u'),_,O,?_,rfl,hR,.refl _ _ _,fin u' f2⟩;rcases f3 with⟨rfl,rfl,f4⟩|⟨rfl,j,rfl⟩
  ·simp only[execOp,ho,hxe,TE,Instr.lookup,Sem.run_bind,G1 Lr,Result.andThen_ok,Sem.run_pure,run_getObj_map h11,FM hd hik,Ai hd f1,f4]
  ·simp only[execOp,ho,hxe,TE,Instr.lookup,Sem.run_bind,G1 Lr,Result.andThen_ok,Sem.run_pure,run_getObj_map h11,FM hd hik,Ai hd f1]
def RP {Z Z':St}{b:Nat}{cs:List Value}(h:Z.AO1 b cs=some Z'):∃ B,Z.Ss b=some B/\B.own=true/\Z'=⟨Z.h.set b ⟨cs,true,true,B.ver+1,.map⟩,Z.n⟩:=by
 obtain⟨B,h1,h2⟩:=A8 h;obtain⟨h3,h4⟩:=G7 h2;cases h4;exact⟨B,h1,h3,rfl⟩
def Iy {B8:Env}{Z Z':St}{t:TypeId}{m k x:Operand}(ho:o.op= .mapUpdate t m k x\/o.op= .insert t m k x) (hk:P4 O fr e o.op.operands.toList) (hR:Rel B8 O Z w)
  (h:Bb P fr Z t m k x=some (v,Z')):Kh P B8 O e o Z w Z' v:=by
 obtain⟨⟨kt,el⟩,h1,k1⟩:=A8 h;obtain⟨mv,h2,k2⟩:=A8 (show ob (ev fr m) _=some (v,Z')from k1);obtain⟨a,h3,k3⟩:=A8 k2;obtain⟨mb,h4,k4⟩:=A8 k3;subst h4;obtain⟨kv,h5,k5⟩:=A8 k4;obtain⟨h6,k6⟩:=G7 k5;obtain⟨u,h7,k7⟩:=A8 k6;obtain⟨B,h8,k8⟩:=A8 k7;obtain⟨cs,h9,k9⟩:=A8 k8;obtain⟨Z1,h10,k10⟩:=A8 k9;clear h k1 k2 k3 k4 k5 k6 k7 k8 k9;cases k10;obtain⟨B',h11,h12,rfl⟩:=RP h10;rw[h8]at h11;cases h11;obtain⟨hf,hs,d,hd,hik⟩:=Dg h6;rw[hd]at h6;have Lr:=Pn h1;have hm:H3 O mv (e m):=hk m mv (by rcases ho with ho|ho<;>simp[ho,Op.operands]) h2;have hkv:H3 O kv (e k):=hk k kv (by rcases ho with ho|ho<;>simp[ho,Op.operands]) h5;have hu:H3 O u (e x):=hk x u (by rcases ho with ho|ho<;>simp[ho,Op.operands]) h7;have TE:=hkv.flat hf;rcases gm hm h3 with⟨h13,_⟩|⟨mb',q,h13,hq,hxe⟩
 ·cases h13
 ·cases h13;obtain⟨es,clock,h14,h15⟩:=hR.map mb q B hq h8
  have Mx:∀ (es':Array MapEntry) (FA:Nat),Entries O cs es'.toList->Rel B8 O ⟨Z.h.set mb ⟨cs,true,true,B.ver+1,.map⟩,Z.n⟩ { w with heap:=w.heap.setIfInBounds q.c (.map es' FA) } /\
    X9 O Z w O ⟨Z.h.set mb ⟨cs,true,true,B.ver+1,.map⟩,Z.n⟩ { w with heap:=w.heap.setIfInBounds q.c (.map es' FA) }:=by
   intro es' FA hE;refine hR.set hq (QP h8).1 h12 rfl rfl (fun c hc=>Array.getElem?_setIfInBounds_ne (fun he=>hc he.symm)) (by simp) ⟨rfl,rfl,rfl⟩ (.map rfl ⟨es',FA,?_,hE⟩);have:=hR.dom mb q hq;simp[this]
  have En:∃ es' FA,Entries O cs es'.toList/\(Instr.mapUpdate t (e m) (e k) (e x)).run P w= .ok () { w with heap:=w.heap.setIfInBounds q.c (.map es' FA) }:=by
   rcases ZK h6 hu h15 h9 0 with⟨g1,g2⟩|⟨j,v',en,g1,g2,g3,g4⟩
   ·refine⟨es.push ⟨kv,e x,clock⟩,clock+1,by simpa using g2 clock,?_⟩;simp only[hxe,TE,Instr.mapUpdate,Sem.run_bind,G1 Lr,Result.andThen_ok,run_getObj_map h14,FM hd hik,Ai hd g1,run_setObj_map _ h14]
   ·refine⟨es.modify j fun en=>{ en with key:=kv,val:=e x },clock,by simpa using g4,?_⟩;have kN:((es[j]?).map (·.key)).getD kv=kv:=by
     rw[<- Array.getElem?_toList,g2];exact g3
    have qe:(Instr.keyThatStays kv kv).run P w= .ok kv w:=by
     unfold Instr.keyThatStays;have:Instr.sameBits 10000 kv kv=true:=by
      cases d with
      |string=>cases kv<;>simp_all[IsKey];simp[Instr.sameBits,(bytes_beq _ _).2 rfl]
      |int=>cases kv<;>simp_all[IsKey];simp[Instr.sameBits]
      |bool=>cases kv<;>simp_all[IsKey];simp[Instr.sameBits]
      |_=>cases kv<;>simp[IsKey]at hik
     rw[this];rfl
    simp only[HC]at g1;simp only[hxe,TE,Instr.mapUpdate,Sem.run_bind,G1 Lr,Result.andThen_ok,run_getObj_map h14,FM hd hik,Ai hd g1,kN,qe,run_setObj_map _ h14]
  obtain⟨es',FA,hE,En⟩:=En;obtain⟨r1,r2⟩:=Mx es' FA hE;refine⟨_,.skip,undef,O,?_,rfl,r1,r2,.tuple .nil⟩;rcases ho with ho|ho
  ·simp only[execOp,ho,Sem.run_bind,En,Result.andThen_ok];rfl
  ·simp only[execOp,ho,Sem.run_bind,En,Result.andThen_ok];rfl
def TC {B8:Env}{Z Z':St}{t:TypeId}{r:Option Operand}{N:Nat}(ho:o.op= .makeMap t r) (hR:Rel B8 O Z w) (hF:Cc O Z.n N) (hN:Z'.n<=N)
  (h:Fg fr Z r=some (v,Z')):Kh P B8 O e o Z w Z' v:=by
 obtain⟨h1,h2⟩:=G7 h;cases h2;cases r with
 |some=>cases h1
 | none=>
   have hf:O Z.n=none:=hF Z.n nL (z5z (II _) hN)
   obtain⟨r1,r2⟩:=hR.Dd (w':={ w with heap:=w.heap.push (.map #[] 0) }) (cs:=[]) (k:= .map) (c:=w.heap.size) hf nL (by simp) (by simp) (fun c hc=>by
    show(w.heap.push _)[c]? =_;rw[Array.getElem?_push,z0z om]) ⟨rfl,rfl,rfl⟩ (.map rfl ⟨#[],0,by simp,.nil⟩)
   refine⟨_,.value (.map (some w.heap.size)),_,_,?_,rfl,r1,r2,.map (q:=⟨w.heap.size,0,0⟩) (Place.O7 _ _ _)⟩;simp only[execOp,ho,Ti,Instr.makeMap,Sem.run_bind,Sem.run_pure,run_newObj,Result.andThen_ok]
end
end
end Go.Ab
