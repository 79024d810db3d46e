/- A part of the proof: a walk of some functions. -/
import Derived.Test.YtaodjmfmheifeaaGreatDoorGSimp
import Derived.Test.YtaodjmfmheifeaaGreatDoorAbE
import Derived.Test.YtaodjmfmheifeaaGreatDoorAbF
set_option linter.unusedSimpArgs false
set_option linter.unusedVariables false
namespace Go.Proofs.G
open Go Go.Ab
set_option maxRecDepth 100000
theorem beq_bytes' {a b : By} : ((⟨⟨a⟩⟩ : ByteArray) == ⟨⟨b⟩⟩) = decide (a = b) := by
  rw [beq_toListBytes, ByteArray.toList_eq, ByteArray.toList_eq]
  show (a == b) = _
  rw [Bool.eq_iff_iff]; simp
section
variable {x y : Operand}
theorem ev_share {sx sy : Int} : pureRun Tryz.prog (Op.equalIn 9999 24 (.agg ⟨[.int .i64 sx, .int .i64 sy]⟩) (.agg ⟨[.int .i64 sx, .int .i64 sy]⟩)) = some true := by
  rw [pr_struct (d := 9998) rfl (by kernel_rfl)]
  have he : eqF Tryz.prog 9998 ⟨[.int .i64 sx, .int .i64 sy]⟩ ⟨[.int .i64 sx, .int .i64 sy]⟩ (Tryz.prog.fieldsOf 24).toList = bi (sx == sx) (bi (sy == sy) (some true) (some false)) (some false) := by kernel_rfl
  rw [he, beq_self_eq_true, beq_self_eq_true]; rfl
theorem ev_sig {rr ss : Int} : pureRun Tryz.prog (Op.equalIn 9999 28 (.agg ⟨[.int .i64 rr, .int .i64 ss]⟩) (.agg ⟨[.int .i64 rr, .int .i64 ss]⟩)) = some true := by
  rw [pr_struct (d := 9998) rfl (by kernel_rfl)]
  have he : eqF Tryz.prog 9998 ⟨[.int .i64 rr, .int .i64 ss]⟩ ⟨[.int .i64 rr, .int .i64 ss]⟩ (Tryz.prog.fieldsOf 28).toList = bi (rr == rr) (bi (ss == ss) (some true) (some false)) (some false) := by kernel_rfl
  rw [he, beq_self_eq_true, beq_self_eq_true]; rfl
theorem ev_u8 {p : Int} : pureRun Tryz.prog (Op.equalIn 9998 5 (.int .u8 p) (.int .u8 p)) = some true := by
  have he : pureRun Tryz.prog (Op.equalIn 9998 5 (.int .u8 p) (.int .u8 p)) = some (p == p) := by kernel_rfl
  rw [he, beq_self_eq_true]
theorem ev_prev {p0 p1 p2 p3 p4 p5 p6 p7 p8 p9 p10 p11 p12 p13 p14 p15 p16 p17 p18 p19 p20 p21 p22 p23 p24 p25 p26 p27 p28 p29 p30 p31 : Int} : pureRun Tryz.prog (Op.equalIn 9999 26 (.agg ⟨[.int .u8 p0, .int .u8 p1, .int .u8 p2, .int .u8 p3, .int .u8 p4, .int .u8 p5, .int .u8 p6, .int .u8 p7, .int .u8 p8, .int .u8 p9, .int .u8 p10, .int .u8 p11, .int .u8 p12, .int .u8 p13, .int .u8 p14, .int .u8 p15, .int .u8 p16, .int .u8 p17, .int .u8 p18, .int .u8 p19, .int .u8 p20, .int .u8 p21, .int .u8 p22, .int .u8 p23, .int .u8 p24, .int .u8 p25, .int .u8 p26, .int .u8 p27, .int .u8 p28, .int .u8 p29, .int .u8 p30, .int .u8 p31]⟩) (.agg ⟨[.int .u8 p0, .int .u8 p1, .int .u8 p2, .int .u8 p3, .int .u8 p4, .int .u8 p5, .int .u8 p6, .int .u8 p7, .int .u8 p8, .int .u8 p9, .int .u8 p10, .int .u8 p11, .int .u8 p12, .int .u8 p13, .int .u8 p14, .int .u8 p15, .int .u8 p16, .int .u8 p17, .int .u8 p18, .int .u8 p19, .int .u8 p20, .int .u8 p21, .int .u8 p22, .int .u8 p23, .int .u8 p24, .int .u8 p25, .int .u8 p26, .int .u8 p27, .int .u8 p28, .int .u8 p29, .int .u8 p30, .int .u8 p31]⟩)) = some true := by
  refine pr_arr_refl (d := 9998) (len := 32) (elem := 5) (n := 1) (by kernel_rfl) (by kernel_rfl) ?_
  intro i hi
  rcases (by omega : i = 0 ∨ i = 1 ∨ i = 2 ∨ i = 3 ∨ i = 4 ∨ i = 5 ∨ i = 6 ∨ i = 7 ∨ i = 8 ∨ i = 9 ∨ i = 10 ∨ i = 11 ∨ i = 12 ∨ i = 13 ∨ i = 14 ∨ i = 15 ∨ i = 16 ∨ i = 17 ∨ i = 18 ∨ i = 19 ∨ i = 20 ∨ i = 21 ∨ i = 22 ∨ i = 23 ∨ i = 24 ∨ i = 25 ∨ i = 26 ∨ i = 27 ∨ i = 28 ∨ i = 29 ∨ i = 30 ∨ i = 31) with rfl | rfl | rfl | rfl | rfl | rfl | rfl | rfl | rfl | rfl | rfl | rfl | rfl | rfl | rfl | rfl | rfl | rfl | rfl | rfl | rfl | rfl | rfl | rfl | rfl | rfl | rfl | rfl | rfl | rfl | rfl | rfl
  · exact ⟨.int .u8 p0, by kernel_rfl, ev_u8⟩
  · exact ⟨.int .u8 p1, by kernel_rfl, ev_u8⟩
  · exact ⟨.int .u8 p2, by kernel_rfl, ev_u8⟩
  · exact ⟨.int .u8 p3, by kernel_rfl, ev_u8⟩
  · exact ⟨.int .u8 p4, by kernel_rfl, ev_u8⟩
  · exact ⟨.int .u8 p5, by kernel_rfl, ev_u8⟩
  · exact ⟨.int .u8 p6, by kernel_rfl, ev_u8⟩
  · exact ⟨.int .u8 p7, by kernel_rfl, ev_u8⟩
  · exact ⟨.int .u8 p8, by kernel_rfl, ev_u8⟩
  · exact ⟨.int .u8 p9, by kernel_rfl, ev_u8⟩
  · exact ⟨.int .u8 p10, by kernel_rfl, ev_u8⟩
  · exact ⟨.int .u8 p11, by kernel_rfl, ev_u8⟩
  · exact ⟨.int .u8 p12, by kernel_rfl, ev_u8⟩
  · exact ⟨.int .u8 p13, by kernel_rfl, ev_u8⟩
  · exact ⟨.int .u8 p14, by kernel_rfl, ev_u8⟩
  · exact ⟨.int .u8 p15, by kernel_rfl, ev_u8⟩
  · exact ⟨.int .u8 p16, by kernel_rfl, ev_u8⟩
  · exact ⟨.int .u8 p17, by kernel_rfl, ev_u8⟩
  · exact ⟨.int .u8 p18, by kernel_rfl, ev_u8⟩
  · exact ⟨.int .u8 p19, by kernel_rfl, ev_u8⟩
  · exact ⟨.int .u8 p20, by kernel_rfl, ev_u8⟩
  · exact ⟨.int .u8 p21, by kernel_rfl, ev_u8⟩
  · exact ⟨.int .u8 p22, by kernel_rfl, ev_u8⟩
  · exact ⟨.int .u8 p23, by kernel_rfl, ev_u8⟩
  · exact ⟨.int .u8 p24, by kernel_rfl, ev_u8⟩
  · exact ⟨.int .u8 p25, by kernel_rfl, ev_u8⟩
  · exact ⟨.int .u8 p26, by kernel_rfl, ev_u8⟩
  · exact ⟨.int .u8 p27, by kernel_rfl, ev_u8⟩
  · exact ⟨.int .u8 p28, by kernel_rfl, ev_u8⟩
  · exact ⟨.int .u8 p29, by kernel_rfl, ev_u8⟩
  · exact ⟨.int .u8 p30, by kernel_rfl, ev_u8⟩
  · exact ⟨.int .u8 p31, by kernel_rfl, ev_u8⟩
theorem ev_row_refl {sq kd wh tm bd lo nn ot sx sy rr ss p0 p1 p2 p3 p4 p5 p6 p7 p8 p9 p10 p11 p12 p13 p14 p15 p16 p17 p18 p19 p20 p21 p22 p23 p24 p25 p26 p27 p28 p29 p30 p31 : Int} {nm tx : By} : bin2 Tryz.prog .neq 30 x y (.agg ⟨[.int .i64 sq, .int .i64 kd, .int .i64 wh, .int .i64 tm, .int .i64 bd, .int .i64 lo, .int .i64 nn, .int .i64 ot, str nm, str tx, .int .i64 sx, .int .i64 sy, .int .u8 p0, .int .u8 p1, .int .u8 p2, .int .u8 p3, .int .u8 p4, .int .u8 p5, .int .u8 p6, .int .u8 p7, .int .u8 p8, .int .u8 p9, .int .u8 p10, .int .u8 p11, .int .u8 p12, .int .u8 p13, .int .u8 p14, .int .u8 p15, .int .u8 p16, .int .u8 p17, .int .u8 p18, .int .u8 p19, .int .u8 p20, .int .u8 p21, .int .u8 p22, .int .u8 p23, .int .u8 p24, .int .u8 p25, .int .u8 p26, .int .u8 p27, .int .u8 p28, .int .u8 p29, .int .u8 p30, .int .u8 p31, .int .i64 rr, .int .i64 ss]⟩) (.agg ⟨[.int .i64 sq, .int .i64 kd, .int .i64 wh, .int .i64 tm, .int .i64 bd, .int .i64 lo, .int .i64 nn, .int .i64 ot, str nm, str tx, .int .i64 sx, .int .i64 sy, .int .u8 p0, .int .u8 p1, .int .u8 p2, .int .u8 p3, .int .u8 p4, .int .u8 p5, .int .u8 p6, .int .u8 p7, .int .u8 p8, .int .u8 p9, .int .u8 p10, .int .u8 p11, .int .u8 p12, .int .u8 p13, .int .u8 p14, .int .u8 p15, .int .u8 p16, .int .u8 p17, .int .u8 p18, .int .u8 p19, .int .u8 p20, .int .u8 p21, .int .u8 p22, .int .u8 p23, .int .u8 p24, .int .u8 p25, .int .u8 p26, .int .u8 p27, .int .u8 p28, .int .u8 p29, .int .u8 p30, .int .u8 p31, .int .i64 rr, .int .i64 ss]⟩) = some (.bool false) := by
  have he : eqF Tryz.prog 9999 ⟨[.int .i64 sq, .int .i64 kd, .int .i64 wh, .int .i64 tm, .int .i64 bd, .int .i64 lo, .int .i64 nn, .int .i64 ot, str nm, str tx, .int .i64 sx, .int .i64 sy, .int .u8 p0, .int .u8 p1, .int .u8 p2, .int .u8 p3, .int .u8 p4, .int .u8 p5, .int .u8 p6, .int .u8 p7, .int .u8 p8, .int .u8 p9, .int .u8 p10, .int .u8 p11, .int .u8 p12, .int .u8 p13, .int .u8 p14, .int .u8 p15, .int .u8 p16, .int .u8 p17, .int .u8 p18, .int .u8 p19, .int .u8 p20, .int .u8 p21, .int .u8 p22, .int .u8 p23, .int .u8 p24, .int .u8 p25, .int .u8 p26, .int .u8 p27, .int .u8 p28, .int .u8 p29, .int .u8 p30, .int .u8 p31, .int .i64 rr, .int .i64 ss]⟩ ⟨[.int .i64 sq, .int .i64 kd, .int .i64 wh, .int .i64 tm, .int .i64 bd, .int .i64 lo, .int .i64 nn, .int .i64 ot, str nm, str tx, .int .i64 sx, .int .i64 sy, .int .u8 p0, .int .u8 p1, .int .u8 p2, .int .u8 p3, .int .u8 p4, .int .u8 p5, .int .u8 p6, .int .u8 p7, .int .u8 p8, .int .u8 p9, .int .u8 p10, .int .u8 p11, .int .u8 p12, .int .u8 p13, .int .u8 p14, .int .u8 p15, .int .u8 p16, .int .u8 p17, .int .u8 p18, .int .u8 p19, .int .u8 p20, .int .u8 p21, .int .u8 p22, .int .u8 p23, .int .u8 p24, .int .u8 p25, .int .u8 p26, .int .u8 p27, .int .u8 p28, .int .u8 p29, .int .u8 p30, .int .u8 p31, .int .i64 rr, .int .i64 ss]⟩ (Tryz.prog.fieldsOf 30).toList = bi (sq == sq) (bi (kd == kd) (bi (wh == wh) (bi (tm == tm) (bi (bd == bd) (bi (lo == lo) (bi (nn == nn) (bi (ot == ot) (bi ((⟨⟨nm⟩⟩ : ByteArray) == ⟨⟨nm⟩⟩) (bi ((⟨⟨tx⟩⟩ : ByteArray) == ⟨⟨tx⟩⟩) (ob (pureRun Tryz.prog (Op.equalIn 9999 24 (.agg ⟨[.int .i64 sx, .int .i64 sy]⟩) (.agg ⟨[.int .i64 sx, .int .i64 sy]⟩))) fun r => bi r (ob (pureRun Tryz.prog (Op.equalIn 9999 26 (.agg ⟨[.int .u8 p0, .int .u8 p1, .int .u8 p2, .int .u8 p3, .int .u8 p4, .int .u8 p5, .int .u8 p6, .int .u8 p7, .int .u8 p8, .int .u8 p9, .int .u8 p10, .int .u8 p11, .int .u8 p12, .int .u8 p13, .int .u8 p14, .int .u8 p15, .int .u8 p16, .int .u8 p17, .int .u8 p18, .int .u8 p19, .int .u8 p20, .int .u8 p21, .int .u8 p22, .int .u8 p23, .int .u8 p24, .int .u8 p25, .int .u8 p26, .int .u8 p27, .int .u8 p28, .int .u8 p29, .int .u8 p30, .int .u8 p31]⟩) (.agg ⟨[.int .u8 p0, .int .u8 p1, .int .u8 p2, .int .u8 p3, .int .u8 p4, .int .u8 p5, .int .u8 p6, .int .u8 p7, .int .u8 p8, .int .u8 p9, .int .u8 p10, .int .u8 p11, .int .u8 p12, .int .u8 p13, .int .u8 p14, .int .u8 p15, .int .u8 p16, .int .u8 p17, .int .u8 p18, .int .u8 p19, .int .u8 p20, .int .u8 p21, .int .u8 p22, .int .u8 p23, .int .u8 p24, .int .u8 p25, .int .u8 p26, .int .u8 p27, .int .u8 p28, .int .u8 p29, .int .u8 p30, .int .u8 p31]⟩))) fun r => bi r (ob (pureRun Tryz.prog (Op.equalIn 9999 28 (.agg ⟨[.int .i64 rr, .int .i64 ss]⟩) (.agg ⟨[.int .i64 rr, .int .i64 ss]⟩))) fun r => bi r (some true) (some false)) (some false)) (some false)) (some false)) (some false)) (some false)) (some false)) (some false)) (some false)) (some false)) (some false)) (some false)) (some false) := by kernel_rfl
  have h := (b2_struct (x := x) (y := y) rfl (by kernel_rfl) (by kernel_rfl) (by kernel_rfl) he).2
  simp only [ev_share, ev_sig, ev_prev, beq_self_eq_true, beq_bytes', decide_true, bi_true, ob_some, Bool.not_true] at h
  exact h
/-- A row of an event. -/
def EvRow (c : List Value) : Prop := ∃ (sq kd wh tm bd lo nn ot sx sy rr ss p0 p1 p2 p3 p4 p5 p6 p7 p8 p9 p10 p11 p12 p13 p14 p15 p16 p17 p18 p19 p20 p21 p22 p23 p24 p25 p26 p27 p28 p29 p30 p31 : Int) (nm tx : By), c = [.int .i64 sq, .int .i64 kd, .int .i64 wh, .int .i64 tm, .int .i64 bd, .int .i64 lo, .int .i64 nn, .int .i64 ot, str nm, str tx, .int .i64 sx, .int .i64 sy, .int .u8 p0, .int .u8 p1, .int .u8 p2, .int .u8 p3, .int .u8 p4, .int .u8 p5, .int .u8 p6, .int .u8 p7, .int .u8 p8, .int .u8 p9, .int .u8 p10, .int .u8 p11, .int .u8 p12, .int .u8 p13, .int .u8 p14, .int .u8 p15, .int .u8 p16, .int .u8 p17, .int .u8 p18, .int .u8 p19, .int .u8 p20, .int .u8 p21, .int .u8 p22, .int .u8 p23, .int .u8 p24, .int .u8 p25, .int .u8 p26, .int .u8 p27, .int .u8 p28, .int .u8 p29, .int .u8 p30, .int .u8 p31, .int .i64 rr, .int .i64 ss]
theorem EvRow.refl {c : List Value} (h : EvRow c) : bin2 Tryz.prog .neq 30 x y (.agg ⟨c⟩) (.agg ⟨c⟩) = some (.bool false) := by
  obtain ⟨sq, kd, wh, tm, bd, lo, nn, ot, sx, sy, rr, ss, p0, p1, p2, p3, p4, p5, p6, p7, p8, p9, p10, p11, p12, p13, p14, p15, p16, p17, p18, p19, p20, p21, p22, p23, p24, p25, p26, p27, p28, p29, p30, p31, nm, tx, rfl⟩ := h
  exact ev_row_refl
theorem EvRow.len {c : List Value} (h : EvRow c) : c.length = 46 := by
  obtain ⟨sq, kd, wh, tm, bd, lo, nn, ot, sx, sy, rr, ss, p0, p1, p2, p3, p4, p5, p6, p7, p8, p9, p10, p11, p12, p13, p14, p15, p16, p17, p18, p19, p20, p21, p22, p23, p24, p25, p26, p27, p28, p29, p30, p31, nm, tx, rfl⟩ := h
  rfl
/-- An event in the place of another one. -/
def mix (n : Int) (old e : List Value) : List Value := .int .i64 n :: ((old.drop 1).take 3 ++ e.drop 4)
theorem EvRow.mix {n : Int} {c e : List Value} (h : EvRow c) (k : EvRow e) : EvRow (mix n c e) := by
  obtain ⟨sq, kd, wh, tm, bd, lo, nn, ot, sx, sy, rr, ss, p0, p1, p2, p3, p4, p5, p6, p7, p8, p9, p10, p11, p12, p13, p14, p15, p16, p17, p18, p19, p20, p21, p22, p23, p24, p25, p26, p27, p28, p29, p30, p31, nm, tx, rfl⟩ := h
  obtain ⟨sq', kd', wh', tm', bd', lo', nn', ot', sx', sy', rr', ss', p0', p1', p2', p3', p4', p5', p6', p7', p8', p9', p10', p11', p12', p13', p14', p15', p16', p17', p18', p19', p20', p21', p22', p23', p24', p25', p26', p27', p28', p29', p30', p31', nm', tx', rfl⟩ := k
  exact ⟨n, kd, wh, tm, bd', lo', nn', ot', sx', sy', rr', ss', p0', p1', p2', p3', p4', p5', p6', p7', p8', p9', p10', p11', p12', p13', p14', p15', p16', p17', p18', p19', p20', p21', p22', p23', p24', p25', p26', p27', p28', p29', p30', p31', nm', tx', rfl⟩
theorem EvRow.four {c : List Value} (h : EvRow c) : ∃ (s k w t : Int) (r : List Value), c = .int .i64 s :: .int .i64 k :: .int .i64 w :: .int .i64 t :: r ∧ r.length = 42 := by
  obtain ⟨sq, kd, wh, tm, bd, lo, nn, ot, sx, sy, rr, ss, p0, p1, p2, p3, p4, p5, p6, p7, p8, p9, p10, p11, p12, p13, p14, p15, p16, p17, p18, p19, p20, p21, p22, p23, p24, p25, p26, p27, p28, p29, p30, p31, nm, tx, rfl⟩ := h
  exact ⟨sq, kd, wh, tm, _, rfl, rfl⟩
end
end Go.Proofs.G
