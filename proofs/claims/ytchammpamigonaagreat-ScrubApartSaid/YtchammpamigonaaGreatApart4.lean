/- For every shape, two texts and seven spoils shardloglaw25.ScrubApart returns true and leaves what it was handed as it was; no condition. Part 4 of 6: joined by a program of this repo out of texts of its own. -/
import Derived.Test.YtchammpamigonaaGreatApart3
set_option linter.unusedVariables false
set_option linter.unusedSimpArgs false
section
set_option linter.unusedVariables false
set_option linter.unusedSimpArgs false
set_option maxRecDepth 10000
set_option maxHeartbeats 4000000
namespace Go.Proofs.YtchammpamigonaaGreatX
open Go Go.RowKit Go.Proofs
theorem fieldNew_ok (w : World) :
  Rets Tryz.prog 76 #[] w fun v w' => IsField 138 w' v ∧ Ext w w' := by
 refine Rets.enter (args := []) (n := 30) Tryz.func76 rfl rfl rfl ?_
 intro R hR
 show XC _ _ _ _ [] _
 refine XC.seq ?_
 refine XC.region ?_
 show XL _ _ _ _ (List.cons _ _) _ _
 refine XL.s rfl ?_
 refine Y.assign (by rfl) ?_
 refine XL.nil ?_
 refine QN.next ?_
 refine XC.seq ?_
 refine XC.region ?_
 show XL _ _ _ _ (List.cons _ _) _ _
 refine XL.s rfl ?_
 refine Y.build (by rfl) (v := .agg (fieldCells 0).toArray) (fun _ => by kernel_rfl) ?_
 refine XL.s rfl ?_
 refine Y.box (by rfl) ?_
 intro b5 w5 hb5 hz5 hE5
 simp only [Value.cells] at hb5
 refine XL.s rfl ?_
 refine Y.assign (by rfl) ?_
 refine XL.nil ?_
 refine QN.next ?_
 refine XC.seq ?_
 refine XC.region ?_
 show XL _ _ _ _ (List.cons _ _) _ _
 refine XL.s rfl ?_
 refine Y.assign (by rfl) ?_
 refine XL.nil ?_
 refine QN.next ?_
 refine XC.seq ?_
 refine XC.seq ?_
 refine XC.region ?_
 show XL _ _ _ _ (List.cons _ _) _ _
 refine XL.s rfl ?_
 refine Y.move (by rfl) ?_
 refine XL.nil ?_
 refine QN.next ?_
 refine XC.block ?_
 refine XC.loop (α := Nat) (fun k => [(1, .pointer (some ⟨b5, 0, none⟩)), (2, .int .i64 (pow2F k : Nat)), (6, .int .i64 k)]) (fun k wr => k ≤ 255 ∧ Ext w wr ∧ wr.heap[b5]? = some (.cells (fieldCells k).toArray 138 (0, 0))) (fun k => 255 - k) (0) ?_ ?_ ?_
 ·exact ⟨rfl, rfl, rfl, trivial⟩
 ·exact ⟨by omega, hE5, hb5⟩
 ·rintro k wr hI
  obtain ⟨hk, hE, hb⟩ := hI
  refine XC.seq ?_
  refine XC.region ?_
  show XL _ _ _ _ (List.cons _ _) _ _
  refine XL.s rfl ?_
  refine Y.lss (by rfl) (by rfl) ?_
  refine XL.nil ?_
  refine QN.next ?_
  refine XC.seq ?_
  refine XC.condS rfl ?_ ?_
  ·intro hc
   try simp only [decide_eq_true_eq, decide_eq_false_iff_not, Bool.not_eq_true', Bool.not_eq_false', Bool.not_eq_eq_eq_not, Bool.not_true, Bool.not_false, Bool.or_eq_true, Bool.and_eq_true, Bool.or_eq_false_iff] at hc
   have hk' : k < 255 := by omega
   have hx := pow2F_lt k (by omega)
   have hsz : (fieldCells k).toArray.size = 511 := by simp [fieldCells_length]
   refine XC.skip ?_
   refine QN.next ?_
   refine XC.seq ?_
   refine XC.block ?_
   refine XC.seq ?_
   refine XC.region ?_
   show XL _ _ _ _ (List.cons _ _) _ _
   refine XL.s rfl ?_
   refine Y.move (by rfl) ?_
   refine XL.s rfl ?_
   refine Y.assign (by rfl) ?_
   refine XL.nil ?_
   refine QN.next ?_
   refine XC.seq ?_
   apply XC.drop [4, 5, 7, 8, 9, 10, 11, 12, 13, 14, 15, 16, 17, 18, 19, 20, 21, 22, 23, 24, 25, 26, 27, 28, 29]
   ·repeat (first | apply DropTo.nil | apply DropTo.skip rfl | apply DropTo.keep rfl)
   refine XC.drawL 13 [[], [], [], [], [], [4], [], [0], [0, 7], [0, 1, 4, 5, 7, 8], [0, 1, 4, 5, 7, 8, 9], [2], [2, 11], [0, 1, 2, 3, 4, 5, 6, 7, 8, 9, 10, 11, 12], [0, 1, 2, 3, 4, 5, 6, 7, 8, 9, 10, 11, 12, 13]] _ (TwoE b5 (.cells (fieldCells k).toArray 138 (0, 0)) (.cells ((fieldCells k).toArray.setIfInBounds k (byteV (UInt8.ofNat (pow2F k)))) 138 (0, 0)) ) ( TwoE.steady _ _ _) [] [(10, (fun _ w' => w'.heap[b5]? = some (.cells ((fieldCells k).toArray.setIfInBounds k (byteV (UInt8.ofNat (pow2F k)))) 138 (0, 0))))] [0, 1, 2, 3, 4, 5, 6, 7, 8, 9, 10, 11, 12] fol (by kernel_rfl) (by rfl) (by rfl) ⟨(fun v w1 w2 hE h => hE.2.2 h), trivial⟩ ⟨?_, ?_, ?_, ?_, ?_, ?_, ?_, ?_, ?_, ?_, ?_, ?_, ?_, trivial⟩ ?_
   ·intro aD6 wD6 haD6 hCD6 hrD6
    refine ⟨rfl, ?_⟩
    refine XD.start haD6 ?_
    apply XD.stepP rfl
    intro w3
    refine Y.move (by rfl) ?_
    exact ⟨rfl, rfl⟩
   ·intro aD6 wD6 haD6 hCD6 hrD6
    refine ⟨rfl, ?_⟩
    refine XD.start haD6 ?_
    apply XD.stepP rfl
    intro w3
    refine Y.move (by rfl) ?_
    exact ⟨rfl, rfl⟩
   ·intro aD6 wD6 haD6 hCD6 hrD6
    refine ⟨rfl, ?_⟩
    refine XD.start haD6 ?_
    apply XD.stepP rfl
    intro w3
    refine Y.move (by rfl) ?_
    exact ⟨rfl, rfl⟩
   ·intro aD6 wD6 haD6 hCD6 hrD6
    refine ⟨rfl, ?_⟩
    refine XD.start haD6 ?_
    apply XD.stepP rfl
    intro w3
    refine Y.move (by rfl) ?_
    exact ⟨rfl, rfl⟩
   ·intro aD6 wD6 haD6 hCD6 hrD6
    refine ⟨rfl, ?_⟩
    refine XD.start haD6 ?_
    apply XD.stepP rfl
    intro w3
    refine Y.move (by rfl) ?_
    exact ⟨rfl, rfl⟩
   ·intro aD6 wD6 haD6 hCD6 hrD6
    obtain ⟨r4, -⟩ := hrD6
    refine ⟨rfl, ?_⟩
    refine XD.start haD6 ?_
    refine XD.pure r4 ?_
    refine Y.move (by rfl) ?_
    apply XD.stepP rfl
    intro w3
    refine Y.convI Tryz.underlying3 Tryz.underlying5 (by rfl) (byte_of _) ?_
    exact ⟨rfl, rfl⟩
   ·intro aD6 wD6 haD6 hCD6 hrD6
    refine ⟨rfl, ?_⟩
    refine XD.start haD6 ?_
    apply XD.stepP rfl
    intro w3
    refine Y.move (by rfl) ?_
    exact ⟨rfl, rfl⟩
   ·intro aD6 wD6 haD6 hCD6 hrD6
    obtain ⟨r0, -⟩ := hrD6
    refine ⟨rfl, ?_⟩
    refine XD.start haD6 ?_
    refine XD.pure r0 ?_
    refine Y.move (by rfl) ?_
    apply XD.stepP rfl
    intro w3
    refine Y.nilCheck (by rfl) ?_
    exact ⟨rfl, rfl⟩
   ·intro aD6 wD6 haD6 hCD6 hrD6
    obtain ⟨r0, r7, -⟩ := hrD6
    refine ⟨rfl, ?_⟩
    refine XD.start haD6 ?_
    refine XD.pure r0 ?_
    refine Y.move (by rfl) ?_
    refine XD.pure r7 ?_
    refine Y.nilCheck (by rfl) ?_
    apply XD.stepP rfl
    intro w3
    refine Y.fieldAddr fld138_0 (by rfl) ?_
    exact ⟨rfl, rfl⟩
   ·intro aD6 wD6 haD6 hCD6 hrD6
    obtain ⟨r0, r1, r4, r5, r7, r8, -⟩ := hrD6
    refine ⟨rfl, ?_⟩
    refine XD.start haD6 ?_
    refine XD.pure r0 ?_
    refine Y.move (by rfl) ?_
    refine XD.pure r1 ?_
    refine Y.move (by rfl) ?_
    refine XD.pure r4 ?_
    refine Y.move (by rfl) ?_
    refine XD.pure r5 ?_
    refine Y.convI Tryz.underlying3 Tryz.underlying5 (by rfl) (byte_of _) ?_
    refine XD.pure r7 ?_
    refine Y.nilCheck (by rfl) ?_
    refine XD.pure r8 ?_
    refine Y.fieldAddr fld138_0 (by rfl) ?_
    apply XD.stepP rfl
    intro w3
    refine Y.indexArr arr135 (by rfl) (by rfl) ⟨by omega, by omega⟩ ?_
    exact ⟨rfl, rfl⟩
   ·intro aD6 wD6 haD6 hCD6 hrD6
    obtain ⟨r0, r1, r4, r5, r7, r8, r9, -⟩ := hrD6
    refine ⟨rfl, ?_⟩
    refine XD.start haD6 ?_
    refine XD.pure r0 ?_
    refine Y.move (by rfl) ?_
    refine XD.pure r1 ?_
    refine Y.move (by rfl) ?_
    refine XD.pure r4 ?_
    refine Y.move (by rfl) ?_
    refine XD.pure r5 ?_
    refine Y.convI Tryz.underlying3 Tryz.underlying5 (by rfl) (byte_of _) ?_
    refine XD.pure r7 ?_
    refine Y.nilCheck (by rfl) ?_
    refine XD.pure r8 ?_
    refine Y.fieldAddr fld138_0 (by rfl) ?_
    refine XD.pure r9 ?_
    refine Y.indexArr arr135 (by rfl) (by rfl) ⟨by omega, by omega⟩ ?_
    refine XD.stepI ?_
    exact (Y.storeTwo (o := k) one5 (by simp; rfl) (by rfl) rfl (hCD6.2.1 hb) (by rw [hsz]; omega) (nofr0 _))
   ·intro aD6 wD6 haD6 hCD6 hrD6
    obtain ⟨r2, -⟩ := hrD6
    refine ⟨rfl, ?_⟩
    refine XD.start haD6 ?_
    refine XD.pure r2 ?_
    refine Y.move (by rfl) ?_
    apply XD.stepP rfl
    intro w3
    refine Y.nilCheck (by rfl) ?_
    exact ⟨rfl, rfl⟩
   ·intro aD6 wD6 haD6 hCD6 hrD6
    obtain ⟨r2, r11, -⟩ := hrD6
    refine ⟨rfl, ?_⟩
    refine XD.start haD6 ?_
    refine XD.pure r2 ?_
    refine Y.move (by rfl) ?_
    refine XD.pure r11 ?_
    refine Y.nilCheck (by rfl) ?_
    apply XD.stepP rfl
    intro w3
    refine Y.fieldAddr fld138_1 (by rfl) ?_
    exact ⟨rfl, rfl⟩
   intro aD6 wD6 haD6 hCD6 hrD6
   obtain ⟨r0, r1, r2, r3, r4, r5, r6, r7, r8, r9, r10, r11, r12, -⟩ := hrD6
   refine XD.start haD6 ?_
   refine XD.pure r0 ?_
   refine Y.move (by rfl) ?_
   refine XD.pure r1 ?_
   refine Y.move (by rfl) ?_
   refine XD.pure r2 ?_
   refine Y.move (by rfl) ?_
   refine XD.pure r3 ?_
   refine Y.move (by rfl) ?_
   refine XD.pure r4 ?_
   refine Y.move (by rfl) ?_
   refine XD.pure r5 ?_
   refine Y.convI Tryz.underlying3 Tryz.underlying5 (by rfl) (byte_of _) ?_
   refine XD.pure r6 ?_
   refine Y.move (by rfl) ?_
   refine XD.pure r7 ?_
   refine Y.nilCheck (by rfl) ?_
   refine XD.pure r8 ?_
   refine Y.fieldAddr fld138_0 (by rfl) ?_
   refine XD.pure r9 ?_
   refine Y.indexArr arr135 (by rfl) (by rfl) ⟨by omega, by omega⟩ ?_
   refine XD.impN r10 ?_
   rintro _ hst
   refine XD.pure r11 ?_
   refine Y.nilCheck (by rfl) ?_
   refine XD.pure r12 ?_
   refine Y.fieldAddr fld138_1 (by rfl) ?_
   refine XD.fin haD6 ?_
   show XL _ _ _ _ (List.cons _ _) _ _
   refine XL.s rfl ?_
   refine Y.indexArr arr136 (by rfl) (by rfl) ⟨by omega, by omega⟩ ?_
   refine XL.o ?_
   refine Y.storeB one3 (by rfl) (by rfl) rfl hst (by simp [fieldCells_length]; omega) (nofr0 _) ?_
   intro w2 hb2 hC2 hs2 hw2
   refine XL.nil ?_
   refine QN.next ?_
   refine XC.seq ?_
   refine XC.region ?_
   show XL _ _ _ _ (List.cons _ _) _ _
   refine XL.s rfl ?_
   refine Y.move (by rfl) ?_
   refine XL.s rfl ?_
   refine Y.shl (by rfl) (by rfl) (by omega) (pow2F_step k (by omega)) ?_
   have hE2 : Ext w w2 := (hE.chgNew hCD6.1 (fun x hx => by have := hz5.1; omega)).chgNew hC2 (fun x hx => by have := hz5.1; omega)
   simp only [Int.toNat_natCast, Nat.mul_one, Nat.zero_add] at hb2
   rw [fieldCells_step k hk'] at hb2
   refine XL.s rfl ?_
   refine Y.assign (by rfl) ?_
   refine XL.nil ?_
   refine QN.next ?_
   refine XC.seq ?_
   refine XC.region ?_
   show XL _ _ _ _ (List.cons _ _) _ _
   refine XL.s rfl ?_
   refine Y.move (by rfl) ?_
   refine XL.s rfl ?_
   refine Y.gtr (by rfl) (by rfl) ?_
   refine XL.nil ?_
   refine QN.next ?_
   refine XC.condS rfl ?_ ?_
   ·intro hy
    try simp only [decide_eq_true_eq, decide_eq_false_iff_not, Bool.not_eq_true', Bool.not_eq_false', Bool.not_eq_eq_eq_not, Bool.not_true, Bool.not_false, Bool.or_eq_true, Bool.and_eq_true, Bool.or_eq_false_iff] at hy
    refine XC.region ?_
    show XL _ _ _ _ (List.cons _ _) _ _
    refine XL.s rfl ?_
    refine Y.move (by rfl) ?_
    refine XL.s rfl ?_
    refine Y.xor (by rfl) (by rfl) (xor_poly _ (by omega)) ?_
    refine XL.s rfl ?_
    refine Y.assign (by rfl) ?_
    refine XL.nil ?_
    refine QN.blk ?_
    refine QN.next ?_
    refine XC.region ?_
    show XL _ _ _ _ (List.cons _ _) _ _
    refine XL.s rfl ?_
    refine Y.add (by rfl) (by rfl) (wrap64 (by omega) (by omega)) ?_
    refine XL.s rfl ?_
    refine Y.move (by rfl) ?_
    refine XL.nil ?_
    refine QN.again (k + 1) ?_ ?_ ?_
    ·exact ⟨rfl, by rw [pow2F_big (by omega)]; rfl, rfl, trivial⟩
    ·exact ⟨by omega, hE2, hb2⟩
    ·first | omega | (simp only []; omega) | (simp; omega)
   ·intro hy
    try simp only [decide_eq_true_eq, decide_eq_false_iff_not, Bool.not_eq_true', Bool.not_eq_false', Bool.not_eq_eq_eq_not, Bool.not_true, Bool.not_false, Bool.or_eq_true, Bool.and_eq_true, Bool.or_eq_false_iff] at hy
    refine XC.skip ?_
    refine QN.blk ?_
    refine QN.next ?_
    refine XC.region ?_
    show XL _ _ _ _ (List.cons _ _) _ _
    refine XL.s rfl ?_
    refine Y.add (by rfl) (by rfl) (wrap64 (by omega) (by omega)) ?_
    refine XL.s rfl ?_
    refine Y.move (by rfl) ?_
    refine XL.nil ?_
    refine QN.again (k + 1) ?_ ?_ ?_
    ·exact ⟨rfl, by rw [pow2F_small (by omega)]; rfl, rfl, trivial⟩
    ·exact ⟨by omega, hE2, hb2⟩
    ·first | omega | (simp only []; omega) | (simp; omega)
  ·intro hc
   try simp only [decide_eq_true_eq, decide_eq_false_iff_not, Bool.not_eq_true', Bool.not_eq_false', Bool.not_eq_eq_eq_not, Bool.not_true, Bool.not_false, Bool.or_eq_true, Bool.and_eq_true, Bool.or_eq_false_iff] at hc
   obtain rfl : k = 255 := by omega
   refine XC.exit ?_
   refine QN.thenE ?_
   refine QN.thenE ?_
   refine QN.hit ?_
   refine QN.next ?_
   refine XC.seq ?_
   refine XC.region ?_
   show XL _ _ _ _ (List.cons _ _) _ _
   refine XL.s rfl ?_
   refine Y.move (by rfl) ?_
   refine XL.s rfl ?_
   refine Y.assign (by rfl) ?_
   refine XL.nil ?_
   refine QN.next ?_
   refine XC.ret ?_
   refine QN.done1 (fn := Tryz.f76) (R := R) (.inl rfl) rfl rfl ?_
   refine hR _ _ ?_
   exact ⟨⟨b5, rfl, hb⟩, hE⟩
theorem fmul_ok (p : Value) (a b : UInt8) (w : World) (hf : IsField 138 w p) :
  Rets Tryz.prog 97 #[p, byteV a, byteV b] w fun v w' => v = byteV (gmul a b) ∧ Ext w w' := by
 refine Rets.enter (args := [p, byteV a, byteV b]) (n := 32) Tryz.func97 rfl rfl rfl ?_
 intro R hR
 show XC _ _ _ _ [(0, p), (1, byteV a), (2, byteV b)] _
 refine XC.seq ?_
 refine XC.region ?_
 show XL _ _ _ _ (List.cons _ _) _ _
 refine XL.s rfl ?_
 refine Y.assign (by rfl) ?_
 refine XL.nil ?_
 refine QN.next ?_
 refine XC.seq ?_
 refine XC.seq ?_
 refine XC.region ?_
 show XL _ _ _ _ (List.cons _ _) _ _
 refine XL.s rfl ?_
 refine Y.move (by rfl) ?_
 refine XL.s rfl ?_
 refine Y.eql (by rfl) (by rfl) ?_
 refine XL.s rfl ?_
 refine Y.move (by rfl) ?_
 refine XL.splitAt (t := 9) rfl ?_ ?_
 ·intro ha
  have ha' := ha
  try simp only [decide_eq_true_eq, decide_eq_false_iff_not, Bool.not_eq_true', Bool.not_eq_false', Bool.not_eq_eq_eq_not, Bool.not_true, Bool.not_false] at ha'
  refine XL.gf rfl rfl ha rfl ?_
  refine XL.gf rfl rfl ha rfl ?_
  refine XL.s rfl ?_
  refine Y.pickT (by rfl) ha (by rfl) ?_
  refine XL.nil ?_
  refine QN.next ?_
  refine XC.condT rfl rfl ?_
  refine XC.seq ?_
  refine XC.region ?_
  show XL _ _ _ _ (List.cons _ _) _ _
  refine XL.s rfl ?_
  refine Y.assign (by rfl) ?_
  refine XL.nil ?_
  refine QN.next ?_
  refine XC.ret ?_
  refine QN.done1 (fn := Tryz.f97) (R := R) (.inl rfl) rfl rfl ?_
  refine hR _ _ ?_
  exact ⟨by rw [byte_eq0 ha', gmul_zero_left]; rfl, Chg.refl _ _⟩
 ·intro ha
  have ha' := ha
  try simp only [decide_eq_true_eq, decide_eq_false_iff_not, Bool.not_eq_true', Bool.not_eq_false', Bool.not_eq_eq_eq_not, Bool.not_true, Bool.not_false] at ha'
  refine XL.gt rfl rfl ha rfl ?_
  refine Y.move (by rfl) ?_
  refine XL.gt rfl rfl ha rfl ?_
  refine Y.eql (by rfl) (by rfl) ?_
  refine XL.s rfl ?_
  refine Y.pickF (by rfl) ha (by rfl) ?_
  refine XL.nil ?_
  refine QN.next ?_
  refine XC.condS rfl ?_ ?_
  ·intro hb
   try simp only [decide_eq_true_eq, decide_eq_false_iff_not, Bool.not_eq_true', Bool.not_eq_false', Bool.not_eq_eq_eq_not, Bool.not_true, Bool.not_false, Bool.or_eq_true, Bool.and_eq_true, Bool.or_eq_false_iff] at hb
   refine XC.seq ?_
   refine XC.region ?_
   show XL _ _ _ _ (List.cons _ _) _ _
   refine XL.s rfl ?_
   refine Y.assign (by rfl) ?_
   refine XL.nil ?_
   refine QN.next ?_
   refine XC.ret ?_
   refine QN.done1 (fn := Tryz.f97) (R := R) (.inl rfl) rfl rfl ?_
   refine hR _ _ ?_
   exact ⟨by rw [byte_eq0 hb, gmul_zero_right]; rfl, Chg.refl _ _⟩
  ·intro hb
   try simp only [decide_eq_true_eq, decide_eq_false_iff_not, Bool.not_eq_true', Bool.not_eq_false', Bool.not_eq_eq_eq_not, Bool.not_true, Bool.not_false, Bool.or_eq_true, Bool.and_eq_true, Bool.or_eq_false_iff] at hb
   obtain ⟨b0, rfl, hb0⟩ := hf
   have hA := logT_lt a.toNat
   have hB := logT_lt b.toNat
   have hat := a.toNat_lt
   have hbt := b.toNat_lt
   refine XC.skip ?_
   refine QN.next ?_
   refine XC.seq ?_
   apply XC.drop [7, 8, 9, 10, 11, 12, 13, 14, 15, 16, 17, 18, 19, 20, 21, 22, 23, 24, 25, 26, 27, 28, 29, 30, 31]
   ·repeat (first | apply DropTo.nil | apply DropTo.skip rfl | apply DropTo.keep rfl)
   refine XC.drawL 17 [[], [], [], [1], [1, 3], [1, 2, 3, 4], [1, 2, 3, 4, 5], [], [], [7], [7, 9], [7, 8, 9, 10], [7, 8, 9, 10, 11], [1, 2, 3, 4, 5, 6, 7, 8, 9, 10, 11, 12], [1, 2, 3, 4, 5, 6, 7, 8, 9, 10, 11, 12, 13], [0], [0, 15], [0, 1, 2, 3, 4, 5, 6, 7, 8, 9, 10, 11, 12, 13, 14, 15, 16], [0, 1, 2, 3, 4, 5, 6, 7, 8, 9, 10, 11, 12, 13, 14, 15, 16, 17], [0, 1, 2, 3, 4, 5, 6, 7, 8, 9, 10, 11, 12, 13, 14, 15, 16, 17, 18]] _ (Chg NoB) (Steady.chg NoB) [] [(6, (fun v _ => v = .int .i64 (logT.getD a.toNat 0 : Nat))), (12, (fun v _ => v = .int .i64 (logT.getD b.toNat 0 : Nat)))] [0, 1, 2, 3, 4, 5, 6, 7, 8, 9, 10, 11, 12, 13, 14, 15, 16] fol (by kernel_rfl) (by rfl) (by rfl) ⟨(fun _ _ _ _ h => h), (fun _ _ _ _ h => h), trivial⟩ ⟨?_, ?_, ?_, ?_, ?_, ?_, ?_, ?_, ?_, ?_, ?_, ?_, ?_, ?_, ?_, ?_, ?_, trivial⟩ ?_
   ·intro aD3 wD3 haD3 hCD3 hrD3
    refine ⟨rfl, ?_⟩
    refine XD.start haD3 ?_
    apply XD.stepP rfl
    intro w3
    refine Y.move (by rfl) ?_
    exact ⟨rfl, rfl⟩
   ·intro aD3 wD3 haD3 hCD3 hrD3
    refine ⟨rfl, ?_⟩
    refine XD.start haD3 ?_
    apply XD.stepP rfl
    intro w3
    refine Y.move (by rfl) ?_
    exact ⟨rfl, rfl⟩
   ·intro aD3 wD3 haD3 hCD3 hrD3
    refine ⟨rfl, ?_⟩
    refine XD.start haD3 ?_
    apply XD.stepP rfl
    intro w3
    refine Y.move (by rfl) ?_
    exact ⟨rfl, rfl⟩
   ·intro aD3 wD3 haD3 hCD3 hrD3
    obtain ⟨r1, -⟩ := hrD3
    refine ⟨rfl, ?_⟩
    refine XD.start haD3 ?_
    refine XD.pure r1 ?_
    refine Y.move (by rfl) ?_
    apply XD.stepP rfl
    intro w3
    refine Y.nilCheck (by rfl) ?_
    exact ⟨rfl, rfl⟩
   ·intro aD3 wD3 haD3 hCD3 hrD3
    obtain ⟨r1, r3, -⟩ := hrD3
    refine ⟨rfl, ?_⟩
    refine XD.start haD3 ?_
    refine XD.pure r1 ?_
    refine Y.move (by rfl) ?_
    refine XD.pure r3 ?_
    refine Y.nilCheck (by rfl) ?_
    apply XD.stepP rfl
    intro w3
    refine Y.fieldAddr fld138_1 (by rfl) ?_
    exact ⟨rfl, rfl⟩
   ·intro aD3 wD3 haD3 hCD3 hrD3
    obtain ⟨r1, r2, r3, r4, -⟩ := hrD3
    refine ⟨rfl, ?_⟩
    refine XD.start haD3 ?_
    refine XD.pure r1 ?_
    refine Y.move (by rfl) ?_
    refine XD.pure r2 ?_
    refine Y.move (by rfl) ?_
    refine XD.pure r3 ?_
    refine Y.nilCheck (by rfl) ?_
    refine XD.pure r4 ?_
    refine Y.fieldAddr fld138_1 (by rfl) ?_
    apply XD.stepP rfl
    intro w3
    refine Y.indexArr arr136 (by rfl) (by rfl) ⟨by omega, by omega⟩ ?_
    exact ⟨rfl, rfl⟩
   ·intro aD3 wD3 haD3 hCD3 hrD3
    obtain ⟨r1, r2, r3, r4, r5, -⟩ := hrD3
    replace hb0 := hb0.ext hCD3
    refine ⟨rfl, ?_⟩
    refine XD.start haD3 ?_
    refine XD.pure r1 ?_
    refine Y.move (by rfl) ?_
    refine XD.pure r2 ?_
    refine Y.move (by rfl) ?_
    refine XD.pure r3 ?_
    refine Y.nilCheck (by rfl) ?_
    refine XD.pure r4 ?_
    refine Y.fieldAddr fld138_1 (by rfl) ?_
    refine XD.pure r5 ?_
    refine Y.indexArr arr136 (by rfl) (by rfl) ⟨by omega, by omega⟩ ?_
    refine XD.stepI ?_
    refine Y.load one3 (by rfl) (log_cell hb0 a) ?_
    exact ⟨Chg.refl _ _, rfl⟩
   ·intro aD3 wD3 haD3 hCD3 hrD3
    refine ⟨rfl, ?_⟩
    refine XD.start haD3 ?_
    apply XD.stepP rfl
    intro w3
    refine Y.move (by rfl) ?_
    exact ⟨rfl, rfl⟩
   ·intro aD3 wD3 haD3 hCD3 hrD3
    refine ⟨rfl, ?_⟩
    refine XD.start haD3 ?_
    apply XD.stepP rfl
    intro w3
    refine Y.move (by rfl) ?_
    exact ⟨rfl, rfl⟩
   ·intro aD3 wD3 haD3 hCD3 hrD3
    obtain ⟨r7, -⟩ := hrD3
    refine ⟨rfl, ?_⟩
    refine XD.start haD3 ?_
    refine XD.pure r7 ?_
    refine Y.move (by rfl) ?_
    apply XD.stepP rfl
    intro w3
    refine Y.nilCheck (by rfl) ?_
    exact ⟨rfl, rfl⟩
   ·intro aD3 wD3 haD3 hCD3 hrD3
    obtain ⟨r7, r9, -⟩ := hrD3
    refine ⟨rfl, ?_⟩
    refine XD.start haD3 ?_
    refine XD.pure r7 ?_
    refine Y.move (by rfl) ?_
    refine XD.pure r9 ?_
    refine Y.nilCheck (by rfl) ?_
    apply XD.stepP rfl
    intro w3
    refine Y.fieldAddr fld138_1 (by rfl) ?_
    exact ⟨rfl, rfl⟩
   ·intro aD3 wD3 haD3 hCD3 hrD3
    obtain ⟨r7, r8, r9, r10, -⟩ := hrD3
    refine ⟨rfl, ?_⟩
    refine XD.start haD3 ?_
    refine XD.pure r7 ?_
    refine Y.move (by rfl) ?_
    refine XD.pure r8 ?_
    refine Y.move (by rfl) ?_
    refine XD.pure r9 ?_
    refine Y.nilCheck (by rfl) ?_
    refine XD.pure r10 ?_
    refine Y.fieldAddr fld138_1 (by rfl) ?_
    apply XD.stepP rfl
    intro w3
    refine Y.indexArr arr136 (by rfl) (by rfl) ⟨by omega, by omega⟩ ?_
    exact ⟨rfl, rfl⟩
   ·intro aD3 wD3 haD3 hCD3 hrD3
    obtain ⟨r7, r8, r9, r10, r11, -⟩ := hrD3
    replace hb0 := hb0.ext hCD3
    refine ⟨rfl, ?_⟩
    refine XD.start haD3 ?_
    refine XD.pure r7 ?_
    refine Y.move (by rfl) ?_
    refine XD.pure r8 ?_
    refine Y.move (by rfl) ?_
    refine XD.pure r9 ?_
    refine Y.nilCheck (by rfl) ?_
    refine XD.pure r10 ?_
    refine Y.fieldAddr fld138_1 (by rfl) ?_
    refine XD.pure r11 ?_
    refine Y.indexArr arr136 (by rfl) (by rfl) ⟨by omega, by omega⟩ ?_
    refine XD.stepI ?_
    refine Y.load one3 (by rfl) (log_cell hb0 b) ?_
    exact ⟨Chg.refl _ _, rfl⟩
   ·intro aD3 wD3 haD3 hCD3 hrD3
    obtain ⟨r1, r2, r3, r4, r5, r6, r7, r8, r9, r10, r11, r12, -⟩ := hrD3
    replace hb0 := hb0.ext hCD3
    refine ⟨rfl, ?_⟩
    refine XD.start haD3 ?_
    refine XD.pure r1 ?_
    refine Y.move (by rfl) ?_
    refine XD.pure r2 ?_
    refine Y.move (by rfl) ?_
    refine XD.pure r3 ?_
    refine Y.nilCheck (by rfl) ?_
    refine XD.pure r4 ?_
    refine Y.fieldAddr fld138_1 (by rfl) ?_
    refine XD.pure r5 ?_
    refine Y.indexArr arr136 (by rfl) (by rfl) ⟨by omega, by omega⟩ ?_
    refine XD.imp r6 ?_
    rintro _ rfl
    refine XD.pure r7 ?_
    refine Y.move (by rfl) ?_
    refine XD.pure r8 ?_
    refine Y.move (by rfl) ?_
    refine XD.pure r9 ?_
    refine Y.nilCheck (by rfl) ?_
    refine XD.pure r10 ?_
    refine Y.fieldAddr fld138_1 (by rfl) ?_
    refine XD.pure r11 ?_
    refine Y.indexArr arr136 (by rfl) (by rfl) ⟨by omega, by omega⟩ ?_
    refine XD.imp r12 ?_
    rintro _ rfl
    apply XD.stepP rfl
    intro w3
    refine Y.add (by rfl) (by rfl) (wrap64 (by omega) (by omega)) ?_
    exact ⟨rfl, rfl⟩
   ·intro aD3 wD3 haD3 hCD3 hrD3
    obtain ⟨r1, r2, r3, r4, r5, r6, r7, r8, r9, r10, r11, r12, r13, -⟩ := hrD3
    replace hb0 := hb0.ext hCD3
    refine ⟨rfl, ?_⟩
    refine XD.start haD3 ?_
    refine XD.pure r1 ?_
    refine Y.move (by rfl) ?_
    refine XD.pure r2 ?_
    refine Y.move (by rfl) ?_
    refine XD.pure r3 ?_
    refine Y.nilCheck (by rfl) ?_
    refine XD.pure r4 ?_
    refine Y.fieldAddr fld138_1 (by rfl) ?_
    refine XD.pure r5 ?_
    refine Y.indexArr arr136 (by rfl) (by rfl) ⟨by omega, by omega⟩ ?_
    refine XD.imp r6 ?_
    rintro _ rfl
    refine XD.pure r7 ?_
    refine Y.move (by rfl) ?_
    refine XD.pure r8 ?_
    refine Y.move (by rfl) ?_
    refine XD.pure r9 ?_
    refine Y.nilCheck (by rfl) ?_
    refine XD.pure r10 ?_
    refine Y.fieldAddr fld138_1 (by rfl) ?_
    refine XD.pure r11 ?_
    refine Y.indexArr arr136 (by rfl) (by rfl) ⟨by omega, by omega⟩ ?_
    refine XD.imp r12 ?_
    rintro _ rfl
    refine XD.pure r13 ?_
    refine Y.add (by rfl) (by rfl) (wrap64 (by omega) (by omega)) ?_
    apply XD.stepP rfl
    intro w3
    refine Y.rem (by rfl) (by rfl) (by omega) (tmodN (logT.getD a.toNat 0 + logT.getD b.toNat 0) 255) ?_
    exact ⟨rfl, rfl⟩
   ·intro aD3 wD3 haD3 hCD3 hrD3
    obtain ⟨r0, -⟩ := hrD3
    refine ⟨rfl, ?_⟩
    refine XD.start haD3 ?_
    refine XD.pure r0 ?_
    refine Y.move (by rfl) ?_
    apply XD.stepP rfl
    intro w3
    refine Y.nilCheck (by rfl) ?_
    exact ⟨rfl, rfl⟩
   ·intro aD3 wD3 haD3 hCD3 hrD3
    obtain ⟨r0, r15, -⟩ := hrD3
    refine ⟨rfl, ?_⟩
    refine XD.start haD3 ?_
    refine XD.pure r0 ?_
    refine Y.move (by rfl) ?_
    refine XD.pure r15 ?_
    refine Y.nilCheck (by rfl) ?_
    apply XD.stepP rfl
    intro w3
    refine Y.fieldAddr fld138_0 (by rfl) ?_
    exact ⟨rfl, rfl⟩
   intro aD3 wD3 haD3 hCD3 hrD3
   obtain ⟨r0, r1, r2, r3, r4, r5, r6, r7, r8, r9, r10, r11, r12, r13, r14, r15, r16, -⟩ := hrD3
   replace hb0 := hb0.ext hCD3
   refine XD.start haD3 ?_
   refine XD.pure r0 ?_
   refine Y.move (by rfl) ?_
   refine XD.pure r1 ?_
   refine Y.move (by rfl) ?_
   refine XD.pure r2 ?_
   refine Y.move (by rfl) ?_
   refine XD.pure r3 ?_
   refine Y.nilCheck (by rfl) ?_
   refine XD.pure r4 ?_
   refine Y.fieldAddr fld138_1 (by rfl) ?_
   refine XD.pure r5 ?_
   refine Y.indexArr arr136 (by rfl) (by rfl) ⟨by omega, by omega⟩ ?_
   refine XD.imp r6 ?_
   rintro _ rfl
   refine XD.pure r7 ?_
   refine Y.move (by rfl) ?_
   refine XD.pure r8 ?_
   refine Y.move (by rfl) ?_
   refine XD.pure r9 ?_
   refine Y.nilCheck (by rfl) ?_
   refine XD.pure r10 ?_
   refine Y.fieldAddr fld138_1 (by rfl) ?_
   refine XD.pure r11 ?_
   refine Y.indexArr arr136 (by rfl) (by rfl) ⟨by omega, by omega⟩ ?_
   refine XD.imp r12 ?_
   rintro _ rfl
   refine XD.pure r13 ?_
   refine Y.add (by rfl) (by rfl) (wrap64 (by omega) (by omega)) ?_
   refine XD.pure r14 ?_
   refine Y.rem (by rfl) (by rfl) (by omega) (tmodN (logT.getD a.toNat 0 + logT.getD b.toNat 0) 255) ?_
   refine XD.pure r15 ?_
   refine Y.nilCheck (by rfl) ?_
   refine XD.pure r16 ?_
   refine Y.fieldAddr fld138_0 (by rfl) ?_
   refine XD.fin haD3 ?_
   show XL _ _ _ _ (List.cons _ _) _ _
   refine XL.s rfl ?_
   refine Y.indexArr arr135 (by rfl) (by rfl) ⟨by omega, by omega⟩ ?_
   refine XL.s rfl ?_
   refine Y.load one5 (by rfl) (exp_cell hb0 _ (Nat.mod_lt _ (by omega))) ?_
   refine XL.s rfl ?_
   refine Y.assign (by rfl) ?_
   refine XL.nil ?_
   refine QN.next ?_
   refine XC.ret ?_
   refine QN.done1 (fn := Tryz.f97) (R := R) (.inl rfl) rfl rfl ?_
   refine hR _ _ ?_
   exact ⟨by rw [gmul_nz (byte_ne ha') (byte_ne hb)], hCD3⟩
theorem finv_ok (p : Value) (a : UInt8) (w : World) (hf : IsField 138 w p) :
  Rets Tryz.prog 79 #[p, byteV a] w fun v w' => v = byteV (ginv a) ∧ Ext w w' := by
 refine Rets.enter (args := [p, byteV a]) (n := 20) Tryz.func79 rfl rfl rfl ?_
 intro R hR
 show XC _ _ _ _ [(0, p), (1, byteV a)] _
 refine XC.seq ?_
 refine XC.region ?_
 show XL _ _ _ _ (List.cons _ _) _ _
 refine XL.s rfl ?_
 refine Y.assign (by rfl) ?_
 refine XL.nil ?_
 refine QN.next ?_
 refine XC.seq ?_
 refine XC.seq ?_
 refine XC.region ?_
 show XL _ _ _ _ (List.cons _ _) _ _
 refine XL.s rfl ?_
 refine Y.move (by rfl) ?_
 refine XL.s rfl ?_
 refine Y.eql (by rfl) (by rfl) ?_
 refine XL.nil ?_
 refine QN.next ?_
 refine XC.condS rfl ?_ ?_
 ·intro ha
  try simp only [decide_eq_true_eq, decide_eq_false_iff_not, Bool.not_eq_true', Bool.not_eq_false', Bool.not_eq_eq_eq_not, Bool.not_true, Bool.not_false, Bool.or_eq_true, Bool.and_eq_true, Bool.or_eq_false_iff] at ha
  refine XC.seq ?_
  refine XC.region ?_
  show XL _ _ _ _ (List.cons _ _) _ _
  refine XL.s rfl ?_
  refine Y.assign (by rfl) ?_
  refine XL.nil ?_
  refine QN.next ?_
  refine XC.ret ?_
  refine QN.done1 (fn := Tryz.f79) (R := R) (.inl rfl) rfl rfl ?_
  refine hR _ _ ?_
  exact ⟨by rw [byte_eq0 ha]; rfl, Chg.refl _ _⟩
 ·intro ha
  try simp only [decide_eq_true_eq, decide_eq_false_iff_not, Bool.not_eq_true', Bool.not_eq_false', Bool.not_eq_eq_eq_not, Bool.not_true, Bool.not_false, Bool.or_eq_true, Bool.and_eq_true, Bool.or_eq_false_iff] at ha
  obtain ⟨b0, rfl, hb0⟩ := hf
  have hA := logT_lt a.toNat
  have hat := a.toNat_lt
  refine XC.skip ?_
  refine QN.next ?_
  refine XC.seq ?_
  apply XC.drop [5, 6, 7, 8, 9, 10, 11, 12, 13, 14, 15, 16, 17, 18, 19]
  ·repeat (first | apply DropTo.nil | apply DropTo.skip rfl | apply DropTo.keep rfl)
  refine XC.drawL 11 [[], [], [], [1], [1, 3], [1, 2, 3, 4], [1, 2, 3, 4, 5], [1, 2, 3, 4, 5, 6], [1, 2, 3, 4, 5, 6, 7], [0], [0, 9], [0, 1, 2, 3, 4, 5, 6, 7, 8, 9, 10], [0, 1, 2, 3, 4, 5, 6, 7, 8, 9, 10, 11], [0, 1, 2, 3, 4, 5, 6, 7, 8, 9, 10, 11, 12]] _ (Chg NoB) (Steady.chg NoB) [] [(6, (fun v _ => v = .int .i64 (logT.getD a.toNat 0 : Nat)))] [0, 1, 2, 3, 4, 5, 6, 7, 8, 9, 10] fol (by kernel_rfl) (by rfl) (by rfl) ⟨(fun _ _ _ _ h => h), trivial⟩ ⟨?_, ?_, ?_, ?_, ?_, ?_, ?_, ?_, ?_, ?_, ?_, trivial⟩ ?_
  ·intro aD3 wD3 haD3 hCD3 hrD3
   refine ⟨rfl, ?_⟩
   refine XD.start haD3 ?_
   apply XD.stepP rfl
   intro w3
   refine Y.move (by rfl) ?_
   exact ⟨rfl, rfl⟩
  ·intro aD3 wD3 haD3 hCD3 hrD3
   refine ⟨rfl, ?_⟩
   refine XD.start haD3 ?_
   apply XD.stepP rfl
   intro w3
   refine Y.move (by rfl) ?_
   exact ⟨rfl, rfl⟩
  ·intro aD3 wD3 haD3 hCD3 hrD3
   refine ⟨rfl, ?_⟩
   refine XD.start haD3 ?_
   apply XD.stepP rfl
   intro w3
   refine Y.move (by rfl) ?_
   exact ⟨rfl, rfl⟩
  ·intro aD3 wD3 haD3 hCD3 hrD3
   obtain ⟨r1, -⟩ := hrD3
   refine ⟨rfl, ?_⟩
   refine XD.start haD3 ?_
   refine XD.pure r1 ?_
   refine Y.move (by rfl) ?_
   apply XD.stepP rfl
   intro w3
   refine Y.nilCheck (by rfl) ?_
   exact ⟨rfl, rfl⟩
  ·intro aD3 wD3 haD3 hCD3 hrD3
   obtain ⟨r1, r3, -⟩ := hrD3
   refine ⟨rfl, ?_⟩
   refine XD.start haD3 ?_
   refine XD.pure r1 ?_
   refine Y.move (by rfl) ?_
   refine XD.pure r3 ?_
   refine Y.nilCheck (by rfl) ?_
   apply XD.stepP rfl
   intro w3
   refine Y.fieldAddr fld138_1 (by rfl) ?_
   exact ⟨rfl, rfl⟩
  ·intro aD3 wD3 haD3 hCD3 hrD3
   obtain ⟨r1, r2, r3, r4, -⟩ := hrD3
   refine ⟨rfl, ?_⟩
   refine XD.start haD3 ?_
   refine XD.pure r1 ?_
   refine Y.move (by rfl) ?_
   refine XD.pure r2 ?_
   refine Y.move (by rfl) ?_
   refine XD.pure r3 ?_
   refine Y.nilCheck (by rfl) ?_
   refine XD.pure r4 ?_
   refine Y.fieldAddr fld138_1 (by rfl) ?_
   apply XD.stepP rfl
   intro w3
   refine Y.indexArr arr136 (by rfl) (by rfl) ⟨by omega, by omega⟩ ?_
   exact ⟨rfl, rfl⟩
  ·intro aD3 wD3 haD3 hCD3 hrD3
   obtain ⟨r1, r2, r3, r4, r5, -⟩ := hrD3
   replace hb0 := hb0.ext hCD3
   refine ⟨rfl, ?_⟩
   refine XD.start haD3 ?_
   refine XD.pure r1 ?_
   refine Y.move (by rfl) ?_
   refine XD.pure r2 ?_
   refine Y.move (by rfl) ?_
   refine XD.pure r3 ?_
   refine Y.nilCheck (by rfl) ?_
   refine XD.pure r4 ?_
   refine Y.fieldAddr fld138_1 (by rfl) ?_
   refine XD.pure r5 ?_
   refine Y.indexArr arr136 (by rfl) (by rfl) ⟨by omega, by omega⟩ ?_
   refine XD.stepI ?_
   refine Y.load one3 (by rfl) (log_cell hb0 a) ?_
   exact ⟨Chg.refl _ _, rfl⟩
  ·intro aD3 wD3 haD3 hCD3 hrD3
   obtain ⟨r1, r2, r3, r4, r5, r6, -⟩ := hrD3
   replace hb0 := hb0.ext hCD3
   refine ⟨rfl, ?_⟩
   refine XD.start haD3 ?_
   refine XD.pure r1 ?_
   refine Y.move (by rfl) ?_
   refine XD.pure r2 ?_
   refine Y.move (by rfl) ?_
   refine XD.pure r3 ?_
   refine Y.nilCheck (by rfl) ?_
   refine XD.pure r4 ?_
   refine Y.fieldAddr fld138_1 (by rfl) ?_
   refine XD.pure r5 ?_
   refine Y.indexArr arr136 (by rfl) (by rfl) ⟨by omega, by omega⟩ ?_
   refine XD.imp r6 ?_
   rintro _ rfl
   apply XD.stepP rfl
   intro w3
   refine Y.sub (by rfl) (by rfl) (show IntKind.i64.wrap _ = ((255 - logT.getD a.toNat 0 : Nat) : Int) from by rw [wrap64 (by omega) (by omega)]; omega) ?_
   exact ⟨rfl, rfl⟩
  ·intro aD3 wD3 haD3 hCD3 hrD3
   obtain ⟨r1, r2, r3, r4, r5, r6, r7, -⟩ := hrD3
   replace hb0 := hb0.ext hCD3
   refine ⟨rfl, ?_⟩
   refine XD.start haD3 ?_
   refine XD.pure r1 ?_
   refine Y.move (by rfl) ?_
   refine XD.pure r2 ?_
   refine Y.move (by rfl) ?_
   refine XD.pure r3 ?_
   refine Y.nilCheck (by rfl) ?_
   refine XD.pure r4 ?_
   refine Y.fieldAddr fld138_1 (by rfl) ?_
   refine XD.pure r5 ?_
   refine Y.indexArr arr136 (by rfl) (by rfl) ⟨by omega, by omega⟩ ?_
   refine XD.imp r6 ?_
   rintro _ rfl
   refine XD.pure r7 ?_
   refine Y.sub (by rfl) (by rfl) (show IntKind.i64.wrap _ = ((255 - logT.getD a.toNat 0 : Nat) : Int) from by rw [wrap64 (by omega) (by omega)]; omega) ?_
   apply XD.stepP rfl
   intro w3
   refine Y.rem (by rfl) (by rfl) (by omega) (tmodN (255 - logT.getD a.toNat 0) 255) ?_
   exact ⟨rfl, rfl⟩
  ·intro aD3 wD3 haD3 hCD3 hrD3
   obtain ⟨r0, -⟩ := hrD3
   refine ⟨rfl, ?_⟩
   refine XD.start haD3 ?_
   refine XD.pure r0 ?_
   refine Y.move (by rfl) ?_
   apply XD.stepP rfl
   intro w3
   refine Y.nilCheck (by rfl) ?_
   exact ⟨rfl, rfl⟩
  ·intro aD3 wD3 haD3 hCD3 hrD3
   obtain ⟨r0, r9, -⟩ := hrD3
   refine ⟨rfl, ?_⟩
   refine XD.start haD3 ?_
   refine XD.pure r0 ?_
   refine Y.move (by rfl) ?_
   refine XD.pure r9 ?_
   refine Y.nilCheck (by rfl) ?_
   apply XD.stepP rfl
   intro w3
   refine Y.fieldAddr fld138_0 (by rfl) ?_
   exact ⟨rfl, rfl⟩
  intro aD3 wD3 haD3 hCD3 hrD3
  obtain ⟨r0, r1, r2, r3, r4, r5, r6, r7, r8, r9, r10, -⟩ := hrD3
  replace hb0 := hb0.ext hCD3
  refine XD.start haD3 ?_
  refine XD.pure r0 ?_
  refine Y.move (by rfl) ?_
  refine XD.pure r1 ?_
  refine Y.move (by rfl) ?_
  refine XD.pure r2 ?_
  refine Y.move (by rfl) ?_
  refine XD.pure r3 ?_
  refine Y.nilCheck (by rfl) ?_
  refine XD.pure r4 ?_
  refine Y.fieldAddr fld138_1 (by rfl) ?_
  refine XD.pure r5 ?_
  refine Y.indexArr arr136 (by rfl) (by rfl) ⟨by omega, by omega⟩ ?_
  refine XD.imp r6 ?_
  rintro _ rfl
  refine XD.pure r7 ?_
  refine Y.sub (by rfl) (by rfl) (show IntKind.i64.wrap _ = ((255 - logT.getD a.toNat 0 : Nat) : Int) from by rw [wrap64 (by omega) (by omega)]; omega) ?_
  refine XD.pure r8 ?_
  refine Y.rem (by rfl) (by rfl) (by omega) (tmodN (255 - logT.getD a.toNat 0) 255) ?_
  refine XD.pure r9 ?_
  refine Y.nilCheck (by rfl) ?_
  refine XD.pure r10 ?_
  refine Y.fieldAddr fld138_0 (by rfl) ?_
  refine XD.fin haD3 ?_
  show XL _ _ _ _ (List.cons _ _) _ _
  refine XL.s rfl ?_
  refine Y.indexArr arr135 (by rfl) (by rfl) ⟨by omega, by omega⟩ ?_
  refine XL.s rfl ?_
  refine Y.load one5 (by rfl) (exp_cell hb0 _ (Nat.mod_lt _ (by omega))) ?_
  refine XL.s rfl ?_
  refine Y.assign (by rfl) ?_
  refine XL.nil ?_
  refine QN.next ?_
  refine XC.ret ?_
  refine QN.done1 (fn := Tryz.f79) (R := R) (.inl rfl) rfl rfl ?_
  refine hR _ _ ?_
  exact ⟨by rw [ginv_nz (byte_ne ha)], hCD3⟩
theorem frow_ok (p : Value) (c : UInt8) (S : Nat → Prop) (u : Value) (l : List UInt8) (w : World) (hf : IsField 138 w p) (hr : Bs S w u l) (hn : l.length ≤ 140737488355328) :
  Rets Tryz.prog 78 #[p, byteV c, u] w fun v w' => NewB 5 w w' v (l.map (gmul c)) ∧ (l ≠ [] → NewO w w' 5 1 v l.length (bytesV (l.map (gmul c)))) := by
 refine Rets.enter (args := [p, byteV c, u]) (n := 28) Tryz.func78 rfl rfl rfl ?_
 intro R hR
 show XC _ _ _ _ [(0, p), (1, byteV c), (2, u)] _
 have hr0 := hr
 refine XC.seq ?_
 refine XC.region ?_
 show XL _ _ _ _ (List.cons _ _) _ _
 refine XL.s rfl ?_
 refine Y.assign (by rfl) ?_
 refine XL.nil ?_
 refine QN.next ?_
 refine XC.seq ?_
 refine XC.region ?_
 show XL _ _ _ _ (List.cons _ _) _ _
 refine XL.s rfl ?_
 refine Y.move (by rfl) ?_
 refine XL.s rfl ?_
 refine Y.makeFunc (by rfl) (by rfl) ?_
 refine XL.s rfl ?_
 refine Y.assign (by rfl) ?_
 refine XL.nil ?_
 refine QN.next ?_
 refine XC.seq ?_
 refine XC.region ?_
 show XL _ _ _ _ (List.cons _ _) _ _
 refine XL.s rfl ?_
 refine Y.assign (by rfl) ?_
 refine XL.nil ?_
 refine QN.next ?_
 refine XC.seq ?_
 refine XC.seq ?_
 refine XC.region ?_
 show XL _ _ _ _ (List.cons _ _) _ _
 refine XL.s rfl ?_
 refine Y.move (by rfl) ?_
 refine XL.s rfl ?_
 first | refine Y.lenV Tryz.underlying39 (by rfl) ?_ | refine Y.len Tryz.underlying39 (by rfl) (by first | assumption | exact Apd.row (by assumption) | exact New.row (by assumption)) ?_
 refine XL.s rfl ?_
 refine Y.move (by rfl) ?_
 refine XL.nil ?_
 refine QN.next ?_
 refine XC.block ?_
 refine XC.loop (α := Nat × Value) (fun (k, a) => [(7, .func (.func 97) #[p] #[]), (1, byteV c), (13, u), (14, .int .i64 (l.length : Nat)), (15, .int .i64 k), (8, a)]) (fun (k, a) wr => k ≤ l.length ∧ New w wr 5 1 a k (bytesV ((l.take k).map (gmul c))) ∧ (0 < k → NewO w wr 5 1 a k (bytesV ((l.take k).map (gmul c))))) (fun (k, a) => l.length - k) ((0, .slice none 0 0)) ?_ ?_ ?_
 ·exact ⟨rfl, rfl, rfl, rfl, rfl, rfl, trivial⟩
 ·exact ⟨by omega, New.nil _ _ _, fun h => absurd h (by omega)⟩
 ·rintro ⟨k, a⟩ wr hI
  obtain ⟨hk, hN, hO⟩ := hI
  refine XC.seq ?_
  refine XC.region ?_
  show XL _ _ _ _ (List.cons _ _) _ _
  refine XL.s rfl ?_
  refine Y.lss (by rfl) (by rfl) ?_
  refine XL.nil ?_
  refine QN.next ?_
  refine XC.seq ?_
  refine XC.condS rfl ?_ ?_
  ·intro hc
   try simp only [decide_eq_true_eq, decide_eq_false_iff_not, Bool.not_eq_true', Bool.not_eq_false', Bool.not_eq_eq_eq_not, Bool.not_true, Bool.not_false, Bool.or_eq_true, Bool.and_eq_true, Bool.or_eq_false_iff] at hc
   have hk' : k < l.length := by omega
   replace hr := hr0.ext hN.1
   replace hf := hf.ext hN.1
   refine XC.skip ?_
   refine QN.next ?_
   refine XC.seq ?_
   refine XC.block ?_
   refine XC.seq ?_
   refine XC.region ?_
   show XL _ _ _ _ (List.cons _ _) _ _
   refine XL.s rfl ?_
   refine Y.indexR st39 (by rfl) (by rfl) hr ⟨by omega, by omega⟩ (by rw [Int.toNat_natCast]; exact bytesV_get _ _ hk') ?_
   intro b17 o17 hs17 hc17
   refine XL.s rfl ?_
   refine Y.load one5 (by rfl) (by assumption) ?_
   refine XL.s rfl ?_
   refine Y.assign (by rfl) ?_
   refine XL.nil ?_
   refine QN.next ?_
   refine XC.region ?_
   show XL _ _ _ _ (List.cons _ _) _ _
   refine XL.s rfl ?_
   refine Y.move (by rfl) ?_
   refine XL.s rfl ?_
   refine Y.move (by rfl) ?_
   refine XL.s rfl ?_
   refine Y.move (by rfl) ?_
   refine XL.s rfl ?_
   refine Y.move (by rfl) ?_
   refine XL.s rfl ?_
   refine Y.callV (by rfl) (by rfl) ok97 (by exact fmul_ok _ _ (l[k]) _ hf) ?_
   rintro v23 w23 ⟨rfl, hE23⟩
   replace hN := hN.ext hE23
   refine XL.s rfl ?_
   refine Y.buildSlice st39 (by rfl) (by rfl) (by omega) (by simp [Value.oneCell', byteV, strV]) ?_
   intro v24 w24 hN24
   replace hN := hN.ext hN24.1
   refine XL.s rfl ?_
   refine Y.appendO st39 Tryz.underlying39 (by rfl) (by rfl) hN hN24.row (by omega) (by simp) (by omega) (by omega) ?_
   intro v25 w25 hO25 hC25
   refine XL.s rfl ?_
   refine Y.assign (by rfl) ?_
   refine XL.nil ?_
   refine QN.blk ?_
   refine QN.next ?_
   refine XC.region ?_
   show XL _ _ _ _ (List.cons _ _) _ _
   refine XL.s rfl ?_
   refine Y.add (by rfl) (by rfl) (wrap64 (by omega) (by omega)) ?_
   refine XL.s rfl ?_
   refine Y.move (by rfl) ?_
   refine XL.nil ?_
   refine QN.again ((k + 1, v25)) ?_ ?_ ?_
   ·exact ⟨rfl, rfl, rfl, rfl, rfl, rfl, trivial⟩
   ·have e : bytesV ((l.take (k + 1)).map (gmul c)) = bytesV ((l.take k).map (gmul c)) ++ [byteV (gmul c l[k])] := by rw [take_succ_getD _ _ hk', List.map_append, bytesV_append]; rfl
    exact ⟨by omega, hO25.new.cast rfl e.symm, fun _ => hO25.cast rfl e.symm⟩
   ·first | omega | (simp only []; omega) | (simp; omega)
  ·intro hc
   try simp only [decide_eq_true_eq, decide_eq_false_iff_not, Bool.not_eq_true', Bool.not_eq_false', Bool.not_eq_eq_eq_not, Bool.not_true, Bool.not_false, Bool.or_eq_true, Bool.and_eq_true, Bool.or_eq_false_iff] at hc
   obtain rfl : k = l.length := by omega
   rw [List.take_length] at hN hO
   refine XC.exit ?_
   refine QN.thenE ?_
   refine QN.thenE ?_
   refine QN.hit ?_
   refine QN.next ?_
   refine XC.seq ?_
   refine XC.region ?_
   show XL _ _ _ _ (List.cons _ _) _ _
   refine XL.s rfl ?_
   refine Y.move (by rfl) ?_
   refine XL.s rfl ?_
   refine Y.assign (by rfl) ?_
   refine XL.nil ?_
   refine QN.next ?_
   refine XC.ret ?_
   refine QN.done1 (fn := Tryz.f78) (R := R) (.inl rfl) rfl rfl ?_
   refine hR _ _ ?_
   exact ⟨hN.cast (by simp) rfl, fun hne => hO (List.length_pos_iff.2 hne)⟩
end Go.Proofs.YtchammpamigonaaGreatX
end
section
set_option linter.unusedVariables false
set_option linter.unusedSimpArgs false
set_option maxRecDepth 10000
set_option maxHeartbeats 4000000
namespace Go.Proofs.YtchammpamigonaaGreatX
open Go Go.RowKit Go.Proofs
theorem plus_ok (g : Nat) (u : Value) (l : List UInt8) (S : Nat → Prop) (v : Value) (m : List UInt8) (w : World) (ho : Own (· = g) w 5 1 u l.length (bytesV l)) (hr : Bs S w v m) (hd : ∀ b, S b → ¬ b = g) (he : l.length = m.length) :
  Rets Tryz.prog 77 #[u, v] w fun v w' => Own (· = g) w' 5 1 u l.length (bytesV (xorL l m)) ∧ Chg (· = g) w w' := by
 refine Rets.enter (args := [u, v]) (n := 21) Tryz.func77 rfl rfl rfl ?_
 intro R hR
 show XC _ _ _ _ [(0, u), (1, v)] _
 have hml := hr.le
 refine XC.seq ?_
 refine XC.region ?_
 show XL _ _ _ _ (List.cons _ _) _ _
 refine XL.s rfl ?_
 refine Y.move (by rfl) ?_
 refine XL.s rfl ?_
 first | refine Y.lenV Tryz.underlying39 (by rfl) ?_ | refine Y.len Tryz.underlying39 (by rfl) (by first | assumption | exact Apd.row (by assumption) | exact New.row (by assumption)) ?_
 refine XL.s rfl ?_
 refine Y.move (by rfl) ?_
 refine XL.nil ?_
 refine QN.next ?_
 refine XC.block ?_
 refine XC.loop (α := Nat) (fun k => [(0, u), (6, v), (7, .int .i64 (m.length : Nat)), (8, .int .i64 k)]) (fun k wr => k ≤ m.length ∧ Own (· = g) wr 5 1 u l.length (bytesV (xorK k l m)) ∧ Chg (· = g) w wr) (fun k => m.length - k) (0) ?_ ?_ ?_
 ·exact ⟨rfl, rfl, rfl, rfl, trivial⟩
 ·exact ⟨by omega, by rw [xorK_zero]; exact ho, Chg.refl _ _⟩
 ·rintro k wr hI
  obtain ⟨hk, hO, hC⟩ := hI
  refine XC.seq ?_
  refine XC.region ?_
  show XL _ _ _ _ (List.cons _ _) _ _
  refine XL.s rfl ?_
  refine Y.lss (by rfl) (by rfl) ?_
  refine XL.nil ?_
  refine QN.next ?_
  refine XC.seq ?_
  refine XC.condS rfl ?_ ?_
  ·intro hc
   try simp only [decide_eq_true_eq, decide_eq_false_iff_not, Bool.not_eq_true', Bool.not_eq_false', Bool.not_eq_eq_eq_not, Bool.not_true, Bool.not_false, Bool.or_eq_true, Bool.and_eq_true, Bool.or_eq_false_iff] at hc
   have hk' : k < m.length := by omega
   have hkl : k < l.length := by omega
   have hr := hr.chg hC (fun b _ hb => hd b hb)
   refine XC.skip ?_
   refine QN.next ?_
   refine XC.seq ?_
   refine XC.block ?_
   refine XC.seq ?_
   refine XC.region ?_
   show XL _ _ _ _ (List.cons _ _) _ _
   refine XL.s rfl ?_
   refine Y.move (by rfl) ?_
   refine XL.s rfl ?_
   refine Y.indexR st39 (by rfl) (by rfl) hr ⟨by omega, by omega⟩ (by rw [Int.toNat_natCast]; exact bytesV_get _ _ hk') ?_
   intro b11 o11 hs11 hc11
   refine XL.s rfl ?_
   refine Y.load one5 (by rfl) (by assumption) ?_
   refine XL.s rfl ?_
   refine Y.assign (by rfl) ?_
   refine XL.s rfl ?_
   refine Y.assign (by rfl) ?_
   refine XL.nil ?_
   refine QN.next ?_
   refine XC.region ?_
   show XL _ _ _ _ (List.cons _ _) _ _
   refine XL.s rfl ?_
   refine Y.move (by rfl) ?_
   refine XL.s rfl ?_
   refine Y.move (by rfl) ?_
   refine XL.s rfl ?_
   refine Y.indexOn st39 (by rfl) (by rfl) hO hkl ?_
   rintro b15 hb15 rfl
   refine XL.s rfl ?_
   refine Y.load one5 (by rfl) (hO.cell hb15 (x := byteV l[k]) (by simp [bytesV, xorK_get k l m he hkl])) ?_
   refine XL.s rfl ?_
   refine Y.move (by rfl) ?_
   refine XL.s rfl ?_
   refine Y.xor (by rfl) (by rfl) (xor8 l[k] m[k]) ?_
   refine XL.s rfl ?_
   refine Y.indexOn st39 (by rfl) (by rfl) hO hkl ?_
   rintro b19 hb19 hbb
   refine XL.o ?_
   refine Y.storeO one5 (by rfl) (by rfl) rfl hO hb19 hkl ?_
   intro w2 hO2 hC2 hz2
   subst hbb
   refine XL.nil ?_
   refine QN.blk ?_
   refine QN.next ?_
   refine XC.region ?_
   show XL _ _ _ _ (List.cons _ _) _ _
   refine XL.s rfl ?_
   refine Y.add (by rfl) (by rfl) (wrap64 (by omega) (by omega)) ?_
   refine XL.s rfl ?_
   refine Y.move (by rfl) ?_
   refine XL.nil ?_
   refine QN.again (k + 1) ?_ ?_ ?_
   ·exact ⟨rfl, rfl, rfl, rfl, trivial⟩
   ·exact ⟨by omega, by rw [xorK_succ k l m he hkl, ← bytesV_set]; exact hO2, hC.trans hC2 (fun _ h => h) (fun _ _ h => h)⟩
   ·first | omega | (simp only []; omega) | (simp; omega)
  ·intro hc
   try simp only [decide_eq_true_eq, decide_eq_false_iff_not, Bool.not_eq_true', Bool.not_eq_false', Bool.not_eq_eq_eq_not, Bool.not_true, Bool.not_false, Bool.or_eq_true, Bool.and_eq_true, Bool.or_eq_false_iff] at hc
   obtain rfl : k = m.length := by omega
   refine XC.exit ?_
   refine QN.thenE ?_
   refine QN.thenE ?_
   refine QN.hit ?_
   refine QN.done0 (fn := Tryz.f77) (R := R) (.inr rfl) rfl rfl ?_
   refine hR _ _ ?_
   exact ⟨by rw [← he, xorK_all l m he] at hO; exact hO, hC⟩
theorem copied_ok (S : Nat → Prop) (u : Value) (m : List (List UInt8)) (w : World) (hr : Rows S w u m) (hm : ∀ l ∈ m, 0 < l.length ∧ l.length ≤ 140737488355328) (hn : m.length ≤ 1000000) :
  Rets Tryz.prog 86 #[u] w fun v w' => OMat 39 5 (btw w.heap.size w'.heap.size) w' v m ∧ Ext w w' := by
 refine Rets.enter (args := [u]) (n := 19) Tryz.func86 rfl rfl rfl ?_
 intro R hR
 show XC _ _ _ _ [(0, u)] _
 obtain ⟨cu, capu, rfl⟩ := hr.val
 refine XC.seq ?_
 refine XC.region ?_
 show XL _ _ _ _ (List.cons _ _) _ _
 refine XL.s rfl ?_
 refine Y.assign (by rfl) ?_
 refine XL.nil ?_
 refine QN.next ?_
 refine XC.seq ?_
 refine XC.region ?_
 show XL _ _ _ _ (List.cons _ _) _ _
 refine XL.s rfl ?_
 refine Y.assign (by rfl) ?_
 refine XL.nil ?_
 refine QN.next ?_
 refine XC.seq ?_
 refine XC.seq ?_
 refine XC.region ?_
 show XL _ _ _ _ (List.cons _ _) _ _
 refine XL.s rfl ?_
 refine Y.move (by rfl) ?_
 refine XL.s rfl ?_
 first | refine Y.lenV Tryz.underlying37 (by rfl) ?_ | refine Y.len Tryz.underlying37 (by rfl) (by first | assumption | exact Apd.row (by assumption) | exact New.row (by assumption)) ?_
 refine XL.s rfl ?_
 refine Y.move (by rfl) ?_
 refine XL.nil ?_
 refine QN.next ?_
 refine XC.block ?_
 refine XC.loop (α := Nat × Value) (fun (k, a) => [(6, .slice cu m.length capu), (7, .int .i64 (m.length : Nat)), (8, .int .i64 k), (3, a)]) (fun (k, a) wr => k ≤ m.length ∧ Ext w wr ∧ OMat 39 5 (btw w.heap.size wr.heap.size) wr a (m.take k)) (fun (k, a) => m.length - k) ((0, .slice none 0 0)) ?_ ?_ ?_
 ·exact ⟨rfl, rfl, rfl, rfl, trivial⟩
 ·exact ⟨by omega, Chg.refl _ _, OMat.nil _ _ _ _⟩
 ·rintro ⟨k, a⟩ wr hI
  obtain ⟨hk, hE, hM⟩ := hI
  refine XC.seq ?_
  refine XC.region ?_
  show XL _ _ _ _ (List.cons _ _) _ _
  refine XL.s rfl ?_
  refine Y.lss (by rfl) (by rfl) ?_
  refine XL.nil ?_
  refine QN.next ?_
  refine XC.seq ?_
  refine XC.condS rfl ?_ ?_
  ·intro hc
   try simp only [decide_eq_true_eq, decide_eq_false_iff_not, Bool.not_eq_true', Bool.not_eq_false', Bool.not_eq_eq_eq_not, Bool.not_true, Bool.not_false, Bool.or_eq_true, Bool.and_eq_true, Bool.or_eq_false_iff] at hc
   have hk' : k < m.length := by omega
   obtain ⟨vs, hvs, hvl, hq⟩ := (hr.ext hE).get
   obtain ⟨q, hq, hb⟩ := hq k hk'
   refine XC.skip ?_
   refine QN.next ?_
   refine XC.seq ?_
   refine XC.block ?_
   refine XC.seq ?_
   refine XC.region ?_
   show XL _ _ _ _ (List.cons _ _) _ _
   refine XL.s rfl ?_
   refine Y.indexR st37 (by rfl) (by rfl) hvs ⟨by omega, by omega⟩ (by rw [Int.toNat_natCast]; exact hq) ?_
   intro b10 o10 hs10 hc10
   have hml := hm _ (List.getElem_mem hk')
   refine XL.s rfl ?_
   refine Y.load one39 (by rfl) (by assumption) ?_
   refine XL.s rfl ?_
   refine Y.assign (by rfl) ?_
   refine XL.nil ?_
   refine QN.next ?_
   refine XC.region ?_
   show XL _ _ _ _ (List.cons _ _) _ _
   refine XL.s rfl ?_
   refine Y.move (by rfl) ?_
   refine XL.s rfl ?_
   refine Y.move (by rfl) ?_
   refine XL.s rfl ?_
   refine Y.call (by rfl) ok37 (cloneO_ok _ _ _ _ _ hb (by simp [bytesV]) (by omega) (by omega)) ?_
   rintro v14 w14 hO14
   obtain ⟨g0, _, hgS, hgl, hg0⟩ := hO14.2.at
   simp only [Since] at hgS
   have hzz := hE.size
   replace hM := hM.ext hO14.1
   replace hE := hE.trans hO14.1
   refine XL.s rfl ?_
   refine Y.buildSlice st37 (by rfl) (by rfl) (by omega) (by intro q hq; simp at hq; subst hq; exact hg0.row.oneC) ?_
   intro v15 w15 hN15
   replace hg0 := hg0.ext hN15.1
   replace hM := hM.ext hN15.1
   replace hE := hE.trans hN15.1
   refine XL.s rfl ?_
   refine Y.appendRow st37 Tryz.underlying37 (by rfl) (by rfl) hM hN15.row hg0 (fun h => by have := h.2; omega) (by simp; omega) (by simp; omega) ?_
   intro v16 w16 hM16 hC16
   have hz16 := hE.size
   replace hM := hM16.grow (by omega) hz16
   replace hE := hE.chgNew hC16 (fun x hx => hx.1)
   refine XL.s rfl ?_
   refine Y.assign (by rfl) ?_
   refine XL.nil ?_
   refine QN.blk ?_
   refine QN.next ?_
   refine XC.region ?_
   show XL _ _ _ _ (List.cons _ _) _ _
   refine XL.s rfl ?_
   refine Y.add (by rfl) (by rfl) (wrap64 (by omega) (by omega)) ?_
   refine XL.s rfl ?_
   refine Y.move (by rfl) ?_
   refine XL.nil ?_
   refine QN.again ((k + 1, v16)) ?_ ?_ ?_
   ·exact ⟨rfl, rfl, rfl, rfl, trivial⟩
   ·exact ⟨by omega, hE, hM.cast (by rw [List.take_succ_eq_append_getElem hk'])⟩
   ·first | omega | (simp only []; omega) | (simp; omega)
  ·intro hc
   try simp only [decide_eq_true_eq, decide_eq_false_iff_not, Bool.not_eq_true', Bool.not_eq_false', Bool.not_eq_eq_eq_not, Bool.not_true, Bool.not_false, Bool.or_eq_true, Bool.and_eq_true, Bool.or_eq_false_iff] at hc
   obtain rfl : k = m.length := by omega
   rw [List.take_length] at hM
   refine XC.exit ?_
   refine QN.thenE ?_
   refine QN.thenE ?_
   refine QN.hit ?_
   refine QN.next ?_
   refine XC.seq ?_
   refine XC.region ?_
   show XL _ _ _ _ (List.cons _ _) _ _
   refine XL.s rfl ?_
   refine Y.move (by rfl) ?_
   refine XL.s rfl ?_
   refine Y.assign (by rfl) ?_
   refine XL.nil ?_
   refine QN.next ?_
   refine XC.ret ?_
   refine QN.done1 (fn := Tryz.f86) (R := R) (.inl rfl) rfl rfl ?_
   refine hR _ _ ?_
   exact ⟨hM, hE⟩
theorem coding_ok (K N : Nat) (w : World) (hK : 0 < K) (hK2 : K ≤ 255) (hN : N ≤ 255) :
  Rets Tryz.prog 49 #[.int .i64 K, .int .i64 N] w fun v w' => OMat 39 5 (btw w.heap.size w'.heap.size) w' v (codingP K N) ∧ Ext w w' := by
 refine Rets.enter (args := [.int .i64 K, .int .i64 N]) (n := 49) Tryz.func49 rfl rfl rfl ?_
 intro R hR
 show XC _ _ _ _ [(0, .int .i64 K), (1, .int .i64 N)] _
 refine XC.seq ?_
 refine XC.region ?_
 show XL _ _ _ _ (List.cons _ _) _ _
 refine XL.s rfl ?_
 refine Y.assign (by rfl) ?_
 refine XL.nil ?_
 refine QN.next ?_
 refine XC.seq ?_
 refine XC.region ?_
 show XL _ _ _ _ (List.cons _ _) _ _
 refine XL.s rfl ?_
 refine Y.call (by rfl) ok76 (fieldNew_ok _) ?_
 rintro p w10 ⟨⟨fb, rfl, hfb0⟩, hE10⟩
 have hfl := hfb0.lt
 refine XL.s rfl ?_
 refine Y.assign (by rfl) ?_
 refine XL.nil ?_
 refine QN.next ?_
 refine XC.seq ?_
 refine XC.region ?_
 show XL _ _ _ _ (List.cons _ _) _ _
 refine XL.s rfl ?_
 refine Y.assign (by rfl) ?_
 refine XL.nil ?_
 refine QN.next ?_
 refine XC.seq ?_
 refine XC.seq ?_
 refine XC.region ?_
 show XL _ _ _ _ (List.cons _ _) _ _
 refine XL.s rfl ?_
 refine Y.move (by rfl) ?_
 refine XL.s rfl ?_
 refine Y.move (by rfl) ?_
 refine XL.nil ?_
 refine QN.next ?_
 refine XC.block ?_
 refine XC.loop (α := Nat × Value) (fun (i, a) => [(0, .int .i64 (K : Nat)), (5, .pointer (some ⟨fb, 0, none⟩)), (11, .int .i64 (N : Nat)), (12, .int .i64 i), (6, a)]) (fun (i, a) wr => i ≤ N ∧ Ext w10 wr ∧ OMat 39 5 (btw w10.heap.size wr.heap.size) wr a (codingP K i)) (fun (i, a) => N - i) ((0, .slice none 0 0)) ?_ ?_ ?_
 ·exact ⟨rfl, rfl, rfl, rfl, rfl, trivial⟩
 ·exact ⟨by omega, Chg.refl _ _, OMat.nil _ _ _ _⟩
 ·rintro ⟨i, a⟩ wr hI
  obtain ⟨hi, hE, hM⟩ := hI
  refine XC.seq ?_
  refine XC.region ?_
  show XL _ _ _ _ (List.cons _ _) _ _
  refine XL.s rfl ?_
  refine Y.lss (by rfl) (by rfl) ?_
  refine XL.nil ?_
  refine QN.next ?_
  refine XC.seq ?_
  refine XC.condS rfl ?_ ?_
  ·intro hc
   try simp only [decide_eq_true_eq, decide_eq_false_iff_not, Bool.not_eq_true', Bool.not_eq_false', Bool.not_eq_eq_eq_not, Bool.not_true, Bool.not_false, Bool.or_eq_true, Bool.and_eq_true, Bool.or_eq_false_iff] at hc
   have hi' : i < N := by omega
   refine XC.skip ?_
   refine QN.next ?_
   refine XC.seq ?_
   refine XC.block ?_
   refine XC.seq ?_
   refine XC.region ?_
   show XL _ _ _ _ (List.cons _ _) _ _
   refine XL.s rfl ?_
   refine Y.move (by rfl) ?_
   refine XL.s rfl ?_
   refine Y.assign (by rfl) ?_
   refine XL.nil ?_
   refine QN.next ?_
   refine XC.seq ?_
   refine XC.region ?_
   show XL _ _ _ _ (List.cons _ _) _ _
   refine XL.s rfl ?_
   refine Y.move (by rfl) ?_
   refine XL.s rfl ?_
   refine Y.makeSlice st39 (by rfl) (by rfl) (by omega) (by omega) (by omega) (by intro q hq; simp [Value.cells] at hq; subst hq; rfl) ?_
   intro v16 w16 hO16 hE16
   rw [zeros_of K _ rfl, ← codingK_zero K i] at hO16
   obtain ⟨g0, hob, hgS, hgl, hg0⟩ := hO16.at
   simp only [Since] at hgS
   have hzz := hE.size
   replace hM := hM.ext hE16
   replace hE := hE.trans hE16
   have hfb := hfb0.ext hE
   obtain ⟨cu, capu, rfl⟩ := hg0.row.val
   refine XL.s rfl ?_
   refine Y.assign (by rfl) ?_
   refine XL.nil ?_
   refine QN.next ?_
   refine XC.seq ?_
   refine XC.seq ?_
   refine XC.region ?_
   show XL _ _ _ _ (List.cons _ _) _ _
   refine XL.s rfl ?_
   refine Y.move (by rfl) ?_
   refine XL.s rfl ?_
   first | refine Y.lenV Tryz.underlying39 (by rfl) ?_ | refine Y.len Tryz.underlying39 (by rfl) (by first | assumption | exact Apd.row (by assumption) | exact New.row (by assumption)) ?_
   refine XL.s rfl ?_
   refine Y.move (by rfl) ?_
   refine XL.nil ?_
   refine QN.next ?_
   refine XC.block ?_
   refine XC.loop (α := Nat) (fun j => [(0, .int .i64 (K : Nat)), (5, .pointer (some ⟨fb, 0, none⟩)), (7, .int .i64 i), (8, .slice cu K capu), (11, .int .i64 (N : Nat)), (12, .int .i64 i), (6, a), (18, .int .i64 (K : Nat)), (19, .int .i64 j)]) (fun j wr => j ≤ K ∧ Chg (· = g0) w16 wr ∧ Own (· = g0) wr 5 1 (.slice cu K capu) K (bytesV (codingK K i j))) (fun j => K - j) (0) ?_ ?_ ?_
   ·exact ⟨rfl, rfl, rfl, rfl, rfl, rfl, rfl, rfl, rfl, trivial⟩
   ·exact ⟨by omega, Chg.refl _ _, hg0⟩
   ·rintro j wr hI
    obtain ⟨hj, hC, hO⟩ := hI
    refine XC.seq ?_
    refine XC.region ?_
    show XL _ _ _ _ (List.cons _ _) _ _
    refine XL.s rfl ?_
    refine Y.lss (by rfl) (by rfl) ?_
    refine XL.nil ?_
    refine QN.next ?_
    refine XC.seq ?_
    refine XC.condS rfl ?_ ?_
    ·intro hd
     try simp only [decide_eq_true_eq, decide_eq_false_iff_not, Bool.not_eq_true', Bool.not_eq_false', Bool.not_eq_eq_eq_not, Bool.not_true, Bool.not_false, Bool.or_eq_true, Bool.and_eq_true, Bool.or_eq_false_iff] at hd
     have hj' : j < K := by omega
     refine XC.skip ?_
     refine QN.next ?_
     refine XC.seq ?_
     refine XC.block ?_
     refine XC.seq ?_
     refine XC.region ?_
     show XL _ _ _ _ (List.cons _ _) _ _
     refine XL.s rfl ?_
     refine Y.move (by rfl) ?_
     refine XL.s rfl ?_
     refine Y.assign (by rfl) ?_
     refine XL.nil ?_
     refine QN.next ?_
     refine XC.block ?_
     refine XC.seq ?_
     refine XC.region ?_
     show XL _ _ _ _ (List.cons _ _) _ _
     refine XL.s rfl ?_
     refine Y.move (by rfl) ?_
     refine XL.s rfl ?_
     refine Y.move (by rfl) ?_
     refine XL.s rfl ?_
     refine Y.geq (by rfl) (by rfl) ?_
     refine XL.s rfl ?_
     refine Y.assign (by rfl) ?_
     refine XL.nil ?_
     refine QN.next ?_
     refine XC.condS rfl ?_ ?_
     ·intro he
      try simp only [decide_eq_true_eq, decide_eq_false_iff_not, Bool.not_eq_true', Bool.not_eq_false', Bool.not_eq_eq_eq_not, Bool.not_true, Bool.not_false, Bool.or_eq_true, Bool.and_eq_true, Bool.or_eq_false_iff] at he
      have hee : codingE K i j = ginv (UInt8.ofNat (i ^^^ j)) := by rw [codingE, if_pos (by omega)]
      refine XC.region ?_
      show XL _ _ _ _ (List.cons _ _) _ _
      refine XL.s rfl ?_
      refine Y.move (by rfl) ?_
      refine XL.s rfl ?_
      refine Y.move (by rfl) ?_
      refine XL.s rfl ?_
      refine Y.move (by rfl) ?_
      refine XL.s rfl ?_
      refine Y.move (by rfl) ?_
      refine XL.s rfl ?_
      refine Y.move (by rfl) ?_
      refine XL.s rfl ?_
      refine Y.xor (by rfl) (by rfl) (xor64 i j (by omega) (by omega)) ?_
      refine XL.s rfl ?_
      refine Y.convI Tryz.underlying3 Tryz.underlying5 (by rfl) (byte_of _) ?_
      have hne : ¬ fb = g0 := by omega
      refine XL.s rfl ?_
      refine Y.call (by rfl) ok79 (finv_ok _ (UInt8.ofNat (i ^^^ j)) _ ⟨fb, rfl, hfb.chg hC hne⟩) ?_
      rintro v33 w33 ⟨rfl, hE33⟩
      replace hO := hO.ext hE33
      refine XL.s rfl ?_
      refine Y.indexOn st39 (by rfl) (by rfl) hO hj' ?_
      rintro b34 hb34 rfl
      refine XL.o ?_
      refine Y.storeO one5 (by rfl) (by rfl) rfl hO hb34 hj' ?_
      intro w2 hO2 hC2 hz2
      rw [← hee, bytesV_set, codingK_succ] at hO2
      refine XL.nil ?_
      refine QN.blk ?_
      refine QN.blk ?_
      refine QN.next ?_
      refine XC.region ?_
      show XL _ _ _ _ (List.cons _ _) _ _
      refine XL.s rfl ?_
      refine Y.add (by rfl) (by rfl) (wrap64 (by omega) (by omega)) ?_
      refine XL.s rfl ?_
      refine Y.move (by rfl) ?_
      refine XL.nil ?_
      refine QN.again (j + 1) ?_ ?_ ?_
      ·exact ⟨rfl, rfl, rfl, rfl, rfl, rfl, rfl, rfl, rfl, trivial⟩
      ·exact ⟨by omega, (hC.ext hE33).trans hC2 (fun _ h => h) (fun _ _ h => h), hO2⟩
      ·first | omega | (simp only []; omega) | (simp; omega)
     ·intro he
      try simp only [decide_eq_true_eq, decide_eq_false_iff_not, Bool.not_eq_true', Bool.not_eq_false', Bool.not_eq_eq_eq_not, Bool.not_true, Bool.not_false, Bool.or_eq_true, Bool.and_eq_true, Bool.or_eq_false_iff] at he
      refine XC.seq ?_
      refine XC.region ?_
      show XL _ _ _ _ (List.cons _ _) _ _
      refine XL.s rfl ?_
      refine Y.move (by rfl) ?_
      refine XL.s rfl ?_
      refine Y.move (by rfl) ?_
      refine XL.s rfl ?_
      refine Y.eql (by rfl) (by rfl) ?_
      refine XL.s rfl ?_
      refine Y.assign (by rfl) ?_
      refine XL.nil ?_
      refine QN.next ?_
      refine XC.condS rfl ?_ ?_
      ·intro hx
       try simp only [decide_eq_true_eq, decide_eq_false_iff_not, Bool.not_eq_true', Bool.not_eq_false', Bool.not_eq_eq_eq_not, Bool.not_true, Bool.not_false, Bool.or_eq_true, Bool.and_eq_true, Bool.or_eq_false_iff] at hx
       have hee : codingE K i j = 1 := by rw [codingE, if_neg (by omega), if_pos (by omega)]
       refine XC.region ?_
       show XL _ _ _ _ (List.cons _ _) _ _
       refine XL.s rfl ?_
       refine Y.move (by rfl) ?_
       refine XL.s rfl ?_
       refine Y.move (by rfl) ?_
       refine XL.s rfl ?_
       refine Y.indexOn st39 (by rfl) (by rfl) hO hj' ?_
       rintro b41 hb41 rfl
       refine XL.o ?_
       refine Y.storeO one5 (by rfl) (by rfl) rfl hO hb41 hj' ?_
       intro w2 hO2 hC2 hz2
       have hO2 : Own (· = b41) w2 5 1 (.slice cu K capu) K ((bytesV (codingK K i j)).set j (byteV 1)) := hO2
       rw [← hee, bytesV_set, codingK_succ] at hO2
       refine XL.nil ?_
       refine QN.blk ?_
       refine QN.blk ?_
       refine QN.next ?_
       refine XC.region ?_
       show XL _ _ _ _ (List.cons _ _) _ _
       refine XL.s rfl ?_
       refine Y.add (by rfl) (by rfl) (wrap64 (by omega) (by omega)) ?_
       refine XL.s rfl ?_
       refine Y.move (by rfl) ?_
       refine XL.nil ?_
       refine QN.again (j + 1) ?_ ?_ ?_
       ·exact ⟨rfl, rfl, rfl, rfl, rfl, rfl, rfl, rfl, rfl, trivial⟩
       ·exact ⟨by omega, hC.trans hC2 (fun _ h => h) (fun _ _ h => h), hO2⟩
       ·first | omega | (simp only []; omega) | (simp; omega)
      ·intro hx
       try simp only [decide_eq_true_eq, decide_eq_false_iff_not, Bool.not_eq_true', Bool.not_eq_false', Bool.not_eq_eq_eq_not, Bool.not_true, Bool.not_false, Bool.or_eq_true, Bool.and_eq_true, Bool.or_eq_false_iff] at hx
       have hee : codingE K i j = 0 := by rw [codingE, if_neg (by omega), if_neg (by omega)]
       refine XC.skip ?_
       refine QN.blk ?_
       refine QN.blk ?_
       refine QN.next ?_
       refine XC.region ?_
       show XL _ _ _ _ (List.cons _ _) _ _
       refine XL.s rfl ?_
       refine Y.add (by rfl) (by rfl) (wrap64 (by omega) (by omega)) ?_
       refine XL.s rfl ?_
       refine Y.move (by rfl) ?_
       refine XL.nil ?_
       refine QN.again (j + 1) ?_ ?_ ?_
       ·exact ⟨rfl, rfl, rfl, rfl, rfl, rfl, rfl, rfl, rfl, trivial⟩
       ·exact ⟨by omega, hC, by rw [← codingK_skip K i j hee]; exact hO⟩
       ·first | omega | (simp only []; omega) | (simp; omega)
    ·intro hd
     try simp only [decide_eq_true_eq, decide_eq_false_iff_not, Bool.not_eq_true', Bool.not_eq_false', Bool.not_eq_eq_eq_not, Bool.not_true, Bool.not_false, Bool.or_eq_true, Bool.and_eq_true, Bool.or_eq_false_iff] at hd
     obtain rfl : j = K := by omega
     rw [codingK_all] at hO
     have hg0 := hO.cast (codingR_length _ i).symm rfl
     replace hM := hM.chg hC (fun b hb => by intro e; have := hb.2; omega)
     have hgz := hE.size
     replace hE := hE.chgNew hC (fun x hx => by omega)
     refine XC.exit ?_
     refine QN.thenE ?_
     refine QN.thenE ?_
     refine QN.hit ?_
     refine QN.next ?_
     refine XC.region ?_
     show XL _ _ _ _ (List.cons _ _) _ _
     refine XL.s rfl ?_
     refine Y.move (by rfl) ?_
     refine XL.s rfl ?_
     refine Y.move (by rfl) ?_
     refine XL.s rfl ?_
     refine Y.buildSlice st37 (by rfl) (by rfl) (by omega) (by intro q hq; simp at hq; subst hq; exact hg0.row.oneC) ?_
     intro v45 w45 hN45
     replace hg0 := hg0.ext hN45.1
     replace hM := hM.ext hN45.1
     replace hE := hE.trans hN45.1
     refine XL.s rfl ?_
     refine Y.appendRow st37 Tryz.underlying37 (by rfl) (by rfl) hM hN45.row hg0 (fun h => by have := h.2; omega) (by simp [codingP_length]; omega) (by simp [codingP_length]; omega) ?_
     intro v46 w46 hM46 hC46
     have hz46 := hE.size
     replace hM := hM46.grow (by omega) hz46
     replace hE := hE.chgNew hC46 (fun x hx => hx.1)
     refine XL.s rfl ?_
     refine Y.assign (by rfl) ?_
     refine XL.nil ?_
     refine QN.blk ?_
     refine QN.next ?_
     refine XC.region ?_
     show XL _ _ _ _ (List.cons _ _) _ _
     refine XL.s rfl ?_
     refine Y.add (by rfl) (by rfl) (wrap64 (by omega) (by omega)) ?_
     refine XL.s rfl ?_
     refine Y.move (by rfl) ?_
     refine XL.nil ?_
     refine QN.again ((i + 1, v46)) ?_ ?_ ?_
     ·exact ⟨rfl, rfl, rfl, rfl, rfl, trivial⟩
     ·exact ⟨by omega, hE, hM.cast (codingP_succ _ _).symm⟩
     ·first | omega | (simp only []; omega) | (simp; omega)
  ·intro hc
   try simp only [decide_eq_true_eq, decide_eq_false_iff_not, Bool.not_eq_true', Bool.not_eq_false', Bool.not_eq_eq_eq_not, Bool.not_true, Bool.not_false, Bool.or_eq_true, Bool.and_eq_true, Bool.or_eq_false_iff] at hc
   obtain rfl : i = N := by omega
   refine XC.exit ?_
   refine QN.thenE ?_
   refine QN.thenE ?_
   refine QN.hit ?_
   refine QN.next ?_
   refine XC.seq ?_
   refine XC.region ?_
   show XL _ _ _ _ (List.cons _ _) _ _
   refine XL.s rfl ?_
   refine Y.move (by rfl) ?_
   refine XL.s rfl ?_
   refine Y.assign (by rfl) ?_
   refine XL.nil ?_
   refine QN.next ?_
   refine XC.ret ?_
   refine QN.done1 (fn := Tryz.f49) (R := R) (.inl rfl) rfl rfl ?_
   refine hR _ _ ?_
   exact ⟨hM.mono fun b _ hb => ⟨Nat.le_trans hE10.size hb.1, hb.2⟩, hE10.trans hE⟩
end Go.Proofs.YtchammpamigonaaGreatX
end
section
set_option linter.unusedVariables false
set_option linter.unusedSimpArgs false
set_option maxRecDepth 10000
set_option maxHeartbeats 4000000
namespace Go.Proofs.YtchammpamigonaaGreatX
open Go Go.RowKit Go.Proofs
theorem one_ok (n : Nat) (w : World) (h0 : 0 < n) (hn : n ≤ 255) :
  Rets Tryz.prog 87 #[.int .i64 n] w fun v w' => OMat 39 5 (btw w.heap.size w'.heap.size) w' v (codingP n n) ∧ Ext w w' := by
 refine Rets.enter (args := [.int .i64 n]) (n := 6) Tryz.func87 rfl rfl rfl ?_
 intro R hR
 show XC _ _ _ _ [(0, .int .i64 n)] _
 refine XC.seq ?_
 refine XC.region ?_
 show XL _ _ _ _ (List.cons _ _) _ _
 refine XL.s rfl ?_
 refine Y.assign (by rfl) ?_
 refine XL.nil ?_
 refine QN.next ?_
 refine XC.seq ?_
 refine XC.region ?_
 show XL _ _ _ _ (List.cons _ _) _ _
 refine XL.s rfl ?_
 refine Y.move (by rfl) ?_
 refine XL.s rfl ?_
 refine Y.move (by rfl) ?_
 refine XL.s rfl ?_
 refine Y.call (by rfl) ok49 (coding_ok n n _ h0 hn hn) ?_
 rintro v5 w5 ⟨hM, hE⟩
 refine XL.s rfl ?_
 refine Y.assign (by rfl) ?_
 refine XL.nil ?_
 refine QN.next ?_
 refine XC.ret ?_
 refine QN.done1 (fn := Tryz.f87) (R := R) (.inl rfl) rfl rfl ?_
 refine hR _ _ ?_
 exact ⟨hM, hE⟩
theorem rows_ok (S S' : Nat → Prop) (u x : Value) (M : List (List UInt8)) (idx : List Nat) (w : World) (hr : Rows S w u M) (hi : Is S' w x idx) (hM : ∀ i ∈ idx, 0 < (M.getD i []).length ∧ (M.getD i []).length ≤ 140737488355328) (hx : ∀ i ∈ idx, i < M.length) (hn : idx.length ≤ 1000000) :
  Rets Tryz.prog 56 #[u, x] w fun v w' => OMat 39 5 (btw w.heap.size w'.heap.size) w' v (rowsP M idx) ∧ Ext w w' := by
 refine Rets.enter (args := [u, x]) (n := 32) Tryz.func56 rfl rfl rfl ?_
 intro R hR
 show XC _ _ _ _ [(0, u), (1, x)] _
 have hMM := hM
 obtain ⟨cu, capu, rfl⟩ := hr.val
 obtain ⟨cx, capx, rfl⟩ := hi.val
 refine XC.seq ?_
 refine XC.region ?_
 show XL _ _ _ _ (List.cons _ _) _ _
 refine XL.s rfl ?_
 refine Y.assign (by rfl) ?_
 refine XL.nil ?_
 refine QN.next ?_
 refine XC.seq ?_
 refine XC.region ?_
 show XL _ _ _ _ (List.cons _ _) _ _
 refine XL.s rfl ?_
 refine Y.assign (by rfl) ?_
 refine XL.nil ?_
 refine QN.next ?_
 refine XC.seq ?_
 refine XC.seq ?_
 refine XC.region ?_
 show XL _ _ _ _ (List.cons _ _) _ _
 refine XL.s rfl ?_
 refine Y.move (by rfl) ?_
 refine XL.s rfl ?_
 first | refine Y.lenV Tryz.underlying49 (by rfl) ?_ | refine Y.len Tryz.underlying49 (by rfl) (by first | assumption | exact Apd.row (by assumption) | exact New.row (by assumption)) ?_
 refine XL.s rfl ?_
 refine Y.move (by rfl) ?_
 refine XL.nil ?_
 refine QN.next ?_
 refine XC.block ?_
 refine XC.loop (α := Nat × Value) (fun (k, a) => [(0, .slice cu M.length capu), (8, .slice cx idx.length capx), (9, .int .i64 (idx.length : Nat)), (10, .int .i64 k), (5, a)]) (fun (k, a) wr => k ≤ idx.length ∧ Ext w wr ∧ OMat 39 5 (btw w.heap.size wr.heap.size) wr a (rowsP M (idx.take k))) (fun (k, a) => idx.length - k) ((0, .slice none 0 0)) ?_ ?_ ?_
 ·exact ⟨rfl, rfl, rfl, rfl, rfl, trivial⟩
 ·exact ⟨by omega, Chg.refl _ _, OMat.nil _ _ _ _⟩
 ·rintro ⟨k, a⟩ wr hI
  obtain ⟨hk, hE, hM⟩ := hI
  refine XC.seq ?_
  refine XC.region ?_
  show XL _ _ _ _ (List.cons _ _) _ _
  refine XL.s rfl ?_
  refine Y.lss (by rfl) (by rfl) ?_
  refine XL.nil ?_
  refine QN.next ?_
  refine XC.seq ?_
  refine XC.condS rfl ?_ ?_
  ·intro hc
   try simp only [decide_eq_true_eq, decide_eq_false_iff_not, Bool.not_eq_true', Bool.not_eq_false', Bool.not_eq_eq_eq_not, Bool.not_true, Bool.not_false, Bool.or_eq_true, Bool.and_eq_true, Bool.or_eq_false_iff] at hc
   have hk' : k < idx.length := by omega
   have hik := hx _ (List.getElem_mem hk')
   obtain ⟨vs, hvs, hvl, hq⟩ := (hr.ext hE).get
   obtain ⟨q, hq, hb⟩ := hq _ hik
   have hi2 := hi.ext hE
   refine XC.skip ?_
   refine QN.next ?_
   refine XC.seq ?_
   refine XC.block ?_
   refine XC.seq ?_
   refine XC.region ?_
   show XL _ _ _ _ (List.cons _ _) _ _
   refine XL.s rfl ?_
   refine Y.indexR st49 (by rfl) (by rfl) hi2 ⟨by omega, by omega⟩ (by rw [Int.toNat_natCast]; exact intsV_get _ _ hk') ?_
   intro b12 o12 hs12 hc12
   refine XL.s rfl ?_
   refine Y.load one3 (by rfl) (by assumption) ?_
   refine XL.s rfl ?_
   refine Y.assign (by rfl) ?_
   refine XL.nil ?_
   refine QN.next ?_
   refine XC.seq ?_
   refine XC.seq ?_
   refine XC.region ?_
   show XL _ _ _ _ (List.cons _ _) _ _
   refine XL.s rfl ?_
   refine Y.move (by rfl) ?_
   refine XL.s rfl ?_
   refine Y.lss (by rfl) (by rfl) ?_
   refine XL.s rfl ?_
   refine Y.move (by rfl) ?_
   refine XL.gt rfl rfl ya rfl ?_
   refine Y.move (by rfl) ?_
   refine XL.gt rfl rfl ya rfl ?_
   refine Y.move (by rfl) ?_
   refine XL.gt rfl rfl ya rfl ?_
   first | refine Y.lenV Tryz.underlying37 (by rfl) ?_ | refine Y.len Tryz.underlying37 (by rfl) (by first | assumption | exact Apd.row (by assumption) | exact New.row (by assumption)) ?_
   refine XL.gt rfl rfl ya rfl ?_
   refine Y.geq (by rfl) (by rfl) ?_
   refine XL.s rfl ?_
   refine Y.pickF (by rfl) ya (by rfl) ?_
   refine XL.nil ?_
   refine QN.next ?_
   refine XC.condF rfl ya ?_
   refine XC.skip ?_
   refine QN.next ?_
   refine XC.region ?_
   show XL _ _ _ _ (List.cons _ _) _ _
   refine XL.s rfl ?_
   refine Y.move (by rfl) ?_
   refine XL.s rfl ?_
   refine Y.move (by rfl) ?_
   refine XL.s rfl ?_
   refine Y.move (by rfl) ?_
   refine XL.s rfl ?_
   refine Y.indexR st37 (by rfl) (by rfl) hvs ⟨by omega, by omega⟩ (by rw [Int.toNat_natCast]; exact hq) ?_
   intro b25 o25 hs25 hc25
   have hml : 0 < (M[idx[k]]'hik).length ∧ (M[idx[k]]'hik).length ≤ 140737488355328 := by have h := hMM _ (List.getElem_mem hk'); simpa [List.getD_eq_getElem?_getD, hik] using h
   refine XL.s rfl ?_
   refine Y.load one39 (by rfl) (by assumption) ?_
   refine XL.s rfl ?_
   refine Y.call (by rfl) ok37 (cloneO_ok _ _ _ _ _ hb (by simp [bytesV]) (by omega) (by omega)) ?_
   rintro v27 w27 hO27
   obtain ⟨g0, _, hgS, hgl, hg0⟩ := hO27.2.at
   simp only [Since] at hgS
   have hzz := hE.size
   replace hM := hM.ext hO27.1
   replace hE := hE.trans hO27.1
   refine XL.s rfl ?_
   refine Y.buildSlice st37 (by rfl) (by rfl) (by omega) (by intro q hq; simp at hq; subst hq; exact hg0.row.oneC) ?_
   intro v28 w28 hN28
   replace hg0 := hg0.ext hN28.1
   replace hM := hM.ext hN28.1
   replace hE := hE.trans hN28.1
   refine XL.s rfl ?_
   refine Y.appendRow st37 Tryz.underlying37 (by rfl) (by rfl) hM hN28.row hg0 (fun h => by have := h.2; omega) (by simp [rowsP]; omega) (by simp [rowsP]; omega) ?_
   intro v29 w29 hM29 hC29
   have hz29 := hE.size
   replace hM := hM29.grow (by omega) hz29
   replace hE := hE.chgNew hC29 (fun x hx => hx.1)
   refine XL.s rfl ?_
   refine Y.assign (by rfl) ?_
   refine XL.nil ?_
   refine QN.blk ?_
   refine QN.next ?_
   refine XC.region ?_
   show XL _ _ _ _ (List.cons _ _) _ _
   refine XL.s rfl ?_
   refine Y.add (by rfl) (by rfl) (wrap64 (by omega) (by omega)) ?_
   refine XL.s rfl ?_
   refine Y.move (by rfl) ?_
   refine XL.nil ?_
   refine QN.again ((k + 1, v29)) ?_ ?_ ?_
   ·exact ⟨rfl, rfl, rfl, rfl, rfl, trivial⟩
   ·exact ⟨by omega, hE, hM.cast (by rw [rowsP_succ _ _ _ hk', List.getD_eq_getElem?_getD, List.getElem?_eq_getElem hik]; rfl)⟩
   ·first | omega | (simp only []; omega) | (simp; omega)
  ·intro hc
   try simp only [decide_eq_true_eq, decide_eq_false_iff_not, Bool.not_eq_true', Bool.not_eq_false', Bool.not_eq_eq_eq_not, Bool.not_true, Bool.not_false, Bool.or_eq_true, Bool.and_eq_true, Bool.or_eq_false_iff] at hc
   obtain rfl : k = idx.length := by omega
   rw [List.take_length] at hM
   refine XC.exit ?_
   refine QN.thenE ?_
   refine QN.thenE ?_
   refine QN.hit ?_
   refine QN.next ?_
   refine XC.seq ?_
   refine XC.region ?_
   show XL _ _ _ _ (List.cons _ _) _ _
   refine XL.s rfl ?_
   refine Y.move (by rfl) ?_
   refine XL.s rfl ?_
   refine Y.assign (by rfl) ?_
   refine XL.nil ?_
   refine QN.next ?_
   refine XC.ret ?_
   refine QN.done1 (fn := Tryz.f56) (R := R) (.inl rfl) rfl rfl ?_
   refine hR _ _ ?_
   exact ⟨hM, hE⟩
theorem mmul_ok (S S' : Nat → Prop) (u x : Value) (A B : List (List UInt8)) (n : Nat) (w : World) (hr : Rows S w u A) (hi : Rows S' w x B) (hA : ∀ l ∈ A, l.length = B.length) (hB : ∀ l ∈ B, l.length = n) (h0 : 0 < n) (hn : n ≤ 1000000) (hA0 : 0 < A.length) (hB0 : 0 < B.length) (hAl : A.length ≤ 1000000) :
  Rets Tryz.prog 48 #[u, x] w fun v w' => OMat 39 5 (btw w.heap.size w'.heap.size) w' v (matMul A B) ∧ Ext w w' := by
 refine Rets.enter (args := [u, x]) (n := 54) Tryz.func48 rfl rfl rfl ?_
 intro R hR
 show XC _ _ _ _ [(0, u), (1, x)] _
 obtain ⟨cu, capu, rfl⟩ := hr.val
 obtain ⟨cx, capx, rfl⟩ := hi.val
 obtain ⟨vs, hvs, hvl, hqs⟩ := hr.old.get
 obtain ⟨ys, hys, hyl, hy⟩ := hi.old.get
 have hvle := hvs.le
 have hyle := hys.le
 obtain ⟨q, hq, hb⟩ := hqs 0 hA0
 have hBh := headD_len B n hB hB0
 refine XC.seq ?_
 refine XC.region ?_
 show XL _ _ _ _ (List.cons _ _) _ _
 refine XL.s rfl ?_
 refine Y.assign (by rfl) ?_
 refine XL.nil ?_
 refine QN.next ?_
 refine XC.seq ?_
 refine XC.seq ?_
 refine XC.region ?_
 show XL _ _ _ _ (List.cons _ _) _ _
 refine XL.s rfl ?_
 refine Y.move (by rfl) ?_
 refine XL.s rfl ?_
 refine Y.indexR st37 (by rfl) (by rfl) hvs ⟨by omega, by omega⟩ (by exact hq) ?_
 intro b13 o13 hs13 hc13
 refine XL.s rfl ?_
 refine Y.load one39 (by rfl) (by assumption) ?_
 refine XL.s rfl ?_
 refine Y.len Tryz.underlying39 (by rfl) hb ?_
 refine XL.s rfl ?_
 refine Y.move (by rfl) ?_
 refine XL.s rfl ?_
 first | refine Y.lenV Tryz.underlying37 (by rfl) ?_ | refine Y.len Tryz.underlying37 (by rfl) (by first | assumption | exact Apd.row (by assumption) | exact New.row (by assumption)) ?_
 refine XL.s rfl ?_
 refine Y.neq (by rfl) (by rfl) ?_
 refine XL.nil ?_
 refine QN.next ?_
 refine XC.condF rfl (by rw [hA _ (List.getElem_mem hA0)]; simp) ?_
 refine XC.skip ?_
 refine QN.next ?_
 refine XC.seq ?_
 refine XC.region ?_
 show XL _ _ _ _ (List.cons _ _) _ _
 refine XL.s rfl ?_
 refine Y.call (by rfl) ok76 (fieldNew_ok _) ?_
 rintro p w19 ⟨⟨fb, rfl, hfb0⟩, hE19⟩
 have hfl := hfb0.lt
 have hzw := hE19.size
 refine XL.s rfl ?_
 refine Y.assign (by rfl) ?_
 refine XL.nil ?_
 refine QN.next ?_
 refine XC.seq ?_
 refine XC.region ?_
 show XL _ _ _ _ (List.cons _ _) _ _
 refine XL.s rfl ?_
 refine Y.assign (by rfl) ?_
 refine XL.nil ?_
 refine QN.next ?_
 refine XC.seq ?_
 refine XC.seq ?_
 refine XC.region ?_
 show XL _ _ _ _ (List.cons _ _) _ _
 refine XL.s rfl ?_
 refine Y.move (by rfl) ?_
 refine XL.s rfl ?_
 first | refine Y.lenV Tryz.underlying37 (by rfl) ?_ | refine Y.len Tryz.underlying37 (by rfl) (by first | assumption | exact Apd.row (by assumption) | exact New.row (by assumption)) ?_
 refine XL.s rfl ?_
 refine Y.move (by rfl) ?_
 refine XL.nil ?_
 refine QN.next ?_
 refine XC.block ?_
 refine XC.loop (α := Nat × Value) (fun (i, a) => [(0, .slice cu A.length capu), (1, .slice cx B.length capx), (5, .pointer (some ⟨fb, 0, none⟩)), (20, .slice cu A.length capu), (21, .int .i64 (A.length : Nat)), (22, .int .i64 i), (6, a)]) (fun (i, a) wr => i ≤ A.length ∧ Ext w19 wr ∧ OMat 39 5 (btw w19.heap.size wr.heap.size) wr a (matMul (A.take i) B)) (fun (i, a) => A.length - i) ((0, .slice none 0 0)) ?_ ?_ ?_
 ·exact ⟨rfl, rfl, rfl, rfl, rfl, rfl, rfl, trivial⟩
 ·exact ⟨by omega, Chg.refl _ _, OMat.nil _ _ _ _⟩
 ·rintro ⟨i, a⟩ wr hI
  obtain ⟨hi', hE, hM⟩ := hI
  refine XC.seq ?_
  refine XC.region ?_
  show XL _ _ _ _ (List.cons _ _) _ _
  refine XL.s rfl ?_
  refine Y.lss (by rfl) (by rfl) ?_
  refine XL.nil ?_
  refine QN.next ?_
  refine XC.seq ?_
  refine XC.condS rfl ?_ ?_
  ·intro hc
   try simp only [decide_eq_true_eq, decide_eq_false_iff_not, Bool.not_eq_true', Bool.not_eq_false', Bool.not_eq_eq_eq_not, Bool.not_true, Bool.not_false, Bool.or_eq_true, Bool.and_eq_true, Bool.or_eq_false_iff] at hc
   have hiA : i < A.length := by omega
   have hEw := hE19.trans hE
   obtain ⟨q, hq, hb⟩ := hqs i hiA
   refine XC.skip ?_
   refine QN.next ?_
   refine XC.seq ?_
   refine XC.block ?_
   refine XC.seq ?_
   refine XC.region ?_
   show XL _ _ _ _ (List.cons _ _) _ _
   refine XL.s rfl ?_
   refine Y.indexR st37 (by rfl) (by rfl) (hvs.ext hEw) ⟨by omega, by omega⟩ (by rw [Int.toNat_natCast]; exact hq) ?_
   intro b24 o24 hs24 hc24
   have hrl := hA _ (List.getElem_mem hiA)
   obtain ⟨y0, hy0, hb0⟩ := hy 0 hB0
   refine XL.s rfl ?_
   refine Y.load one39 (by rfl) (by assumption) ?_
   refine XL.s rfl ?_
   refine Y.assign (by rfl) ?_
   refine XL.nil ?_
   refine QN.next ?_
   refine XC.seq ?_
   refine XC.region ?_
   show XL _ _ _ _ (List.cons _ _) _ _
   refine XL.s rfl ?_
   refine Y.move (by rfl) ?_
   refine XL.s rfl ?_
   refine Y.indexR st37 (by rfl) (by rfl) (hys.ext hEw) ⟨by omega, by omega⟩ (by exact hy0) ?_
   intro b27 o27 hs27 hc27
   have hb0n := hB _ (List.getElem_mem hB0)
   refine XL.s rfl ?_
   refine Y.load one39 (by rfl) (by assumption) ?_
   refine XL.s rfl ?_
   refine Y.len Tryz.underlying39 (by rfl) ((hb0.ext hEw).cast hb0n rfl) ?_
   refine XL.s rfl ?_
   refine Y.makeSlice st39 (by rfl) (by rfl) (by omega) (by omega) (by omega) (by intro q hq; simp [Value.cells] at hq; subst hq; rfl) ?_
   intro v30 w30 hO30 hE30
   rw [zeros_of n _ rfl] at hO30
   obtain ⟨g0, hob, hgS, hgl, hg0⟩ := hO30.at
   simp only [Since] at hgS
   have hzz := hE.size
   replace hM := hM.ext hE30
   replace hE := hE.trans hE30
   replace hEw := hEw.trans hE30
   have hfb := hfb0.ext hE
   obtain ⟨cg, capg, rfl⟩ := hg0.row.val
   obtain ⟨cq, capq, rfl⟩ := hb.val
   refine XL.s rfl ?_
   refine Y.assign (by rfl) ?_
   refine XL.nil ?_
   refine QN.next ?_
   refine XC.seq ?_
   refine XC.seq ?_
   refine XC.region ?_
   show XL _ _ _ _ (List.cons _ _) _ _
   refine XL.s rfl ?_
   refine Y.move (by rfl) ?_
   refine XL.s rfl ?_
   first | refine Y.lenV Tryz.underlying39 (by rfl) ?_ | refine Y.len Tryz.underlying39 (by rfl) (by first | assumption | exact Apd.row (by assumption) | exact New.row (by assumption)) ?_
   refine XL.s rfl ?_
   refine Y.move (by rfl) ?_
   refine XL.nil ?_
   refine QN.next ?_
   refine XC.block ?_
   refine XC.loop (α := Nat) (fun j => [(0, .slice cu A.length capu), (1, .slice cx B.length capx), (5, .pointer (some ⟨fb, 0, none⟩)), (9, .slice cg n capg), (20, .slice cu A.length capu), (21, .int .i64 (A.length : Nat)), (22, .int .i64 i), (6, a), (31, .slice cq A[i].length capq), (32, .int .i64 (A[i].length : Nat)), (33, .int .i64 j)]) (fun j wr => j ≤ B.length ∧ Chg (· = g0) w30 wr ∧ Own (· = g0) wr 5 1 (.slice cg n capg) n (bytesV (rowMul n (A[i].take j) (B.take j)))) (fun j => B.length - j) (0) ?_ ?_ ?_
   ·exact ⟨rfl, rfl, rfl, rfl, rfl, rfl, rfl, rfl, rfl, rfl, rfl, trivial⟩
   ·exact ⟨by omega, Chg.refl _ _, by simpa [rowMul] using hg0⟩
   ·rintro j wr hI
    obtain ⟨hj, hC, hO⟩ := hI
    refine XC.seq ?_
    refine XC.region ?_
    show XL _ _ _ _ (List.cons _ _) _ _
    refine XL.s rfl ?_
    refine Y.lss (by rfl) (by rfl) ?_
    refine XL.nil ?_
    refine QN.next ?_
    refine XC.seq ?_
    refine XC.condS rfl ?_ ?_
    ·intro hd
     try simp only [decide_eq_true_eq, decide_eq_false_iff_not, Bool.not_eq_true', Bool.not_eq_false', Bool.not_eq_eq_eq_not, Bool.not_true, Bool.not_false, Bool.or_eq_true, Bool.and_eq_true, Bool.or_eq_false_iff] at hd
     have hjB : j < B.length := by omega
     have hjA : j < A[i].length := by omega
     obtain ⟨y, hyy, hyb⟩ := hy j hjB
     have hCs := hC.size
     refine XC.skip ?_
     refine QN.next ?_
     refine XC.seq ?_
     refine XC.block ?_
     refine XC.seq ?_
     refine XC.region ?_
     show XL _ _ _ _ (List.cons _ _) _ _
     refine XL.s rfl ?_
     refine Y.move (by rfl) ?_
     refine XL.s rfl ?_
     refine Y.indexR st39 (by rfl) (by rfl) ((hb.ext hEw).chg hC (fun b _ hb e => by omega)) ⟨by omega, by omega⟩ (by rw [Int.toNat_natCast]; exact bytesV_get _ _ hjA) ?_
     intro b36 o36 hs36 hc36
     refine XL.s rfl ?_
     refine Y.load one5 (by rfl) (by assumption) ?_
     refine XL.s rfl ?_
     refine Y.assign (by rfl) ?_
     refine XL.s rfl ?_
     refine Y.assign (by rfl) ?_
     refine XL.nil ?_
     refine QN.next ?_
     refine XC.region ?_
     show XL _ _ _ _ (List.cons _ _) _ _
     refine XL.s rfl ?_
     refine Y.move (by rfl) ?_
     refine XL.s rfl ?_
     refine Y.move (by rfl) ?_
     refine XL.s rfl ?_
     refine Y.move (by rfl) ?_
     refine XL.s rfl ?_
     refine Y.move (by rfl) ?_
     refine XL.s rfl ?_
     refine Y.move (by rfl) ?_
     refine XL.s rfl ?_
     refine Y.indexR st37 (by rfl) (by rfl) ((hys.ext hEw).chg hC (fun b _ hb e => by omega)) ⟨by omega, by omega⟩ (by rw [Int.toNat_natCast]; exact hyy) ?_
     intro b43 o43 hs43 hc43
     have hyn := hB _ (List.getElem_mem hjB)
     refine XL.s rfl ?_
     refine Y.load one39 (by rfl) (by assumption) ?_
     refine XL.s rfl ?_
     refine Y.call (by rfl) ok78 (frow_ok _ (A[i][j]) _ _ (B[j]) _ ⟨fb, rfl, hfb.chg hC (by omega)⟩ ((hyb.ext hEw).chg hC (fun b _ hb e => by omega)) (by omega)) ?_
     rintro v45 w45 ⟨hN45, -⟩
     have hrt := rowMul_take n A[i] B j hB
     refine XL.s rfl ?_
     refine Y.call (by rfl) ok77 (plus_ok g0 _ _ _ _ _ _ ((hO.ext hN45.1).cast hrt.symm rfl) hN45.bs (fun b hb e => by simp only [Since] at hb; omega) (by rw [hrt, List.length_map, hyn])) ?_
     rintro v46 w46 ⟨hO46, hC46⟩
     refine XL.nil ?_
     refine QN.blk ?_
     refine QN.next ?_
     refine XC.region ?_
     show XL _ _ _ _ (List.cons _ _) _ _
     refine XL.s rfl ?_
     refine Y.add (by rfl) (by rfl) (wrap64 (by omega) (by omega)) ?_
     refine XL.s rfl ?_
     refine Y.move (by rfl) ?_
     refine XL.nil ?_
     refine QN.again (j + 1) ?_ ?_ ?_
     ·exact ⟨rfl, rfl, rfl, rfl, rfl, rfl, rfl, rfl, rfl, rfl, rfl, trivial⟩
     ·exact ⟨by omega, (hC.ext hN45.1).trans hC46 (fun _ h => h) (fun _ _ h => h), by rw [rowMul_succ n _ _ j hjA hjB]; exact hO46.cast hrt rfl⟩
     ·first | omega | (simp only []; omega) | (simp; omega)
    ·intro hd
     try simp only [decide_eq_true_eq, decide_eq_false_iff_not, Bool.not_eq_true', Bool.not_eq_false', Bool.not_eq_eq_eq_not, Bool.not_true, Bool.not_false, Bool.or_eq_true, Bool.and_eq_true, Bool.or_eq_false_iff] at hd
     obtain rfl : j = B.length := by omega
     have hrt := rowMul_length n A[i] B hB
     have hg0 : Own (· = g0) wr 5 1 (.slice cg n capg) (rowMul n A[i] B).length (bytesV (rowMul n A[i] B)) := hO.cast hrt.symm (by rw [List.take_length, ← hrl, List.take_length])
     replace hM := hM.chg hC (fun b hb => by intro e; have := hb.2; omega)
     have hgz := hE.size
     replace hE := hE.chgNew hC (fun x hx => by omega)
     refine XC.exit ?_
     refine QN.thenE ?_
     refine QN.thenE ?_
     refine QN.hit ?_
     refine QN.next ?_
     refine XC.region ?_
     show XL _ _ _ _ (List.cons _ _) _ _
     refine XL.s rfl ?_
     refine Y.move (by rfl) ?_
     refine XL.s rfl ?_
     refine Y.move (by rfl) ?_
     refine XL.s rfl ?_
     refine Y.buildSlice st37 (by rfl) (by rfl) (by omega) (by intro q hq; simp at hq; subst hq; exact hg0.row.oneC) ?_
     intro v50 w50 hN50
     replace hg0 := hg0.ext hN50.1
     replace hM := hM.ext hN50.1
     replace hE := hE.trans hN50.1
     refine XL.s rfl ?_
     refine Y.appendRow st37 Tryz.underlying37 (by rfl) (by rfl) hM hN50.row hg0 (fun h => by have := h.2; omega) (by simp [matMul]; omega) (by simp [matMul]; omega) ?_
     intro v51 w51 hM51 hC51
     have hz51 := hE.size
     replace hM := hM51.grow (by omega) hz51
     replace hE := hE.chgNew hC51 (fun x hx => hx.1)
     refine XL.s rfl ?_
     refine Y.assign (by rfl) ?_
     refine XL.nil ?_
     refine QN.blk ?_
     refine QN.next ?_
     refine XC.region ?_
     show XL _ _ _ _ (List.cons _ _) _ _
     refine XL.s rfl ?_
     refine Y.add (by rfl) (by rfl) (wrap64 (by omega) (by omega)) ?_
     refine XL.s rfl ?_
     refine Y.move (by rfl) ?_
     refine XL.nil ?_
     refine QN.again ((i + 1, v51)) ?_ ?_ ?_
     ·exact ⟨rfl, rfl, rfl, rfl, rfl, rfl, rfl, trivial⟩
     ·exact ⟨by omega, hE, hM.cast (by rw [matMul_succ _ _ _ hiA, hBh])⟩
     ·first | omega | (simp only []; omega) | (simp; omega)
  ·intro hc
   try simp only [decide_eq_true_eq, decide_eq_false_iff_not, Bool.not_eq_true', Bool.not_eq_false', Bool.not_eq_eq_eq_not, Bool.not_true, Bool.not_false, Bool.or_eq_true, Bool.and_eq_true, Bool.or_eq_false_iff] at hc
   obtain rfl : i = A.length := by omega
   rw [List.take_length] at hM
   refine XC.exit ?_
   refine QN.thenE ?_
   refine QN.thenE ?_
   refine QN.hit ?_
   refine QN.next ?_
   refine XC.seq ?_
   refine XC.region ?_
   show XL _ _ _ _ (List.cons _ _) _ _
   refine XL.s rfl ?_
   refine Y.move (by rfl) ?_
   refine XL.s rfl ?_
   refine Y.assign (by rfl) ?_
   refine XL.nil ?_
   refine QN.next ?_
   refine XC.ret ?_
   refine QN.done1 (fn := Tryz.f48) (R := R) (.inl rfl) rfl rfl ?_
   refine hR _ _ ?_
   exact ⟨hM.mono fun b _ hb => ⟨Nat.le_trans hE19.size hb.1, hb.2⟩, hE19.trans hE⟩
end Go.Proofs.YtchammpamigonaaGreatX
end
section
set_option linter.unusedVariables false
set_option linter.unusedSimpArgs false
set_option maxRecDepth 10000
set_option maxHeartbeats 4000000
namespace Go.Proofs.YtchammpamigonaaGreatX
open Go Go.RowKit Go.Proofs
theorem pivot_ok (ga ca : Nat) (cura : Array Value) (fra : Nat × Nat) (ua : List Value) (gsa : List Nat) (ma : Mat) (gb cb : Nat) (curb : Array Value) (frb : Nat × Nat) (ub : List Value) (gsb : List Nat) (mb : Mat) (n c : Nat) (w : World) (hA : MatX 39 5 w ga ca cura fra ua gsa ma) (hB : MatX 39 5 w gb cb curb frb ub gsb mb) (hd1 : ga ≠ gb) (hd2 : ga ∉ gsb) (hd3 : gb ∉ gsa) (hd4 : ∀ g ∈ gsa, g ∉ gsb) (ha : Sq n ma) (hb : Sq n mb) (hc : c < n) (hn : n ≤ 255) (r : Nat) (hf : findP ma c = some r) :
  Rets Tryz.prog 88 #[.slice (some ⟨ga, 0, none⟩) n ca, .slice (some ⟨gb, 0, none⟩) n cb, .int .i64 c] w fun v w' => v = .bool true ∧ Chg (fun x => x = ga ∨ x = gb) w w' ∧ ∃ cura' ua' gsa' curb' ub' gsb', (∀ g ∈ gsa', g ∈ gsa) ∧ (∀ g ∈ gsb', g ∈ gsb) ∧ MatX 39 5 w' ga ca cura' fra ua' gsa' (swapP ma r c) ∧ MatX 39 5 w' gb cb curb' frb ub' gsb' (swapP mb r c) := by
 refine Rets.enter (args := [.slice (some ⟨ga, 0, none⟩) n ca, .slice (some ⟨gb, 0, none⟩) n cb, .int .i64 c]) (n := 51) Tryz.func88 rfl rfl rfl ?_
 intro R hR
 show XC _ _ _ _ [(0, .slice (some ⟨ga, 0, none⟩) n ca), (1, .slice (some ⟨gb, 0, none⟩) n cb), (2, .int .i64 c)] _
 obtain ⟨hf1, hf2, hf3, hf4⟩ := findP_spec hf
 have hrn : r < n := by have := ha.1; omega
 refine XC.seq ?_
 refine XC.region ?_
 show XL _ _ _ _ (List.cons _ _) _ _
 refine XL.s rfl ?_
 refine Y.assign (by rfl) ?_
 refine XL.nil ?_
 refine QN.next ?_
 refine XC.seq ?_
 refine XC.seq ?_
 refine XC.region ?_
 show XL _ _ _ _ (List.cons _ _) _ _
 refine XL.s rfl ?_
 refine Y.move (by rfl) ?_
 refine XL.s rfl ?_
 refine Y.assign (by rfl) ?_
 refine XL.nil ?_
 refine QN.next ?_
 refine XC.block ?_
 refine XC.loop (α := Nat) (fun i => [(0, .slice (some ⟨ga, 0, none⟩) n ca), (1, .slice (some ⟨gb, 0, none⟩) n cb), (2, .int .i64 (c : Nat)), (7, .int .i64 i)]) (fun i wr => c ≤ i ∧ i ≤ r ∧ w = wr) (fun i => r - i) (c) ?_ ?_ ?_
 ·exact ⟨rfl, rfl, rfl, rfl, trivial⟩
 ·exact ⟨by omega, by omega, rfl⟩
 ·rintro i wr hI
  obtain ⟨h1, h2, rfl⟩ := hI
  refine XC.seq ?_
  refine XC.seq ?_
  refine XC.region ?_
  show XL _ _ _ _ (List.cons _ _) _ _
  refine XL.s rfl ?_
  refine Y.move (by rfl) ?_
  refine XL.s rfl ?_
  refine Y.move (by rfl) ?_
  refine XL.s rfl ?_
  first | refine Y.lenV Tryz.underlying37 (by rfl) ?_ | refine Y.len Tryz.underlying37 (by rfl) (by first | assumption | exact Apd.row (by assumption) | exact New.row (by assumption)) ?_
  refine XL.s rfl ?_
  refine Y.lss (by rfl) (by rfl) ?_
  refine XL.nil ?_
  refine QN.next ?_
  refine XC.condT rfl ya ?_
  obtain ⟨u, g, hu, hg, hgm, ho⟩ := hA.get (i := i) (by rw [ha.1]; omega)
  have hil := (ha.get (show i < n by omega)).2
  refine XC.skip ?_
  refine QN.next ?_
  refine XC.seq ?_
  refine XC.block ?_
  refine XC.seq ?_
  refine XC.region ?_
  show XL _ _ _ _ (List.cons _ _) _ _
  refine XL.s rfl ?_
  refine Y.move (by rfl) ?_
  refine XL.s rfl ?_
  refine Y.move (by rfl) ?_
  refine XL.s rfl ?_
  refine Y.indexL st37 (by rfl) (by rfl) (by omega) ?_
  refine XL.s rfl ?_
  refine Y.load one39 (by rfl) (by rw [Nat.zero_add]; exact hA.cell hu) ?_
  refine XL.s rfl ?_
  refine Y.move (by rfl) ?_
  refine XL.s rfl ?_
  refine Y.indexR st39 (by rfl) (by rfl) ho.row ⟨by omega, by omega⟩ (by rw [Int.toNat_natCast]; exact entry_get ha (by omega) hc) ?_
  intro b20 o20 hs20 hc20
  refine XL.s rfl ?_
  refine Y.load one5 (by rfl) (by assumption) ?_
  refine XL.s rfl ?_
  refine Y.neq (by rfl) (by rfl) ?_
  refine XL.nil ?_
  refine QN.next ?_
  refine XC.condS rfl ?_ ?_
  ·intro hx
   try simp only [decide_eq_true_eq, decide_eq_false_iff_not, Bool.not_eq_true', Bool.not_eq_false', Bool.not_eq_eq_eq_not, Bool.not_true, Bool.not_false, Bool.or_eq_true, Bool.and_eq_true, Bool.or_eq_false_iff] at hx
   have hir : i = r := by
    rcases Nat.lt_or_ge i r with h | h
    ·exact absurd (hf4 i h1 h) (byte_ne hx)
    ·omega
   subst hir
   obtain ⟨ur, gr, hur, hgr, -, hor⟩ := hA.get (i := i) (by rw [ha.1]; omega)
   obtain ⟨uc, gc, huc, hgc, -, hoc⟩ := hA.get (i := c) (by rw [ha.1]; omega)
   refine XC.seq ?_
   apply XC.drop [8, 9, 10, 11, 12, 13, 14, 15, 16, 17, 18, 19, 20, 21, 22, 23, 24, 25, 26, 27, 28, 29, 30, 31, 32, 33, 34, 35, 36, 37, 38, 39, 40, 41, 42, 43, 44, 45, 46, 47, 48, 49, 50]
   ·repeat (first | apply DropTo.nil | apply DropTo.skip rfl | apply DropTo.keep rfl)
   refine XC.draw2L 14 [[], [], [], [], [], [], [4, 5], [4, 5, 6], [], [], [8, 9], [8, 9, 10], [0, 1, 4, 5, 6, 7, 8, 9, 10, 11], [0, 1, 4, 5, 6, 7, 8, 9, 10, 11, 12], [0, 1, 2, 3, 4, 5, 6, 7, 8, 9, 10, 11, 12, 13], [0, 1, 2, 3, 4, 5, 6, 7, 8, 9, 10, 11, 12, 13, 14]] _ 13 [0, 1, 4, 5, 6, 7, 8, 9, 10, 11, 12, 13] ((fun x => x = ga)) [] [(7, (fun _ => (fun v _ => v = ur))), (11, (fun _ => (fun v _ => v = uc))), (13, (fun _ => (fun _ w' => HB w' ga (.cells (cura.setIfInBounds (0 + c) ur) 39 fra))))] [0, 1, 2, 3, 4, 5, 6, 7, 8, 9, 10, 11, 12, 13] fol (by kernel_rfl) (by rfl) (by rfl) (by rfl) ⟨(fun _ => (fun _ _ _ _ h => h)), (fun _ => (fun _ _ _ _ h => h)), (fun _ => (fun v w1 w2 hE h => h.ext hE)), trivial⟩ ⟨(fun _ _ _ _ _ h => h), (fun _ _ _ _ _ h => h), (fun _ _ _ _ _ h => h), trivial⟩ ⟨?_, ?_, ?_, ?_, ?_, ?_, ?_, ?_, ?_, ?_, ?_, ?_, ?_, ?_, trivial⟩ ?_
   ·intro aD5 wD5 haD5 hCD5 hrD5
    replace hCD5 : Ext _ wD5 := hCD5
    refine ⟨rfl, ?_⟩
    refine XD.start haD5 ?_
    apply XD.stepP rfl
    intro w3
    refine Y.move (by rfl) ?_
    exact ⟨rfl, rfl⟩
   ·intro aD5 wD5 haD5 hCD5 hrD5
    replace hCD5 : Ext _ wD5 := hCD5
    refine ⟨rfl, ?_⟩
    refine XD.start haD5 ?_
    apply XD.stepP rfl
    intro w3
    refine Y.move (by rfl) ?_
    exact ⟨rfl, rfl⟩
   ·intro aD5 wD5 haD5 hCD5 hrD5
    replace hCD5 : Chg _ _ wD5 := hCD5
    refine ⟨rfl, ?_⟩
    refine XD.start haD5 ?_
    apply XD.stepP rfl
    intro w3
    refine Y.move (by rfl) ?_
    exact ⟨rfl, rfl⟩
   ·intro aD5 wD5 haD5 hCD5 hrD5
    replace hCD5 : Chg _ _ wD5 := hCD5
    refine ⟨rfl, ?_⟩
    refine XD.start haD5 ?_
    apply XD.stepP rfl
    intro w3
    refine Y.move (by rfl) ?_
    exact ⟨rfl, rfl⟩
   ·intro aD5 wD5 haD5 hCD5 hrD5
    replace hCD5 : Ext _ wD5 := hCD5
    refine ⟨rfl, ?_⟩
    refine XD.start haD5 ?_
    apply XD.stepP rfl
    intro w3
    refine Y.move (by rfl) ?_
    exact ⟨rfl, rfl⟩
   ·intro aD5 wD5 haD5 hCD5 hrD5
    replace hCD5 : Ext _ wD5 := hCD5
    refine ⟨rfl, ?_⟩
    refine XD.start haD5 ?_
    apply XD.stepP rfl
    intro w3
    refine Y.move (by rfl) ?_
    exact ⟨rfl, rfl⟩
   ·intro aD5 wD5 haD5 hCD5 hrD5
    obtain ⟨r4, r5, -⟩ := hrD5
    replace hCD5 : Ext _ wD5 := hCD5
    refine ⟨rfl, ?_⟩
    refine XD.start haD5 ?_
    refine XD.pure r4 ?_
    refine Y.move (by rfl) ?_
    refine XD.pure r5 ?_
    refine Y.move (by rfl) ?_
    apply XD.stepP rfl
    intro w3
    refine Y.indexL st37 (by rfl) (by rfl) (by omega) ?_
    exact ⟨rfl, rfl⟩
   ·intro aD5 wD5 haD5 hCD5 hrD5
    obtain ⟨r4, r5, r6, -⟩ := hrD5
    replace hCD5 : Ext _ wD5 := hCD5
    replace hA := hA.ext hCD5
    refine ⟨rfl, ?_⟩
    refine XD.start haD5 ?_
    refine XD.pure r4 ?_
    refine Y.move (by rfl) ?_
    refine XD.pure r5 ?_
    refine Y.move (by rfl) ?_
    refine XD.pure r6 ?_
    refine Y.indexL st37 (by rfl) (by rfl) (by omega) ?_
    refine XD.stepI ?_
    refine Y.load one39 (by rfl) (by rw [Nat.zero_add]; exact hA.cell hur) ?_
    exact ⟨Chg.refl _ _, rfl⟩
   ·intro aD5 wD5 haD5 hCD5 hrD5
    replace hCD5 : Ext _ wD5 := hCD5
    refine ⟨rfl, ?_⟩
    refine XD.start haD5 ?_
    apply XD.stepP rfl
    intro w3
    refine Y.move (by rfl) ?_
    exact ⟨rfl, rfl⟩
   ·intro aD5 wD5 haD5 hCD5 hrD5
    replace hCD5 : Ext _ wD5 := hCD5
    refine ⟨rfl, ?_⟩
    refine XD.start haD5 ?_
    apply XD.stepP rfl
    intro w3
    refine Y.move (by rfl) ?_
    exact ⟨rfl, rfl⟩
   ·intro aD5 wD5 haD5 hCD5 hrD5
    obtain ⟨r8, r9, -⟩ := hrD5
    replace hCD5 : Ext _ wD5 := hCD5
    refine ⟨rfl, ?_⟩
    refine XD.start haD5 ?_
    refine XD.pure r8 ?_
    refine Y.move (by rfl) ?_
    refine XD.pure r9 ?_
    refine Y.move (by rfl) ?_
    apply XD.stepP rfl
    intro w3
    refine Y.indexL st37 (by rfl) (by rfl) (by omega) ?_
    exact ⟨rfl, rfl⟩
   ·intro aD5 wD5 haD5 hCD5 hrD5
    obtain ⟨r8, r9, r10, -⟩ := hrD5
    replace hCD5 : Ext _ wD5 := hCD5
    replace hA := hA.ext hCD5
    refine ⟨rfl, ?_⟩
    refine XD.start haD5 ?_
    refine XD.pure r8 ?_
    refine Y.move (by rfl) ?_
    refine XD.pure r9 ?_
    refine Y.move (by rfl) ?_
    refine XD.pure r10 ?_
    refine Y.indexL st37 (by rfl) (by rfl) (by omega) ?_
    refine XD.stepI ?_
    refine Y.load one39 (by rfl) (by rw [Nat.zero_add]; exact hA.cell huc) ?_
    exact ⟨Chg.refl _ _, rfl⟩
   ·intro aD5 wD5 haD5 hCD5 hrD5
    obtain ⟨r0, r1, r4, r5, r6, r7, r8, r9, r10, r11, -⟩ := hrD5
    replace hCD5 : Ext _ wD5 := hCD5
    replace hA := hA.ext hCD5
    refine ⟨rfl, ?_⟩
    refine XD.start haD5 ?_
    refine XD.pure r0 ?_
    refine Y.move (by rfl) ?_
    refine XD.pure r1 ?_
    refine Y.move (by rfl) ?_
    refine XD.pure r4 ?_
    refine Y.move (by rfl) ?_
    refine XD.pure r5 ?_
    refine Y.move (by rfl) ?_
    refine XD.pure r6 ?_
    refine Y.indexL st37 (by rfl) (by rfl) (by omega) ?_
    refine XD.imp r7 ?_
    rintro _ rfl
    refine XD.pure r8 ?_
    refine Y.move (by rfl) ?_
    refine XD.pure r9 ?_
    refine Y.move (by rfl) ?_
    refine XD.pure r10 ?_
    refine Y.indexL st37 (by rfl) (by rfl) (by omega) ?_
    refine XD.imp r11 ?_
    rintro _ rfl
    apply XD.stepP rfl
    intro w3
    refine Y.indexL st37 (by rfl) (by rfl) (by omega) ?_
    exact ⟨rfl, rfl⟩
   ·intro aD5 wD5 haD5 hCD5 hrD5
    obtain ⟨r0, r1, r4, r5, r6, r7, r8, r9, r10, r11, r12, -⟩ := hrD5
    replace hCD5 : Ext _ wD5 := hCD5
    replace hA := hA.ext hCD5
    refine ⟨rfl, ?_⟩
    refine XD.start haD5 ?_
    refine XD.pure r0 ?_
    refine Y.move (by rfl) ?_
    refine XD.pure r1 ?_
    refine Y.move (by rfl) ?_
    refine XD.pure r4 ?_
    refine Y.move (by rfl) ?_
    refine XD.pure r5 ?_
    refine Y.move (by rfl) ?_
    refine XD.pure r6 ?_
    refine Y.indexL st37 (by rfl) (by rfl) (by omega) ?_
    refine XD.imp r7 ?_
    rintro _ rfl
    refine XD.pure r8 ?_
    refine Y.move (by rfl) ?_
    refine XD.pure r9 ?_
    refine Y.move (by rfl) ?_
    refine XD.pure r10 ?_
    refine Y.indexL st37 (by rfl) (by rfl) (by omega) ?_
    refine XD.imp r11 ?_
    rintro _ rfl
    refine XD.pure r12 ?_
    refine Y.indexL st37 (by rfl) (by rfl) (by omega) ?_
    refine XD.stepI ?_
    refine Y.storeB one39 (by rfl) (by rfl) (hA.rows.one _ (List.mem_of_getElem? hur)) hA.hb (by rw [hA.cs]; have := hA.le; rw [ha.1] at this; omega) hA.nf ?_
    intro w2 a1 a2 _ _; exact ⟨a2, a1⟩
   intro aD5 wD5 haD5 hCD5 hrD5
   obtain ⟨r0, r1, r2, r3, r4, r5, r6, r7, r8, r9, r10, r11, r12, r13, -⟩ := hrD5
   refine XD.start haD5 ?_
   refine XD.pure r0 ?_
   refine Y.move (by rfl) ?_
   refine XD.pure r1 ?_
   refine Y.move (by rfl) ?_
   refine XD.pure r2 ?_
   refine Y.move (by rfl) ?_
   refine XD.pure r3 ?_
   refine Y.move (by rfl) ?_
   refine XD.pure r4 ?_
   refine Y.move (by rfl) ?_
   refine XD.pure r5 ?_
   refine Y.move (by rfl) ?_
   refine XD.pure r6 ?_
   refine Y.indexL st37 (by rfl) (by rfl) (by omega) ?_
   refine XD.imp r7 ?_
   rintro _ rfl
   refine XD.pure r8 ?_
   refine Y.move (by rfl) ?_
   refine XD.pure r9 ?_
   refine Y.move (by rfl) ?_
   refine XD.pure r10 ?_
   refine Y.indexL st37 (by rfl) (by rfl) (by omega) ?_
   refine XD.imp r11 ?_
   rintro _ rfl
   refine XD.pure r12 ?_
   refine Y.indexL st37 (by rfl) (by rfl) (by omega) ?_
   refine XD.impN r13 ?_
   rintro _ hst
   refine XD.fin haD5 ?_
   show XL _ _ _ _ (List.cons _ _) _ _
   refine XL.s rfl ?_
   refine Y.indexL st37 (by rfl) (by rfl) (by omega) ?_
   refine XL.o ?_
   refine Y.storeB one39 (by rfl) (by rfl) (hA.rows.one _ (List.mem_of_getElem? huc)) hst (by rw [Array.size_setIfInBounds, hA.cs]; have := hA.le; rw [ha.1] at this; omega) (by rw [Array.size_setIfInBounds]; exact hA.nf) ?_
   intro wA hbA hCA _ _
   simp only [Nat.zero_add] at hbA
   have hCA : Chg (· = ga) _ wA := hCD5.trans hCA (fun _ h => h) (fun _ _ h => h)
   obtain ⟨gsA, hsubA, hMA⟩ := hA.swap hur huc hbA hCA
   replace hB := hB.chg hCA (fun h => hd1 h.symm) (fun g hg e => hd2 (e ▸ hg))
   obtain ⟨ur, gr, hur, hgr, -, hor⟩ := hB.get (i := i) (by rw [hb.1]; omega)
   obtain ⟨uc, gc, huc, hgc, -, hoc⟩ := hB.get (i := c) (by rw [hb.1]; omega)
   refine XL.nil ?_
   refine QN.next ?_
   refine XC.seq ?_
   apply XC.drop [8, 9, 10, 11, 12, 13, 14, 15, 16, 17, 18, 19, 20, 21, 22, 23, 24, 25, 26, 27, 28, 29, 30, 31, 32, 33, 34, 35, 36, 37, 38, 39, 40, 41, 42, 43, 44, 45, 46, 47, 48, 49, 50]
   ·repeat (first | apply DropTo.nil | apply DropTo.skip rfl | apply DropTo.keep rfl)
   refine XC.draw2L 14 [[], [], [], [], [], [], [4, 5], [4, 5, 6], [], [], [8, 9], [8, 9, 10], [0, 1, 4, 5, 6, 7, 8, 9, 10, 11], [0, 1, 4, 5, 6, 7, 8, 9, 10, 11, 12], [0, 1, 2, 3, 4, 5, 6, 7, 8, 9, 10, 11, 12, 13], [0, 1, 2, 3, 4, 5, 6, 7, 8, 9, 10, 11, 12, 13, 14]] _ 13 [0, 1, 4, 5, 6, 7, 8, 9, 10, 11, 12, 13] ((fun x => x = gb)) [] [(7, (fun _ => (fun v _ => v = ur))), (11, (fun _ => (fun v _ => v = uc))), (13, (fun _ => (fun _ w' => HB w' gb (.cells (curb.setIfInBounds (0 + c) ur) 39 frb))))] [0, 1, 2, 3, 4, 5, 6, 7, 8, 9, 10, 11, 12, 13] fol (by kernel_rfl) (by rfl) (by rfl) (by rfl) ⟨(fun _ => (fun _ _ _ _ h => h)), (fun _ => (fun _ _ _ _ h => h)), (fun _ => (fun v w1 w2 hE h => h.ext hE)), trivial⟩ ⟨(fun _ _ _ _ _ h => h), (fun _ _ _ _ _ h => h), (fun _ _ _ _ _ h => h), trivial⟩ ⟨?_, ?_, ?_, ?_, ?_, ?_, ?_, ?_, ?_, ?_, ?_, ?_, ?_, ?_, trivial⟩ ?_
   ·intro aD6 wD6 haD6 hCD6 hrD6
    replace hCD6 : Ext _ wD6 := hCD6
    refine ⟨rfl, ?_⟩
    refine XD.start haD6 ?_
    apply XD.stepP rfl
    intro w3
    refine Y.move (by rfl) ?_
    exact ⟨rfl, rfl⟩
   ·intro aD6 wD6 haD6 hCD6 hrD6
    replace hCD6 : Ext _ wD6 := hCD6
    refine ⟨rfl, ?_⟩
    refine XD.start haD6 ?_
    apply XD.stepP rfl
    intro w3
    refine Y.move (by rfl) ?_
    exact ⟨rfl, rfl⟩
   ·intro aD6 wD6 haD6 hCD6 hrD6
    replace hCD6 : Chg _ _ wD6 := hCD6
    refine ⟨rfl, ?_⟩
    refine XD.start haD6 ?_
    apply XD.stepP rfl
    intro w3
    refine Y.move (by rfl) ?_
    exact ⟨rfl, rfl⟩
   ·intro aD6 wD6 haD6 hCD6 hrD6
    replace hCD6 : Chg _ _ wD6 := hCD6
    refine ⟨rfl, ?_⟩
    refine XD.start haD6 ?_
    apply XD.stepP rfl
    intro w3
    refine Y.move (by rfl) ?_
    exact ⟨rfl, rfl⟩
   ·intro aD6 wD6 haD6 hCD6 hrD6
    replace hCD6 : Ext _ wD6 := hCD6
    refine ⟨rfl, ?_⟩
    refine XD.start haD6 ?_
    apply XD.stepP rfl
    intro w3
    refine Y.move (by rfl) ?_
    exact ⟨rfl, rfl⟩
   ·intro aD6 wD6 haD6 hCD6 hrD6
    replace hCD6 : Ext _ wD6 := hCD6
    refine ⟨rfl, ?_⟩
    refine XD.start haD6 ?_
    apply XD.stepP rfl
    intro w3
    refine Y.move (by rfl) ?_
    exact ⟨rfl, rfl⟩
   ·intro aD6 wD6 haD6 hCD6 hrD6
    obtain ⟨r4, r5, -⟩ := hrD6
    replace hCD6 : Ext _ wD6 := hCD6
    refine ⟨rfl, ?_⟩
    refine XD.start haD6 ?_
    refine XD.pure r4 ?_
    refine Y.move (by rfl) ?_
    refine XD.pure r5 ?_
    refine Y.move (by rfl) ?_
    apply XD.stepP rfl
    intro w3
    refine Y.indexL st37 (by rfl) (by rfl) (by omega) ?_
    exact ⟨rfl, rfl⟩
   ·intro aD6 wD6 haD6 hCD6 hrD6
    obtain ⟨r4, r5, r6, -⟩ := hrD6
    replace hCD6 : Ext _ wD6 := hCD6
    replace hB := hB.ext hCD6
    refine ⟨rfl, ?_⟩
    refine XD.start haD6 ?_
    refine XD.pure r4 ?_
    refine Y.move (by rfl) ?_
    refine XD.pure r5 ?_
    refine Y.move (by rfl) ?_
    refine XD.pure r6 ?_
    refine Y.indexL st37 (by rfl) (by rfl) (by omega) ?_
    refine XD.stepI ?_
    refine Y.load one39 (by rfl) (by rw [Nat.zero_add]; exact hB.cell hur) ?_
    exact ⟨Chg.refl _ _, rfl⟩
   ·intro aD6 wD6 haD6 hCD6 hrD6
    replace hCD6 : Ext _ wD6 := hCD6
    refine ⟨rfl, ?_⟩
    refine XD.start haD6 ?_
    apply XD.stepP rfl
    intro w3
    refine Y.move (by rfl) ?_
    exact ⟨rfl, rfl⟩
   ·intro aD6 wD6 haD6 hCD6 hrD6
    replace hCD6 : Ext _ wD6 := hCD6
    refine ⟨rfl, ?_⟩
    refine XD.start haD6 ?_
    apply XD.stepP rfl
    intro w3
    refine Y.move (by rfl) ?_
    exact ⟨rfl, rfl⟩
   ·intro aD6 wD6 haD6 hCD6 hrD6
    obtain ⟨r8, r9, -⟩ := hrD6
    replace hCD6 : Ext _ wD6 := hCD6
    refine ⟨rfl, ?_⟩
    refine XD.start haD6 ?_
    refine XD.pure r8 ?_
    refine Y.move (by rfl) ?_
    refine XD.pure r9 ?_
    refine Y.move (by rfl) ?_
    apply XD.stepP rfl
    intro w3
    refine Y.indexL st37 (by rfl) (by rfl) (by omega) ?_
    exact ⟨rfl, rfl⟩
   ·intro aD6 wD6 haD6 hCD6 hrD6
    obtain ⟨r8, r9, r10, -⟩ := hrD6
    replace hCD6 : Ext _ wD6 := hCD6
    replace hB := hB.ext hCD6
    refine ⟨rfl, ?_⟩
    refine XD.start haD6 ?_
    refine XD.pure r8 ?_
    refine Y.move (by rfl) ?_
    refine XD.pure r9 ?_
    refine Y.move (by rfl) ?_
    refine XD.pure r10 ?_
    refine Y.indexL st37 (by rfl) (by rfl) (by omega) ?_
    refine XD.stepI ?_
    refine Y.load one39 (by rfl) (by rw [Nat.zero_add]; exact hB.cell huc) ?_
    exact ⟨Chg.refl _ _, rfl⟩
   ·intro aD6 wD6 haD6 hCD6 hrD6
    obtain ⟨r0, r1, r4, r5, r6, r7, r8, r9, r10, r11, -⟩ := hrD6
    replace hCD6 : Ext _ wD6 := hCD6
    replace hB := hB.ext hCD6
    refine ⟨rfl, ?_⟩
    refine XD.start haD6 ?_
    refine XD.pure r0 ?_
    refine Y.move (by rfl) ?_
    refine XD.pure r1 ?_
    refine Y.move (by rfl) ?_
    refine XD.pure r4 ?_
    refine Y.move (by rfl) ?_
    refine XD.pure r5 ?_
    refine Y.move (by rfl) ?_
    refine XD.pure r6 ?_
    refine Y.indexL st37 (by rfl) (by rfl) (by omega) ?_
    refine XD.imp r7 ?_
    rintro _ rfl
    refine XD.pure r8 ?_
    refine Y.move (by rfl) ?_
    refine XD.pure r9 ?_
    refine Y.move (by rfl) ?_
    refine XD.pure r10 ?_
    refine Y.indexL st37 (by rfl) (by rfl) (by omega) ?_
    refine XD.imp r11 ?_
    rintro _ rfl
    apply XD.stepP rfl
    intro w3
    refine Y.indexL st37 (by rfl) (by rfl) (by omega) ?_
    exact ⟨rfl, rfl⟩
   ·intro aD6 wD6 haD6 hCD6 hrD6
    obtain ⟨r0, r1, r4, r5, r6, r7, r8, r9, r10, r11, r12, -⟩ := hrD6
    replace hCD6 : Ext _ wD6 := hCD6
    replace hB := hB.ext hCD6
    refine ⟨rfl, ?_⟩
    refine XD.start haD6 ?_
    refine XD.pure r0 ?_
    refine Y.move (by rfl) ?_
    refine XD.pure r1 ?_
    refine Y.move (by rfl) ?_
    refine XD.pure r4 ?_
    refine Y.move (by rfl) ?_
    refine XD.pure r5 ?_
    refine Y.move (by rfl) ?_
    refine XD.pure r6 ?_
    refine Y.indexL st37 (by rfl) (by rfl) (by omega) ?_
    refine XD.imp r7 ?_
    rintro _ rfl
    refine XD.pure r8 ?_
    refine Y.move (by rfl) ?_
    refine XD.pure r9 ?_
    refine Y.move (by rfl) ?_
    refine XD.pure r10 ?_
    refine Y.indexL st37 (by rfl) (by rfl) (by omega) ?_
    refine XD.imp r11 ?_
    rintro _ rfl
    refine XD.pure r12 ?_
    refine Y.indexL st37 (by rfl) (by rfl) (by omega) ?_
    refine XD.stepI ?_
    refine Y.storeB one39 (by rfl) (by rfl) (hB.rows.one _ (List.mem_of_getElem? hur)) hB.hb (by rw [hB.cs]; have := hB.le; rw [hb.1] at this; omega) hB.nf ?_
    intro w2 a1 a2 _ _; exact ⟨a2, a1⟩
   intro aD6 wD6 haD6 hCD6 hrD6
   obtain ⟨r0, r1, r2, r3, r4, r5, r6, r7, r8, r9, r10, r11, r12, r13, -⟩ := hrD6
   refine XD.start haD6 ?_
   refine XD.pure r0 ?_
   refine Y.move (by rfl) ?_
   refine XD.pure r1 ?_
   refine Y.move (by rfl) ?_
   refine XD.pure r2 ?_
   refine Y.move (by rfl) ?_
   refine XD.pure r3 ?_
   refine Y.move (by rfl) ?_
   refine XD.pure r4 ?_
   refine Y.move (by rfl) ?_
   refine XD.pure r5 ?_
   refine Y.move (by rfl) ?_
   refine XD.pure r6 ?_
   refine Y.indexL st37 (by rfl) (by rfl) (by omega) ?_
   refine XD.imp r7 ?_
   rintro _ rfl
   refine XD.pure r8 ?_
   refine Y.move (by rfl) ?_
   refine XD.pure r9 ?_
   refine Y.move (by rfl) ?_
   refine XD.pure r10 ?_
   refine Y.indexL st37 (by rfl) (by rfl) (by omega) ?_
   refine XD.imp r11 ?_
   rintro _ rfl
   refine XD.pure r12 ?_
   refine Y.indexL st37 (by rfl) (by rfl) (by omega) ?_
   refine XD.impN r13 ?_
   rintro _ hst
   refine XD.fin haD6 ?_
   show XL _ _ _ _ (List.cons _ _) _ _
   refine XL.s rfl ?_
   refine Y.indexL st37 (by rfl) (by rfl) (by omega) ?_
   refine XL.o ?_
   refine Y.storeB one39 (by rfl) (by rfl) (hB.rows.one _ (List.mem_of_getElem? huc)) hst (by rw [Array.size_setIfInBounds, hB.cs]; have := hB.le; rw [hb.1] at this; omega) (by rw [Array.size_setIfInBounds]; exact hB.nf) ?_
   intro wB hbB hCB _ _
   simp only [Nat.zero_add] at hbB
   have hCB : Chg (· = gb) _ wB := hCD6.trans hCB (fun _ h => h) (fun _ _ h => h)
   obtain ⟨gsB, hsubB, hMB⟩ := hB.swap hur huc hbB hCB
   refine XL.nil ?_
   refine QN.next ?_
   refine XC.seq ?_
   refine XC.region ?_
   show XL _ _ _ _ (List.cons _ _) _ _
   refine XL.s rfl ?_
   refine Y.assign (by rfl) ?_
   refine XL.nil ?_
   refine QN.next ?_
   refine XC.ret ?_
   refine QN.done1 (fn := Tryz.f88) (R := R) (.inl rfl) rfl rfl ?_
   refine hR _ _ ?_
   exact ⟨rfl, hCA.trans hCB (fun _ h => .inl h) (fun _ _ h => .inr h), _, _, gsA, _, _, gsB, hsubA, hsubB, hMA.chg hCB (fun h => hd1 h) (fun g hg e => hd3 (e ▸ hsubA g hg)), hMB⟩
  ·intro hx
   try simp only [decide_eq_true_eq, decide_eq_false_iff_not, Bool.not_eq_true', Bool.not_eq_false', Bool.not_eq_eq_eq_not, Bool.not_true, Bool.not_false, Bool.or_eq_true, Bool.and_eq_true, Bool.or_eq_false_iff] at hx
   have hir : i ≠ r := by rintro rfl; exact hf3 (byte_eq0 hx)
   refine XC.skip ?_
   refine QN.blk ?_
   refine QN.next ?_
   refine XC.region ?_
   show XL _ _ _ _ (List.cons _ _) _ _
   refine XL.s rfl ?_
   refine Y.move (by rfl) ?_
   refine XL.s rfl ?_
   refine Y.add (by rfl) (by rfl) (wrap64 (by omega) (by omega)) ?_
   refine XL.s rfl ?_
   refine Y.assign (by rfl) ?_
   refine XL.nil ?_
   refine QN.again (i + 1) ?_ ?_ ?_
   ·exact ⟨rfl, rfl, rfl, rfl, trivial⟩
   ·exact ⟨by omega, by omega, rfl⟩
   ·first | omega | (simp only []; omega) | (simp; omega)
theorem clear_ok (ga ca : Nat) (cura : Array Value) (fra : Nat × Nat) (ua : List Value) (gsa : List Nat) (ma : Mat) (gb cb : Nat) (curb : Array Value) (frb : Nat × Nat) (ub : List Value) (gsb : List Nat) (mb : Mat) (n c : Nat) (w : World) (hA : MatX 39 5 w ga ca cura fra ua gsa ma) (hB : MatX 39 5 w gb cb curb frb ub gsb mb) (hd1 : ga ≠ gb) (hd2 : ga ∉ gsb) (hd3 : gb ∉ gsa) (hd4 : ∀ g ∈ gsa, g ∉ gsb) (ha : Sq n ma) (hb : Sq n mb) (hc : c < n) (hn : n ≤ 255) (fb : Nat) (hfb : HB w fb (.cells (fieldCells 255).toArray 138 (0, 0))) (hfa : fb ≠ ga) (hfa2 : fb ∉ gsa) (hfb1 : fb ≠ gb) (hfb2 : fb ∉ gsb) :
  Rets Tryz.prog 89 #[.pointer (some ⟨fb, 0, none⟩), .slice (some ⟨ga, 0, none⟩) n ca, .slice (some ⟨gb, 0, none⟩) n cb, .int .i64 c] w fun v w' => Chg (fun x => x = ga ∨ x ∈ gsa ∨ x = gb ∨ x ∈ gsb) w w' ∧ ∃ cura' ua' gsa' curb' ub' gsb', MatX 39 5 w' ga ca cura' fra ua' gsa' (clearP c (ma, mb)).1 ∧ MatX 39 5 w' gb cb curb' frb ub' gsb' (clearP c (ma, mb)).2 ∧ (∀ g ∈ gsa', g ∈ gsa ∨ w.heap.size ≤ g) ∧ (∀ g ∈ gsb', g ∈ gsb ∨ w.heap.size ≤ g) ∧ (∀ g ∈ gsa', g ∉ gsb') ∧ ga ∉ gsb' ∧ gb ∉ gsa' := by
 refine Rets.enter (args := [.pointer (some ⟨fb, 0, none⟩), .slice (some ⟨ga, 0, none⟩) n ca, .slice (some ⟨gb, 0, none⟩) n cb, .int .i64 c]) (n := 84) Tryz.func89 rfl rfl rfl ?_
 intro R hR
 show XC _ _ _ _ [(0, .pointer (some ⟨fb, 0, none⟩)), (1, .slice (some ⟨ga, 0, none⟩) n ca), (2, .slice (some ⟨gb, 0, none⟩) n cb), (3, .int .i64 c)] _
 obtain ⟨uc, gc, huc, hgc, hgcm, hoc⟩ := hA.get (i := c) (by rw [ha.1]; omega)
 obtain ⟨vc, hc', hvc, hhc, hhcm, hod⟩ := hB.get (i := c) (by rw [hb.1]; omega)
 have hil := (ha.get hc).2
 have hjl := (hb.get hc).2
 refine XC.seq ?_
 refine XC.region ?_
 show XL _ _ _ _ (List.cons _ _) _ _
 refine XL.s rfl ?_
 refine Y.move (by rfl) ?_
 refine XL.s rfl ?_
 refine Y.move (by rfl) ?_
 refine XL.s rfl ?_
 refine Y.move (by rfl) ?_
 refine XL.s rfl ?_
 refine Y.indexL st37 (by rfl) (by rfl) (by omega) ?_
 refine XL.s rfl ?_
 refine Y.load one39 (by rfl) (by rw [Nat.zero_add]; exact hA.cell huc) ?_
 refine XL.s rfl ?_
 refine Y.move (by rfl) ?_
 refine XL.s rfl ?_
 refine Y.indexR st39 (by rfl) (by rfl) hoc.row ⟨by omega, by omega⟩ (by rw [Int.toNat_natCast]; exact entry_get ha (by omega) hc) ?_
 intro b17 o17 hs17 hc17
 refine XL.s rfl ?_
 refine Y.load one5 (by rfl) (by assumption) ?_
 refine XL.s rfl ?_
 refine Y.call (by rfl) ok79 (finv_ok _ (entry ma c c) _ ⟨fb, rfl, hfb⟩) ?_
 rintro v19 w19 ⟨rfl, hE19⟩
 replace hA := hA.ext hE19
 replace hB := hB.ext hE19
 replace hfb := hfb.ext hE19
 replace hoc := hoc.ext hE19
 replace hod := hod.ext hE19
 have hgal := hA.hb.lt
 have hgbl := hB.hb.lt
 have hz19 := hE19.size
 have hA0 := hA
 have hB0 := hB
 refine XL.s rfl ?_
 refine Y.assign (by rfl) ?_
 refine XL.nil ?_
 refine QN.next ?_
 refine XC.seq ?_
 apply XC.drop [11, 12, 13, 14, 15, 16, 17, 18, 19, 20, 21, 22, 23, 24, 25, 26, 27, 28, 29, 30, 31, 32, 33, 34, 35, 36, 37, 38, 39, 40, 43, 44, 45, 46, 47, 48, 49, 50, 51, 52, 53, 54, 55, 56, 57, 58, 59, 60, 61, 62, 63, 64, 65, 66, 67, 68, 69, 70, 71, 72, 73, 74, 75, 76, 77, 78, 79, 80, 81, 82, 83]
 ·repeat (first | apply DropTo.nil | apply DropTo.skip rfl | apply DropTo.keep rfl)
 refine XC.draw2L 20 [[], [], [], [], [], [], [], [], [6, 7], [6, 7, 8], [4, 5, 6, 7, 8, 9], [], [], [], [], [13, 14], [13, 14, 15], [4, 5, 6, 7, 8, 9, 10, 11, 12, 13, 14, 15, 16], [0, 1, 4, 5, 6, 7, 8, 9, 10, 11, 12, 13, 14, 15, 16, 17], [0, 1, 4, 5, 6, 7, 8, 9, 10, 11, 12, 13, 14, 15, 16, 17, 18], [0, 1, 2, 3, 4, 5, 6, 7, 8, 9, 10, 11, 12, 13, 14, 15, 16, 17, 18, 19], [0, 1, 2, 3, 4, 5, 6, 7, 8, 9, 10, 11, 12, 13, 14, 15, 16, 17, 18, 19, 20]] _ 19 [0, 1, 4, 5, 6, 7, 8, 9, 10, 11, 12, 13, 14, 15, 16, 17, 18, 19] ((fun x => x = ga)) [] [(9, (fun _ => (fun v _ => v = uc))), (10, (fun _ => (fun v w' => Own (Since w19) w' 5 1 v n (bytesV ((ma.getD c []).map (gmul (ginv (entry ma c c)))))))), (16, (fun _ => (fun v _ => v = vc))), (17, (fun e v w' => ∃ H, (∀ g, (e (.tmp 30)).ownBlock = some g → g < H) ∧ w19.heap.size ≤ H ∧ Own (H ≤ ·) w' 5 1 v n (bytesV ((mb.getD c []).map (gmul (ginv (entry ma c c))))))), (19, (fun e v w' => HB w' ga (.cells (cura.setIfInBounds (0 + c) (e (.tmp 30))) 39 fra)))] [0, 1, 2, 3, 4, 5, 6, 7, 8, 9, 10, 11, 12, 13, 14, 15, 16, 17, 18, 19] fol (by kernel_rfl) (by rfl) (by rfl) (by rfl) ⟨(fun _ => (fun _ _ _ _ h => h)), (fun _ => (fun v w1 w2 hE h => h.chg hE (fun b _ hb e => by have : w19.heap.size ≤ b := hb; omega))), (fun _ => (fun _ _ _ _ h => h)), (fun _ => (fun v w1 w2 hE ⟨H, h1, h2, h3⟩ => ⟨H, h1, h2, h3.chg hE (fun b _ hb e => by have : H ≤ b := hb; omega)⟩)), (fun _ => (fun v w1 w2 hE h => h.ext hE)), trivial⟩ ⟨(fun _ _ _ _ _ h => h), (fun _ _ _ _ _ h => h), (fun _ _ _ _ _ h => h), (fun e e' v w hj ⟨H, h1, h2⟩ => ⟨H, by rw [← hj 10 (by decide) 30 rfl]; exact h1, h2⟩), (fun e e' v w hj h => by have h2 := h; simp only [hj 10 (by decide) 30 rfl] at h2; exact h2), trivial⟩ ⟨?_, ?_, ?_, ?_, ?_, ?_, ?_, ?_, ?_, ?_, ?_, ?_, ?_, ?_, ?_, ?_, ?_, ?_, ?_, ?_, trivial⟩ ?_
 ·intro aD1 wD1 haD1 hCD1 hrD1
  replace hCD1 : Ext _ wD1 := hCD1
  refine ⟨rfl, ?_⟩
  refine XD.start haD1 ?_
  apply XD.stepP rfl
  intro w3
  refine Y.move (by rfl) ?_
  exact ⟨rfl, rfl⟩
 ·intro aD1 wD1 haD1 hCD1 hrD1
  replace hCD1 : Ext _ wD1 := hCD1
  refine ⟨rfl, ?_⟩
  refine XD.start haD1 ?_
  apply XD.stepP rfl
  intro w3
  refine Y.move (by rfl) ?_
  exact ⟨rfl, rfl⟩
 ·intro aD1 wD1 haD1 hCD1 hrD1
  replace hCD1 : Chg _ _ wD1 := hCD1
  refine ⟨rfl, ?_⟩
  refine XD.start haD1 ?_
  apply XD.stepP rfl
  intro w3
  refine Y.move (by rfl) ?_
  exact ⟨rfl, rfl⟩
 ·intro aD1 wD1 haD1 hCD1 hrD1
  replace hCD1 : Chg _ _ wD1 := hCD1
  refine ⟨rfl, ?_⟩
  refine XD.start haD1 ?_
  apply XD.stepP rfl
  intro w3
  refine Y.move (by rfl) ?_
  exact ⟨rfl, rfl⟩
 ·intro aD1 wD1 haD1 hCD1 hrD1
  replace hCD1 : Ext _ wD1 := hCD1
  refine ⟨rfl, ?_⟩
  refine XD.start haD1 ?_
  apply XD.stepP rfl
  intro w3
  refine Y.move (by rfl) ?_
  exact ⟨rfl, rfl⟩
 ·intro aD1 wD1 haD1 hCD1 hrD1
  replace hCD1 : Ext _ wD1 := hCD1
  refine ⟨rfl, ?_⟩
  refine XD.start haD1 ?_
  apply XD.stepP rfl
  intro w3
  refine Y.move (by rfl) ?_
  exact ⟨rfl, rfl⟩
 ·intro aD1 wD1 haD1 hCD1 hrD1
  replace hCD1 : Ext _ wD1 := hCD1
  refine ⟨rfl, ?_⟩
  refine XD.start haD1 ?_
  apply XD.stepP rfl
  intro w3
  refine Y.move (by rfl) ?_
  exact ⟨rfl, rfl⟩
 ·intro aD1 wD1 haD1 hCD1 hrD1
  replace hCD1 : Ext _ wD1 := hCD1
  refine ⟨rfl, ?_⟩
  refine XD.start haD1 ?_
  apply XD.stepP rfl
  intro w3
  refine Y.move (by rfl) ?_
  exact ⟨rfl, rfl⟩
 ·intro aD1 wD1 haD1 hCD1 hrD1
  obtain ⟨r6, r7, -⟩ := hrD1
  replace hCD1 : Ext _ wD1 := hCD1
  refine ⟨rfl, ?_⟩
  refine XD.start haD1 ?_
  refine XD.pure r6 ?_
  refine Y.move (by rfl) ?_
  refine XD.pure r7 ?_
  refine Y.move (by rfl) ?_
  apply XD.stepP rfl
  intro w3
  refine Y.indexL st37 (by rfl) (by rfl) (by omega) ?_
  exact ⟨rfl, rfl⟩
 ·intro aD1 wD1 haD1 hCD1 hrD1
  obtain ⟨r6, r7, r8, -⟩ := hrD1
  replace hCD1 : Ext _ wD1 := hCD1
  replace hA := hA.ext hCD1
  replace hB := hB.ext hCD1
  replace hfb := hfb.ext hCD1
  replace hoc := hoc.ext hCD1
  replace hod := hod.ext hCD1
  refine ⟨rfl, ?_⟩
  refine XD.start haD1 ?_
  refine XD.pure r6 ?_
  refine Y.move (by rfl) ?_
  refine XD.pure r7 ?_
  refine Y.move (by rfl) ?_
  refine XD.pure r8 ?_
  refine Y.indexL st37 (by rfl) (by rfl) (by omega) ?_
  refine XD.stepI ?_
  refine Y.load one39 (by rfl) (by rw [Nat.zero_add]; exact hA.cell huc) ?_
  exact ⟨Chg.refl _ _, rfl⟩
 ·intro aD1 wD1 haD1 hCD1 hrD1
  obtain ⟨r4, r5, r6, r7, r8, r9, -⟩ := hrD1
  replace hCD1 : Ext _ wD1 := hCD1
  replace hA := hA.ext hCD1
  replace hB := hB.ext hCD1
  replace hfb := hfb.ext hCD1
  replace hoc := hoc.ext hCD1
  replace hod := hod.ext hCD1
  refine ⟨rfl, ?_⟩
  refine XD.start haD1 ?_
  refine XD.pure r4 ?_
  refine Y.move (by rfl) ?_
  refine XD.pure r5 ?_
  refine Y.move (by rfl) ?_
  refine XD.pure r6 ?_
  refine Y.move (by rfl) ?_
  refine XD.pure r7 ?_
  refine Y.move (by rfl) ?_
  refine XD.pure r8 ?_
  refine Y.indexL st37 (by rfl) (by rfl) (by omega) ?_
  refine XD.imp r9 ?_
  rintro _ rfl
  refine XD.stepI ?_
  refine Y.call (by rfl) ok78 (frow_ok _ (ginv (entry ma c c)) _ _ (ma.getD c []) _ ⟨fb, rfl, hfb⟩ hoc.row (by omega)) ?_
  rintro v30 w30 ⟨hN30, hO30⟩
  exact ⟨hN30.1, ((hO30 (by intro e; rw [e] at hil; simp at hil; omega)).2.mono fun b _ hb => Nat.le_trans hCD1.size hb).cast hil rfl⟩
 ·intro aD1 wD1 haD1 hCD1 hrD1
  replace hCD1 : Ext _ wD1 := hCD1
  refine ⟨rfl, ?_⟩
  refine XD.start haD1 ?_
  apply XD.stepP rfl
  intro w3
  refine Y.move (by rfl) ?_
  exact ⟨rfl, rfl⟩
 ·intro aD1 wD1 haD1 hCD1 hrD1
  replace hCD1 : Ext _ wD1 := hCD1
  refine ⟨rfl, ?_⟩
  refine XD.start haD1 ?_
  apply XD.stepP rfl
  intro w3
  refine Y.move (by rfl) ?_
  exact ⟨rfl, rfl⟩
 ·intro aD1 wD1 haD1 hCD1 hrD1
  replace hCD1 : Ext _ wD1 := hCD1
  refine ⟨rfl, ?_⟩
  refine XD.start haD1 ?_
  apply XD.stepP rfl
  intro w3
  refine Y.move (by rfl) ?_
  exact ⟨rfl, rfl⟩
 ·intro aD1 wD1 haD1 hCD1 hrD1
  replace hCD1 : Ext _ wD1 := hCD1
  refine ⟨rfl, ?_⟩
  refine XD.start haD1 ?_
  apply XD.stepP rfl
  intro w3
  refine Y.move (by rfl) ?_
  exact ⟨rfl, rfl⟩
 ·intro aD1 wD1 haD1 hCD1 hrD1
  obtain ⟨r13, r14, -⟩ := hrD1
  replace hCD1 : Ext _ wD1 := hCD1
  refine ⟨rfl, ?_⟩
  refine XD.start haD1 ?_
  refine XD.pure r13 ?_
  refine Y.move (by rfl) ?_
  refine XD.pure r14 ?_
  refine Y.move (by rfl) ?_
  apply XD.stepP rfl
  intro w3
  refine Y.indexL st37 (by rfl) (by rfl) (by omega) ?_
  exact ⟨rfl, rfl⟩
 ·intro aD1 wD1 haD1 hCD1 hrD1
  obtain ⟨r13, r14, r15, -⟩ := hrD1
  replace hCD1 : Ext _ wD1 := hCD1
  replace hA := hA.ext hCD1
  replace hB := hB.ext hCD1
  replace hfb := hfb.ext hCD1
  replace hoc := hoc.ext hCD1
  replace hod := hod.ext hCD1
  refine ⟨rfl, ?_⟩
  refine XD.start haD1 ?_
  refine XD.pure r13 ?_
  refine Y.move (by rfl) ?_
  refine XD.pure r14 ?_
  refine Y.move (by rfl) ?_
  refine XD.pure r15 ?_
  refine Y.indexL st37 (by rfl) (by rfl) (by omega) ?_
  refine XD.stepI ?_
  refine Y.load one39 (by rfl) (by rw [Nat.zero_add]; exact hB.cell hvc) ?_
  exact ⟨Chg.refl _ _, rfl⟩
 ·intro aD1 wD1 haD1 hCD1 hrD1
  obtain ⟨r4, r5, r6, r7, r8, r9, r10, r11, r12, r13, r14, r15, r16, -⟩ := hrD1
  replace hCD1 : Ext _ wD1 := hCD1
  replace hA := hA.ext hCD1
  replace hB := hB.ext hCD1
  replace hfb := hfb.ext hCD1
  replace hoc := hoc.ext hCD1
  replace hod := hod.ext hCD1
  refine ⟨rfl, ?_⟩
  refine XD.start haD1 ?_
  refine XD.pure r4 ?_
  refine Y.move (by rfl) ?_
  refine XD.pure r5 ?_
  refine Y.move (by rfl) ?_
  refine XD.pure r6 ?_
  refine Y.move (by rfl) ?_
  refine XD.pure r7 ?_
  refine Y.move (by rfl) ?_
  refine XD.pure r8 ?_
  refine Y.indexL st37 (by rfl) (by rfl) (by omega) ?_
  refine XD.imp r9 ?_
  rintro _ rfl
  refine XD.impE r10 ?_
  rintro v30 he30 hO30
  refine XD.pure r11 ?_
  refine Y.move (by rfl) ?_
  refine XD.pure r12 ?_
  refine Y.move (by rfl) ?_
  refine XD.pure r13 ?_
  refine Y.move (by rfl) ?_
  refine XD.pure r14 ?_
  refine Y.move (by rfl) ?_
  refine XD.pure r15 ?_
  refine Y.indexL st37 (by rfl) (by rfl) (by omega) ?_
  refine XD.imp r16 ?_
  rintro _ rfl
  refine XD.stepI ?_
  refine Y.call (by rfl) ok78 (frow_ok _ (ginv (entry ma c c)) _ _ (mb.getD c []) _ ⟨fb, rfl, hfb⟩ hod.row (by omega)) ?_
  rintro v37 w37 ⟨hN37, hO37⟩
  exact ⟨hN37.1, _, by rw [he30]; intro g hg; obtain ⟨g', k1, -, k3, -⟩ := hO30.at; rw [k1] at hg; cases hg; exact k3, hCD1.size, (hO37 (by intro e; rw [e] at hjl; simp at hjl; omega)).2.cast hjl rfl⟩
 ·intro aD1 wD1 haD1 hCD1 hrD1
  obtain ⟨r0, r1, r4, r5, r6, r7, r8, r9, r10, r11, r12, r13, r14, r15, r16, r17, -⟩ := hrD1
  replace hCD1 : Ext _ wD1 := hCD1
  replace hA := hA.ext hCD1
  replace hB := hB.ext hCD1
  replace hfb := hfb.ext hCD1
  replace hoc := hoc.ext hCD1
  replace hod := hod.ext hCD1
  refine ⟨rfl, ?_⟩
  refine XD.start haD1 ?_
  refine XD.pure r0 ?_
  refine Y.move (by rfl) ?_
  refine XD.pure r1 ?_
  refine Y.move (by rfl) ?_
  refine XD.pure r4 ?_
  refine Y.move (by rfl) ?_
  refine XD.pure r5 ?_
  refine Y.move (by rfl) ?_
  refine XD.pure r6 ?_
  refine Y.move (by rfl) ?_
  refine XD.pure r7 ?_
  refine Y.move (by rfl) ?_
  refine XD.pure r8 ?_
  refine Y.indexL st37 (by rfl) (by rfl) (by omega) ?_
  refine XD.imp r9 ?_
  rintro _ rfl
  refine XD.impE r10 ?_
  rintro v30 he30 hO30
  refine XD.pure r11 ?_
  refine Y.move (by rfl) ?_
  refine XD.pure r12 ?_
  refine Y.move (by rfl) ?_
  refine XD.pure r13 ?_
  refine Y.move (by rfl) ?_
  refine XD.pure r14 ?_
  refine Y.move (by rfl) ?_
  refine XD.pure r15 ?_
  refine Y.indexL st37 (by rfl) (by rfl) (by omega) ?_
  refine XD.imp r16 ?_
  rintro _ rfl
  refine XD.imp r17 ?_
  rintro v37 ⟨H, hlt, hH, hO37⟩
  apply XD.stepP rfl
  intro w3
  refine Y.indexL st37 (by rfl) (by rfl) (by omega) ?_
  exact ⟨rfl, rfl⟩
 ·intro aD1 wD1 haD1 hCD1 hrD1
  obtain ⟨r0, r1, r4, r5, r6, r7, r8, r9, r10, r11, r12, r13, r14, r15, r16, r17, r18, -⟩ := hrD1
  replace hCD1 : Ext _ wD1 := hCD1
  replace hA := hA.ext hCD1
  replace hB := hB.ext hCD1
  replace hfb := hfb.ext hCD1
  replace hoc := hoc.ext hCD1
  replace hod := hod.ext hCD1
  refine ⟨rfl, ?_⟩
  refine XD.start haD1 ?_
  refine XD.pure r0 ?_
  refine Y.move (by rfl) ?_
  refine XD.pure r1 ?_
  refine Y.move (by rfl) ?_
  refine XD.pure r4 ?_
  refine Y.move (by rfl) ?_
  refine XD.pure r5 ?_
  refine Y.move (by rfl) ?_
  refine XD.pure r6 ?_
  refine Y.move (by rfl) ?_
  refine XD.pure r7 ?_
  refine Y.move (by rfl) ?_
  refine XD.pure r8 ?_
  refine Y.indexL st37 (by rfl) (by rfl) (by omega) ?_
  refine XD.imp r9 ?_
  rintro _ rfl
  refine XD.impE r10 ?_
  rintro v30 he30 hO30
  refine XD.pure r11 ?_
  refine Y.move (by rfl) ?_
  refine XD.pure r12 ?_
  refine Y.move (by rfl) ?_
  refine XD.pure r13 ?_
  refine Y.move (by rfl) ?_
  refine XD.pure r14 ?_
  refine Y.move (by rfl) ?_
  refine XD.pure r15 ?_
  refine Y.indexL st37 (by rfl) (by rfl) (by omega) ?_
  refine XD.imp r16 ?_
  rintro _ rfl
  refine XD.imp r17 ?_
  rintro v37 ⟨H, hlt, hH, hO37⟩
  refine XD.pure r18 ?_
  refine Y.indexL st37 (by rfl) (by rfl) (by omega) ?_
  refine XD.stepI ?_
  refine Y.storeB one39 (by rfl) (by rfl) hO30.row.oneC hA.hb (by rw [hA.cs]; have := hA.le; rw [ha.1] at this; omega) hA.nf ?_
  intro w2 a1 a2 _ _; exact ⟨a2, by simp only [he30]; exact a1⟩
 intro aD1 wD1 haD1 hCD1 hrD1
 obtain ⟨r0, r1, r2, r3, r4, r5, r6, r7, r8, r9, r10, r11, r12, r13, r14, r15, r16, r17, r18, r19, -⟩ := hrD1
 refine XD.start haD1 ?_
 refine XD.pure r0 ?_
 refine Y.move (by rfl) ?_
 refine XD.pure r1 ?_
 refine Y.move (by rfl) ?_
 refine XD.pure r2 ?_
 refine Y.move (by rfl) ?_
 refine XD.pure r3 ?_
 refine Y.move (by rfl) ?_
 refine XD.pure r4 ?_
 refine Y.move (by rfl) ?_
 refine XD.pure r5 ?_
 refine Y.move (by rfl) ?_
 refine XD.pure r6 ?_
 refine Y.move (by rfl) ?_
 refine XD.pure r7 ?_
 refine Y.move (by rfl) ?_
 refine XD.pure r8 ?_
 refine Y.indexL st37 (by rfl) (by rfl) (by omega) ?_
 refine XD.imp r9 ?_
 rintro _ rfl
 refine XD.impE r10 ?_
 rintro v30 he30 hO30
 refine XD.pure r11 ?_
 refine Y.move (by rfl) ?_
 refine XD.pure r12 ?_
 refine Y.move (by rfl) ?_
 refine XD.pure r13 ?_
 refine Y.move (by rfl) ?_
 refine XD.pure r14 ?_
 refine Y.move (by rfl) ?_
 refine XD.pure r15 ?_
 refine Y.indexL st37 (by rfl) (by rfl) (by omega) ?_
 refine XD.imp r16 ?_
 rintro _ rfl
 refine XD.imp r17 ?_
 rintro v37 ⟨H, hlt, hH, hO37⟩
 refine XD.pure r18 ?_
 refine Y.indexL st37 (by rfl) (by rfl) (by omega) ?_
 refine XD.impN r19 ?_
 rintro _ hst
 refine XD.fin haD1 ?_
 simp only [he30] at hst hlt
 simp only [Nat.zero_add] at hst
 show XL _ _ _ _ (List.cons _ _) _ _
 refine XL.s rfl ?_
 refine Y.indexL st37 (by rfl) (by rfl) (by omega) ?_
 refine XL.o ?_
 refine Y.storeB one39 (by rfl) (by rfl) hO37.row.oneC (hB.hb.chg hCD1 (fun h => hd1 h.symm)) (by rw [hB.cs]; have := hB.le; rw [hb.1] at this; omega) hB.nf ?_
 intro wB hbB hCB _ _
 simp only [Nat.zero_add] at hbB
 obtain ⟨g30, hb30, hs30, hl30, ho30⟩ := hO30.at
 obtain ⟨g37, hb37, hs37, hl37, ho37⟩ := hO37.at
 have h3037 := hlt _ hb30
 have hs30 : w19.heap.size ≤ g30 := hs30
 have hs37 : H ≤ g37 := hs37
 have hga := hA.rows.lt
 have hgb := hB.rows.lt
 have hfl := hfb.lt
 have hA1 := (hA.set hst hCD1 (ho30.cast (show n = ((ma.getD c []).map (gmul (ginv (entry ma c c)))).length by rw [List.length_map, hil]) rfl) (fun h => by have := hga _ h; omega) (by omega)).chg hCB (fun h => hd1 h) (fun g hg e => by rcases List.mem_or_eq_of_mem_set hg with hg | hg; exact hd3 (e ▸ hg); omega)
 have hB1 := (hB.chg hCD1 (fun h => hd1 h.symm) (fun g hg e => hd2 (e ▸ hg))).set hbB hCB ((ho37.cast (show n = ((mb.getD c []).map (gmul (ginv (entry ma c c)))).length by rw [List.length_map, hjl]) rfl).chg hCB (fun b _ hb e => by have hb : b = g37 := hb; omega)) (fun h => by have := hgb _ h; omega) (by omega)
 have hsa : ∀ g ∈ gsa.set c g30, g ∈ gsa ∨ g = g30 := fun g hg => List.mem_or_eq_of_mem_set hg
 have hsb : ∀ g ∈ gsb.set c g37, g ∈ gsb ∨ g = g37 := fun g hg => List.mem_or_eq_of_mem_set hg
 have hCw : Chg (fun x => x = ga ∨ x ∈ gsa ∨ x = gb ∨ x ∈ gsb) w wB := (hE19.then (hCD1.mono (S' := fun x => x = ga ∨ x ∈ gsa ∨ x = gb ∨ x ∈ gsb) fun x _ h => .inl h)).trans hCB (fun _ h => h) (fun x _ h => .inr (.inr (.inl h)))
 have hfbB := (hfb.chg hCD1 hfa).chg hCB hfb1
 generalize gsa.set c g30 = gsa1 at hA1 hsa
 generalize gsb.set c g37 = gsb1 at hB1 hsb
 generalize cura.setIfInBounds c v30 = cura1 at hA1
 generalize curb.setIfInBounds c v37 = curb1 at hB1
 generalize ua.set c v30 = ua1 at hA1
 generalize ub.set c v37 = ub1 at hB1
 have hdis : ∀ g ∈ gsa1, g ∉ gsb1 := by
  intro g hg hg2
  rcases hsa g hg with h | h <;> rcases hsb g hg2 with h' | h'
  ·exact hd4 g h h'
  ·have := hga g h; omega
  ·have := hgb g h'; omega
  ·omega
 have hgab : ga ∉ gsb1 := fun h => (hsb _ h).elim hd2 (fun h => by omega)
 have hgba : gb ∉ gsa1 := fun h => (hsa _ h).elim hd3 (fun h => by omega)
 have hfba : fb ∉ gsa1 := fun h => (hsa _ h).elim hfa2 (fun h => by omega)
 have hfbb : fb ∉ gsb1 := fun h => (hsb _ h).elim hfb2 (fun h => by omega)
 refine XL.nil ?_
 refine QN.next ?_
 refine XC.seq ?_
 refine XC.region ?_
 show XL _ _ _ _ (List.cons _ _) _ _
 refine XL.s rfl ?_
 refine Y.move (by rfl) ?_
 refine XL.s rfl ?_
 first | refine Y.lenV Tryz.underlying37 (by rfl) ?_ | refine Y.len Tryz.underlying37 (by rfl) (by first | assumption | exact Apd.row (by assumption) | exact New.row (by assumption)) ?_
 refine XL.s rfl ?_
 refine Y.move (by rfl) ?_
 refine XL.nil ?_
 refine QN.next ?_
 refine XC.block ?_
 refine XC.loop (α := Nat) (fun k => [(0, .pointer (some ⟨fb, 0, none⟩)), (1, .slice (some ⟨ga, 0, none⟩) n ca), (2, .slice (some ⟨gb, 0, none⟩) n cb), (3, .int .i64 (c : Nat)), (41, .int .i64 (n : Nat)), (42, .int .i64 k)]) (fun k wr => k ≤ n ∧ Chg (fun x => x ∈ gsa1 ∨ x ∈ gsb1) wB wr ∧ MatX 39 5 wr ga ca cura1 fra ua1 gsa1 (clearK c k (ma, mb)).1 ∧ MatX 39 5 wr gb cb curb1 frb ub1 gsb1 (clearK c k (ma, mb)).2) (fun k => n - k) (0) ?_ ?_ ?_
 ·exact ⟨rfl, rfl, rfl, rfl, rfl, rfl, trivial⟩
 ·exact ⟨by omega, Chg.refl _ _, hA1, hB1⟩
 ·rintro k wr hI
  obtain ⟨hk, hC, hA, hB⟩ := hI
  refine XC.seq ?_
  refine XC.region ?_
  show XL _ _ _ _ (List.cons _ _) _ _
  refine XL.s rfl ?_
  refine Y.lss (by rfl) (by rfl) ?_
  refine XL.nil ?_
  refine QN.next ?_
  refine XC.seq ?_
  refine XC.condS rfl ?_ ?_
  ·intro hlk
   try simp only [decide_eq_true_eq, decide_eq_false_iff_not, Bool.not_eq_true', Bool.not_eq_false', Bool.not_eq_eq_eq_not, Bool.not_true, Bool.not_false, Bool.or_eq_true, Bool.and_eq_true, Bool.or_eq_false_iff] at hlk
   have hkn : k < n := by omega
   obtain ⟨hsqa, hsqb⟩ := Sq2.clearK (ab := (ma, mb)) ⟨ha, hb⟩ hc k hk
   have hst' := clearK_succ c k (ma, mb)
   obtain ⟨ab, hab⟩ : ∃ ab, ab = clearK c k (ma, mb) := ⟨_, rfl⟩
   rw [← hab] at hsqa hsqb hA hB hst'
   obtain ⟨uk, gk, huk, hgk, hgkm, hok⟩ := hA.get (i := k) (by rw [hsqa.1]; omega)
   obtain ⟨vk, hk', hvk, hhk, hhkm, hokb⟩ := hB.get (i := k) (by rw [hsqb.1]; omega)
   obtain ⟨uc, gc, huc, hgc, hgcm, hoc⟩ := hA.get (i := c) (by rw [hsqa.1]; omega)
   obtain ⟨vc, hc', hvc, hhc, hhcm, hod⟩ := hB.get (i := c) (by rw [hsqb.1]; omega)
   have hkl := (hsqa.get hkn).2
   have hcl := (hsqa.get hc).2
   have hklb := (hsqb.get hkn).2
   have hclb := (hsqb.get hc).2
   have hfbk := hfbB.chg hC (fun h => h.elim hfba hfbb)
   refine XC.skip ?_
   refine QN.next ?_
   refine XC.seq ?_
   refine XC.block ?_
   refine XC.seq ?_
   refine XC.region ?_
   show XL _ _ _ _ (List.cons _ _) _ _
   refine XL.s rfl ?_
   refine Y.move (by rfl) ?_
   refine XL.s rfl ?_
   refine Y.assign (by rfl) ?_
   refine XL.nil ?_
   refine QN.next ?_
   refine XC.seq ?_
   refine XC.region ?_
   show XL _ _ _ _ (List.cons _ _) _ _
   refine XL.s rfl ?_
   refine Y.move (by rfl) ?_
   refine XL.s rfl ?_
   refine Y.move (by rfl) ?_
   refine XL.s rfl ?_
   refine Y.indexL st37 (by rfl) (by rfl) (by omega) ?_
   refine XL.s rfl ?_
   refine Y.load one39 (by rfl) (by rw [Nat.zero_add]; exact hA.cell huk) ?_
   refine XL.s rfl ?_
   refine Y.move (by rfl) ?_
   refine XL.s rfl ?_
   refine Y.indexR st39 (by rfl) (by rfl) hok.row ⟨by omega, by omega⟩ (by rw [Int.toNat_natCast]; exact entry_get hsqa hkn hc) ?_
   intro b50 o50 hs50 hc50
   refine XL.s rfl ?_
   refine Y.load one5 (by rfl) (by assumption) ?_
   refine XL.s rfl ?_
   refine Y.assign (by rfl) ?_
   refine XL.nil ?_
   refine QN.next ?_
   refine XC.seq ?_
   refine XC.region ?_
   show XL _ _ _ _ (List.cons _ _) _ _
   refine XL.s rfl ?_
   refine Y.move (by rfl) ?_
   refine XL.s rfl ?_
   refine Y.move (by rfl) ?_
   refine XL.s rfl ?_
   refine Y.neq (by rfl) (by rfl) ?_
   refine XL.s rfl ?_
   refine Y.move (by rfl) ?_
   refine XL.splitAt (t := 55) rfl ?_ ?_
   ·intro hkc
    have hkc' := hkc
    try simp only [decide_eq_true_eq, decide_eq_false_iff_not, Bool.not_eq_true', Bool.not_eq_false', Bool.not_eq_eq_eq_not, Bool.not_true, Bool.not_false] at hkc'
    refine XL.gt rfl rfl hkc rfl ?_
    refine Y.move (by rfl) ?_
    refine XL.gt rfl rfl hkc rfl ?_
    refine Y.neq (by rfl) (by rfl) ?_
    refine XL.s rfl ?_
    refine Y.pickT (by rfl) hkc (by rfl) ?_
    refine XL.nil ?_
    refine QN.next ?_
    refine XC.condS rfl ?_ ?_
    ·intro hx
     try simp only [decide_eq_true_eq, decide_eq_false_iff_not, Bool.not_eq_true', Bool.not_eq_false', Bool.not_eq_eq_eq_not, Bool.not_true, Bool.not_false, Bool.or_eq_true, Bool.and_eq_true, Bool.or_eq_false_iff] at hx
     have hkc2 : k ≠ c := by omega
     have hgne : gk ≠ gc := by
      intro e
      obtain ⟨p1, p2⟩ := List.getElem?_eq_some_iff.1 hgk
      obtain ⟨q1, q2⟩ := List.getElem?_eq_some_iff.1 hgc
      have hn := List.pairwise_iff_getElem.1 hA.rows.nodup
      rcases Nat.lt_or_gt_of_ne hkc2 with h | h
      ·exact hn k c p1 q1 h (by omega)
      ·exact hn c k q1 p1 h (by omega)
     have hhne : hk' ≠ hc' := by
      intro e
      obtain ⟨p1, p2⟩ := List.getElem?_eq_some_iff.1 hhk
      obtain ⟨q1, q2⟩ := List.getElem?_eq_some_iff.1 hhc
      have hn := List.pairwise_iff_getElem.1 hB.rows.nodup
      rcases Nat.lt_or_gt_of_ne hkc2 with h | h
      ·exact hn k c p1 q1 h (by omega)
      ·exact hn c k q1 p1 h (by omega)
     have hgkl := hA.rows.lt _ hgkm
     have hhkl := hB.rows.lt _ hhkm
     refine XC.seq ?_
     apply XC.drop [11, 12, 13, 14, 15, 16, 17, 18, 19, 20, 21, 22, 23, 24, 25, 26, 27, 28, 29, 30, 31, 32, 33, 34, 35, 36, 37, 38, 39, 40, 43, 44, 45, 46, 47, 48, 49, 50, 51, 52, 53, 54, 55, 56, 57, 58, 59, 60, 61, 62, 63, 64, 65, 66, 67, 68, 69, 70, 71, 72, 73, 74, 75, 76, 77, 78, 79, 80, 81, 82, 83]
     ·repeat (first | apply DropTo.nil | apply DropTo.skip rfl | apply DropTo.keep rfl)
     refine XC.drawL 11 [[], [], [0, 1], [0, 1, 2], [], [], [], [], [6, 7], [6, 7, 8], [4, 5, 6, 7, 8, 9], [0, 1, 2, 3, 4, 5, 6, 7, 8, 9, 10]] _ (Chg NoB) (Steady.chg NoB) [] [(3, (fun v _ => v = uk)), (9, (fun v _ => v = uc)), (10, (fun v w' => Bs (Since wr) w' v ((ab.1.getD c []).map (gmul (entry ab.1 k c)))))] [0, 1, 2, 3, 4, 5, 6, 7, 8, 9, 10] fol (by kernel_rfl) (by rfl) (by rfl) ⟨(fun _ _ _ _ h => h), (fun _ _ _ _ h => h), (fun v w1 w2 hE h => h.ext hE), trivial⟩ ⟨?_, ?_, ?_, ?_, ?_, ?_, ?_, ?_, ?_, ?_, ?_, trivial⟩ ?_
     ·intro aD7 wD7 haD7 hCD7 hrD7
      refine ⟨rfl, ?_⟩
      refine XD.start haD7 ?_
      apply XD.stepP rfl
      intro w3
      refine Y.move (by rfl) ?_
      exact ⟨rfl, rfl⟩
     ·intro aD7 wD7 haD7 hCD7 hrD7
      refine ⟨rfl, ?_⟩
      refine XD.start haD7 ?_
      apply XD.stepP rfl
      intro w3
      refine Y.move (by rfl) ?_
      exact ⟨rfl, rfl⟩
     ·intro aD7 wD7 haD7 hCD7 hrD7
      obtain ⟨r0, r1, -⟩ := hrD7
      refine ⟨rfl, ?_⟩
      refine XD.start haD7 ?_
      refine XD.pure r0 ?_
      refine Y.move (by rfl) ?_
      refine XD.pure r1 ?_
      refine Y.move (by rfl) ?_
      apply XD.stepP rfl
      intro w3
      refine Y.indexL st37 (by rfl) (by rfl) (by omega) ?_
      exact ⟨rfl, rfl⟩
     ·intro aD7 wD7 haD7 hCD7 hrD7
      obtain ⟨r0, r1, r2, -⟩ := hrD7
      replace hA := hA.ext hCD7
      replace hB := hB.ext hCD7
      replace hfbk := hfbk.ext hCD7
      replace hok := hok.ext hCD7
      replace hoc := hoc.ext hCD7
      replace hokb := hokb.ext hCD7
      replace hod := hod.ext hCD7
      refine ⟨rfl, ?_⟩
      refine XD.start haD7 ?_
      refine XD.pure r0 ?_
      refine Y.move (by rfl) ?_
      refine XD.pure r1 ?_
      refine Y.move (by rfl) ?_
      refine XD.pure r2 ?_
      refine Y.indexL st37 (by rfl) (by rfl) (by omega) ?_
      refine XD.stepI ?_
      refine Y.load one39 (by rfl) (by rw [Nat.zero_add]; exact hA.cell huk) ?_
      exact ⟨Chg.refl _ _, rfl⟩
     ·intro aD7 wD7 haD7 hCD7 hrD7
      refine ⟨rfl, ?_⟩
      refine XD.start haD7 ?_
      apply XD.stepP rfl
      intro w3
      refine Y.move (by rfl) ?_
      exact ⟨rfl, rfl⟩
     ·intro aD7 wD7 haD7 hCD7 hrD7
      refine ⟨rfl, ?_⟩
      refine XD.start haD7 ?_
      apply XD.stepP rfl
      intro w3
      refine Y.move (by rfl) ?_
      exact ⟨rfl, rfl⟩
     ·intro aD7 wD7 haD7 hCD7 hrD7
      refine ⟨rfl, ?_⟩
      refine XD.start haD7 ?_
      apply XD.stepP rfl
      intro w3
      refine Y.move (by rfl) ?_
      exact ⟨rfl, rfl⟩
     ·intro aD7 wD7 haD7 hCD7 hrD7
      refine ⟨rfl, ?_⟩
      refine XD.start haD7 ?_
      apply XD.stepP rfl
      intro w3
      refine Y.move (by rfl) ?_
      exact ⟨rfl, rfl⟩
     ·intro aD7 wD7 haD7 hCD7 hrD7
      obtain ⟨r6, r7, -⟩ := hrD7
      refine ⟨rfl, ?_⟩
      refine XD.start haD7 ?_
      refine XD.pure r6 ?_
      refine Y.move (by rfl) ?_
      refine XD.pure r7 ?_
      refine Y.move (by rfl) ?_
      apply XD.stepP rfl
      intro w3
      refine Y.indexL st37 (by rfl) (by rfl) (by omega) ?_
      exact ⟨rfl, rfl⟩
     ·intro aD7 wD7 haD7 hCD7 hrD7
      obtain ⟨r6, r7, r8, -⟩ := hrD7
      replace hA := hA.ext hCD7
      replace hB := hB.ext hCD7
      replace hfbk := hfbk.ext hCD7
      replace hok := hok.ext hCD7
      replace hoc := hoc.ext hCD7
      replace hokb := hokb.ext hCD7
      replace hod := hod.ext hCD7
      refine ⟨rfl, ?_⟩
      refine XD.start haD7 ?_
      refine XD.pure r6 ?_
      refine Y.move (by rfl) ?_
      refine XD.pure r7 ?_
      refine Y.move (by rfl) ?_
      refine XD.pure r8 ?_
      refine Y.indexL st37 (by rfl) (by rfl) (by omega) ?_
      refine XD.stepI ?_
      refine Y.load one39 (by rfl) (by rw [Nat.zero_add]; exact hA.cell huc) ?_
      exact ⟨Chg.refl _ _, rfl⟩
     ·intro aD7 wD7 haD7 hCD7 hrD7
      obtain ⟨r4, r5, r6, r7, r8, r9, -⟩ := hrD7
      replace hA := hA.ext hCD7
      replace hB := hB.ext hCD7
      replace hfbk := hfbk.ext hCD7
      replace hok := hok.ext hCD7
      replace hoc := hoc.ext hCD7
      replace hokb := hokb.ext hCD7
      replace hod := hod.ext hCD7
      refine ⟨rfl, ?_⟩
      refine XD.start haD7 ?_
      refine XD.pure r4 ?_
      refine Y.move (by rfl) ?_
      refine XD.pure r5 ?_
      refine Y.move (by rfl) ?_
      refine XD.pure r6 ?_
      refine Y.move (by rfl) ?_
      refine XD.pure r7 ?_
      refine Y.move (by rfl) ?_
      refine XD.pure r8 ?_
      refine Y.indexL st37 (by rfl) (by rfl) (by omega) ?_
      refine XD.imp r9 ?_
      rintro _ rfl
      refine XD.stepI ?_
      refine Y.call (by rfl) ok78 (frow_ok _ (entry ab.1 k c) _ _ (ab.1.getD c []) _ ⟨fb, rfl, hfbk⟩ hoc.row (by omega)) ?_
      rintro v69 w69 ⟨hN69, -⟩
      exact ⟨hN69.1, hN69.bs.mono fun b _ hb => Nat.le_trans hCD7.size hb⟩
     intro aD7 wD7 haD7 hCD7 hrD7
     obtain ⟨r0, r1, r2, r3, r4, r5, r6, r7, r8, r9, r10, -⟩ := hrD7
     replace hA := hA.ext hCD7
     replace hB := hB.ext hCD7
     replace hfbk := hfbk.ext hCD7
     replace hok := hok.ext hCD7
     replace hoc := hoc.ext hCD7
     replace hokb := hokb.ext hCD7
     replace hod := hod.ext hCD7
     refine XD.start haD7 ?_
     refine XD.pure r0 ?_
     refine Y.move (by rfl) ?_
     refine XD.pure r1 ?_
     refine Y.move (by rfl) ?_
     refine XD.pure r2 ?_
     refine Y.indexL st37 (by rfl) (by rfl) (by omega) ?_
     refine XD.imp r3 ?_
     rintro _ rfl
     refine XD.pure r4 ?_
     refine Y.move (by rfl) ?_
     refine XD.pure r5 ?_
     refine Y.move (by rfl) ?_
     refine XD.pure r6 ?_
     refine Y.move (by rfl) ?_
     refine XD.pure r7 ?_
     refine Y.move (by rfl) ?_
     refine XD.pure r8 ?_
     refine Y.indexL st37 (by rfl) (by rfl) (by omega) ?_
     refine XD.imp r9 ?_
     rintro _ rfl
     refine XD.imp r10 ?_
     rintro v69 hr69
     refine XD.fin haD7 ?_
     have hz7 := hCD7.size
     show XL _ _ _ _ (List.cons _ _) _ _
     refine XL.s rfl ?_
     refine Y.call (by rfl) ok77 (plus_ok gk _ _ _ _ _ _ hok hr69 (fun b hb e => by have : wr.heap.size ≤ b := hb; omega) (by rw [List.length_map]; omega)) ?_
     rintro v70 w70 ⟨hO70, hC70⟩
     have hA7 := hA.mut hC70 huk hgk (hO70.cast (by rw [xorL_length, List.length_map]; omega) rfl)
     have hB7 := hB.chg hC70 (fun e => hgba (e ▸ hgkm)) (fun g hg e => hdis gk hgkm (e ▸ hg))
     have hf7 := hfbk.chg hC70 (fun e => hfba (e ▸ hgkm))
     have hok7 := hokb.chg hC70 (fun b _ hb e => by have hb : b = hk' := hb; exact hdis gk hgkm (by rw [← show b = gk from e, hb]; exact hhkm))
     have hod7 := hod.chg hC70 (fun b _ hb e => by have hb : b = hc' := hb; exact hdis gk hgkm (by rw [← show b = gk from e, hb]; exact hhcm))
     have hz70 := hC70.size
     refine XL.nil ?_
     refine QN.next ?_
     apply XC.drop [11, 12, 13, 14, 15, 16, 17, 18, 19, 20, 21, 22, 23, 24, 25, 26, 27, 28, 29, 30, 31, 32, 33, 34, 35, 36, 37, 38, 39, 40, 43, 44, 45, 46, 47, 48, 49, 50, 51, 52, 53, 54, 55, 56, 57, 58, 59, 60, 61, 62, 63, 64, 65, 66, 67, 68, 69, 70, 71, 72, 73, 74, 75, 76, 77, 78, 79, 80, 81, 82, 83]
     ·repeat (first | apply DropTo.nil | apply DropTo.skip rfl | apply DropTo.keep rfl)
     refine XC.drawL 11 [[], [], [0, 1], [0, 1, 2], [], [], [], [], [6, 7], [6, 7, 8], [4, 5, 6, 7, 8, 9], [0, 1, 2, 3, 4, 5, 6, 7, 8, 9, 10]] _ (Chg NoB) (Steady.chg NoB) [] [(3, (fun v _ => v = vk)), (9, (fun v _ => v = vc)), (10, (fun v w' => Bs (Since w70) w' v ((ab.2.getD c []).map (gmul (entry ab.1 k c)))))] [0, 1, 2, 3, 4, 5, 6, 7, 8, 9, 10] fol (by kernel_rfl) (by rfl) (by rfl) ⟨(fun _ _ _ _ h => h), (fun _ _ _ _ h => h), (fun v w1 w2 hE h => h.ext hE), trivial⟩ ⟨?_, ?_, ?_, ?_, ?_, ?_, ?_, ?_, ?_, ?_, ?_, trivial⟩ ?_
     ·intro aD8 wD8 haD8 hCD8 hrD8
      refine ⟨rfl, ?_⟩
      refine XD.start haD8 ?_
      apply XD.stepP rfl
      intro w3
      refine Y.move (by rfl) ?_
      exact ⟨rfl, rfl⟩
     ·intro aD8 wD8 haD8 hCD8 hrD8
      refine ⟨rfl, ?_⟩
      refine XD.start haD8 ?_
      apply XD.stepP rfl
      intro w3
      refine Y.move (by rfl) ?_
      exact ⟨rfl, rfl⟩
     ·intro aD8 wD8 haD8 hCD8 hrD8
      obtain ⟨r0, r1, -⟩ := hrD8
      refine ⟨rfl, ?_⟩
      refine XD.start haD8 ?_
      refine XD.pure r0 ?_
      refine Y.move (by rfl) ?_
      refine XD.pure r1 ?_
      refine Y.move (by rfl) ?_
      apply XD.stepP rfl
      intro w3
      refine Y.indexL st37 (by rfl) (by rfl) (by omega) ?_
      exact ⟨rfl, rfl⟩
     ·intro aD8 wD8 haD8 hCD8 hrD8
      obtain ⟨r0, r1, r2, -⟩ := hrD8
      replace hA7 := hA7.ext hCD8
      replace hB7 := hB7.ext hCD8
      replace hf7 := hf7.ext hCD8
      replace hok7 := hok7.ext hCD8
      replace hod7 := hod7.ext hCD8
      refine ⟨rfl, ?_⟩
      refine XD.start haD8 ?_
      refine XD.pure r0 ?_
      refine Y.move (by rfl) ?_
      refine XD.pure r1 ?_
      refine Y.move (by rfl) ?_
      refine XD.pure r2 ?_
      refine Y.indexL st37 (by rfl) (by rfl) (by omega) ?_
      refine XD.stepI ?_
      refine Y.load one39 (by rfl) (by rw [Nat.zero_add]; exact hB7.cell hvk) ?_
      exact ⟨Chg.refl _ _, rfl⟩
     ·intro aD8 wD8 haD8 hCD8 hrD8
      refine ⟨rfl, ?_⟩
      refine XD.start haD8 ?_
      apply XD.stepP rfl
      intro w3
      refine Y.move (by rfl) ?_
      exact ⟨rfl, rfl⟩
     ·intro aD8 wD8 haD8 hCD8 hrD8
      refine ⟨rfl, ?_⟩
      refine XD.start haD8 ?_
      apply XD.stepP rfl
      intro w3
      refine Y.move (by rfl) ?_
      exact ⟨rfl, rfl⟩
     ·intro aD8 wD8 haD8 hCD8 hrD8
      refine ⟨rfl, ?_⟩
      refine XD.start haD8 ?_
      apply XD.stepP rfl
      intro w3
      refine Y.move (by rfl) ?_
      exact ⟨rfl, rfl⟩
     ·intro aD8 wD8 haD8 hCD8 hrD8
      refine ⟨rfl, ?_⟩
      refine XD.start haD8 ?_
      apply XD.stepP rfl
      intro w3
      refine Y.move (by rfl) ?_
      exact ⟨rfl, rfl⟩
     ·intro aD8 wD8 haD8 hCD8 hrD8
      obtain ⟨r6, r7, -⟩ := hrD8
      refine ⟨rfl, ?_⟩
      refine XD.start haD8 ?_
      refine XD.pure r6 ?_
      refine Y.move (by rfl) ?_
      refine XD.pure r7 ?_
      refine Y.move (by rfl) ?_
      apply XD.stepP rfl
      intro w3
      refine Y.indexL st37 (by rfl) (by rfl) (by omega) ?_
      exact ⟨rfl, rfl⟩
     ·intro aD8 wD8 haD8 hCD8 hrD8
      obtain ⟨r6, r7, r8, -⟩ := hrD8
      replace hA7 := hA7.ext hCD8
      replace hB7 := hB7.ext hCD8
      replace hf7 := hf7.ext hCD8
      replace hok7 := hok7.ext hCD8
      replace hod7 := hod7.ext hCD8
      refine ⟨rfl, ?_⟩
      refine XD.start haD8 ?_
      refine XD.pure r6 ?_
      refine Y.move (by rfl) ?_
      refine XD.pure r7 ?_
      refine Y.move (by rfl) ?_
      refine XD.pure r8 ?_
      refine Y.indexL st37 (by rfl) (by rfl) (by omega) ?_
      refine XD.stepI ?_
      refine Y.load one39 (by rfl) (by rw [Nat.zero_add]; exact hB7.cell hvc) ?_
      exact ⟨Chg.refl _ _, rfl⟩
     ·intro aD8 wD8 haD8 hCD8 hrD8
      obtain ⟨r4, r5, r6, r7, r8, r9, -⟩ := hrD8
      replace hA7 := hA7.ext hCD8
      replace hB7 := hB7.ext hCD8
      replace hf7 := hf7.ext hCD8
      replace hok7 := hok7.ext hCD8
      replace hod7 := hod7.ext hCD8
      refine ⟨rfl, ?_⟩
      refine XD.start haD8 ?_
      refine XD.pure r4 ?_
      refine Y.move (by rfl) ?_
      refine XD.pure r5 ?_
      refine Y.move (by rfl) ?_
      refine XD.pure r6 ?_
      refine Y.move (by rfl) ?_
      refine XD.pure r7 ?_
      refine Y.move (by rfl) ?_
      refine XD.pure r8 ?_
      refine Y.indexL st37 (by rfl) (by rfl) (by omega) ?_
      refine XD.imp r9 ?_
      rintro _ rfl
      refine XD.stepI ?_
      refine Y.call (by rfl) ok78 (frow_ok _ (entry ab.1 k c) _ _ (ab.2.getD c []) _ ⟨fb, rfl, hf7⟩ hod7.row (by omega)) ?_
      rintro v81 w81 ⟨hN81, -⟩
      exact ⟨hN81.1, hN81.bs.mono fun b _ hb => Nat.le_trans hCD8.size hb⟩
     intro aD8 wD8 haD8 hCD8 hrD8
     obtain ⟨r0, r1, r2, r3, r4, r5, r6, r7, r8, r9, r10, -⟩ := hrD8
     replace hA7 := hA7.ext hCD8
     replace hB7 := hB7.ext hCD8
     replace hf7 := hf7.ext hCD8
     replace hok7 := hok7.ext hCD8
     replace hod7 := hod7.ext hCD8
     refine XD.start haD8 ?_
     refine XD.pure r0 ?_
     refine Y.move (by rfl) ?_
     refine XD.pure r1 ?_
     refine Y.move (by rfl) ?_
     refine XD.pure r2 ?_
     refine Y.indexL st37 (by rfl) (by rfl) (by omega) ?_
     refine XD.imp r3 ?_
     rintro _ rfl
     refine XD.pure r4 ?_
     refine Y.move (by rfl) ?_
     refine XD.pure r5 ?_
     refine Y.move (by rfl) ?_
     refine XD.pure r6 ?_
     refine Y.move (by rfl) ?_
     refine XD.pure r7 ?_
     refine Y.move (by rfl) ?_
     refine XD.pure r8 ?_
     refine Y.indexL st37 (by rfl) (by rfl) (by omega) ?_
     refine XD.imp r9 ?_
     rintro _ rfl
     refine XD.imp r10 ?_
     rintro v81 hr81
     refine XD.fin haD8 ?_
     have hz8 := hCD8.size
     show XL _ _ _ _ (List.cons _ _) _ _
     refine XL.s rfl ?_
     refine Y.call (by rfl) ok77 (plus_ok hk' _ _ _ _ _ _ hok7 hr81 (fun b hb e => by have : w70.heap.size ≤ b := hb; omega) (by rw [List.length_map]; omega)) ?_
     rintro v82 w82 ⟨hO82, hC82⟩
     have hB8 := hB7.mut hC82 hvk hhk (hO82.cast (by rw [xorL_length, List.length_map]; omega) rfl)
     have hA8 := hA7.chg hC82 (fun e => hgab (e ▸ hhkm)) (fun g hg e => hdis g hg (e ▸ hhkm))
     refine XL.nil ?_
     refine QN.blk ?_
     refine QN.next ?_
     refine XC.region ?_
     show XL _ _ _ _ (List.cons _ _) _ _
     refine XL.s rfl ?_
     refine Y.add (by rfl) (by rfl) (wrap64 (by omega) (by omega)) ?_
     refine XL.s rfl ?_
     refine Y.move (by rfl) ?_
     refine XL.nil ?_
     refine QN.again (k + 1) ?_ ?_ ?_
     ·exact ⟨rfl, rfl, rfl, rfl, rfl, rfl, trivial⟩
     ·refine ⟨by omega, ?_, ?_, ?_⟩
      ·exact (((hC.ext hCD7).trans hC70 (fun _ h => h) (fun x _ h => .inl (by rw [show x = gk from h]; exact hgkm))).ext hCD8).trans hC82 (fun _ h => h) (fun x _ h => .inr (by rw [show x = hk' from h]; exact hhkm))
      ·rw [hst', clearStep]; simp only [clr]; rw [if_pos ⟨hkc2, byte_ne hx⟩]; exact hA8
      ·rw [hst', clearStep]; simp only [clr]; rw [if_pos ⟨hkc2, byte_ne hx⟩]; exact hB8
     ·first | omega | (simp only []; omega) | (simp; omega)
    ·intro hx
     try simp only [decide_eq_true_eq, decide_eq_false_iff_not, Bool.not_eq_true', Bool.not_eq_false', Bool.not_eq_eq_eq_not, Bool.not_true, Bool.not_false, Bool.or_eq_true, Bool.and_eq_true, Bool.or_eq_false_iff] at hx
     refine XC.skip ?_
     refine QN.blk ?_
     refine QN.next ?_
     refine XC.region ?_
     show XL _ _ _ _ (List.cons _ _) _ _
     refine XL.s rfl ?_
     refine Y.add (by rfl) (by rfl) (wrap64 (by omega) (by omega)) ?_
     refine XL.s rfl ?_
     refine Y.move (by rfl) ?_
     refine XL.nil ?_
     refine QN.again (k + 1) ?_ ?_ ?_
     ·exact ⟨rfl, rfl, rfl, rfl, rfl, rfl, trivial⟩
     ·refine ⟨by omega, hC, ?_, ?_⟩
      ·rw [hst', clearStep]; simp only [clr]; rw [if_neg (fun h => h.2 (byte_eq0 hx))]; exact hA
      ·rw [hst', clearStep]; simp only [clr]; rw [if_neg (fun h => h.2 (byte_eq0 hx))]; exact hB
     ·first | omega | (simp only []; omega) | (simp; omega)
   ·intro hkc
    have hkc' := hkc
    try simp only [decide_eq_true_eq, decide_eq_false_iff_not, Bool.not_eq_true', Bool.not_eq_false', Bool.not_eq_eq_eq_not, Bool.not_true, Bool.not_false] at hkc'
    refine XL.gf rfl rfl hkc rfl ?_
    refine XL.gf rfl rfl hkc rfl ?_
    refine XL.s rfl ?_
    refine Y.pickF (by rfl) hkc (by rfl) ?_
    refine XL.nil ?_
    refine QN.next ?_
    refine XC.condF rfl rfl ?_
    refine XC.skip ?_
    refine QN.blk ?_
    refine QN.next ?_
    refine XC.region ?_
    show XL _ _ _ _ (List.cons _ _) _ _
    refine XL.s rfl ?_
    refine Y.add (by rfl) (by rfl) (wrap64 (by omega) (by omega)) ?_
    refine XL.s rfl ?_
    refine Y.move (by rfl) ?_
    refine XL.nil ?_
    refine QN.again (k + 1) ?_ ?_ ?_
    ·exact ⟨rfl, rfl, rfl, rfl, rfl, rfl, trivial⟩
    ·refine ⟨by omega, hC, ?_, ?_⟩
     ·rw [hst', clearStep]; simp only [clr]; rw [if_neg (fun h => h.1 (by omega))]; exact hA
     ·rw [hst', clearStep]; simp only [clr]; rw [if_neg (fun h => h.1 (by omega))]; exact hB
    ·first | omega | (simp only []; omega) | (simp; omega)
  ·intro hlk
   try simp only [decide_eq_true_eq, decide_eq_false_iff_not, Bool.not_eq_true', Bool.not_eq_false', Bool.not_eq_eq_eq_not, Bool.not_true, Bool.not_false, Bool.or_eq_true, Bool.and_eq_true, Bool.or_eq_false_iff] at hlk
   obtain rfl : k = n := by omega
   refine XC.exit ?_
   refine QN.thenE ?_
   refine QN.thenE ?_
   refine QN.hit ?_
   refine QN.done0 (fn := Tryz.f89) (R := R) (.inr rfl) rfl rfl ?_
   refine hR _ _ ?_
   exact ⟨hCw.trans (S'' := fun x => x = ga ∨ x ∈ gsa ∨ x = gb ∨ x ∈ gsb) hC (fun _ h => h) (fun x hxl h => by rcases h with h | h; exact (hsa x h).elim (fun h => .inr (.inl h)) (fun h => by omega); exact (hsb x h).elim (fun h => .inr (.inr (.inr h))) (fun h => by omega)), cura1, ua1, gsa1, curb1, ub1, gsb1, by rw [clearP, ha.1]; exact hA, by rw [clearP, ha.1]; exact hB, fun g hg => (hsa g hg).imp_right (fun h => by omega), fun g hg => (hsb g hg).imp_right (fun h => by omega), hdis, hgab, hgba⟩
theorem invert_ok (S : Nat → Prop) (u : Value) (m B : Mat) (n : Nat) (w : World) (hr : Rows S w u m) (hs : Sq n m) (h0 : 0 < n) (hn : n ≤ 255) (hi : invertP m = some B) :
  Rets Tryz.prog 58 #[u] w fun v w' => ∃ b, v = .tuple #[b, .bool true] ∧ OMat 39 5 (Since w) w' b B ∧ Ext w w' := by
 refine Rets.enter (args := [u]) (n := 38) Tryz.func58 rfl rfl rfl ?_
 intro R hR
 show XC _ _ _ _ [(0, u)] _
 have hml : m.length = n := hs.1
 have hinv : (invK m n).isSome = true := by
  unfold invertP at hi; rw [hml] at hi
  cases h : invK m n with
  | none => rw [h] at hi; simp at hi
  | some x => rfl
 obtain ⟨cu, capu, rfl⟩ := hr.val
 obtain ⟨vs, hvs, hvl, hqs⟩ := hr.old.get
 obtain ⟨q, hq, hb⟩ := hqs 0 (by omega)
 have hl0 := hs.2 _ (List.getElem_mem (show 0 < m.length by omega))
 refine XC.seq ?_
 refine XC.region ?_
 show XL _ _ _ _ (List.cons _ _) _ _
 refine XL.s rfl ?_
 refine Y.assign (by rfl) ?_
 refine XL.s rfl ?_
 refine Y.assign (by rfl) ?_
 refine XL.nil ?_
 refine QN.next ?_
 refine XC.seq ?_
 refine XC.seq ?_
 refine XC.region ?_
 show XL _ _ _ _ (List.cons _ _) _ _
 refine XL.s rfl ?_
 refine Y.move (by rfl) ?_
 refine XL.s rfl ?_
 first | refine Y.lenV Tryz.underlying37 (by rfl) ?_ | refine Y.len Tryz.underlying37 (by rfl) (by first | assumption | exact Apd.row (by assumption) | exact New.row (by assumption)) ?_
 refine XL.s rfl ?_
 refine Y.move (by rfl) ?_
 refine XL.s rfl ?_
 refine Y.indexR st37 (by rfl) (by rfl) hvs ⟨by omega, by omega⟩ (by exact hq) ?_
 intro b11 o11 hs11 hc11
 refine XL.s rfl ?_
 refine Y.load one39 (by rfl) (by assumption) ?_
 refine XL.s rfl ?_
 refine Y.len Tryz.underlying39 (by rfl) hb ?_
 refine XL.s rfl ?_
 refine Y.neq (by rfl) (by rfl) ?_
 refine XL.nil ?_
 refine QN.next ?_
 refine XC.condF rfl ya ?_
 refine XC.skip ?_
 refine QN.next ?_
 refine XC.seq ?_
 refine XC.region ?_
 show XL _ _ _ _ (List.cons _ _) _ _
 refine XL.s rfl ?_
 refine Y.call (by rfl) ok76 (fieldNew_ok _) ?_
 rintro p w15 ⟨⟨fb, rfl, hfb⟩, hE15⟩
 have hfl := hfb.lt
 refine XL.s rfl ?_
 refine Y.assign (by rfl) ?_
 refine XL.nil ?_
 refine QN.next ?_
 refine XC.seq ?_
 refine XC.region ?_
 show XL _ _ _ _ (List.cons _ _) _ _
 refine XL.s rfl ?_
 refine Y.move (by rfl) ?_
 refine XL.s rfl ?_
 refine Y.call (by rfl) ok86 (copied_ok _ _ _ _ (hr.ext hE15) (fun l hl => by have := hs.2 l hl; omega) (by omega)) ?_
 rintro v17 w17 ⟨hM17, hE17⟩
 refine XL.s rfl ?_
 refine Y.move (by rfl) ?_
 refine XL.s rfl ?_
 first | refine Y.lenV Tryz.underlying37 (by rfl) ?_ | refine Y.len Tryz.underlying37 (by rfl) (by first | assumption | exact Apd.row (by assumption) | exact New.row (by assumption)) ?_
 refine XL.s rfl ?_
 refine Y.call (by rfl) ok87 ((by rw [hml]; exact one_ok n _ h0 hn)) ?_
 rintro v20 w20 ⟨hM20, hE20⟩
 have hz15 := hE15.size
 have hz17 := hE17.size
 have hz20 := hE20.size
 obtain ⟨ga, ca, cura0, fra, ua0, gsa0, rfl, hA0, hga, hgsa⟩ := (hM17.ext hE20).x (hs.ne h0)
 obtain ⟨gb, cb, curb0, frb, ub0, gsb0, rfl, hB0, hgb, hgsb⟩ := hM20.x (by intro e; have := codingP_length n n; rw [e] at this; simp at this; omega)
 have hcl := codingP_length n n
 have hga : btw w15.heap.size w17.heap.size ga := hga
 have hgb : btw w17.heap.size w20.heap.size gb := hgb
 have hga1 := hga.1
 have hga2 := hga.2
 have hgb1 := hgb.1
 have hgb2 := hgb.2
 have hsq0 : Sq2 n (m, codingP n n) := ⟨hs, hcl, fun l hl => by simp only [codingP, List.mem_map] at hl; obtain ⟨i, -, rfl⟩ := hl; exact codingR_length n i⟩
 refine XL.s rfl ?_
 refine Y.assign (by rfl) ?_
 refine XL.s rfl ?_
 refine Y.assign (by rfl) ?_
 refine XL.nil ?_
 refine QN.next ?_
 refine XC.seq ?_
 refine XC.seq ?_
 refine XC.region ?_
 show XL _ _ _ _ (List.cons _ _) _ _
 refine XL.s rfl ?_
 refine Y.move (by rfl) ?_
 refine XL.s rfl ?_
 first | refine Y.lenV Tryz.underlying37 (by rfl) ?_ | refine Y.len Tryz.underlying37 (by rfl) (by first | assumption | exact Apd.row (by assumption) | exact New.row (by assumption)) ?_
 refine XL.s rfl ?_
 refine Y.move (by rfl) ?_
 refine XL.nil ?_
 refine QN.next ?_
 refine XC.block ?_
 refine XC.loop (α := Nat) (fun k => [(4, .pointer (some ⟨fb, 0, none⟩)), (5, .slice (some ⟨ga, 0, none⟩) m.length ca), (6, .slice (some ⟨gb, 0, none⟩) (codingP n n).length cb), (22, .int .i64 (m.length : Nat)), (23, .int .i64 k)]) (fun k wr => k ≤ n ∧ Ext w15 wr ∧ ∃ ab cura ua gsa curb ub gsb, invK m k = some ab ∧ Sq2 n ab ∧ MatX 39 5 wr ga ca cura fra ua gsa ab.1 ∧ MatX 39 5 wr gb cb curb frb ub gsb ab.2 ∧ (∀ g ∈ gsa, w15.heap.size ≤ g) ∧ (∀ g ∈ gsb, w15.heap.size ≤ g) ∧ (∀ g ∈ gsa, g ∉ gsb) ∧ ga ∉ gsb ∧ gb ∉ gsa) (fun k => n - k) (0) ?_ ?_ ?_
 ·exact ⟨rfl, rfl, rfl, rfl, rfl, trivial⟩
 ·exact ⟨by omega, hE17.trans hE20, (m, codingP n n), cura0, ua0, gsa0, curb0, ub0, gsb0, by rw [invK, hml]; rfl, hsq0, hA0, hB0, fun g hg => (hgsa g hg).1, fun g hg => Nat.le_trans hz17 (hgsb g hg).1, fun g hg hg2 => by have h1 := (hgsa g hg).2; have h2 := (hgsb g hg2).1; omega, fun hg => by have := (hgsb _ hg).1; omega, fun hg => by have := (hgsa _ hg).2; omega⟩
 ·rintro k wr hI
  obtain ⟨hk, hE, ab, cura, ua, gsa, curb, ub, gsb, hab, hsq, hA, hB, hla, hlb, hd4, hd2, hd3⟩ := hI
  refine XC.seq ?_
  refine XC.region ?_
  show XL _ _ _ _ (List.cons _ _) _ _
  refine XL.s rfl ?_
  refine Y.lss (by rfl) (by rfl) ?_
  refine XL.nil ?_
  refine QN.next ?_
  refine XC.seq ?_
  refine XC.condS rfl ?_ ?_
  ·intro hc
   try simp only [decide_eq_true_eq, decide_eq_false_iff_not, Bool.not_eq_true', Bool.not_eq_false', Bool.not_eq_eq_eq_not, Bool.not_true, Bool.not_false, Bool.or_eq_true, Bool.and_eq_true, Bool.or_eq_false_iff] at hc
   have hkn : k < n := by omega
   have hsome := invK_some hinv (k + 1) (by omega)
   rw [invK_succ, hab] at hsome
   obtain ⟨r, hr⟩ : ∃ r, findP ab.1 k = some r := by
    cases h : findP ab.1 k with
    | none => simp [invStep, h] at hsome
    | some r => exact ⟨r, rfl⟩
   have hrn := (findP_spec hr).2.1
   have hsql := hsq.1.1
   refine XC.skip ?_
   refine QN.next ?_
   refine XC.seq ?_
   refine XC.block ?_
   refine XC.seq ?_
   refine XC.region ?_
   show XL _ _ _ _ (List.cons _ _) _ _
   refine XL.s rfl ?_
   refine Y.move (by rfl) ?_
   refine XL.s rfl ?_
   refine Y.assign (by rfl) ?_
   refine XL.nil ?_
   refine QN.next ?_
   refine XC.seq ?_
   refine XC.seq ?_
   refine XC.region ?_
   show XL _ _ _ _ (List.cons _ _) _ _
   refine XL.s rfl ?_
   refine Y.move (by rfl) ?_
   refine XL.s rfl ?_
   refine Y.move (by rfl) ?_
   refine XL.s rfl ?_
   refine Y.move (by rfl) ?_
   refine XL.s rfl ?_
   refine Y.call (by rfl) ok88 ((by rw [hml, hcl]; exact pivot_ok ga ca cura fra ua gsa ab.1 gb cb curb frb ub gsb ab.2 n k _ hA hB (by omega) hd2 hd3 hd4 hsq.1 hsq.2 hkn hn r hr)) ?_
   rintro v29 w29 ⟨rfl, hC29, cura2, ua2, gsa2, curb2, ub2, gsb2, hsa2, hsb2, hA2, hB2⟩
   refine XL.s rfl ?_
   refine Y.not (by rfl) ?_
   refine XL.nil ?_
   refine QN.next ?_
   refine XC.condF rfl rfl ?_
   have hE29 := hE.chgNew hC29 (fun x hx => by rcases hx with rfl | rfl <;> omega)
   have hsq2 : Sq2 n (swapP ab.1 r k, swapP ab.2 r k) := ⟨hsq.1.swap (by omega) hkn, hsq.2.swap (by omega) hkn⟩
   refine XC.skip ?_
   refine QN.next ?_
   refine XC.region ?_
   show XL _ _ _ _ (List.cons _ _) _ _
   refine XL.s rfl ?_
   refine Y.move (by rfl) ?_
   refine XL.s rfl ?_
   refine Y.move (by rfl) ?_
   refine XL.s rfl ?_
   refine Y.move (by rfl) ?_
   refine XL.s rfl ?_
   refine Y.move (by rfl) ?_
   refine XL.s rfl ?_
   refine Y.call (by rfl) ok89 ((by rw [hml, hcl]; exact clear_ok ga ca cura2 fra ua2 gsa2 (swapP ab.1 r k) gb cb curb2 frb ub2 gsb2 (swapP ab.2 r k) n k _ hA2 hB2 (by omega) (fun h => hd2 (hsb2 _ h)) (fun h => hd3 (hsa2 _ h)) (fun g h1 h2 => hd4 g (hsa2 g h1) (hsb2 g h2)) hsq2.1 hsq2.2 hkn hn fb (hfb.ext hE29) (by omega) (fun h => by have := hla _ (hsa2 _ h); omega) (by omega) (fun h => by have := hlb _ (hsb2 _ h); omega))) ?_
   rintro v35 w35 ⟨hC35, cura3, ua3, gsa3, curb3, ub3, gsb3, hA3, hB3, hga3, hgb3, hd43, hd23, hd33⟩
   have hz29 := hE29.size
   refine XL.nil ?_
   refine QN.blk ?_
   refine QN.next ?_
   refine XC.region ?_
   show XL _ _ _ _ (List.cons _ _) _ _
   refine XL.s rfl ?_
   refine Y.add (by rfl) (by rfl) (wrap64 (by omega) (by omega)) ?_
   refine XL.s rfl ?_
   refine Y.move (by rfl) ?_
   refine XL.nil ?_
   refine QN.again (k + 1) ?_ ?_ ?_
   ·exact ⟨rfl, rfl, rfl, rfl, rfl, trivial⟩
   ·refine ⟨by omega, ?_, clearP k (swapP ab.1 r k, swapP ab.2 r k), cura3, ua3, gsa3, curb3, ub3, gsb3, ?_, ?_, hA3, hB3, fun g hg => ?_, fun g hg => ?_, hd43, hd23, hd33⟩
    ·exact hE29.chgNew hC35 (fun x hx => hx.elim (fun h => by omega) fun hx => hx.elim (fun h => hla _ (hsa2 _ h)) fun hx => hx.elim (fun h => by omega) fun h => hlb _ (hsb2 _ h))
    ·rw [invK_succ, hab, invStep]; simp [hr]
    ·have := hsq2.clearK hkn n (Nat.le_refl _); rw [clearP, hsq2.1.1]; exact this
    ·exact (hga3 g hg).elim (fun h => hla _ (hsa2 _ h)) (fun h => by omega)
    ·exact (hgb3 g hg).elim (fun h => hlb _ (hsb2 _ h)) (fun h => by omega)
   ·first | omega | (simp only []; omega) | (simp; omega)
  ·intro hc
   try simp only [decide_eq_true_eq, decide_eq_false_iff_not, Bool.not_eq_true', Bool.not_eq_false', Bool.not_eq_eq_eq_not, Bool.not_true, Bool.not_false, Bool.or_eq_true, Bool.and_eq_true, Bool.or_eq_false_iff] at hc
   obtain rfl : k = n := by omega
   have hBe : ab.2 = B := by unfold invertP at hi; rw [hml, hab] at hi; simpa using hi
   subst hBe
   refine XC.exit ?_
   refine QN.thenE ?_
   refine QN.thenE ?_
   refine QN.hit ?_
   refine QN.next ?_
   refine XC.seq ?_
   refine XC.region ?_
   show XL _ _ _ _ (List.cons _ _) _ _
   refine XL.s rfl ?_
   refine Y.move (by rfl) ?_
   refine XL.s rfl ?_
   refine Y.assign (by rfl) ?_
   refine XL.s rfl ?_
   refine Y.assign (by rfl) ?_
   refine XL.nil ?_
   refine QN.next ?_
   refine XC.ret ?_
   refine QN.doneN (fn := Tryz.f58) (R := R) (.inl rfl) rfl rfl ?_
   refine hR _ _ ?_
   exact ⟨_, rfl, (by rw [hcl]; have h := hB.omat (F := Since w) (Nat.le_trans hz15 (Nat.le_trans hz17 hgb1)) (fun g hg => Nat.le_trans hz15 (hlb g hg)); rw [hsq.2.1] at h; exact h), hE15.trans hE⟩
end Go.Proofs.YtchammpamigonaaGreatX
end
section
set_option linter.unusedVariables false
set_option linter.unusedSimpArgs false
set_option maxRecDepth 10000
set_option maxHeartbeats 4000000
namespace Go.Proofs.YtchammpamigonaaGreatX
open Go Go.RowKit Go.Proofs
theorem cell_slice {w : World} {b : Nat} {T : TypeId} {a : Option Addr} {n c : Nat} (h : HB w b (.cells (Value.cells (.slice a n c)) T (0, 0))) : w.cell? ⟨b, 0, none⟩ = some (.slice a n c) := cell_arr (cs := [.slice a n c]) h rfl
theorem right1_ok (S S' : Nat → Prop) (q : Value) (l : List UInt8) (cu : Option Addr) (capu b1 : Nat) (m : Mat) (w : World) (hq : Bs S w q l) (hr : Rows S' w (.slice cu m.length capu) m) (hb : w.cell? ⟨b1, 0, none⟩ = some (.slice cu m.length capu)) (hm : 0 < m.length) (hl : ∀ x ∈ m, x.length = l.length) :
  Rets Tryz.prog 85 #[q, .pointer (some ⟨b1, 0, none⟩)] w fun v w' => v = .bool false ∧ Ext w w' := by
 refine Rets.enter (args := [q, .pointer (some ⟨b1, 0, none⟩)]) (n := 11) Tryz.func85 rfl rfl rfl ?_
 intro R hR
 show XC _ _ _ _ [(0, q), (1, .pointer (some ⟨b1, 0, none⟩))] _
 obtain ⟨vs, hvs, hvl, hqs⟩ := hr.get
 obtain ⟨q0, hq0, hb0⟩ := hqs 0 hm
 have hl0 := hl _ (List.getElem_mem hm)
 obtain ⟨cq, capq, rfl⟩ := hq.val
 refine XC.seq ?_
 refine XC.region ?_
 show XL _ _ _ _ (List.cons _ _) _ _
 refine XL.s rfl ?_
 refine Y.assign (by rfl) ?_
 refine XL.nil ?_
 refine QN.next ?_
 refine XC.seq ?_
 refine XC.region ?_
 show XL _ _ _ _ (List.cons _ _) _ _
 refine XL.s rfl ?_
 refine Y.move (by rfl) ?_
 refine XL.s rfl ?_
 first | refine Y.lenV Tryz.underlying39 (by rfl) ?_ | refine Y.len Tryz.underlying39 (by rfl) (by first | assumption | exact Apd.row (by assumption) | exact New.row (by assumption)) ?_
 refine XL.s rfl ?_
 refine Y.load one37 (by rfl) (by assumption) ?_
 refine XL.s rfl ?_
 refine Y.indexR st37 (by rfl) (by rfl) hvs ⟨by omega, by omega⟩ (by exact hq0) ?_
 intro b7 o7 hs7 hc7
 refine XL.s rfl ?_
 refine Y.load one39 (by rfl) (by assumption) ?_
 refine XL.s rfl ?_
 refine Y.len Tryz.underlying39 (by rfl) (hb0.cast hl0 rfl) ?_
 refine XL.s rfl ?_
 refine Y.neq (by rfl) (by rfl) ?_
 refine XL.s rfl ?_
 refine Y.assign (by rfl) ?_
 refine XL.nil ?_
 refine QN.next ?_
 refine XC.ret ?_
 refine QN.done1 (fn := Tryz.f85) (R := R) (.inl rfl) rfl rfl ?_
 refine hR _ _ ?_
 exact ⟨by simp, Chg.refl _ _⟩
theorem indexRight_ok (S : Nat → Prop) (cu : Option Addr) (capu b1 n : Nat) (m : Mat) (w : World) (hr : Rows S w (.slice cu m.length capu) m) (hb : w.cell? ⟨b1, 0, none⟩ = some (.slice cu m.length capu)) (hm : 0 < m.length) (hl : ∀ x ∈ m, x.length = n) :
  Rets Tryz.prog 101 #[.slice cu m.length capu, .func (.func 85) #[] #[.pointer (some ⟨b1, 0, none⟩)]] w fun v w' => v = .int .i64 (-1) ∧ Ext w w' := by
 refine Rets.enter (args := [.slice cu m.length capu, .func (.func 85) #[] #[.pointer (some ⟨b1, 0, none⟩)]]) (n := 19) Tryz.func101 rfl rfl rfl ?_
 intro R hR
 show XC _ _ _ _ [(0, .slice cu m.length capu), (1, .func (.func 85) #[] #[.pointer (some ⟨b1, 0, none⟩)])] _
 obtain ⟨vs, hvs, hvl, hqs⟩ := hr.get
 have hml := hvs.le
 refine XC.seq ?_
 refine XC.region ?_
 show XL _ _ _ _ (List.cons _ _) _ _
 refine XL.s rfl ?_
 refine Y.assign (by rfl) ?_
 refine XL.nil ?_
 refine QN.next ?_
 refine XC.seq ?_
 refine XC.seq ?_
 refine XC.region ?_
 show XL _ _ _ _ (List.cons _ _) _ _
 refine XL.s rfl ?_
 refine Y.move (by rfl) ?_
 refine XL.s rfl ?_
 first | refine Y.lenV Tryz.underlying37 (by rfl) ?_ | refine Y.len Tryz.underlying37 (by rfl) (by first | assumption | exact Apd.row (by assumption) | exact New.row (by assumption)) ?_
 refine XL.s rfl ?_
 refine Y.move (by rfl) ?_
 refine XL.nil ?_
 refine QN.next ?_
 refine XC.block ?_
 refine XC.loop (α := Nat) (fun k => [(0, .slice cu m.length capu), (1, .func (.func 85) #[] #[.pointer (some ⟨b1, 0, none⟩)]), (7, .int .i64 (m.length : Nat)), (8, .int .i64 k)]) (fun k wr => k ≤ m.length ∧ Ext w wr) (fun k => m.length - k) (0) ?_ ?_ ?_
 ·exact ⟨rfl, rfl, rfl, rfl, trivial⟩
 ·exact ⟨by omega, Chg.refl _ _⟩
 ·rintro k wr hI
  obtain ⟨hk, hE⟩ := hI
  refine XC.seq ?_
  refine XC.region ?_
  show XL _ _ _ _ (List.cons _ _) _ _
  refine XL.s rfl ?_
  refine Y.lss (by rfl) (by rfl) ?_
  refine XL.nil ?_
  refine QN.next ?_
  refine XC.seq ?_
  refine XC.condS rfl ?_ ?_
  ·intro hc
   try simp only [decide_eq_true_eq, decide_eq_false_iff_not, Bool.not_eq_true', Bool.not_eq_false', Bool.not_eq_eq_eq_not, Bool.not_true, Bool.not_false, Bool.or_eq_true, Bool.and_eq_true, Bool.or_eq_false_iff] at hc
   have hk' : k < m.length := by omega
   obtain ⟨q, hq, hbq⟩ := hqs k hk'
   have hlk := hl _ (List.getElem_mem hk')
   refine XC.skip ?_
   refine QN.next ?_
   refine XC.seq ?_
   refine XC.block ?_
   refine XC.seq ?_
   refine XC.region ?_
   show XL _ _ _ _ (List.cons _ _) _ _
   refine XL.s rfl ?_
   refine Y.move (by rfl) ?_
   refine XL.s rfl ?_
   refine Y.assign (by rfl) ?_
   refine XL.nil ?_
   refine QN.next ?_
   refine XC.seq ?_
   refine XC.region ?_
   show XL _ _ _ _ (List.cons _ _) _ _
   refine XL.s rfl ?_
   refine Y.move (by rfl) ?_
   refine XL.s rfl ?_
   refine Y.move (by rfl) ?_
   refine XL.s rfl ?_
   refine Y.move (by rfl) ?_
   refine XL.s rfl ?_
   refine Y.indexR st37 (by rfl) (by rfl) (hvs.ext hE) ⟨by omega, by omega⟩ (by rw [Int.toNat_natCast]; exact hq) ?_
   intro b14 o14 hs14 hc14
   refine XL.s rfl ?_
   refine Y.load one39 (by rfl) (by assumption) ?_
   refine XL.s rfl ?_
   refine Y.callV (by rfl) (by rfl) ok85 (by exact right1_ok _ _ _ m[k] cu capu b1 m _ (hbq.ext hE) (hr.ext hE) (hE.cell hb) hm (fun x hx => by rw [hl x hx, hlk])) ?_
   rintro v16 w16 ⟨rfl, hE16⟩
   refine XL.nil ?_
   refine QN.next ?_
   refine XC.condF rfl rfl ?_
   refine XC.skip ?_
   refine QN.blk ?_
   refine QN.next ?_
   refine XC.region ?_
   show XL _ _ _ _ (List.cons _ _) _ _
   refine XL.s rfl ?_
   refine Y.add (by rfl) (by rfl) (wrap64 (by omega) (by omega)) ?_
   refine XL.s rfl ?_
   refine Y.move (by rfl) ?_
   refine XL.nil ?_
   refine QN.again (k + 1) ?_ ?_ ?_
   ·exact ⟨rfl, rfl, rfl, rfl, trivial⟩
   ·exact ⟨by omega, hE.trans hE16⟩
   ·first | omega | (simp only []; omega) | (simp; omega)
  ·intro hc
   try simp only [decide_eq_true_eq, decide_eq_false_iff_not, Bool.not_eq_true', Bool.not_eq_false', Bool.not_eq_eq_eq_not, Bool.not_true, Bool.not_false, Bool.or_eq_true, Bool.and_eq_true, Bool.or_eq_false_iff] at hc
   refine XC.exit ?_
   refine QN.thenE ?_
   refine QN.thenE ?_
   refine QN.hit ?_
   refine QN.next ?_
   refine XC.seq ?_
   refine XC.region ?_
   show XL _ _ _ _ (List.cons _ _) _ _
   refine XL.s rfl ?_
   refine Y.assign (by rfl) ?_
   refine XL.nil ?_
   refine QN.next ?_
   refine XC.ret ?_
   refine QN.done1 (fn := Tryz.f101) (R := R) (.inl rfl) rfl rfl ?_
   refine hR _ _ ?_
   exact ⟨rfl, hE⟩
theorem containsRight_ok (S : Nat → Prop) (cu : Option Addr) (capu b1 n : Nat) (m : Mat) (w : World) (hr : Rows S w (.slice cu m.length capu) m) (hb : w.cell? ⟨b1, 0, none⟩ = some (.slice cu m.length capu)) (hm : 0 < m.length) (hl : ∀ x ∈ m, x.length = n) :
  Rets Tryz.prog 84 #[.slice cu m.length capu, .func (.func 85) #[] #[.pointer (some ⟨b1, 0, none⟩)]] w fun v w' => v = .bool false ∧ Ext w w' := by
 refine Rets.enter (args := [.slice cu m.length capu, .func (.func 85) #[] #[.pointer (some ⟨b1, 0, none⟩)]]) (n := 9) Tryz.func84 rfl rfl rfl ?_
 intro R hR
 show XC _ _ _ _ [(0, .slice cu m.length capu), (1, .func (.func 85) #[] #[.pointer (some ⟨b1, 0, none⟩)])] _
 refine XC.seq ?_
 refine XC.region ?_
 show XL _ _ _ _ (List.cons _ _) _ _
 refine XL.s rfl ?_
 refine Y.assign (by rfl) ?_
 refine XL.nil ?_
 refine QN.next ?_
 refine XC.seq ?_
 refine XC.region ?_
 show XL _ _ _ _ (List.cons _ _) _ _
 refine XL.s rfl ?_
 refine Y.move (by rfl) ?_
 refine XL.s rfl ?_
 refine Y.move (by rfl) ?_
 refine XL.s rfl ?_
 refine Y.call (by rfl) ok101 (indexRight_ok S cu capu b1 n m _ hr hb hm hl) ?_
 rintro v7 w7 ⟨rfl, hE7⟩
 refine XL.s rfl ?_
 refine Y.geq (by rfl) (by rfl) ?_
 refine XL.s rfl ?_
 refine Y.assign (by rfl) ?_
 refine XL.nil ?_
 refine QN.next ?_
 refine XC.ret ?_
 refine QN.done1 (fn := Tryz.f84) (R := R) (.inl rfl) rfl rfl ?_
 refine hR _ _ ?_
 exact ⟨rfl, hE7⟩
theorem right_ok (S : Nat → Prop) (u : Value) (n : Nat) (m : Mat) (w : World) (hr : Rows S w u m) (hm : 0 < m.length) (h0 : 0 < n) (hl : ∀ x ∈ m, x.length = n) :
  Rets Tryz.prog 57 #[u] w fun v w' => v = .bool true ∧ Ext w w' := by
 refine Rets.enter (args := [u]) (n := 17) Tryz.func57 rfl rfl rfl ?_
 intro R hR
 show XC _ _ _ _ [(0, u)] _
 obtain ⟨cu, capu, rfl⟩ := hr.val
 refine XC.seq ?_
 refine XC.region ?_
 show XL _ _ _ _ (List.cons _ _) _ _
 refine XL.s rfl ?_
 refine Y.box (by rfl) ?_
 intro b1 w1 hb1 hz1 hE1
 have hcell := cell_slice hb1
 replace hr := hr.ext hE1
 obtain ⟨vs, hvs, hvl, hqs⟩ := hr.get
 obtain ⟨q0, hq0, hb0⟩ := hqs 0 hm
 have hl0 := hl _ (List.getElem_mem hm)
 refine XL.s rfl ?_
 refine Y.assign (by rfl) ?_
 refine XL.nil ?_
 refine QN.next ?_
 refine XC.seq ?_
 refine XC.seq ?_
 refine XC.region ?_
 show XL _ _ _ _ (List.cons _ _) _ _
 refine XL.s rfl ?_
 refine Y.load one37 (by rfl) (by assumption) ?_
 refine XL.s rfl ?_
 first | refine Y.lenV Tryz.underlying37 (by rfl) ?_ | refine Y.len Tryz.underlying37 (by rfl) (by first | assumption | exact Apd.row (by assumption) | exact New.row (by assumption)) ?_
 refine XL.s rfl ?_
 refine Y.eql (by rfl) (by rfl) ?_
 refine XL.s rfl ?_
 refine Y.move (by rfl) ?_
 refine XL.gt rfl rfl ya rfl ?_
 refine Y.load one37 (by rfl) (by assumption) ?_
 refine XL.gt rfl rfl ya rfl ?_
 refine Y.indexR st37 (by rfl) (by rfl) hvs ⟨by omega, by omega⟩ (by exact hq0) ?_
 intro b8 o8 hs8 hc8
 refine XL.gt rfl rfl ya rfl ?_
 refine Y.load one39 (by rfl) (by assumption) ?_
 refine XL.gt rfl rfl ya rfl ?_
 refine Y.len Tryz.underlying39 (by rfl) (hb0.cast hl0 rfl) ?_
 refine XL.gt rfl rfl ya rfl ?_
 refine Y.eql (by rfl) (by rfl) ?_
 refine XL.s rfl ?_
 refine Y.pickF (by rfl) ya (by rfl) ?_
 refine XL.nil ?_
 refine QN.next ?_
 refine XC.condF rfl ya ?_
 refine XC.skip ?_
 refine QN.next ?_
 refine XC.seq ?_
 refine XC.region ?_
 show XL _ _ _ _ (List.cons _ _) _ _
 refine XL.s rfl ?_
 refine Y.load one37 (by rfl) (by assumption) ?_
 refine XL.s rfl ?_
 refine Y.makeFunc (by rfl) (by rfl) ?_
 refine XL.s rfl ?_
 refine Y.call (by rfl) ok84 (containsRight_ok S cu capu b1 n m _ hr hcell hm hl) ?_
 rintro v15 w15 ⟨rfl, hE15⟩
 refine XL.s rfl ?_
 refine Y.not (by rfl) ?_
 refine XL.s rfl ?_
 refine Y.assign (by rfl) ?_
 refine XL.nil ?_
 refine QN.next ?_
 refine XC.ret ?_
 refine QN.done1 (fn := Tryz.f57) (R := R) (.inl rfl) rfl rfl ?_
 refine hR _ _ ?_
 exact ⟨rfl, hE1.trans hE15⟩
end Go.Proofs.YtchammpamigonaaGreatX
end
section
set_option linter.unusedVariables false
set_option linter.unusedSimpArgs false
set_option maxRecDepth 10000
set_option maxHeartbeats 4000000
namespace Go.Proofs.YtchammpamigonaaGreatX
open Go Go.RowKit Go.Proofs
theorem enc_ok (k F : Nat) (l : List UInt8) (w : World) (hk : 1 ≤ k) (hF : k + 2 * F ≤ 7) (hl : l.length ≤ 512) :
  Rets Tryz.prog 30 #[shapeV k F, strV l] w fun v w' => ∃ a, v = .tuple #[a, .int .i64 0] ∧ OMat 39 5 (btw w.heap.size w'.heap.size) w' a (encP k (k + 2 * F) l) ∧ Ext w w' := by
 refine Rets.enter (args := [shapeV k F, strV l]) (n := 24) Tryz.func30 rfl rfl rfl ?_
 intro R hR
 show XC _ _ _ _ [(0, shapeV k F), (1, strV l)] _
 refine XC.seq ?_
 refine XC.region ?_
 show XL _ _ _ _ (List.cons _ _) _ _
 refine XL.s rfl ?_
 refine Y.box (by rfl) ?_
 intro b2 w2 hb2 hz2 hE2
 have hsh : HB w2 b2 (.cells (Value.cells (shapeV (k : Int) (F : Int))) 23 (0, 0)) := hb2
 have hok : okShape (k : Int) (F : Int) := ⟨by omega, by omega, by omega⟩
 have hik : in64 (k : Int) := ⟨by omega, by omega⟩
 have hiF : in64 (F : Int) := ⟨by omega, by omega⟩
 refine XL.s rfl ?_
 refine Y.assign (by rfl) ?_
 refine XL.s rfl ?_
 refine Y.assign (by rfl) ?_
 refine XL.nil ?_
 refine QN.next ?_
 refine XC.seq ?_
 refine XC.block ?_
 refine XC.seq ?_
 refine XC.region ?_
 show XL _ _ _ _ (List.cons _ _) _ _
 refine XL.s rfl ?_
 refine Y.loadA agg23 (by rfl) rfl (shapeA hsh) ?_
 refine XL.s rfl ?_
 refine Y.call (by rfl) ok26 (cright_ok (k : Int) (F : Int) _ hik hiF) ?_
 rintro v8 w8 ⟨rfl, hE8⟩
 refine XL.s rfl ?_
 refine Y.not (by rfl) ?_
 refine XL.s rfl ?_
 refine Y.assign (by rfl) ?_
 refine XL.nil ?_
 refine QN.next ?_
 refine XC.condF rfl (by rw [decide_eq_true hok]; rfl) ?_
 refine XC.seq ?_
 refine XC.region ?_
 show XL _ _ _ _ (List.cons _ _) _ _
 refine XL.s rfl ?_
 refine Y.move (by rfl) ?_
 refine XL.s rfl ?_
 refine Y.lenS Tryz.underlying9 (by rfl) ?_
 refine XL.s rfl ?_
 refine Y.gtr (by rfl) (by rfl) ?_
 refine XL.s rfl ?_
 refine Y.assign (by rfl) ?_
 refine XL.nil ?_
 refine QN.next ?_
 refine XC.condF rfl ya ?_
 have hsh8 := hsh.ext hE8
 refine XC.skip ?_
 refine QN.blk ?_
 refine QN.next ?_
 refine XC.seq ?_
 apply XC.drop [6, 7, 8, 9, 10, 11, 12, 13, 14, 15, 16, 17, 18, 19, 20, 21, 22, 23]
 ·repeat (first | apply DropTo.nil | apply DropTo.skip rfl | apply DropTo.keep rfl)
 refine XC.drawL 8 [[], [0], [], [2], [0, 1, 2, 3], [], [5], [], [0, 1, 2, 3, 4, 5, 6, 7], [0, 1, 2, 3, 4, 5, 6, 7, 8], [0, 1, 2, 3, 4, 5, 6, 7, 8, 9], [0, 1, 2, 3, 4, 5, 6, 7, 8, 9, 10]] _ (Chg NoB) (Steady.chg NoB) [] [(1, (fun v _ => v = .int .i64 (k : Nat))), (2, (fun v _ => v = shapeV k F)), (3, (fun v _ => v = .int .i64 ((k + 2 * F : Nat) : Int))), (4, (fun v w' => OMat 39 5 (btw w8.heap.size w'.heap.size) w' v (codingP k (k + 2 * F)))), (6, (fun v _ => v = .int .i64 (k : Nat)))] [0, 1, 2, 3, 4, 5, 6, 7] fol (by kernel_rfl) (by rfl) (by rfl) ⟨(fun _ _ _ _ h => h), (fun _ _ _ _ h => h), (fun _ _ _ _ h => h), (fun v w1 w2 hE h => (h.ext hE).wider), (fun _ _ _ _ h => h), trivial⟩ ⟨?_, ?_, ?_, ?_, ?_, ?_, ?_, ?_, trivial⟩ ?_
 ·intro aD5 wD5 haD5 hCD5 hrD5
  refine ⟨rfl, ?_⟩
  refine XD.start haD5 ?_
  apply XD.stepP rfl
  intro w3
  refine Y.fieldAddr fld23_0 (by rfl) ?_
  exact ⟨rfl, rfl⟩
 ·intro aD5 wD5 haD5 hCD5 hrD5
  obtain ⟨r0, -⟩ := hrD5
  replace hsh8 := hsh8.ext hCD5
  refine ⟨rfl, ?_⟩
  refine XD.start haD5 ?_
  refine XD.pure r0 ?_
  refine Y.fieldAddr fld23_0 (by rfl) ?_
  refine XD.stepI ?_
  refine Y.load one3 (by rfl) (shape0 hsh8) ?_
  exact ⟨Chg.refl _ _, rfl⟩
 ·intro aD5 wD5 haD5 hCD5 hrD5
  replace hsh8 := hsh8.ext hCD5
  refine ⟨rfl, ?_⟩
  refine XD.start haD5 ?_
  refine XD.stepI ?_
  refine Y.loadA agg23 (by rfl) rfl (shapeA hsh8) ?_
  exact ⟨Chg.refl _ _, rfl⟩
 ·intro aD5 wD5 haD5 hCD5 hrD5
  obtain ⟨r2, -⟩ := hrD5
  replace hsh8 := hsh8.ext hCD5
  refine ⟨rfl, ?_⟩
  refine XD.start haD5 ?_
  refine XD.imp r2 ?_
  rintro _ rfl
  refine XD.stepI ?_
  refine Y.call (by rfl) ok9 (cn_ok (k : Int) (F : Int) _ hik hiF hok) ?_
  rintro v17 w17 ⟨rfl, hE17⟩
  exact ⟨hE17, congrArg _ (by omega)⟩
 ·intro aD5 wD5 haD5 hCD5 hrD5
  obtain ⟨r0, r1, r2, r3, -⟩ := hrD5
  replace hsh8 := hsh8.ext hCD5
  refine ⟨rfl, ?_⟩
  refine XD.start haD5 ?_
  refine XD.pure r0 ?_
  refine Y.fieldAddr fld23_0 (by rfl) ?_
  refine XD.imp r1 ?_
  rintro _ rfl
  refine XD.imp r2 ?_
  rintro _ rfl
  refine XD.imp r3 ?_
  rintro _ rfl
  refine XD.stepI ?_
  refine Y.call (by rfl) ok49 (coding_ok k (k + 2 * F) _ (by omega) (by omega) (by omega)) ?_
  rintro v18 w18 ⟨hM18, hE18⟩
  exact ⟨hE18, hM18.mono fun x _ hx => ⟨by have := hCD5.size; have := hx.1; omega, hx.2⟩⟩
 ·intro aD5 wD5 haD5 hCD5 hrD5
  refine ⟨rfl, ?_⟩
  refine XD.start haD5 ?_
  apply XD.stepP rfl
  intro w3
  refine Y.fieldAddr fld23_0 (by rfl) ?_
  exact ⟨rfl, rfl⟩
 ·intro aD5 wD5 haD5 hCD5 hrD5
  obtain ⟨r5, -⟩ := hrD5
  replace hsh8 := hsh8.ext hCD5
  refine ⟨rfl, ?_⟩
  refine XD.start haD5 ?_
  refine XD.pure r5 ?_
  refine Y.fieldAddr fld23_0 (by rfl) ?_
  refine XD.stepI ?_
  refine Y.load one3 (by rfl) (shape0 hsh8) ?_
  exact ⟨Chg.refl _ _, rfl⟩
 ·intro aD5 wD5 haD5 hCD5 hrD5
  refine ⟨rfl, ?_⟩
  refine XD.start haD5 ?_
  apply XD.stepP rfl
  intro w3
  refine Y.move (by rfl) ?_
  exact ⟨rfl, rfl⟩
 intro aD5 wD5 haD5 hCD5 hrD5
 obtain ⟨r0, r1, r2, r3, r4, r5, r6, r7, -⟩ := hrD5
 replace hsh8 := hsh8.ext hCD5
 refine XD.start haD5 ?_
 refine XD.pure r0 ?_
 refine Y.fieldAddr fld23_0 (by rfl) ?_
 refine XD.imp r1 ?_
 rintro _ rfl
 refine XD.imp r2 ?_
 rintro _ rfl
 refine XD.imp r3 ?_
 rintro _ rfl
 refine XD.imp r4 ?_
 rintro v18 hM18
 refine XD.pure r5 ?_
 refine Y.fieldAddr fld23_0 (by rfl) ?_
 refine XD.imp r6 ?_
 rintro _ rfl
 refine XD.pure r7 ?_
 refine Y.move (by rfl) ?_
 refine XD.fin haD5 ?_
 show XL _ _ _ _ (List.cons _ _) _ _
 refine XL.s rfl ?_
 refine Y.call (by rfl) ok50 (pieces_ok k l _ hk (by omega) (by omega)) ?_
 rintro v22 w22 ⟨hR22, hE22⟩
 have hM := hM18.ext hE22
 have hpa := piecesP_all l hk
 have hpl := padB_le l hk
 have hql := pieceN_le l hk
 refine XL.s rfl ?_
 refine Y.call (by rfl) ok48 (mmul_ok _ _ _ _ (codingP k (k + 2 * F)) (piecesP k l) (pieceN k l) _ hM.rows hR22 (by intro x hx; rw [piecesP_length]; simp only [codingP, List.mem_map] at hx; obtain ⟨i, _, rfl⟩ := hx; exact codingR_length k i) hpa (pieceN_pos l hk) (by omega) (by rw [codingP_length]; omega) (by rw [piecesP_length]; omega) (by rw [codingP_length]; omega)) ?_
 rintro v23 w23 ⟨hM23, hE23⟩
 have hEE := ((hE2.trans hE8).trans hCD5).trans (hE22.trans hE23)
 have hz1 := hE2.size
 have hz2 := hE8.size
 have hz3 := hCD5.size
 have hz4 := hE22.size
 refine XL.s rfl ?_
 refine Y.assign (by rfl) ?_
 refine XL.s rfl ?_
 refine Y.assign (by rfl) ?_
 refine XL.nil ?_
 refine QN.next ?_
 refine XC.ret ?_
 refine QN.doneN (fn := Tryz.f30) (R := R) (.inl rfl) rfl rfl ?_
 refine hR _ _ ?_
 exact ⟨_, rfl, hM23.mono fun x _ hx => ⟨by have := hx.1; omega, hx.2⟩, hEE⟩
theorem value_ok (S : Nat → Prop) (u : Value) (k : Nat) (m : List (List UInt8)) (l : List UInt8) (w : World) (hr : Rows S w u m) (hm : m.flatten = padB k l) (hk : 0 < k) (hk2 : k ≤ 7) (hl : l.length ≤ 512) :
  Rets Tryz.prog 59 #[u] w fun v w' => v = .tuple #[strV l, .bool true] ∧ Ext w w' := by
 refine Rets.enter (args := [u]) (n := 21) Tryz.func59 rfl rfl rfl ?_
 intro R hR
 show XC _ _ _ _ [(0, u)] _
 have hpl := padB_le l hk
 have h4 := padB_take4 k l
 have h5 := padB_drop4 k l
 have hnum := numOf_numB (n := l.length) (by omega)
 have hlen : 4 + l.length ≤ (padB k l).length := by rw [padB_length, textB_length]; omega
 refine XC.seq ?_
 refine XC.region ?_
 show XL _ _ _ _ (List.cons _ _) _ _
 refine XL.s rfl ?_
 refine Y.assign (by rfl) ?_
 refine XL.s rfl ?_
 refine Y.assign (by rfl) ?_
 refine XL.nil ?_
 refine QN.next ?_
 refine XC.seq ?_
 refine XC.region ?_
 show XL _ _ _ _ (List.cons _ _) _ _
 refine XL.s rfl ?_
 refine Y.move (by rfl) ?_
 refine XL.s rfl ?_
 refine Y.call (by rfl) ok81 (concat_ok _ _ _ _ hr (by rw [hm]; omega)) ?_
 rintro v9 w9 hN9
 rw [hm] at hN9
 refine XL.s rfl ?_
 refine Y.call (by rfl) ok74 (cutText_yes _ _ _ _ hN9.bs (by omega) (by omega) (by rw [h4, hnum, List.length_drop]; omega)) ?_
 rintro v10 w10 ⟨u10, rfl, hE10, hB10⟩
 rw [h4, h5, hnum, List.take_left]
 refine XL.s rfl ?_
 refine Y.move (by rfl) ?_
 refine XL.s rfl ?_
 refine Y.extract (by rfl) (by rfl) ?_
 refine XL.s rfl ?_
 refine Y.extract (by rfl) (by rfl) ?_
 refine XL.s rfl ?_
 refine Y.extract (by rfl) (by rfl) ?_
 refine XL.s rfl ?_
 refine Y.assign (by rfl) ?_
 refine XL.s rfl ?_
 refine Y.assign (by rfl) ?_
 refine XL.s rfl ?_
 refine Y.assign (by rfl) ?_
 refine XL.nil ?_
 refine QN.next ?_
 refine XC.seq ?_
 refine XC.region ?_
 show XL _ _ _ _ (List.cons _ _) _ _
 refine XL.s rfl ?_
 refine Y.move (by rfl) ?_
 refine XL.s rfl ?_
 refine Y.move (by rfl) ?_
 refine XL.s rfl ?_
 refine Y.move (by rfl) ?_
 refine XL.gt rfl rfl rfl rfl ?_
 refine Y.move (by rfl) ?_
 refine XL.gt rfl rfl rfl rfl ?_
 refine Y.lenS Tryz.underlying9 (by rfl) ?_
 refine XL.gt rfl rfl rfl rfl ?_
 refine Y.leq (by rfl) (by rfl) ?_
 refine XL.s rfl ?_
 refine Y.pickT (by rfl) rfl (by rfl) ?_
 refine XL.s rfl ?_
 refine Y.assign (by rfl) ?_
 refine XL.s rfl ?_
 refine Y.assign (by rfl) ?_
 refine XL.nil ?_
 refine QN.next ?_
 refine XC.ret ?_
 refine QN.doneN (fn := Tryz.f59) (R := R) (.inl rfl) rfl rfl ?_
 refine hR _ _ ?_
 exact ⟨by rw [decide_eq_true (by omega)], hN9.1.trans hE10⟩
theorem agrees_ok (k F : Nat) (S : Nat → Prop) (u : Value) (l : List UInt8) (m : List (List UInt8)) (w : World) (hk : 1 ≤ k) (hF : k + 2 * F ≤ 7) (hl : l.length ≤ 512) (hr : Rows S w u m) (hm : m.length = k + 2 * F) (ha : ∀ i ∈ thereP m, m.getD i [] = (encP k (k + 2 * F) l).getD i []) :
  Rets Tryz.prog 60 #[shapeV k F, strV l, u] w fun v w' => v = .bool true ∧ Ext w w' := by
 refine Rets.enter (args := [shapeV k F, strV l, u]) (n := 37) Tryz.func60 rfl rfl rfl ?_
 intro R hR
 show XC _ _ _ _ [(0, shapeV k F), (1, strV l), (2, u)] _
 refine XC.seq ?_
 refine XC.region ?_
 show XL _ _ _ _ (List.cons _ _) _ _
 refine XL.s rfl ?_
 refine Y.box (by rfl) ?_
 intro b3 w3 hb3 hz3 hE3
 have hsh : HB w3 b3 (.cells (Value.cells (shapeV (k : Int) (F : Int))) 23 (0, 0)) := hb3
 refine XL.s rfl ?_
 refine Y.assign (by rfl) ?_
 refine XL.nil ?_
 refine QN.next ?_
 refine XC.seq ?_
 refine XC.region ?_
 show XL _ _ _ _ (List.cons _ _) _ _
 refine XL.s rfl ?_
 refine Y.loadA agg23 (by rfl) rfl (shapeA hsh) ?_
 refine XL.s rfl ?_
 refine Y.move (by rfl) ?_
 refine XL.s rfl ?_
 refine Y.call (by rfl) ok30 (enc_ok k F l _ hk hF hl) ?_
 rintro v14 w14 ⟨a, rfl, hM, hE14⟩
 refine XL.s rfl ?_
 refine Y.move (by rfl) ?_
 refine XL.s rfl ?_
 refine Y.extract (by rfl) (by rfl) ?_
 refine XL.s rfl ?_
 refine Y.extract (by rfl) (by rfl) ?_
 refine XL.s rfl ?_
 refine Y.assign (by rfl) ?_
 refine XL.s rfl ?_
 refine Y.assign (by rfl) ?_
 refine XL.nil ?_
 refine QN.next ?_
 refine XC.seq ?_
 refine XC.seq ?_
 refine XC.region ?_
 show XL _ _ _ _ (List.cons _ _) _ _
 refine XL.s rfl ?_
 refine Y.move (by rfl) ?_
 refine XL.s rfl ?_
 refine Y.neq (by rfl) (by rfl) ?_
 refine XL.nil ?_
 refine QN.next ?_
 refine XC.condF rfl rfl ?_
 have hel : (encP k (k + 2 * F) l).length = k + 2 * F := by rw [encP, matMul_length, codingP_length]
 refine XC.skip ?_
 refine QN.next ?_
 refine XC.seq ?_
 refine XC.seq ?_
 refine XC.region ?_
 show XL _ _ _ _ (List.cons _ _) _ _
 refine XL.s rfl ?_
 refine Y.move (by rfl) ?_
 refine XL.s rfl ?_
 refine Y.call (by rfl) ok55 (there_ok _ _ m _ ((hr.ext hE3).ext hE14) (by omega)) ?_
 rintro v20 w20 hN20
 have htle : (thereP m).length ≤ 7 := by rw [← thereK_all]; have := thereK_length m m.length; omega
 obtain ⟨q20, c20, rfl⟩ := hN20.row.val
 obtain ⟨qa, ca, rfl⟩ := hM.rows.val
 obtain ⟨cu, capu, rfl⟩ := hr.val
 refine XL.s rfl ?_
 refine Y.len Tryz.underlying49 (by rfl) hN20.row ?_
 refine XL.s rfl ?_
 refine Y.move (by rfl) ?_
 refine XL.nil ?_
 refine QN.next ?_
 refine XC.block ?_
 refine XC.loop (α := Nat) (fun i => [(2, .slice cu m.length capu), (7, .slice qa (encP k (k + 2 * F) l).length ca), (20, .slice q20 (thereP m).length c20), (21, .int .i64 ((thereP m).length : Nat)), (22, .int .i64 i)]) (fun i wr => i ≤ (thereP m).length ∧ Ext w20 wr) (fun i => (thereP m).length - i) (0) ?_ ?_ ?_
 ·exact ⟨rfl, rfl, rfl, rfl, rfl, trivial⟩
 ·exact ⟨by omega, Chg.refl _ _⟩
 ·rintro i wr hI
  obtain ⟨hi, hE⟩ := hI
  refine XC.seq ?_
  refine XC.region ?_
  show XL _ _ _ _ (List.cons _ _) _ _
  refine XL.s rfl ?_
  refine Y.lss (by rfl) (by rfl) ?_
  refine XL.nil ?_
  refine QN.next ?_
  refine XC.seq ?_
  refine XC.condS rfl ?_ ?_
  ·intro hc
   try simp only [decide_eq_true_eq, decide_eq_false_iff_not, Bool.not_eq_true', Bool.not_eq_false', Bool.not_eq_eq_eq_not, Bool.not_true, Bool.not_false, Bool.or_eq_true, Bool.and_eq_true, Bool.or_eq_false_iff] at hc
   have hi' : i < (thereP m).length := by omega
   have hmem := List.getElem_mem hi'
   have hin := thereP_mem.1 hmem
   have hag := ha _ hmem
   refine XC.skip ?_
   refine QN.next ?_
   refine XC.seq ?_
   refine XC.block ?_
   refine XC.seq ?_
   refine XC.region ?_
   show XL _ _ _ _ (List.cons _ _) _ _
   refine XL.s rfl ?_
   refine Y.indexR st49 (by rfl) (by rfl) (hN20.row.ext hE) ⟨by omega, by omega⟩ (by rw [Int.toNat_natCast]; exact intsV_get _ _ hi') ?_
   intro b24 o24 hs24 hc24
   obtain ⟨vs, hvs, hvl, hqs⟩ := (((hM.rows.ext hN20.1).ext hE)).get
   obtain ⟨qe, hqe, hbe⟩ := hqs (thereP m)[i] (by omega)
   obtain ⟨us, hus, hul, hrs⟩ := ((((hr.ext hE3).ext hE14).ext hN20.1).ext hE).get
   obtain ⟨qm, hqm, hbm⟩ := hrs (thereP m)[i] (by omega)
   have he1 : m.getD (thereP m)[i] [] = m[(thereP m)[i]]'(by omega) := by simp [List.getD_eq_getElem?_getD, show (thereP m)[i] < m.length by omega]
   have he2 : (encP k (k + 2 * F) l).getD (thereP m)[i] [] = (encP k (k + 2 * F) l)[(thereP m)[i]]'(by omega) := by simp [List.getD_eq_getElem?_getD, show (thereP m)[i] < (encP k (k + 2 * F) l).length by omega]
   rw [he1, he2] at hag
   rename World => wq
   refine XL.s rfl ?_
   refine Y.load one3 (by rfl) (by assumption) ?_
   refine XL.s rfl ?_
   refine Y.assign (by rfl) ?_
   refine XL.nil ?_
   refine QN.next ?_
   refine XC.seq ?_
   apply XC.drop [11, 12, 13, 14, 15, 16, 17, 18, 19, 23, 24, 25, 26, 27, 28, 29, 30, 31, 32, 33, 34, 35, 36]
   ·repeat (first | apply DropTo.nil | apply DropTo.skip rfl | apply DropTo.keep rfl)
   refine XC.drawL 8 [[], [], [0, 1], [0, 1, 2], [], [], [4, 5], [4, 5, 6], [0, 1, 2, 3, 4, 5, 6, 7], [0, 1, 2, 3, 4, 5, 6, 7, 8]] _ (Chg NoB) (Steady.chg NoB) [] [(2, (fun v w' => ∃ b o, v = .pointer (some ⟨b, o, none⟩) ∧ w'.cell? ⟨b, o, none⟩ = some qe)), (3, (fun v _ => v = qe)), (6, (fun v w' => ∃ b o, v = .pointer (some ⟨b, o, none⟩) ∧ w'.cell? ⟨b, o, none⟩ = some qm)), (7, (fun v _ => v = qm))] [0, 1, 2, 3, 4, 5, 6, 7] fol (by kernel_rfl) (by rfl) (by rfl) ⟨(fun v w1 w2 hE ⟨b, o, h1, h2⟩ => ⟨b, o, h1, hE.cell h2⟩), (fun _ _ _ _ h => h), (fun v w1 w2 hE ⟨b, o, h1, h2⟩ => ⟨b, o, h1, hE.cell h2⟩), (fun _ _ _ _ h => h), trivial⟩ ⟨?_, ?_, ?_, ?_, ?_, ?_, ?_, ?_, trivial⟩ ?_
   ·intro aD7 wD7 haD7 hCD7 hrD7
    refine ⟨rfl, ?_⟩
    refine XD.start haD7 ?_
    apply XD.stepP rfl
    intro w3
    refine Y.move (by rfl) ?_
    exact ⟨rfl, rfl⟩
   ·intro aD7 wD7 haD7 hCD7 hrD7
    refine ⟨rfl, ?_⟩
    refine XD.start haD7 ?_
    apply XD.stepP rfl
    intro w3
    refine Y.move (by rfl) ?_
    exact ⟨rfl, rfl⟩
   ·intro aD7 wD7 haD7 hCD7 hrD7
    obtain ⟨r0, r1, -⟩ := hrD7
    replace hvs := hvs.ext hCD7
    replace hus := hus.ext hCD7
    replace hbe := hbe.ext hCD7
    replace hbm := hbm.ext hCD7
    refine ⟨rfl, ?_⟩
    refine XD.start haD7 ?_
    refine XD.pure r0 ?_
    refine Y.move (by rfl) ?_
    refine XD.pure r1 ?_
    refine Y.move (by rfl) ?_
    refine XD.stepI ?_
    refine Y.indexR st37 (by rfl) (by rfl) hvs ⟨by omega, by omega⟩ (by rw [Int.toNat_natCast]; exact hqe) ?_
    intro b28 o28 hs28 hc28
    exact ⟨Chg.refl _ _, _, _, rfl, hc28⟩
   ·intro aD7 wD7 haD7 hCD7 hrD7
    obtain ⟨r0, r1, r2, -⟩ := hrD7
    replace hvs := hvs.ext hCD7
    replace hus := hus.ext hCD7
    replace hbe := hbe.ext hCD7
    replace hbm := hbm.ext hCD7
    refine ⟨rfl, ?_⟩
    refine XD.start haD7 ?_
    refine XD.pure r0 ?_
    refine Y.move (by rfl) ?_
    refine XD.pure r1 ?_
    refine Y.move (by rfl) ?_
    refine XD.imp r2 ?_
    rintro _ ⟨b28, o28, rfl, hc28⟩
    refine XD.stepI ?_
    refine Y.load one39 (by rfl) hc28 ?_
    exact ⟨Chg.refl _ _, rfl⟩
   ·intro aD7 wD7 haD7 hCD7 hrD7
    refine ⟨rfl, ?_⟩
    refine XD.start haD7 ?_
    apply XD.stepP rfl
    intro w3
    refine Y.move (by rfl) ?_
    exact ⟨rfl, rfl⟩
   ·intro aD7 wD7 haD7 hCD7 hrD7
    refine ⟨rfl, ?_⟩
    refine XD.start haD7 ?_
    apply XD.stepP rfl
    intro w3
    refine Y.move (by rfl) ?_
    exact ⟨rfl, rfl⟩
   ·intro aD7 wD7 haD7 hCD7 hrD7
    obtain ⟨r4, r5, -⟩ := hrD7
    replace hvs := hvs.ext hCD7
    replace hus := hus.ext hCD7
    replace hbe := hbe.ext hCD7
    replace hbm := hbm.ext hCD7
    refine ⟨rfl, ?_⟩
    refine XD.start haD7 ?_
    refine XD.pure r4 ?_
    refine Y.move (by rfl) ?_
    refine XD.pure r5 ?_
    refine Y.move (by rfl) ?_
    refine XD.stepI ?_
    refine Y.indexR st37 (by rfl) (by rfl) hus ⟨by omega, by omega⟩ (by rw [Int.toNat_natCast]; exact hqm) ?_
    intro b32 o32 hs32 hc32
    exact ⟨Chg.refl _ _, _, _, rfl, hc32⟩
   ·intro aD7 wD7 haD7 hCD7 hrD7
    obtain ⟨r4, r5, r6, -⟩ := hrD7
    replace hvs := hvs.ext hCD7
    replace hus := hus.ext hCD7
    replace hbe := hbe.ext hCD7
    replace hbm := hbm.ext hCD7
    refine ⟨rfl, ?_⟩
    refine XD.start haD7 ?_
    refine XD.pure r4 ?_
    refine Y.move (by rfl) ?_
    refine XD.pure r5 ?_
    refine Y.move (by rfl) ?_
    refine XD.imp r6 ?_
    rintro _ ⟨b32, o32, rfl, hc32⟩
    refine XD.stepI ?_
    refine Y.load one39 (by rfl) hc32 ?_
    exact ⟨Chg.refl _ _, rfl⟩
   intro aD7 wD7 haD7 hCD7 hrD7
   obtain ⟨r0, r1, r2, r3, r4, r5, r6, r7, -⟩ := hrD7
   replace hvs := hvs.ext hCD7
   replace hus := hus.ext hCD7
   replace hbe := hbe.ext hCD7
   replace hbm := hbm.ext hCD7
   refine XD.start haD7 ?_
   refine XD.pure r0 ?_
   refine Y.move (by rfl) ?_
   refine XD.pure r1 ?_
   refine Y.move (by rfl) ?_
   refine XD.imp r2 ?_
   rintro _ ⟨b28, o28, rfl, hc28⟩
   refine XD.imp r3 ?_
   rintro _ rfl
   refine XD.pure r4 ?_
   refine Y.move (by rfl) ?_
   refine XD.pure r5 ?_
   refine Y.move (by rfl) ?_
   refine XD.imp r6 ?_
   rintro _ ⟨b32, o32, rfl, hc32⟩
   refine XD.imp r7 ?_
   rintro _ rfl
   refine XD.fin haD7 ?_
   show XL _ _ _ _ (List.cons _ _) _ _
   refine XL.s rfl ?_
   refine Y.call (by rfl) ok75 (equalB_ok _ _ _ _ _ _ _ hbe hbm) ?_
   rintro v34 w34 ⟨rfl, hE34⟩
   refine XL.s rfl ?_
   refine Y.not (by rfl) ?_
   refine XL.nil ?_
   refine QN.next ?_
   refine XC.condF rfl (by rw [decide_eq_true hag.symm]; rfl) ?_
   refine XC.skip ?_
   refine QN.blk ?_
   refine QN.next ?_
   refine XC.region ?_
   show XL _ _ _ _ (List.cons _ _) _ _
   refine XL.s rfl ?_
   refine Y.add (by rfl) (by rfl) (wrap64 (by omega) (by omega)) ?_
   refine XL.s rfl ?_
   refine Y.move (by rfl) ?_
   refine XL.nil ?_
   refine QN.again (i + 1) ?_ ?_ ?_
   ·exact ⟨rfl, rfl, rfl, rfl, rfl, trivial⟩
   ·exact ⟨by omega, (hE.trans hCD7).trans hE34⟩
   ·first | omega | (simp only []; omega) | (simp; omega)
  ·intro hc
   try simp only [decide_eq_true_eq, decide_eq_false_iff_not, Bool.not_eq_true', Bool.not_eq_false', Bool.not_eq_eq_eq_not, Bool.not_true, Bool.not_false, Bool.or_eq_true, Bool.and_eq_true, Bool.or_eq_false_iff] at hc
   refine XC.exit ?_
   refine QN.thenE ?_
   refine QN.thenE ?_
   refine QN.hit ?_
   refine QN.next ?_
   refine XC.seq ?_
   refine XC.region ?_
   show XL _ _ _ _ (List.cons _ _) _ _
   refine XL.s rfl ?_
   refine Y.assign (by rfl) ?_
   refine XL.nil ?_
   refine QN.next ?_
   refine XC.ret ?_
   refine QN.done1 (fn := Tryz.f60) (R := R) (.inl rfl) rfl rfl ?_
   refine hR _ _ ?_
   exact ⟨rfl, (hE3.trans hE14).trans (hN20.1.trans hE)⟩
theorem dec_short (k F : Nat) (S : Nat → Prop) (u : Value) (m : List (List UInt8)) (w : World) (hk : 1 ≤ k) (hF : k + 2 * F ≤ 7) (hr : Rows S w u m) (hm : m.length = k + 2 * F) (ht : (thereP m).length < k) :
  Rets Tryz.prog 34 #[shapeV k F, u] w fun v w' => v = .tuple #[strV [], .int .i64 3] ∧ Ext w w' := by
 refine Rets.enter (args := [shapeV k F, u]) (n := 70) Tryz.func34 rfl rfl rfl ?_
 intro R hR
 show XC _ _ _ _ [(0, shapeV k F), (1, u)] _
 obtain ⟨vs0, hvs0, -⟩ := id hr
 refine XC.seq ?_
 refine XC.region ?_
 show XL _ _ _ _ (List.cons _ _) _ _
 refine XL.s rfl ?_
 refine Y.box (by rfl) ?_
 intro b2 w2 hb2 hz2 hE2
 have hsh : HB w2 b2 (.cells (Value.cells (shapeV (k : Int) (F : Int))) 23 (0, 0)) := hb2
 have hok : okShape (k : Int) (F : Int) := ⟨by omega, by omega, by omega⟩
 have hik : in64 (k : Int) := ⟨by omega, by omega⟩
 have hiF : in64 (F : Int) := ⟨by omega, by omega⟩
 refine XL.s rfl ?_
 refine Y.assign (by rfl) ?_
 refine XL.s rfl ?_
 refine Y.assign (by rfl) ?_
 refine XL.nil ?_
 refine QN.next ?_
 refine XC.seq ?_
 refine XC.seq ?_
 refine XC.region ?_
 show XL _ _ _ _ (List.cons _ _) _ _
 refine XL.s rfl ?_
 refine Y.loadA agg23 (by rfl) rfl (shapeA hsh) ?_
 refine XL.s rfl ?_
 refine Y.call (by rfl) ok26 (cright_ok (k : Int) (F : Int) _ hik hiF) ?_
 rintro v12 w12 ⟨rfl, hE12⟩
 refine XL.s rfl ?_
 refine Y.not (by rfl) ?_
 refine XL.s rfl ?_
 refine Y.move (by rfl) ?_
 refine XL.gt rfl rfl (by rw [decide_eq_true hok]; rfl) rfl ?_
 refine Y.move (by rfl) ?_
 refine XL.gt rfl rfl (by rw [decide_eq_true hok]; rfl) rfl ?_
 refine Y.len Tryz.underlying37 (by rfl) (hvs0.ext (hE2.trans hE12)) ?_
 refine XL.gt rfl rfl (by rw [decide_eq_true hok]; rfl) rfl ?_
 refine Y.loadA agg23 (by rfl) rfl (shapeA (hsh.ext hE12)) ?_
 refine XL.gt rfl rfl (by rw [decide_eq_true hok]; rfl) rfl ?_
 refine Y.call (by rfl) ok9 (cn_ok (k : Int) (F : Int) _ hik hiF hok) ?_
 rintro v18 w18 ⟨rfl, hE18⟩
 refine XL.gt rfl rfl (by rw [decide_eq_true hok]; rfl) rfl ?_
 refine Y.neq (by rfl) (by rfl) ?_
 refine XL.s rfl ?_
 refine Y.pickF (by rfl) (by rw [decide_eq_true hok]; rfl) (by rfl) ?_
 refine XL.nil ?_
 refine QN.next ?_
 refine XC.condF rfl (by simp; omega) ?_
 have hE0 := (hE2.trans hE12).trans hE18
 refine XC.skip ?_
 refine QN.next ?_
 refine XC.seq ?_
 refine XC.region ?_
 show XL _ _ _ _ (List.cons _ _) _ _
 refine XL.s rfl ?_
 refine Y.move (by rfl) ?_
 refine XL.s rfl ?_
 refine Y.call (by rfl) ok55 (there_ok _ _ m _ (hr.ext hE0) (by omega)) ?_
 rintro v22 w22 hN22
 refine XL.s rfl ?_
 refine Y.assign (by rfl) ?_
 refine XL.nil ?_
 refine QN.next ?_
 refine XC.seq ?_
 refine XC.seq ?_
 refine XC.region ?_
 show XL _ _ _ _ (List.cons _ _) _ _
 refine XL.s rfl ?_
 refine Y.move (by rfl) ?_
 refine XL.s rfl ?_
 refine Y.len Tryz.underlying49 (by rfl) hN22.row ?_
 refine XL.s rfl ?_
 refine Y.fieldAddr fld23_0 (by rfl) ?_
 refine XL.s rfl ?_
 refine Y.load one3 (by rfl) (shape0 (((hsh.ext hE12).ext hE18).ext hN22.1)) ?_
 refine XL.s rfl ?_
 refine Y.lss (by rfl) (by rfl) ?_
 refine XL.nil ?_
 refine QN.next ?_
 refine XC.condT rfl ya ?_
 refine XC.seq ?_
 refine XC.region ?_
 show XL _ _ _ _ (List.cons _ _) _ _
 refine XL.s rfl ?_
 refine Y.assign (by rfl) ?_
 refine XL.s rfl ?_
 refine Y.assign (by rfl) ?_
 refine XL.nil ?_
 refine QN.next ?_
 refine XC.ret ?_
 refine QN.doneN (fn := Tryz.f34) (R := R) (.inl rfl) rfl rfl ?_
 refine hR _ _ ?_
 exact ⟨rfl, hE0.trans hN22.1⟩
theorem dec_ok (k F : Nat) (S : Nat → Prop) (u : Value) (m : List (List UInt8)) (w : World) (hk : 1 ≤ k) (hF : k + 2 * F ≤ 7) (hr : Rows S w u m) (hm : m.length = k + 2 * F) (l : List UInt8) (hl : l.length ≤ 512) (ht : k ≤ (thereP m).length) (ha : ∀ i ∈ thereP m, m.getD i [] = (encP k (k + 2 * F) l).getD i []) (B : List (List UInt8)) (hi : invertP (rowsP (codingP k (k + 2 * F)) ((thereP m).take k)) = some B) (hBl : B.length = k) (hBk : ∀ r ∈ B, r.length = k) (hB : matMul B (rowsP m ((thereP m).take k)) = piecesP k l) :
  Rets Tryz.prog 34 #[shapeV k F, u] w fun v w' => v = .tuple #[strV l, .int .i64 0] ∧ Ext w w' := by
 refine Rets.enter (args := [shapeV k F, u]) (n := 70) Tryz.func34 rfl rfl rfl ?_
 intro R hR
 show XC _ _ _ _ [(0, shapeV k F), (1, u)] _
 obtain ⟨vs0, hvs0, -⟩ := id hr
 refine XC.seq ?_
 refine XC.region ?_
 show XL _ _ _ _ (List.cons _ _) _ _
 refine XL.s rfl ?_
 refine Y.box (by rfl) ?_
 intro b2 w2 hb2 hz2 hE2
 have hsh : HB w2 b2 (.cells (Value.cells (shapeV (k : Int) (F : Int))) 23 (0, 0)) := hb2
 have hok : okShape (k : Int) (F : Int) := ⟨by omega, by omega, by omega⟩
 have hik : in64 (k : Int) := ⟨by omega, by omega⟩
 have hiF : in64 (F : Int) := ⟨by omega, by omega⟩
 refine XL.s rfl ?_
 refine Y.assign (by rfl) ?_
 refine XL.s rfl ?_
 refine Y.assign (by rfl) ?_
 refine XL.nil ?_
 refine QN.next ?_
 refine XC.seq ?_
 refine XC.seq ?_
 refine XC.region ?_
 show XL _ _ _ _ (List.cons _ _) _ _
 refine XL.s rfl ?_
 refine Y.loadA agg23 (by rfl) rfl (shapeA hsh) ?_
 refine XL.s rfl ?_
 refine Y.call (by rfl) ok26 (cright_ok (k : Int) (F : Int) _ hik hiF) ?_
 rintro v12 w12 ⟨rfl, hE12⟩
 refine XL.s rfl ?_
 refine Y.not (by rfl) ?_
 refine XL.s rfl ?_
 refine Y.move (by rfl) ?_
 refine XL.gt rfl rfl (by rw [decide_eq_true hok]; rfl) rfl ?_
 refine Y.move (by rfl) ?_
 refine XL.gt rfl rfl (by rw [decide_eq_true hok]; rfl) rfl ?_
 refine Y.len Tryz.underlying37 (by rfl) (hvs0.ext (hE2.trans hE12)) ?_
 refine XL.gt rfl rfl (by rw [decide_eq_true hok]; rfl) rfl ?_
 refine Y.loadA agg23 (by rfl) rfl (shapeA (hsh.ext hE12)) ?_
 refine XL.gt rfl rfl (by rw [decide_eq_true hok]; rfl) rfl ?_
 refine Y.call (by rfl) ok9 (cn_ok (k : Int) (F : Int) _ hik hiF hok) ?_
 rintro v18 w18 ⟨rfl, hE18⟩
 refine XL.gt rfl rfl (by rw [decide_eq_true hok]; rfl) rfl ?_
 refine Y.neq (by rfl) (by rfl) ?_
 refine XL.s rfl ?_
 refine Y.pickF (by rfl) (by rw [decide_eq_true hok]; rfl) (by rfl) ?_
 refine XL.nil ?_
 refine QN.next ?_
 refine XC.condF rfl (by simp; omega) ?_
 have hE0 := (hE2.trans hE12).trans hE18
 refine XC.skip ?_
 refine QN.next ?_
 refine XC.seq ?_
 refine XC.region ?_
 show XL _ _ _ _ (List.cons _ _) _ _
 refine XL.s rfl ?_
 refine Y.move (by rfl) ?_
 refine XL.s rfl ?_
 refine Y.call (by rfl) ok55 (there_ok _ _ m _ (hr.ext hE0) (by omega)) ?_
 rintro v22 w22 hN22
 refine XL.s rfl ?_
 refine Y.assign (by rfl) ?_
 refine XL.nil ?_
 refine QN.next ?_
 refine XC.seq ?_
 refine XC.seq ?_
 refine XC.region ?_
 show XL _ _ _ _ (List.cons _ _) _ _
 refine XL.s rfl ?_
 refine Y.move (by rfl) ?_
 refine XL.s rfl ?_
 refine Y.len Tryz.underlying49 (by rfl) hN22.row ?_
 refine XL.s rfl ?_
 refine Y.fieldAddr fld23_0 (by rfl) ?_
 refine XL.s rfl ?_
 refine Y.load one3 (by rfl) (shape0 (((hsh.ext hE12).ext hE18).ext hN22.1)) ?_
 refine XL.s rfl ?_
 refine Y.lss (by rfl) (by rfl) ?_
 refine XL.nil ?_
 refine QN.next ?_
 refine XC.condF rfl ya ?_
 have hT := hN22.row
 have hel : ∀ r ∈ encP k (k + 2 * F) l, r.length = pieceN k l := by intro r hr; simp only [encP, matMul, List.mem_map] at hr; obtain ⟨q, _, rfl⟩ := hr; rw [headD_len (piecesP k l) (pieceN k l) (piecesP_all l hk) (by rw [piecesP_length]; omega)]; exact rowMul_length _ _ _ (piecesP_all l hk)
 have hen : (encP k (k + 2 * F) l).length = k + 2 * F := by rw [encP, matMul_length, codingP_length]
 have hpl := padB_le l hk
 have hql := pieceN_le l hk
 have hqp := pieceN_pos l hk
 have hrow : ∀ i ∈ thereP m, (m.getD i []).length = pieceN k l := fun i hi => by rw [ha i hi]; have hlt := (thereP_mem.1 hi).1; exact hel _ (by rw [List.getD_eq_getElem?_getD, List.getElem?_eq_getElem (by omega)]; exact List.getElem_mem _)
 have htl : ((thereP m).take k).length = k := by rw [List.length_take]; omega
 refine XC.skip ?_
 refine QN.next ?_
 refine XC.seq ?_
 refine XC.region ?_
 show XL _ _ _ _ (List.cons _ _) _ _
 refine XL.s rfl ?_
 refine Y.move (by rfl) ?_
 refine XL.s rfl ?_
 refine Y.move (by rfl) ?_
 refine XL.s rfl ?_
 refine Y.fieldAddr fld23_0 (by rfl) ?_
 refine XL.s rfl ?_
 refine Y.load one3 (by rfl) (shape0 (((hsh.ext hE12).ext hE18).ext hN22.1)) ?_
 refine XL.s rfl ?_
 refine Y.sliceTake st49 (by rfl) hT (by rfl) (by omega) ?_
 intro v32 hr32
 have hr32 : Is (Since w18) w22 v32 ((thereP m).take k) := hr32
 refine XL.s rfl ?_
 refine Y.call (by rfl) ok56 (rows_ok _ _ _ _ m ((thereP m).take k) _ ((hr.ext hE0).ext hN22.1) hr32 (fun i hi => by have h := hrow i (List.mem_of_mem_take hi); omega) (fun i hi => (thereP_mem.1 (List.mem_of_mem_take hi)).1) (by omega)) ?_
 rintro v33 w33 ⟨hM33, hE33⟩
 have hfl : (rowsP m ((thereP m).take k)).length = k := by rw [rowsP, List.length_map, htl]
 have hfr : ∀ r ∈ rowsP m ((thereP m).take k), r.length = pieceN k l := by intro r hr; simp only [rowsP, List.mem_map] at hr; obtain ⟨i, hi, rfl⟩ := hr; exact hrow i (List.mem_of_mem_take hi)
 refine XL.s rfl ?_
 refine Y.assign (by rfl) ?_
 refine XL.nil ?_
 refine QN.next ?_
 refine XC.seq ?_
 refine XC.seq ?_
 refine XC.region ?_
 show XL _ _ _ _ (List.cons _ _) _ _
 refine XL.s rfl ?_
 refine Y.move (by rfl) ?_
 refine XL.s rfl ?_
 refine Y.call (by rfl) ok57 (right_ok _ _ (pieceN k l) _ _ hM33.rows (by omega) hqp hfr) ?_
 rintro v35 w35 ⟨rfl, hE35⟩
 refine XL.s rfl ?_
 refine Y.not (by rfl) ?_
 refine XL.nil ?_
 refine QN.next ?_
 refine XC.condF rfl rfl ?_
 have hsh35 := ((((hsh.ext hE12).ext hE18).ext hN22.1).ext hE33).ext hE35
 have hT35 := (hT.ext hE33).ext hE35
 have hcl : (codingP k (k + 2 * F)).length = k + 2 * F := codingP_length _ _
 have hck : ∀ i, i < k + 2 * F → ((codingP k (k + 2 * F)).getD i []).length = k := fun i hi => by rw [List.getD_eq_getElem?_getD, List.getElem?_eq_getElem (by omega)]; simp [codingP, codingR_length]
 have hlt : ∀ i ∈ (thereP m).take k, i < k + 2 * F := fun i hi => by have := (thereP_mem.1 (List.mem_of_mem_take hi)).1; omega
 have hsq : Sq k (rowsP (codingP k (k + 2 * F)) ((thereP m).take k)) := ⟨by rw [rowsP, List.length_map, htl], by intro r hr; simp only [rowsP, List.mem_map] at hr; obtain ⟨i, hi, rfl⟩ := hr; exact hck i (hlt i hi)⟩
 refine XC.skip ?_
 refine QN.next ?_
 refine XC.seq ?_
 apply XC.drop [8, 11, 12, 13, 14, 15, 16, 17, 18, 19, 20, 21, 22, 23, 24, 25, 26, 27, 28, 29, 30, 31, 32, 33, 34, 35, 36, 37, 38, 39, 40, 41, 42, 43, 44, 45, 46, 47, 48, 49, 50, 51, 52, 53, 54, 55, 56, 57, 58, 59, 60, 61, 62, 63, 64, 65, 66, 67, 68, 69]
 ·repeat (first | apply DropTo.nil | apply DropTo.skip rfl | apply DropTo.keep rfl)
 refine XC.drawL 15 [[], [0], [], [2], [0, 1, 2, 3], [], [], [6], [5, 6, 7], [0, 1, 2, 3, 4, 5, 6, 7, 8], [0, 1, 2, 3, 4, 5, 6, 7, 8, 9], [0, 1, 2, 3, 4, 5, 6, 7, 8, 9, 10], [0, 1, 2, 3, 4, 5, 6, 7, 8, 9, 10, 11], [0, 1, 2, 3, 4, 5, 6, 7, 8, 9, 10, 11], [0, 1, 2, 3, 4, 5, 6, 7, 8, 9, 10, 11, 12], [0, 1, 2, 3, 4, 5, 6, 7, 8, 9, 10, 11, 12, 13, 14]] _ (Chg NoB) (Steady.chg NoB) [] [(1, (fun v _ => v = .int .i64 (k : Nat))), (2, (fun v _ => v = shapeV k F)), (3, (fun v _ => v = .int .i64 ((k + 2 * F : Nat) : Int))), (4, (fun v w' => Rows AnyB w' v (codingP k (k + 2 * F)))), (7, (fun v _ => v = .int .i64 (k : Nat))), (8, (fun v w' => Is (Since w18) w' v ((thereP m).take k))), (9, (fun v w' => Rows AnyB w' v (rowsP (codingP k (k + 2 * F)) ((thereP m).take k)))), (10, (fun v w' => ∃ b, v = .tuple #[b, .bool true] ∧ Rows AnyB w' b B))] [0, 1, 2, 3, 4, 5, 6, 7, 8, 9, 10, 11, 12, 13, 14] fol (by kernel_rfl) (by rfl) (by rfl) ⟨(fun _ _ _ _ h => h), (fun _ _ _ _ h => h), (fun _ _ _ _ h => h), (fun v w1 w2 hE h => h.ext hE), (fun _ _ _ _ h => h), (fun v w1 w2 hE h => h.ext hE), (fun v w1 w2 hE h => h.ext hE), (fun v w1 w2 hE ⟨b, h1, h2⟩ => ⟨b, h1, h2.ext hE⟩), trivial⟩ ⟨?_, ?_, ?_, ?_, ?_, ?_, ?_, ?_, ?_, ?_, ?_, ?_, ?_, ?_, ?_, trivial⟩ ?_
 ·intro aD9 wD9 haD9 hCD9 hrD9
  refine ⟨rfl, ?_⟩
  refine XD.start haD9 ?_
  apply XD.stepP rfl
  intro w3
  refine Y.fieldAddr fld23_0 (by rfl) ?_
  exact ⟨rfl, rfl⟩
 ·intro aD9 wD9 haD9 hCD9 hrD9
  obtain ⟨r0, -⟩ := hrD9
  replace hsh35 := hsh35.ext hCD9
  replace hT35 := hT35.ext hCD9
  refine ⟨rfl, ?_⟩
  refine XD.start haD9 ?_
  refine XD.pure r0 ?_
  refine Y.fieldAddr fld23_0 (by rfl) ?_
  refine XD.stepI ?_
  refine Y.load one3 (by rfl) (shape0 hsh35) ?_
  exact ⟨Chg.refl _ _, rfl⟩
 ·intro aD9 wD9 haD9 hCD9 hrD9
  replace hsh35 := hsh35.ext hCD9
  replace hT35 := hT35.ext hCD9
  refine ⟨rfl, ?_⟩
  refine XD.start haD9 ?_
  refine XD.stepI ?_
  refine Y.loadA agg23 (by rfl) rfl (shapeA hsh35) ?_
  exact ⟨Chg.refl _ _, rfl⟩
 ·intro aD9 wD9 haD9 hCD9 hrD9
  obtain ⟨r2, -⟩ := hrD9
  replace hsh35 := hsh35.ext hCD9
  replace hT35 := hT35.ext hCD9
  refine ⟨rfl, ?_⟩
  refine XD.start haD9 ?_
  refine XD.imp r2 ?_
  rintro _ rfl
  refine XD.stepI ?_
  refine Y.call (by rfl) ok9 (cn_ok (k : Int) (F : Int) _ hik hiF hok) ?_
  rintro v41 w41 ⟨rfl, hE41⟩
  exact ⟨hE41, congrArg _ (by omega)⟩
 ·intro aD9 wD9 haD9 hCD9 hrD9
  obtain ⟨r0, r1, r2, r3, -⟩ := hrD9
  replace hsh35 := hsh35.ext hCD9
  replace hT35 := hT35.ext hCD9
  refine ⟨rfl, ?_⟩
  refine XD.start haD9 ?_
  refine XD.pure r0 ?_
  refine Y.fieldAddr fld23_0 (by rfl) ?_
  refine XD.imp r1 ?_
  rintro _ rfl
  refine XD.imp r2 ?_
  rintro _ rfl
  refine XD.imp r3 ?_
  rintro _ rfl
  refine XD.stepI ?_
  refine Y.call (by rfl) ok49 (coding_ok k (k + 2 * F) _ (by omega) (by omega) (by omega)) ?_
  rintro v42 w42 ⟨hM42, hE42⟩
  exact ⟨hE42, hM42.rows.any⟩
 ·intro aD9 wD9 haD9 hCD9 hrD9
  refine ⟨rfl, ?_⟩
  refine XD.start haD9 ?_
  apply XD.stepP rfl
  intro w3
  refine Y.move (by rfl) ?_
  exact ⟨rfl, rfl⟩
 ·intro aD9 wD9 haD9 hCD9 hrD9
  refine ⟨rfl, ?_⟩
  refine XD.start haD9 ?_
  apply XD.stepP rfl
  intro w3
  refine Y.fieldAddr fld23_0 (by rfl) ?_
  exact ⟨rfl, rfl⟩
 ·intro aD9 wD9 haD9 hCD9 hrD9
  obtain ⟨r6, -⟩ := hrD9
  replace hsh35 := hsh35.ext hCD9
  replace hT35 := hT35.ext hCD9
  refine ⟨rfl, ?_⟩
  refine XD.start haD9 ?_
  refine XD.pure r6 ?_
  refine Y.fieldAddr fld23_0 (by rfl) ?_
  refine XD.stepI ?_
  refine Y.load one3 (by rfl) (shape0 hsh35) ?_
  exact ⟨Chg.refl _ _, rfl⟩
 ·intro aD9 wD9 haD9 hCD9 hrD9
  obtain ⟨r5, r6, r7, -⟩ := hrD9
  replace hsh35 := hsh35.ext hCD9
  replace hT35 := hT35.ext hCD9
  refine ⟨rfl, ?_⟩
  refine XD.start haD9 ?_
  refine XD.pure r5 ?_
  refine Y.move (by rfl) ?_
  refine XD.pure r6 ?_
  refine Y.fieldAddr fld23_0 (by rfl) ?_
  refine XD.imp r7 ?_
  rintro _ rfl
  refine XD.stepI ?_
  refine Y.sliceTake st49 (by rfl) hT35 (by rfl) (by omega) ?_
  intro v46 hr46; exact ⟨Chg.refl _ _, hr46⟩
 ·intro aD9 wD9 haD9 hCD9 hrD9
  obtain ⟨r0, r1, r2, r3, r4, r5, r6, r7, r8, -⟩ := hrD9
  replace hsh35 := hsh35.ext hCD9
  replace hT35 := hT35.ext hCD9
  refine ⟨rfl, ?_⟩
  refine XD.start haD9 ?_
  refine XD.pure r0 ?_
  refine Y.fieldAddr fld23_0 (by rfl) ?_
  refine XD.imp r1 ?_
  rintro _ rfl
  refine XD.imp r2 ?_
  rintro _ rfl
  refine XD.imp r3 ?_
  rintro _ rfl
  refine XD.imp r4 ?_
  rintro v42 hM42
  refine XD.pure r5 ?_
  refine Y.move (by rfl) ?_
  refine XD.pure r6 ?_
  refine Y.fieldAddr fld23_0 (by rfl) ?_
  refine XD.imp r7 ?_
  rintro _ rfl
  refine XD.imp r8 ?_
  rintro v46 hI46
  refine XD.stepI ?_
  refine Y.call (by rfl) ok56 (rows_ok _ _ _ _ (codingP k (k + 2 * F)) ((thereP m).take k) _ hM42 hI46 (fun i hi => by rw [hck i (hlt i hi)]; omega) (fun i hi => by rw [hcl]; exact hlt i hi) (by omega)) ?_
  rintro v47 w47 ⟨hM47, hE47⟩
  exact ⟨hE47, hM47.rows.any⟩
 ·intro aD9 wD9 haD9 hCD9 hrD9
  obtain ⟨r0, r1, r2, r3, r4, r5, r6, r7, r8, r9, -⟩ := hrD9
  replace hsh35 := hsh35.ext hCD9
  replace hT35 := hT35.ext hCD9
  refine ⟨rfl, ?_⟩
  refine XD.start haD9 ?_
  refine XD.pure r0 ?_
  refine Y.fieldAddr fld23_0 (by rfl) ?_
  refine XD.imp r1 ?_
  rintro _ rfl
  refine XD.imp r2 ?_
  rintro _ rfl
  refine XD.imp r3 ?_
  rintro _ rfl
  refine XD.imp r4 ?_
  rintro v42 hM42
  refine XD.pure r5 ?_
  refine Y.move (by rfl) ?_
  refine XD.pure r6 ?_
  refine Y.fieldAddr fld23_0 (by rfl) ?_
  refine XD.imp r7 ?_
  rintro _ rfl
  refine XD.imp r8 ?_
  rintro v46 hI46
  refine XD.imp r9 ?_
  rintro v47 hM47
  refine XD.stepI ?_
  refine Y.call (by rfl) ok58 (invert_ok _ _ _ B k _ hM47 hsq (by omega) (by omega) hi) ?_
  rintro v48 w48 ⟨b48, rfl, hM48, hE48⟩
  exact ⟨hE48, b48, rfl, hM48.rows.any⟩
 ·intro aD9 wD9 haD9 hCD9 hrD9
  obtain ⟨r0, r1, r2, r3, r4, r5, r6, r7, r8, r9, r10, -⟩ := hrD9
  replace hsh35 := hsh35.ext hCD9
  replace hT35 := hT35.ext hCD9
  refine ⟨rfl, ?_⟩
  refine XD.start haD9 ?_
  refine XD.pure r0 ?_
  refine Y.fieldAddr fld23_0 (by rfl) ?_
  refine XD.imp r1 ?_
  rintro _ rfl
  refine XD.imp r2 ?_
  rintro _ rfl
  refine XD.imp r3 ?_
  rintro _ rfl
  refine XD.imp r4 ?_
  rintro v42 hM42
  refine XD.pure r5 ?_
  refine Y.move (by rfl) ?_
  refine XD.pure r6 ?_
  refine Y.fieldAddr fld23_0 (by rfl) ?_
  refine XD.imp r7 ?_
  rintro _ rfl
  refine XD.imp r8 ?_
  rintro v46 hI46
  refine XD.imp r9 ?_
  rintro v47 hM47
  refine XD.imp r10 ?_
  rintro _ ⟨b48, rfl, hM48⟩
  apply XD.stepP rfl
  intro w3
  refine Y.move (by rfl) ?_
  exact ⟨rfl, rfl⟩
 ·intro aD9 wD9 haD9 hCD9 hrD9
  obtain ⟨r0, r1, r2, r3, r4, r5, r6, r7, r8, r9, r10, r11, -⟩ := hrD9
  replace hsh35 := hsh35.ext hCD9
  replace hT35 := hT35.ext hCD9
  refine ⟨rfl, ?_⟩
  refine XD.start haD9 ?_
  refine XD.pure r0 ?_
  refine Y.fieldAddr fld23_0 (by rfl) ?_
  refine XD.imp r1 ?_
  rintro _ rfl
  refine XD.imp r2 ?_
  rintro _ rfl
  refine XD.imp r3 ?_
  rintro _ rfl
  refine XD.imp r4 ?_
  rintro v42 hM42
  refine XD.pure r5 ?_
  refine Y.move (by rfl) ?_
  refine XD.pure r6 ?_
  refine Y.fieldAddr fld23_0 (by rfl) ?_
  refine XD.imp r7 ?_
  rintro _ rfl
  refine XD.imp r8 ?_
  rintro v46 hI46
  refine XD.imp r9 ?_
  rintro v47 hM47
  refine XD.imp r10 ?_
  rintro _ ⟨b48, rfl, hM48⟩
  refine XD.pure r11 ?_
  refine Y.move (by rfl) ?_
  apply XD.stepP rfl
  intro w3
  refine Y.extract (by rfl) (by rfl) ?_
  exact ⟨rfl, rfl⟩
 ·intro aD9 wD9 haD9 hCD9 hrD9
  obtain ⟨r0, r1, r2, r3, r4, r5, r6, r7, r8, r9, r10, r11, -⟩ := hrD9
  replace hsh35 := hsh35.ext hCD9
  replace hT35 := hT35.ext hCD9
  refine ⟨rfl, ?_⟩
  refine XD.start haD9 ?_
  refine XD.pure r0 ?_
  refine Y.fieldAddr fld23_0 (by rfl) ?_
  refine XD.imp r1 ?_
  rintro _ rfl
  refine XD.imp r2 ?_
  rintro _ rfl
  refine XD.imp r3 ?_
  rintro _ rfl
  refine XD.imp r4 ?_
  rintro v42 hM42
  refine XD.pure r5 ?_
  refine Y.move (by rfl) ?_
  refine XD.pure r6 ?_
  refine Y.fieldAddr fld23_0 (by rfl) ?_
  refine XD.imp r7 ?_
  rintro _ rfl
  refine XD.imp r8 ?_
  rintro v46 hI46
  refine XD.imp r9 ?_
  rintro v47 hM47
  refine XD.imp r10 ?_
  rintro _ ⟨b48, rfl, hM48⟩
  refine XD.pure r11 ?_
  refine Y.move (by rfl) ?_
  apply XD.stepP rfl
  intro w3
  refine Y.extract (by rfl) (by rfl) ?_
  exact ⟨rfl, rfl⟩
 ·intro aD9 wD9 haD9 hCD9 hrD9
  obtain ⟨r0, r1, r2, r3, r4, r5, r6, r7, r8, r9, r10, r11, r12, -⟩ := hrD9
  replace hsh35 := hsh35.ext hCD9
  replace hT35 := hT35.ext hCD9
  refine ⟨rfl, ?_⟩
  refine XD.start haD9 ?_
  refine XD.pure r0 ?_
  refine Y.fieldAddr fld23_0 (by rfl) ?_
  refine XD.imp r1 ?_
  rintro _ rfl
  refine XD.imp r2 ?_
  rintro _ rfl
  refine XD.imp r3 ?_
  rintro _ rfl
  refine XD.imp r4 ?_
  rintro v42 hM42
  refine XD.pure r5 ?_
  refine Y.move (by rfl) ?_
  refine XD.pure r6 ?_
  refine Y.fieldAddr fld23_0 (by rfl) ?_
  refine XD.imp r7 ?_
  rintro _ rfl
  refine XD.imp r8 ?_
  rintro v46 hI46
  refine XD.imp r9 ?_
  rintro v47 hM47
  refine XD.imp r10 ?_
  rintro _ ⟨b48, rfl, hM48⟩
  refine XD.pure r11 ?_
  refine Y.move (by rfl) ?_
  refine XD.pure r12 ?_
  refine Y.extract (by rfl) (by rfl) ?_
  apply XD.stepP rfl
  intro w3
  refine Y.assign (by rfl) ?_
  exact ⟨rfl, rfl⟩
 intro aD9 wD9 haD9 hCD9 hrD9
 obtain ⟨r0, r1, r2, r3, r4, r5, r6, r7, r8, r9, r10, r11, r12, r13, r14, -⟩ := hrD9
 replace hsh35 := hsh35.ext hCD9
 replace hT35 := hT35.ext hCD9
 refine XD.start haD9 ?_
 refine XD.pure r0 ?_
 refine Y.fieldAddr fld23_0 (by rfl) ?_
 refine XD.imp r1 ?_
 rintro _ rfl
 refine XD.imp r2 ?_
 rintro _ rfl
 refine XD.imp r3 ?_
 rintro _ rfl
 refine XD.imp r4 ?_
 rintro v42 hM42
 refine XD.pure r5 ?_
 refine Y.move (by rfl) ?_
 refine XD.pure r6 ?_
 refine Y.fieldAddr fld23_0 (by rfl) ?_
 refine XD.imp r7 ?_
 rintro _ rfl
 refine XD.imp r8 ?_
 rintro v46 hI46
 refine XD.imp r9 ?_
 rintro v47 hM47
 refine XD.imp r10 ?_
 rintro _ ⟨b48, rfl, hM48⟩
 refine XD.pure r11 ?_
 refine Y.move (by rfl) ?_
 refine XD.pure r12 ?_
 refine Y.extract (by rfl) (by rfl) ?_
 refine XD.pure r13 ?_
 refine Y.extract (by rfl) (by rfl) ?_
 refine XD.pure r14 ?_
 refine Y.assign (by rfl) ?_
 refine XD.fin haD9 ?_
 show XL _ _ _ _ (List.cons _ _) _ _
 refine XL.s rfl ?_
 refine Y.assign (by rfl) ?_
 refine XL.nil ?_
 refine QN.next ?_
 refine XC.seq ?_
 refine XC.seq ?_
 refine XC.region ?_
 show XL _ _ _ _ (List.cons _ _) _ _
 refine XL.s rfl ?_
 refine Y.move (by rfl) ?_
 refine XL.s rfl ?_
 refine Y.not (by rfl) ?_
 refine XL.nil ?_
 refine QN.next ?_
 refine XC.condF rfl rfl ?_
 have hM33' := (hM33.rows.ext hE35).ext hCD9
 refine XC.skip ?_
 refine QN.next ?_
 refine XC.seq ?_
 refine XC.region ?_
 show XL _ _ _ _ (List.cons _ _) _ _
 refine XL.s rfl ?_
 refine Y.move (by rfl) ?_
 refine XL.s rfl ?_
 refine Y.move (by rfl) ?_
 refine XL.s rfl ?_
 refine Y.call (by rfl) ok48 (mmul_ok _ _ _ _ B (rowsP m ((thereP m).take k)) (pieceN k l) _ hM48 hM33' (fun r hr => by rw [hBk r hr, hfl]) hfr hqp (by omega) (by omega) (by omega) (by omega)) ?_
 rintro v56 w56 ⟨hM56, hE56⟩
 rw [hB] at hM56
 refine XL.s rfl ?_
 refine Y.call (by rfl) ok59 (value_ok _ _ k (piecesP k l) l _ hM56.rows (piecesP_flatten l hk) hk (by omega) hl) ?_
 rintro v57 w57 ⟨rfl, hE57⟩
 have hEE := (((hN22.1.trans hE33).trans hE35).trans hCD9).trans (hE56.trans hE57)
 refine XL.s rfl ?_
 refine Y.move (by rfl) ?_
 refine XL.s rfl ?_
 refine Y.extract (by rfl) (by rfl) ?_
 refine XL.s rfl ?_
 refine Y.extract (by rfl) (by rfl) ?_
 refine XL.s rfl ?_
 refine Y.assign (by rfl) ?_
 refine XL.s rfl ?_
 refine Y.assign (by rfl) ?_
 refine XL.nil ?_
 refine QN.next ?_
 refine XC.seq ?_
 refine XC.seq ?_
 refine XC.region ?_
 show XL _ _ _ _ (List.cons _ _) _ _
 refine XL.s rfl ?_
 refine Y.move (by rfl) ?_
 refine XL.s rfl ?_
 refine Y.not (by rfl) ?_
 refine XL.s rfl ?_
 refine Y.move (by rfl) ?_
 refine XL.gt rfl rfl rfl rfl ?_
 refine Y.loadA agg23 (by rfl) rfl (shapeA (((hsh.ext hE12).ext hE18).ext hEE)) ?_
 refine XL.gt rfl rfl rfl rfl ?_
 refine Y.move (by rfl) ?_
 refine XL.gt rfl rfl rfl rfl ?_
 refine Y.move (by rfl) ?_
 refine XL.gt rfl rfl rfl rfl ?_
 refine Y.call (by rfl) ok60 (agrees_ok k F _ _ l m _ hk hF hl ((hr.ext hE0).ext hEE) hm ha) ?_
 rintro v66 w66 ⟨rfl, hE66⟩
 refine XL.gt rfl rfl rfl rfl ?_
 refine Y.not (by rfl) ?_
 refine XL.s rfl ?_
 refine Y.pickF (by rfl) rfl (by rfl) ?_
 refine XL.nil ?_
 refine QN.next ?_
 refine XC.condF rfl rfl ?_
 refine XC.skip ?_
 refine QN.next ?_
 refine XC.seq ?_
 refine XC.region ?_
 show XL _ _ _ _ (List.cons _ _) _ _
 refine XL.s rfl ?_
 refine Y.move (by rfl) ?_
 refine XL.s rfl ?_
 refine Y.assign (by rfl) ?_
 refine XL.s rfl ?_
 refine Y.assign (by rfl) ?_
 refine XL.nil ?_
 refine QN.next ?_
 refine XC.ret ?_
 refine QN.doneN (fn := Tryz.f34) (R := R) (.inl rfl) rfl rfl ?_
 refine hR _ _ ?_
 exact ⟨rfl, (hE0.trans hEE).trans hE66⟩
end Go.Proofs.YtchammpamigonaaGreatX
end
section
set_option linter.unusedVariables false
set_option linter.unusedSimpArgs false
set_option maxRecDepth 10000
set_option maxHeartbeats 4000000
namespace Go.Proofs.YtchammpamigonaaGreatX
open Go Go.RowKit Go.Proofs
theorem write_ok (F : Nat → Prop) (dv : Value) (most : Nat) (m : Fm) (U c : Nat) (k : List UInt8) (S : Nat → Prop) (u : Value) (l : List UInt8) (w : World) (hD : DiskA 79 82 5 F w dv most m U c) (hr : Bs S w u l) (hm : most ≤ 1000000) (hsd : ∀ b, S b → ¬ F b) (hU : U + l.length ≤ most) (h1 : 1 ≤ k.length ∧ k.length ≤ 24) (ht : m [116, 46] = none) (hne : k ≠ [116, 46]) :
  Rets Tryz.prog 31 #[dv, strV k, u] w fun v w' => v = .int .i64 0 ∧ Chg F w w' ∧ DiskA 79 82 5 (Grow F w w') w' dv most (upd m k (some (l, l.length))) (U + l.length) (c + 1) := by
 refine Rets.enter (args := [dv, strV k, u]) (n := 19) Tryz.func31 rfl rfl rfl ?_
 intro R hR
 show XC _ _ _ _ [(0, dv), (1, strV k), (2, u)] _
 refine XC.seq ?_
 refine XC.region ?_
 show XL _ _ _ _ (List.cons _ _) _ _
 refine XL.s rfl ?_
 refine Y.assign (by rfl) ?_
 refine XL.nil ?_
 refine QN.next ?_
 refine XC.seq ?_
 refine XC.seq ?_
 refine XC.region ?_
 show XL _ _ _ _ (List.cons _ _) _ _
 refine XL.s rfl ?_
 refine Y.move (by rfl) ?_
 refine XL.s rfl ?_
 refine Y.move (by rfl) ?_
 refine XL.s rfl ?_
 refine Y.call (by rfl) ok38 (appA_new _ _ _ _ _ _ [116, 46] _ hD _ _ _ hr hsd hU hm (by decide) ht) ?_
 rintro v10 w10 ⟨rfl, hC10, hD10⟩
 refine XL.s rfl ?_
 refine Y.assign (by rfl) ?_
 refine XL.nil ?_
 refine QN.next ?_
 refine XC.seq ?_
 refine XC.region ?_
 show XL _ _ _ _ (List.cons _ _) _ _
 refine XL.s rfl ?_
 refine Y.move (by rfl) ?_
 refine XL.s rfl ?_
 refine Y.neq (by rfl) (by rfl) ?_
 refine XL.nil ?_
 refine QN.next ?_
 refine XC.condF rfl rfl ?_
 refine XC.skip ?_
 refine QN.next ?_
 refine XC.seq ?_
 refine XC.region ?_
 show XL _ _ _ _ (List.cons _ _) _ _
 refine XL.s rfl ?_
 refine Y.move (by rfl) ?_
 refine XL.s rfl ?_
 refine Y.call (by rfl) ok39 (syncA _ _ _ _ _ _ [116, 46] _ hD10 l 0 (upd_same _ _ _)) ?_
 rintro v15 w15 ⟨rfl, hC15, hD15⟩
 refine XL.nil ?_
 refine QN.next ?_
 refine XC.seq ?_
 refine XC.region ?_
 show XL _ _ _ _ (List.cons _ _) _ _
 refine XL.s rfl ?_
 refine Y.move (by rfl) ?_
 refine XL.s rfl ?_
 refine Y.move (by rfl) ?_
 refine XL.s rfl ?_
 refine Y.call (by rfl) ok46 (renA _ _ _ _ _ _ [116, 46] _ hD15 k (by decide) h1 l l.length (upd_same _ _ _)) ?_
 rintro v18 w18 ⟨rfl, hC18, hD18⟩
 have hz1 := hC10.size
 have hz2 := hC15.size
 have hz3 := hC18.size
 have hm' : upd (upd (upd (upd m [116, 46] (some (l, 0))) [116, 46] (some (l, l.length))) [116, 46] none) k (some (l, l.length)) = upd m k (some (l, l.length)) := by
  funext x; simp only [upd]; by_cases e : x = k; (simp [e]); (by_cases e2 : x = [116, 46]; (subst e2; simp [e, ht]); simp [e, e2])
 refine XL.s rfl ?_
 refine Y.assign (by rfl) ?_
 refine XL.nil ?_
 refine QN.next ?_
 refine XC.ret ?_
 refine QN.done1 (fn := Tryz.f31) (R := R) (.inl rfl) rfl rfl ?_
 refine hR _ _ ?_
 exact ⟨rfl, (hC10.trans hC15 (S'' := F) (fun _ h => h) (fun x hx h => by rcases h with h | h; exact h; (have := h.1; omega))).trans hC18 (fun _ h => h) (fun x hx h => by rcases h with h | h; exact h; (have := h.1; omega)), (hD18.cast hm').mono fun b hb => by rcases hb with h | h; exact .inl h; exact .inr ⟨h.1, by have := h.2; omega⟩⟩
theorem mend_yes (F : Nat → Prop) (dv : Value) (most : Nat) (m : Fm) (U c : Nat) (nm : List UInt8) (S : Nat → Prop) (u : Value) (want : List UInt8) (w : World) (hD : DiskA 79 82 5 F w dv most m U c) (hr : Bs S w u want) (hm : most ≤ 1000000) (hsd : ∀ b, S b → ¬ F b) (hU : U + want.length ≤ most) (hn : 1 ≤ nm.length ∧ nm.length ≤ 16) (ht : m [116, 46] = none) (s : Nat) (hk : m ([98, 46] ++ nm) = some (want, s)) :
  Rets Tryz.prog 47 #[dv, strV nm, u] w fun v w' => v = .tuple #[.int .i64 0, .int .i64 0] ∧ Chg F w w' ∧ DiskA 79 82 5 F w' dv most (upd m ([113, 46] ++ nm) none) U c := by
 refine Rets.enter (args := [dv, strV nm, u]) (n := 37) Tryz.func47 rfl rfl rfl ?_
 intro R hR
 show XC _ _ _ _ [(0, dv), (1, strV nm), (2, u)] _
 have hq : ([113, 46] ++ nm).length = nm.length + 2 := by simp
 have hb : ([98, 46] ++ nm).length = nm.length + 2 := by simp
 have hqt : [113, 46] ++ nm ≠ [116, 46] := by simp
 have hbt : [98, 46] ++ nm ≠ [116, 46] := by simp
 have hbq : [98, 46] ++ nm ≠ [113, 46] ++ nm := by simp
 refine XC.seq ?_
 refine XC.region ?_
 show XL _ _ _ _ (List.cons _ _) _ _
 refine XL.s rfl ?_
 refine Y.assign (by rfl) ?_
 refine XL.s rfl ?_
 refine Y.assign (by rfl) ?_
 refine XL.nil ?_
 refine QN.next ?_
 refine XC.seq ?_
 refine XC.region ?_
 show XL _ _ _ _ (List.cons _ _) _ _
 refine XL.s rfl ?_
 refine Y.move (by rfl) ?_
 refine XL.s rfl ?_
 refine Y.move (by rfl) ?_
 refine XL.s rfl ?_
 refine Y.addS (by rfl) (by rfl) (by simp; omega) ?_
 refine XL.s rfl ?_
 refine Y.call (by rfl) ok42 (delA _ _ _ _ _ _ ([113, 46] ++ nm) _ hD) ?_
 rintro v14 w14 ⟨hC14, hD14⟩
 have hz1 := hC14.size
 have hr14 := hr.chg hC14 (fun b _ hb hf => hsd b hb hf)
 refine XL.nil ?_
 refine QN.next ?_
 refine XC.seq ?_
 refine XC.seq ?_
 refine XC.region ?_
 show XL _ _ _ _ (List.cons _ _) _ _
 refine XL.s rfl ?_
 refine Y.move (by rfl) ?_
 refine XL.s rfl ?_
 refine Y.move (by rfl) ?_
 refine XL.s rfl ?_
 refine Y.addS (by rfl) (by rfl) (by simp; omega) ?_
 refine XL.s rfl ?_
 refine Y.call (by rfl) ok23 (readA_yes _ _ _ _ _ _ ([98, 46] ++ nm) _ hD14 want s (by rw [upd_other _ _ hbq]; exact hk) (by omega)) ?_
 rintro v19 w19 ⟨b19, rfl, hN19⟩
 refine XL.s rfl ?_
 refine Y.move (by rfl) ?_
 refine XL.s rfl ?_
 refine Y.extract (by rfl) (by rfl) ?_
 refine XL.s rfl ?_
 refine Y.extract (by rfl) (by rfl) ?_
 refine XL.s rfl ?_
 refine Y.assign (by rfl) ?_
 refine XL.s rfl ?_
 refine Y.assign (by rfl) ?_
 refine XL.nil ?_
 refine QN.next ?_
 refine XC.seq ?_
 refine XC.region ?_
 show XL _ _ _ _ (List.cons _ _) _ _
 refine XL.s rfl ?_
 refine Y.move (by rfl) ?_
 refine XL.s rfl ?_
 refine Y.eql (by rfl) (by rfl) ?_
 refine XL.s rfl ?_
 refine Y.move (by rfl) ?_
 refine XL.gt rfl rfl rfl rfl ?_
 refine Y.move (by rfl) ?_
 refine XL.gt rfl rfl rfl rfl ?_
 refine Y.move (by rfl) ?_
 refine XL.gt rfl rfl rfl rfl ?_
 refine Y.call (by rfl) ok75 (equalB_ok _ _ _ _ _ _ _ hN19.bs (hr14.ext hN19.1)) ?_
 rintro v27 w27 ⟨rfl, hE27⟩
 refine XL.s rfl ?_
 refine Y.pickT (by rfl) rfl (by rfl) ?_
 refine XL.nil ?_
 refine QN.next ?_
 refine XC.condT rfl (by simp) ?_
 refine XC.seq ?_
 refine XC.region ?_
 show XL _ _ _ _ (List.cons _ _) _ _
 refine XL.s rfl ?_
 refine Y.assign (by rfl) ?_
 refine XL.s rfl ?_
 refine Y.assign (by rfl) ?_
 refine XL.nil ?_
 refine QN.next ?_
 refine XC.ret ?_
 refine QN.doneN (fn := Tryz.f47) (R := R) (.inl rfl) rfl rfl ?_
 refine hR _ _ ?_
 exact ⟨rfl, hC14.ext (hN19.1.trans hE27), hD14.ext (hN19.1.trans hE27)⟩
theorem mend_no (F : Nat → Prop) (dv : Value) (most : Nat) (m : Fm) (U c : Nat) (nm : List UInt8) (S : Nat → Prop) (u : Value) (want : List UInt8) (w : World) (hD : DiskA 79 82 5 F w dv most m U c) (hr : Bs S w u want) (hm : most ≤ 1000000) (hsd : ∀ b, S b → ¬ F b) (hU : U + want.length ≤ most) (hn : 1 ≤ nm.length ∧ nm.length ≤ 16) (ht : m [116, 46] = none) (hk : m ([98, 46] ++ nm) = none) :
  Rets Tryz.prog 47 #[dv, strV nm, u] w fun v w' => v = .tuple #[.int .i64 1, .int .i64 0] ∧ Chg F w w' ∧ DiskA 79 82 5 (Grow F w w') w' dv most (upd (upd m ([113, 46] ++ nm) none) ([98, 46] ++ nm) (some (want, want.length))) (U + want.length) (c + 1) := by
 refine Rets.enter (args := [dv, strV nm, u]) (n := 37) Tryz.func47 rfl rfl rfl ?_
 intro R hR
 show XC _ _ _ _ [(0, dv), (1, strV nm), (2, u)] _
 have hq : ([113, 46] ++ nm).length = nm.length + 2 := by simp
 have hb : ([98, 46] ++ nm).length = nm.length + 2 := by simp
 have hqt : [113, 46] ++ nm ≠ [116, 46] := by simp
 have hbt : [98, 46] ++ nm ≠ [116, 46] := by simp
 have hbq : [98, 46] ++ nm ≠ [113, 46] ++ nm := by simp
 refine XC.seq ?_
 refine XC.region ?_
 show XL _ _ _ _ (List.cons _ _) _ _
 refine XL.s rfl ?_
 refine Y.assign (by rfl) ?_
 refine XL.s rfl ?_
 refine Y.assign (by rfl) ?_
 refine XL.nil ?_
 refine QN.next ?_
 refine XC.seq ?_
 refine XC.region ?_
 show XL _ _ _ _ (List.cons _ _) _ _
 refine XL.s rfl ?_
 refine Y.move (by rfl) ?_
 refine XL.s rfl ?_
 refine Y.move (by rfl) ?_
 refine XL.s rfl ?_
 refine Y.addS (by rfl) (by rfl) (by simp; omega) ?_
 refine XL.s rfl ?_
 refine Y.call (by rfl) ok42 (delA _ _ _ _ _ _ ([113, 46] ++ nm) _ hD) ?_
 rintro v14 w14 ⟨hC14, hD14⟩
 have hz1 := hC14.size
 have hr14 := hr.chg hC14 (fun b _ hb hf => hsd b hb hf)
 refine XL.nil ?_
 refine QN.next ?_
 refine XC.seq ?_
 refine XC.seq ?_
 refine XC.region ?_
 show XL _ _ _ _ (List.cons _ _) _ _
 refine XL.s rfl ?_
 refine Y.move (by rfl) ?_
 refine XL.s rfl ?_
 refine Y.move (by rfl) ?_
 refine XL.s rfl ?_
 refine Y.addS (by rfl) (by rfl) (by simp; omega) ?_
 refine XL.s rfl ?_
 refine Y.call (by rfl) ok23 (readA_no _ _ _ _ _ _ ([98, 46] ++ nm) _ hD14 (by rw [upd_other _ _ hbq]; exact hk)) ?_
 rintro v19 w19 ⟨rfl, hE19⟩
 refine XL.s rfl ?_
 refine Y.move (by rfl) ?_
 refine XL.s rfl ?_
 refine Y.extract (by rfl) (by rfl) ?_
 refine XL.s rfl ?_
 refine Y.extract (by rfl) (by rfl) ?_
 refine XL.s rfl ?_
 refine Y.assign (by rfl) ?_
 refine XL.s rfl ?_
 refine Y.assign (by rfl) ?_
 refine XL.nil ?_
 refine QN.next ?_
 refine XC.seq ?_
 refine XC.region ?_
 show XL _ _ _ _ (List.cons _ _) _ _
 refine XL.s rfl ?_
 refine Y.move (by rfl) ?_
 refine XL.s rfl ?_
 refine Y.eql (by rfl) (by rfl) ?_
 refine XL.s rfl ?_
 refine Y.move (by rfl) ?_
 refine XL.gf rfl rfl rfl rfl ?_
 refine XL.gf rfl rfl rfl rfl ?_
 refine XL.gf rfl rfl rfl rfl ?_
 refine XL.s rfl ?_
 refine Y.pickF (by rfl) rfl (by rfl) ?_
 refine XL.nil ?_
 refine QN.next ?_
 refine XC.condF rfl rfl ?_
 refine XC.skip ?_
 refine QN.next ?_
 refine XC.seq ?_
 refine XC.seq ?_
 refine XC.region ?_
 show XL _ _ _ _ (List.cons _ _) _ _
 refine XL.s rfl ?_
 refine Y.move (by rfl) ?_
 refine XL.s rfl ?_
 refine Y.move (by rfl) ?_
 refine XL.s rfl ?_
 refine Y.addS (by rfl) (by rfl) (by simp; omega) ?_
 refine XL.s rfl ?_
 refine Y.move (by rfl) ?_
 refine XL.s rfl ?_
 refine Y.call (by rfl) ok31 (write_ok _ _ _ _ _ _ ([98, 46] ++ nm) _ _ _ _ (hD14.ext hE19) (hr14.ext hE19) hm hsd hU ⟨by omega, by omega⟩ (by rw [upd_other _ _ (Ne.symm hqt)]; exact ht) hbt) ?_
 rintro v33 w33 ⟨rfl, hC33, hD33⟩
 refine XL.s rfl ?_
 refine Y.assign (by rfl) ?_
 refine XL.nil ?_
 refine QN.next ?_
 refine XC.seq ?_
 refine XC.region ?_
 show XL _ _ _ _ (List.cons _ _) _ _
 refine XL.s rfl ?_
 refine Y.move (by rfl) ?_
 refine XL.s rfl ?_
 refine Y.neq (by rfl) (by rfl) ?_
 refine XL.nil ?_
 refine QN.next ?_
 refine XC.condF rfl rfl ?_
 have hz3 := hC33.size
 refine XC.skip ?_
 refine QN.next ?_
 refine XC.seq ?_
 refine XC.region ?_
 show XL _ _ _ _ (List.cons _ _) _ _
 refine XL.s rfl ?_
 refine Y.assign (by rfl) ?_
 refine XL.s rfl ?_
 refine Y.assign (by rfl) ?_
 refine XL.nil ?_
 refine QN.next ?_
 refine XC.ret ?_
 refine QN.doneN (fn := Tryz.f47) (R := R) (.inl rfl) rfl rfl ?_
 refine hR _ _ ?_
 exact ⟨rfl, (hC14.ext hE19).trans hC33 (fun _ h => h) (fun _ _ h => h), hD33.mono fun b hb => by rcases hb with h | h; exact .inl h; exact .inr ⟨by have := h.1; have := (hE19).size; omega, h.2⟩⟩
theorem mend_ne (F : Nat → Prop) (dv : Value) (most : Nat) (m : Fm) (U c : Nat) (nm : List UInt8) (S : Nat → Prop) (u : Value) (want : List UInt8) (w : World) (hD : DiskA 79 82 5 F w dv most m U c) (hr : Bs S w u want) (hm : most ≤ 1000000) (hsd : ∀ b, S b → ¬ F b) (hU : U + want.length ≤ most) (hn : 1 ≤ nm.length ∧ nm.length ≤ 16) (ht : m [116, 46] = none) (d : List UInt8) (s : Nat) (hk : m ([98, 46] ++ nm) = some (d, s)) (hne : d ≠ want) :
  Rets Tryz.prog 47 #[dv, strV nm, u] w fun v w' => v = .tuple #[.int .i64 1, .int .i64 0] ∧ Chg F w w' ∧ DiskA 79 82 5 (Grow F w w') w' dv most (upd (upd m ([113, 46] ++ nm) none) ([98, 46] ++ nm) (some (want, want.length))) (U + want.length) (c + 1) := by
 refine Rets.enter (args := [dv, strV nm, u]) (n := 37) Tryz.func47 rfl rfl rfl ?_
 intro R hR
 show XC _ _ _ _ [(0, dv), (1, strV nm), (2, u)] _
 have hq : ([113, 46] ++ nm).length = nm.length + 2 := by simp
 have hb : ([98, 46] ++ nm).length = nm.length + 2 := by simp
 have hqt : [113, 46] ++ nm ≠ [116, 46] := by simp
 have hbt : [98, 46] ++ nm ≠ [116, 46] := by simp
 have hbq : [98, 46] ++ nm ≠ [113, 46] ++ nm := by simp
 refine XC.seq ?_
 refine XC.region ?_
 show XL _ _ _ _ (List.cons _ _) _ _
 refine XL.s rfl ?_
 refine Y.assign (by rfl) ?_
 refine XL.s rfl ?_
 refine Y.assign (by rfl) ?_
 refine XL.nil ?_
 refine QN.next ?_
 refine XC.seq ?_
 refine XC.region ?_
 show XL _ _ _ _ (List.cons _ _) _ _
 refine XL.s rfl ?_
 refine Y.move (by rfl) ?_
 refine XL.s rfl ?_
 refine Y.move (by rfl) ?_
 refine XL.s rfl ?_
 refine Y.addS (by rfl) (by rfl) (by simp; omega) ?_
 refine XL.s rfl ?_
 refine Y.call (by rfl) ok42 (delA _ _ _ _ _ _ ([113, 46] ++ nm) _ hD) ?_
 rintro v14 w14 ⟨hC14, hD14⟩
 have hz1 := hC14.size
 have hr14 := hr.chg hC14 (fun b _ hb hf => hsd b hb hf)
 refine XL.nil ?_
 refine QN.next ?_
 refine XC.seq ?_
 refine XC.seq ?_
 refine XC.region ?_
 show XL _ _ _ _ (List.cons _ _) _ _
 refine XL.s rfl ?_
 refine Y.move (by rfl) ?_
 refine XL.s rfl ?_
 refine Y.move (by rfl) ?_
 refine XL.s rfl ?_
 refine Y.addS (by rfl) (by rfl) (by simp; omega) ?_
 refine XL.s rfl ?_
 refine Y.call (by rfl) ok23 (readA_yes _ _ _ _ _ _ ([98, 46] ++ nm) _ hD14 d s (by rw [upd_other _ _ hbq]; exact hk) (by omega)) ?_
 rintro v19 w19 ⟨b19, rfl, hN19⟩
 refine XL.s rfl ?_
 refine Y.move (by rfl) ?_
 refine XL.s rfl ?_
 refine Y.extract (by rfl) (by rfl) ?_
 refine XL.s rfl ?_
 refine Y.extract (by rfl) (by rfl) ?_
 refine XL.s rfl ?_
 refine Y.assign (by rfl) ?_
 refine XL.s rfl ?_
 refine Y.assign (by rfl) ?_
 refine XL.nil ?_
 refine QN.next ?_
 refine XC.seq ?_
 refine XC.region ?_
 show XL _ _ _ _ (List.cons _ _) _ _
 refine XL.s rfl ?_
 refine Y.move (by rfl) ?_
 refine XL.s rfl ?_
 refine Y.eql (by rfl) (by rfl) ?_
 refine XL.s rfl ?_
 refine Y.move (by rfl) ?_
 refine XL.gt rfl rfl rfl rfl ?_
 refine Y.move (by rfl) ?_
 refine XL.gt rfl rfl rfl rfl ?_
 refine Y.move (by rfl) ?_
 refine XL.gt rfl rfl rfl rfl ?_
 refine Y.call (by rfl) ok75 (equalB_ok _ _ _ _ _ _ _ hN19.bs (hr14.ext hN19.1)) ?_
 rintro v27 w27 ⟨rfl, hE27⟩
 refine XL.s rfl ?_
 refine Y.pickT (by rfl) rfl (by rfl) ?_
 refine XL.nil ?_
 refine QN.next ?_
 refine XC.condF rfl (by rw [decide_eq_false hne]) ?_
 refine XC.skip ?_
 refine QN.next ?_
 refine XC.seq ?_
 refine XC.seq ?_
 refine XC.region ?_
 show XL _ _ _ _ (List.cons _ _) _ _
 refine XL.s rfl ?_
 refine Y.move (by rfl) ?_
 refine XL.s rfl ?_
 refine Y.move (by rfl) ?_
 refine XL.s rfl ?_
 refine Y.addS (by rfl) (by rfl) (by simp; omega) ?_
 refine XL.s rfl ?_
 refine Y.move (by rfl) ?_
 refine XL.s rfl ?_
 refine Y.call (by rfl) ok31 (write_ok _ _ _ _ _ _ ([98, 46] ++ nm) _ _ _ _ (hD14.ext (hN19.1.trans hE27)) (hr14.ext (hN19.1.trans hE27)) hm hsd hU ⟨by omega, by omega⟩ (by rw [upd_other _ _ (Ne.symm hqt)]; exact ht) hbt) ?_
 rintro v33 w33 ⟨rfl, hC33, hD33⟩
 refine XL.s rfl ?_
 refine Y.assign (by rfl) ?_
 refine XL.nil ?_
 refine QN.next ?_
 refine XC.seq ?_
 refine XC.region ?_
 show XL _ _ _ _ (List.cons _ _) _ _
 refine XL.s rfl ?_
 refine Y.move (by rfl) ?_
 refine XL.s rfl ?_
 refine Y.neq (by rfl) (by rfl) ?_
 refine XL.nil ?_
 refine QN.next ?_
 refine XC.condF rfl rfl ?_
 have hz3 := hC33.size
 refine XC.skip ?_
 refine QN.next ?_
 refine XC.seq ?_
 refine XC.region ?_
 show XL _ _ _ _ (List.cons _ _) _ _
 refine XL.s rfl ?_
 refine Y.assign (by rfl) ?_
 refine XL.s rfl ?_
 refine Y.assign (by rfl) ?_
 refine XL.nil ?_
 refine QN.next ?_
 refine XC.ret ?_
 refine QN.doneN (fn := Tryz.f47) (R := R) (.inl rfl) rfl rfl ?_
 refine hR _ _ ?_
 exact ⟨rfl, (hC14.ext (hN19.1.trans hE27)).trans hC33 (fun _ h => h) (fun _ _ h => h), hD33.mono fun b hb => by rcases hb with h | h; exact .inl h; exact .inr ⟨by have := h.1; have := ((hN19.1.trans hE27)).size; omega, h.2⟩⟩
end Go.Proofs.YtchammpamigonaaGreatX
end
section
set_option linter.unusedVariables false
set_option linter.unusedSimpArgs false
set_option maxRecDepth 10000
set_option maxHeartbeats 4000000
namespace Go.Proofs.YtchammpamigonaaGreatX
open Go Go.RowKit Go.Proofs
theorem rnum_ok (n : Nat) (h1 : n ≤ 4294967295) (w : World) :
  Rets Tryz.prog 66 #[.int .i64 n] w fun v w' => NewB 5 w w' v (numB n) := by
 refine Rets.enter (args := [.int .i64 n]) (n := 24) Tryz.func66 rfl rfl rfl ?_
 intro R hR
 show XC _ _ _ _ [(0, .int .i64 n)] _
 refine XC.seq ?_
 refine XC.region ?_
 show XL _ _ _ _ (List.cons _ _) _ _
 refine XL.s rfl ?_
 refine Y.assign (by rfl) ?_
 refine XL.nil ?_
 refine QN.next ?_
 refine XC.seq ?_
 refine XC.seq ?_
 refine XC.region ?_
 show XL _ _ _ _ (List.cons _ _) _ _
 refine XL.s rfl ?_
 refine Y.move (by rfl) ?_
 refine XL.s rfl ?_
 refine Y.lss (by rfl) (by rfl) ?_
 refine XL.s rfl ?_
 refine Y.move (by rfl) ?_
 refine XL.gt rfl rfl ya rfl ?_
 refine Y.move (by rfl) ?_
 refine XL.gt rfl rfl ya rfl ?_
 refine Y.gtr (by rfl) (by rfl) ?_
 refine XL.s rfl ?_
 refine Y.pickF (by rfl) ya (by rfl) ?_
 refine XL.nil ?_
 refine QN.next ?_
 refine XC.condF rfl ya ?_
 refine XC.skip ?_
 refine QN.next ?_
 refine XC.seq ?_
 refine XC.region ?_
 show XL _ _ _ _ (List.cons _ _) _ _
 refine XL.s rfl ?_
 refine Y.move (by rfl) ?_
 refine XL.s rfl ?_
 refine Y.quo (by rfl) (by rfl) (by omega) (quo64 n 16777216 (by omega)) ?_
 refine XL.s rfl ?_
 refine Y.convI Tryz.underlying3 Tryz.underlying5 (by rfl) (byte_of _) ?_
 refine XL.s rfl ?_
 refine Y.move (by rfl) ?_
 refine XL.s rfl ?_
 refine Y.quo (by rfl) (by rfl) (by omega) (quo64 n 65536 (by omega)) ?_
 refine XL.s rfl ?_
 refine Y.rem (by rfl) (by rfl) (by omega) (tmodN (n / 65536) 256) ?_
 refine XL.s rfl ?_
 refine Y.convI Tryz.underlying3 Tryz.underlying5 (by rfl) (byte_of _) ?_
 refine XL.s rfl ?_
 refine Y.move (by rfl) ?_
 refine XL.s rfl ?_
 refine Y.quo (by rfl) (by rfl) (by omega) (quo64 n 256 (by omega)) ?_
 refine XL.s rfl ?_
 refine Y.rem (by rfl) (by rfl) (by omega) (tmodN (n / 256) 256) ?_
 refine XL.s rfl ?_
 refine Y.convI Tryz.underlying3 Tryz.underlying5 (by rfl) (byte_of _) ?_
 refine XL.s rfl ?_
 refine Y.move (by rfl) ?_
 refine XL.s rfl ?_
 refine Y.rem (by rfl) (by rfl) (by omega) (tmodN n 256) ?_
 refine XL.s rfl ?_
 refine Y.convI Tryz.underlying3 Tryz.underlying5 (by rfl) (byte_of _) ?_
 refine XL.s rfl ?_
 refine Y.buildSlice st39 (by rfl) (by rfl) (by omega) (by simp [Value.oneCell', byteV, strV]) ?_
 intro v23 w23 hN23
 refine XL.s rfl ?_
 refine Y.assign (by rfl) ?_
 refine XL.nil ?_
 refine QN.next ?_
 refine XC.ret ?_
 refine QN.done1 (fn := Tryz.f66) (R := R) (.inl rfl) rfl rfl ?_
 refine hR _ _ ?_
 exact hN23.cast rfl (by rw [numB, ← ofNat_mod (n / 65536), ← ofNat_mod (n / 256), ← ofNat_mod n]; rfl)
theorem rtext_ok (l : List UInt8) (h1 : l.length ≤ 4294967295) (w : World) :
  Rets Tryz.prog 61 #[strV l] w fun v w' => NewB 5 w w' v (textB l) := by
 refine Rets.enter (args := [strV l]) (n := 9) Tryz.func61 rfl rfl rfl ?_
 intro R hR
 show XC _ _ _ _ [(0, strV l)] _
 refine XC.seq ?_
 refine XC.region ?_
 show XL _ _ _ _ (List.cons _ _) _ _
 refine XL.s rfl ?_
 refine Y.assign (by rfl) ?_
 refine XL.nil ?_
 refine QN.next ?_
 refine XC.seq ?_
 refine XC.region ?_
 show XL _ _ _ _ (List.cons _ _) _ _
 refine XL.s rfl ?_
 refine Y.move (by rfl) ?_
 refine XL.s rfl ?_
 refine Y.lenS Tryz.underlying9 (by rfl) ?_
 refine XL.s rfl ?_
 refine Y.call (by rfl) ok66 (rnum_ok l.length (by omega) _) ?_
 rintro v5 w5 hN5
 have hnl := numB_length l.length
 refine XL.s rfl ?_
 refine Y.move (by rfl) ?_
 refine XL.s rfl ?_
 refine Y.toBytes st39 Tryz.underlying9 Tryz.underlying5 (by rfl) (by omega) ?_
 intro v7 w7 hN7
 replace hN5 := hN5.ext hN7.1
 refine XL.s rfl ?_
 refine Y.appendN st39 Tryz.underlying39 (by rfl) (by rfl) hN5 hN7.row (by simp [bytesV]) (by omega) (by omega) ?_
 intro v8 w8 hN8 hC8
 refine XL.s rfl ?_
 refine Y.assign (by rfl) ?_
 refine XL.nil ?_
 refine QN.next ?_
 refine XC.ret ?_
 refine QN.done1 (fn := Tryz.f61) (R := R) (.inl rfl) rfl rfl ?_
 refine hR _ _ ?_
 exact hN8.cast (by simp [textB]) (by simp [textB, bytesV])
theorem rsame_ok (S S' : Nat → Prop) (u u' : Value) (l m : List UInt8) (w : World) (hr : Bs S w u l) (hr' : Bs S' w u' m) :
  Rets Tryz.prog 18 #[u, u'] w fun v w' => v = .bool (decide (l = m)) ∧ Ext w w' := by
 refine Rets.enter (args := [u, u']) (n := 10) Tryz.func18 rfl rfl rfl ?_
 intro R hR
 show XC _ _ _ _ [(0, u), (1, u')] _
 refine XC.seq ?_
 refine XC.region ?_
 show XL _ _ _ _ (List.cons _ _) _ _
 refine XL.s rfl ?_
 refine Y.assign (by rfl) ?_
 refine XL.nil ?_
 refine QN.next ?_
 refine XC.seq ?_
 refine XC.region ?_
 show XL _ _ _ _ (List.cons _ _) _ _
 refine XL.s rfl ?_
 refine Y.move (by rfl) ?_
 refine XL.s rfl ?_
 refine Y.toText Tryz.underlying39 Tryz.underlying9 Tryz.underlying5 (by rfl) hr rfl ?_
 refine XL.s rfl ?_
 refine Y.move (by rfl) ?_
 refine XL.s rfl ?_
 refine Y.toText Tryz.underlying39 Tryz.underlying9 Tryz.underlying5 (by rfl) hr' rfl ?_
 refine XL.s rfl ?_
 refine Y.eqlS (by rfl) (by rfl) ?_
 refine XL.s rfl ?_
 refine Y.assign (by rfl) ?_
 refine XL.nil ?_
 refine QN.next ?_
 refine XC.ret ?_
 refine QN.done1 (fn := Tryz.f18) (R := R) (.inl rfl) rfl rfl ?_
 refine hR _ _ ?_
 exact ⟨rfl, Chg.refl _ _⟩
theorem rsum_ok (S : Nat → Prop) (u : Value) (l : List UInt8) (w : World) (hr : Bs S w u l) :
  Rets Tryz.prog 92 #[u] w fun v w' => v = w32 (crc l) ∧ Ext w w' := by
 refine Rets.enter (args := [u]) (n := 34) Tryz.func92 rfl rfl rfl ?_
 intro R hR
 show XC _ _ _ _ [(0, u)] _
 have hln := hr.le
 obtain ⟨cu, capu, rfl⟩ := hr.val
 refine XC.seq ?_
 refine XC.region ?_
 show XL _ _ _ _ (List.cons _ _) _ _
 refine XL.s rfl ?_
 refine Y.assign (by rfl) ?_
 refine XL.nil ?_
 refine QN.next ?_
 refine XC.seq ?_
 refine XC.region ?_
 show XL _ _ _ _ (List.cons _ _) _ _
 refine XL.s rfl ?_
 refine Y.assign (by rfl) ?_
 refine XL.nil ?_
 refine QN.next ?_
 refine XC.seq ?_
 refine XC.seq ?_
 refine XC.region ?_
 show XL _ _ _ _ (List.cons _ _) _ _
 refine XL.s rfl ?_
 refine Y.assign (by rfl) ?_
 refine XL.nil ?_
 refine QN.next ?_
 refine XC.block ?_
 refine XC.loop (α := Nat) (fun k => [(0, .slice cu l.length capu), (3, w32 (runC 4294967295 (l.take k))), (4, .int .i64 k)]) (fun k wr => k ≤ l.length ∧ w = wr) (fun k => l.length - k) (0) ?_ ?_ ?_
 ·exact ⟨rfl, rfl, rfl, trivial⟩
 ·exact ⟨by omega, rfl⟩
 ·rintro k wr hI
  obtain ⟨hk, rfl⟩ := hI
  refine XC.seq ?_
  refine XC.seq ?_
  refine XC.region ?_
  show XL _ _ _ _ (List.cons _ _) _ _
  refine XL.s rfl ?_
  refine Y.move (by rfl) ?_
  refine XL.s rfl ?_
  refine Y.move (by rfl) ?_
  refine XL.s rfl ?_
  first | refine Y.lenV Tryz.underlying39 (by rfl) ?_ | refine Y.len Tryz.underlying39 (by rfl) (by first | assumption | exact Apd.row (by assumption) | exact New.row (by assumption)) ?_
  refine XL.s rfl ?_
  refine Y.lss (by rfl) (by rfl) ?_
  refine XL.nil ?_
  refine QN.next ?_
  refine XC.condS rfl ?_ ?_
  ·intro hc
   try simp only [decide_eq_true_eq, decide_eq_false_iff_not, Bool.not_eq_true', Bool.not_eq_false', Bool.not_eq_eq_eq_not, Bool.not_true, Bool.not_false, Bool.or_eq_true, Bool.and_eq_true, Bool.or_eq_false_iff] at hc
   have hk' : k < l.length := by omega
   refine XC.skip ?_
   refine QN.next ?_
   refine XC.seq ?_
   refine XC.block ?_
   refine XC.seq ?_
   refine XC.region ?_
   show XL _ _ _ _ (List.cons _ _) _ _
   refine XL.s rfl ?_
   refine Y.move (by rfl) ?_
   refine XL.s rfl ?_
   refine Y.move (by rfl) ?_
   refine XL.s rfl ?_
   refine Y.move (by rfl) ?_
   refine XL.s rfl ?_
   refine Y.indexR st39 (by rfl) (by rfl) hr ⟨by omega, by omega⟩ (by rw [Int.toNat_natCast]; exact bytesV_get _ _ hk') ?_
   intro b16 o16 hs16 hc16
   refine XL.s rfl ?_
   refine Y.load one5 (by rfl) (by assumption) ?_
   refine XL.s rfl ?_
   refine Y.convI Tryz.underlying5 Tryz.underlying131 (by rfl) (byte32 l[k]) ?_
   refine XL.s rfl ?_
   refine Y.xor (by rfl) (by rfl) (xor32 (runC 4294967295 (l.take k)) (BitVec.ofNat 32 l[k].toNat)) ?_
   refine XL.s rfl ?_
   refine Y.assign (by rfl) ?_
   refine XL.nil ?_
   refine QN.next ?_
   refine XC.seq ?_
   refine XC.region ?_
   show XL _ _ _ _ (List.cons _ _) _ _
   refine XL.s rfl ?_
   refine Y.assign (by rfl) ?_
   refine XL.nil ?_
   refine QN.next ?_
   refine XC.block ?_
   refine XC.loop (α := Nat) (fun j => [(0, .slice cu l.length capu), (4, .int .i64 k), (3, w32 (bitsC j (runC 4294967295 (l.take k) ^^^ BitVec.ofNat 32 l[k].toNat))), (5, .int .i64 j)]) (fun j wr => j ≤ 8 ∧ w = wr) (fun j => 8 - j) (0) ?_ ?_ ?_
   ·exact ⟨rfl, rfl, rfl, rfl, trivial⟩
   ·exact ⟨by omega, rfl⟩
   ·rintro j wr hI
    obtain ⟨hj, rfl⟩ := hI
    refine XC.seq ?_
    refine XC.seq ?_
    refine XC.region ?_
    show XL _ _ _ _ (List.cons _ _) _ _
    refine XL.s rfl ?_
    refine Y.move (by rfl) ?_
    refine XL.s rfl ?_
    refine Y.lss (by rfl) (by rfl) ?_
    refine XL.nil ?_
    refine QN.next ?_
    refine XC.condS rfl ?_ ?_
    ·intro hd
     try simp only [decide_eq_true_eq, decide_eq_false_iff_not, Bool.not_eq_true', Bool.not_eq_false', Bool.not_eq_eq_eq_not, Bool.not_true, Bool.not_false, Bool.or_eq_true, Bool.and_eq_true, Bool.or_eq_false_iff] at hd
     refine XC.skip ?_
     refine QN.next ?_
     refine XC.seq ?_
     refine XC.block ?_
     refine XC.seq ?_
     refine XC.region ?_
     show XL _ _ _ _ (List.cons _ _) _ _
     refine XL.s rfl ?_
     refine Y.move (by rfl) ?_
     refine XL.s rfl ?_
     refine Y.rem (by rfl) (by rfl) (by omega) (rem32 _) ?_
     refine XL.s rfl ?_
     refine Y.eql (by rfl) (by rfl) ?_
     refine XL.s rfl ?_
     refine Y.assign (by rfl) ?_
     refine XL.nil ?_
     refine QN.next ?_
     refine XC.seq ?_
     refine XC.region ?_
     show XL _ _ _ _ (List.cons _ _) _ _
     refine XL.s rfl ?_
     refine Y.move (by rfl) ?_
     refine XL.s rfl ?_
     refine Y.quo (by rfl) (by rfl) (by omega) (quo32 _) ?_
     refine XL.s rfl ?_
     refine Y.assign (by rfl) ?_
     refine XL.nil ?_
     refine QN.next ?_
     refine XC.seq ?_
     refine XC.region ?_
     show XL _ _ _ _ (List.cons _ _) _ _
     refine XL.s rfl ?_
     refine Y.move (by rfl) ?_
     refine XL.nil ?_
     refine QN.next ?_
     refine XC.condS rfl ?_ ?_
     ·intro hx
      try simp only [decide_eq_true_eq, decide_eq_false_iff_not, Bool.not_eq_true', Bool.not_eq_false', Bool.not_eq_eq_eq_not, Bool.not_true, Bool.not_false, Bool.or_eq_true, Bool.and_eq_true, Bool.or_eq_false_iff] at hx
      refine XC.region ?_
      show XL _ _ _ _ (List.cons _ _) _ _
      refine XL.s rfl ?_
      refine Y.move (by rfl) ?_
      refine XL.s rfl ?_
      refine Y.xor (by rfl) (by rfl) (xor32 ((bitsC j (runC 4294967295 (l.take k) ^^^ BitVec.ofNat 32 l[k].toNat)) >>> 1) 2197175160) ?_
      refine XL.s rfl ?_
      refine Y.assign (by rfl) ?_
      refine XL.nil ?_
      refine QN.blk ?_
      refine QN.next ?_
      refine XC.region ?_
      show XL _ _ _ _ (List.cons _ _) _ _
      refine XL.s rfl ?_
      refine Y.move (by rfl) ?_
      refine XL.s rfl ?_
      refine Y.add (by rfl) (by rfl) (wrap64 (by omega) (by omega)) ?_
      refine XL.s rfl ?_
      refine Y.assign (by rfl) ?_
      refine XL.nil ?_
      refine QN.again (j + 1) ?_ ?_ ?_
      ·exact ⟨rfl, rfl, by rw [bitsC, bitC, if_pos ((one32 _).2 (by omega))]; rfl, rfl, trivial⟩
      ·exact ⟨by omega, rfl⟩
      ·first | omega | (simp only []; omega) | (simp; omega)
     ·intro hx
      try simp only [decide_eq_true_eq, decide_eq_false_iff_not, Bool.not_eq_true', Bool.not_eq_false', Bool.not_eq_eq_eq_not, Bool.not_true, Bool.not_false, Bool.or_eq_true, Bool.and_eq_true, Bool.or_eq_false_iff] at hx
      refine XC.skip ?_
      refine QN.blk ?_
      refine QN.next ?_
      refine XC.region ?_
      show XL _ _ _ _ (List.cons _ _) _ _
      refine XL.s rfl ?_
      refine Y.move (by rfl) ?_
      refine XL.s rfl ?_
      refine Y.add (by rfl) (by rfl) (wrap64 (by omega) (by omega)) ?_
      refine XL.s rfl ?_
      refine Y.assign (by rfl) ?_
      refine XL.nil ?_
      refine QN.again (j + 1) ?_ ?_ ?_
      ·exact ⟨rfl, rfl, by rw [bitsC, bitC, if_neg (fun h => hx (by have := (one32 _).1 h; omega))]; rfl, rfl, trivial⟩
      ·exact ⟨by omega, rfl⟩
      ·first | omega | (simp only []; omega) | (simp; omega)
    ·intro hd
     try simp only [decide_eq_true_eq, decide_eq_false_iff_not, Bool.not_eq_true', Bool.not_eq_false', Bool.not_eq_eq_eq_not, Bool.not_true, Bool.not_false, Bool.or_eq_true, Bool.and_eq_true, Bool.or_eq_false_iff] at hd
     obtain rfl : j = 8 := by omega
     refine XC.exit ?_
     refine QN.thenE ?_
     refine QN.thenE ?_
     refine QN.hit ?_
     refine QN.blk ?_
     refine QN.next ?_
     refine XC.region ?_
     show XL _ _ _ _ (List.cons _ _) _ _
     refine XL.s rfl ?_
     refine Y.move (by rfl) ?_
     refine XL.s rfl ?_
     refine Y.add (by rfl) (by rfl) (wrap64 (by omega) (by omega)) ?_
     refine XL.s rfl ?_
     refine Y.assign (by rfl) ?_
     refine XL.nil ?_
     refine QN.again (k + 1) ?_ ?_ ?_
     ·exact ⟨rfl, by rw [take_succ_getD _ _ hk', runC_snoc]; rfl, rfl, trivial⟩
     ·exact ⟨by omega, rfl⟩
     ·first | omega | (simp only []; omega) | (simp; omega)
  ·intro hc
   try simp only [decide_eq_true_eq, decide_eq_false_iff_not, Bool.not_eq_true', Bool.not_eq_false', Bool.not_eq_eq_eq_not, Bool.not_true, Bool.not_false, Bool.or_eq_true, Bool.and_eq_true, Bool.or_eq_false_iff] at hc
   obtain rfl : k = l.length := by omega
   rw [List.take_length]
   refine XC.exit ?_
   refine QN.thenE ?_
   refine QN.thenE ?_
   refine QN.hit ?_
   refine QN.next ?_
   refine XC.seq ?_
   refine XC.region ?_
   show XL _ _ _ _ (List.cons _ _) _ _
   refine XL.s rfl ?_
   refine Y.move (by rfl) ?_
   refine XL.s rfl ?_
   refine Y.sub (by rfl) (by rfl) (sub32 _) ?_
   refine XL.s rfl ?_
   refine Y.assign (by rfl) ?_
   refine XL.nil ?_
   refine QN.next ?_
   refine XC.ret ?_
   refine QN.done1 (fn := Tryz.f92) (R := R) (.inl rfl) rfl rfl ?_
   refine hR _ _ ?_
   exact ⟨rfl, Chg.refl _ _⟩
theorem rmul_ok (a b : UInt8) (w : World) :
  Rets Tryz.prog 90 #[byteV a, byteV b] w fun v w' => v = byteV (pmul a b) ∧ Ext w w' := by
 refine Rets.enter (args := [byteV a, byteV b]) (n := 33) Tryz.func90 rfl rfl rfl ?_
 intro R hR
 show XC _ _ _ _ [(0, byteV a), (1, byteV b)] _
 have hat := a.toNat_lt
 have hbt := b.toNat_lt
 refine XC.seq ?_
 refine XC.region ?_
 show XL _ _ _ _ (List.cons _ _) _ _
 refine XL.s rfl ?_
 refine Y.assign (by rfl) ?_
 refine XL.nil ?_
 refine QN.next ?_
 refine XC.seq ?_
 refine XC.region ?_
 show XL _ _ _ _ (List.cons _ _) _ _
 refine XL.s rfl ?_
 refine Y.move (by rfl) ?_
 refine XL.s rfl ?_
 refine Y.convI Tryz.underlying5 Tryz.underlying3 (by rfl) (wrap64 (by omega) (by omega)) ?_
 refine XL.s rfl ?_
 refine Y.assign (by rfl) ?_
 refine XL.nil ?_
 refine QN.next ?_
 refine XC.seq ?_
 refine XC.region ?_
 show XL _ _ _ _ (List.cons _ _) _ _
 refine XL.s rfl ?_
 refine Y.move (by rfl) ?_
 refine XL.s rfl ?_
 refine Y.convI Tryz.underlying5 Tryz.underlying3 (by rfl) (wrap64 (by omega) (by omega)) ?_
 refine XL.s rfl ?_
 refine Y.assign (by rfl) ?_
 refine XL.nil ?_
 refine QN.next ?_
 refine XC.seq ?_
 refine XC.region ?_
 show XL _ _ _ _ (List.cons _ _) _ _
 refine XL.s rfl ?_
 refine Y.assign (by rfl) ?_
 refine XL.nil ?_
 refine QN.next ?_
 refine XC.seq ?_
 refine XC.seq ?_
 refine XC.region ?_
 show XL _ _ _ _ (List.cons _ _) _ _
 refine XL.s rfl ?_
 refine Y.assign (by rfl) ?_
 refine XL.nil ?_
 refine QN.next ?_
 refine XC.block ?_
 refine XC.loop (α := Nat) (fun k => [(5, .int .i64 ((pK k (a.toNat, b.toNat, 0)).1 : Nat)), (6, .int .i64 ((pK k (a.toNat, b.toNat, 0)).2.1 : Nat)), (7, .int .i64 ((pK k (a.toNat, b.toNat, 0)).2.2 : Nat)), (8, .int .i64 k)]) (fun k wr => k ≤ 8 ∧ w = wr) (fun k => 8 - k) (0) ?_ ?_ ?_
 ·exact ⟨rfl, rfl, rfl, rfl, trivial⟩
 ·exact ⟨by omega, rfl⟩
 ·rintro k wr hI
  obtain ⟨hk, rfl⟩ := hI
  obtain ⟨hp1, hp2, hp3⟩ := pK_lt (s := (a.toNat, b.toNat, 0)) hat hbt (show 0 < 256 by decide) k
  refine XC.seq ?_
  refine XC.seq ?_
  refine XC.region ?_
  show XL _ _ _ _ (List.cons _ _) _ _
  refine XL.s rfl ?_
  refine Y.move (by rfl) ?_
  refine XL.s rfl ?_
  refine Y.lss (by rfl) (by rfl) ?_
  refine XL.nil ?_
  refine QN.next ?_
  refine XC.condS rfl ?_ ?_
  ·intro hc
   try simp only [decide_eq_true_eq, decide_eq_false_iff_not, Bool.not_eq_true', Bool.not_eq_false', Bool.not_eq_eq_eq_not, Bool.not_true, Bool.not_false, Bool.or_eq_true, Bool.and_eq_true, Bool.or_eq_false_iff] at hc
   have hst : pK (k + 1) (a.toNat, b.toNat, 0) = pstep (pK k (a.toNat, b.toNat, 0)) := rfl
   obtain ⟨s, hs⟩ : ∃ s, s = pK k (a.toNat, b.toNat, 0) := ⟨_, rfl⟩
   rw [← hs] at hst hp1 hp2 hp3 ⊢
   refine XC.skip ?_
   refine QN.next ?_
   refine XC.seq ?_
   refine XC.block ?_
   refine XC.seq ?_
   refine XC.seq ?_
   refine XC.region ?_
   show XL _ _ _ _ (List.cons _ _) _ _
   refine XL.s rfl ?_
   refine Y.move (by rfl) ?_
   refine XL.s rfl ?_
   refine Y.rem (by rfl) (by rfl) (by omega) (tmodN s.2.1 2) ?_
   refine XL.s rfl ?_
   refine Y.eql (by rfl) (by rfl) ?_
   refine XL.nil ?_
   refine QN.next ?_
   refine XC.condS rfl ?_ ?_
   ·intro hx
    try simp only [decide_eq_true_eq, decide_eq_false_iff_not, Bool.not_eq_true', Bool.not_eq_false', Bool.not_eq_eq_eq_not, Bool.not_true, Bool.not_false, Bool.or_eq_true, Bool.and_eq_true, Bool.or_eq_false_iff] at hx
    refine XC.region ?_
    show XL _ _ _ _ (List.cons _ _) _ _
    refine XL.s rfl ?_
    refine Y.move (by rfl) ?_
    refine XL.s rfl ?_
    refine Y.move (by rfl) ?_
    refine XL.s rfl ?_
    refine Y.xor (by rfl) (by rfl) (xor64 s.2.2 s.1 (by omega) (by omega)) ?_
    refine XL.s rfl ?_
    refine Y.assign (by rfl) ?_
    refine XL.nil ?_
    refine QN.next ?_
    refine XC.seq ?_
    refine XC.region ?_
    show XL _ _ _ _ (List.cons _ _) _ _
    refine XL.s rfl ?_
    refine Y.move (by rfl) ?_
    refine XL.s rfl ?_
    refine Y.quo (by rfl) (by rfl) (by omega) (quo64 s.2.1 2 (by omega)) ?_
    refine XL.s rfl ?_
    refine Y.assign (by rfl) ?_
    refine XL.nil ?_
    refine QN.next ?_
    refine XC.seq ?_
    refine XC.region ?_
    show XL _ _ _ _ (List.cons _ _) _ _
    refine XL.s rfl ?_
    refine Y.move (by rfl) ?_
    refine XL.s rfl ?_
    refine Y.mul (by rfl) (by rfl) (show IntKind.i64.wrap _ = ((s.1 * 2 : Nat) : Int) from by rw [wrap64 (by omega) (by omega)]; omega) ?_
    refine XL.s rfl ?_
    refine Y.assign (by rfl) ?_
    refine XL.nil ?_
    refine QN.next ?_
    refine XC.seq ?_
    refine XC.region ?_
    show XL _ _ _ _ (List.cons _ _) _ _
    refine XL.s rfl ?_
    refine Y.move (by rfl) ?_
    refine XL.s rfl ?_
    refine Y.geq (by rfl) (by rfl) ?_
    refine XL.nil ?_
    refine QN.next ?_
    refine XC.condS rfl ?_ ?_
    ·intro hy
     try simp only [decide_eq_true_eq, decide_eq_false_iff_not, Bool.not_eq_true', Bool.not_eq_false', Bool.not_eq_eq_eq_not, Bool.not_true, Bool.not_false, Bool.or_eq_true, Bool.and_eq_true, Bool.or_eq_false_iff] at hy
     refine XC.region ?_
     show XL _ _ _ _ (List.cons _ _) _ _
     refine XL.s rfl ?_
     refine Y.move (by rfl) ?_
     refine XL.s rfl ?_
     refine Y.xor (by rfl) (by rfl) (xor64 (s.1 * 2) 285 (by omega) (by omega)) ?_
     refine XL.s rfl ?_
     refine Y.assign (by rfl) ?_
     refine XL.nil ?_
     refine QN.blk ?_
     refine QN.next ?_
     refine XC.region ?_
     show XL _ _ _ _ (List.cons _ _) _ _
     refine XL.s rfl ?_
     refine Y.move (by rfl) ?_
     refine XL.s rfl ?_
     refine Y.add (by rfl) (by rfl) (wrap64 (by omega) (by omega)) ?_
     refine XL.s rfl ?_
     refine Y.assign (by rfl) ?_
     refine XL.nil ?_
     refine QN.again (k + 1) ?_ ?_ ?_
     ·rw [hst]; simp only [pstep]; rw [if_pos (by omega), if_pos (by omega)]; exact ⟨rfl, rfl, rfl, rfl, trivial⟩
     ·exact ⟨by omega, rfl⟩
     ·first | omega | (simp only []; omega) | (simp; omega)
    ·intro hy
     try simp only [decide_eq_true_eq, decide_eq_false_iff_not, Bool.not_eq_true', Bool.not_eq_false', Bool.not_eq_eq_eq_not, Bool.not_true, Bool.not_false, Bool.or_eq_true, Bool.and_eq_true, Bool.or_eq_false_iff] at hy
     refine XC.skip ?_
     refine QN.blk ?_
     refine QN.next ?_
     refine XC.region ?_
     show XL _ _ _ _ (List.cons _ _) _ _
     refine XL.s rfl ?_
     refine Y.move (by rfl) ?_
     refine XL.s rfl ?_
     refine Y.add (by rfl) (by rfl) (wrap64 (by omega) (by omega)) ?_
     refine XL.s rfl ?_
     refine Y.assign (by rfl) ?_
     refine XL.nil ?_
     refine QN.again (k + 1) ?_ ?_ ?_
     ·rw [hst]; simp only [pstep]; rw [if_neg (by omega), if_pos (by omega)]; exact ⟨rfl, rfl, rfl, rfl, trivial⟩
     ·exact ⟨by omega, rfl⟩
     ·first | omega | (simp only []; omega) | (simp; omega)
   ·intro hx
    try simp only [decide_eq_true_eq, decide_eq_false_iff_not, Bool.not_eq_true', Bool.not_eq_false', Bool.not_eq_eq_eq_not, Bool.not_true, Bool.not_false, Bool.or_eq_true, Bool.and_eq_true, Bool.or_eq_false_iff] at hx
    refine XC.skip ?_
    refine QN.next ?_
    refine XC.seq ?_
    refine XC.region ?_
    show XL _ _ _ _ (List.cons _ _) _ _
    refine XL.s rfl ?_
    refine Y.move (by rfl) ?_
    refine XL.s rfl ?_
    refine Y.quo (by rfl) (by rfl) (by omega) (quo64 s.2.1 2 (by omega)) ?_
    refine XL.s rfl ?_
    refine Y.assign (by rfl) ?_
    refine XL.nil ?_
    refine QN.next ?_
    refine XC.seq ?_
    refine XC.region ?_
    show XL _ _ _ _ (List.cons _ _) _ _
    refine XL.s rfl ?_
    refine Y.move (by rfl) ?_
    refine XL.s rfl ?_
    refine Y.mul (by rfl) (by rfl) (show IntKind.i64.wrap _ = ((s.1 * 2 : Nat) : Int) from by rw [wrap64 (by omega) (by omega)]; omega) ?_
    refine XL.s rfl ?_
    refine Y.assign (by rfl) ?_
    refine XL.nil ?_
    refine QN.next ?_
    refine XC.seq ?_
    refine XC.region ?_
    show XL _ _ _ _ (List.cons _ _) _ _
    refine XL.s rfl ?_
    refine Y.move (by rfl) ?_
    refine XL.s rfl ?_
    refine Y.geq (by rfl) (by rfl) ?_
    refine XL.nil ?_
    refine QN.next ?_
    refine XC.condS rfl ?_ ?_
    ·intro hy
     try simp only [decide_eq_true_eq, decide_eq_false_iff_not, Bool.not_eq_true', Bool.not_eq_false', Bool.not_eq_eq_eq_not, Bool.not_true, Bool.not_false, Bool.or_eq_true, Bool.and_eq_true, Bool.or_eq_false_iff] at hy
     refine XC.region ?_
     show XL _ _ _ _ (List.cons _ _) _ _
     refine XL.s rfl ?_
     refine Y.move (by rfl) ?_
     refine XL.s rfl ?_
     refine Y.xor (by rfl) (by rfl) (xor64 (s.1 * 2) 285 (by omega) (by omega)) ?_
     refine XL.s rfl ?_
     refine Y.assign (by rfl) ?_
     refine XL.nil ?_
     refine QN.blk ?_
     refine QN.next ?_
     refine XC.region ?_
     show XL _ _ _ _ (List.cons _ _) _ _
     refine XL.s rfl ?_
     refine Y.move (by rfl) ?_
     refine XL.s rfl ?_
     refine Y.add (by rfl) (by rfl) (wrap64 (by omega) (by omega)) ?_
     refine XL.s rfl ?_
     refine Y.assign (by rfl) ?_
     refine XL.nil ?_
     refine QN.again (k + 1) ?_ ?_ ?_
     ·rw [hst]; simp only [pstep]; rw [if_pos (by omega), if_neg (by omega)]; exact ⟨rfl, rfl, rfl, rfl, trivial⟩
     ·exact ⟨by omega, rfl⟩
     ·first | omega | (simp only []; omega) | (simp; omega)
    ·intro hy
     try simp only [decide_eq_true_eq, decide_eq_false_iff_not, Bool.not_eq_true', Bool.not_eq_false', Bool.not_eq_eq_eq_not, Bool.not_true, Bool.not_false, Bool.or_eq_true, Bool.and_eq_true, Bool.or_eq_false_iff] at hy
     refine XC.skip ?_
     refine QN.blk ?_
     refine QN.next ?_
     refine XC.region ?_
     show XL _ _ _ _ (List.cons _ _) _ _
     refine XL.s rfl ?_
     refine Y.move (by rfl) ?_
     refine XL.s rfl ?_
     refine Y.add (by rfl) (by rfl) (wrap64 (by omega) (by omega)) ?_
     refine XL.s rfl ?_
     refine Y.assign (by rfl) ?_
     refine XL.nil ?_
     refine QN.again (k + 1) ?_ ?_ ?_
     ·rw [hst]; simp only [pstep]; rw [if_neg (by omega), if_neg (by omega)]; exact ⟨rfl, rfl, rfl, rfl, trivial⟩
     ·exact ⟨by omega, rfl⟩
     ·first | omega | (simp only []; omega) | (simp; omega)
  ·intro hc
   try simp only [decide_eq_true_eq, decide_eq_false_iff_not, Bool.not_eq_true', Bool.not_eq_false', Bool.not_eq_eq_eq_not, Bool.not_true, Bool.not_false, Bool.or_eq_true, Bool.and_eq_true, Bool.or_eq_false_iff] at hc
   obtain rfl : k = 8 := by omega
   refine XC.exit ?_
   refine QN.thenE ?_
   refine QN.thenE ?_
   refine QN.hit ?_
   refine QN.next ?_
   refine XC.seq ?_
   refine XC.region ?_
   show XL _ _ _ _ (List.cons _ _) _ _
   refine XL.s rfl ?_
   refine Y.move (by rfl) ?_
   refine XL.s rfl ?_
   refine Y.convI Tryz.underlying3 Tryz.underlying5 (by rfl) (byte_of _) ?_
   refine XL.s rfl ?_
   refine Y.assign (by rfl) ?_
   refine XL.nil ?_
   refine QN.next ?_
   refine XC.ret ?_
   refine QN.done1 (fn := Tryz.f90) (R := R) (.inl rfl) rfl rfl ?_
   refine hR _ _ ?_
   exact ⟨rfl, Chg.refl _ _⟩
theorem rinv_ok (x : UInt8) (w : World) :
  Rets Tryz.prog 91 #[byteV x] w fun v w' => v = byteV (pinv x) ∧ Ext w w' := by
 refine Rets.enter (args := [byteV x]) (n := 15) Tryz.func91 rfl rfl rfl ?_
 intro R hR
 show XC _ _ _ _ [(0, byteV x)] _
 refine XC.seq ?_
 refine XC.region ?_
 show XL _ _ _ _ (List.cons _ _) _ _
 refine XL.s rfl ?_
 refine Y.assign (by rfl) ?_
 refine XL.nil ?_
 refine QN.next ?_
 refine XC.seq ?_
 refine XC.seq ?_
 refine XC.region ?_
 show XL _ _ _ _ (List.cons _ _) _ _
 refine XL.s rfl ?_
 refine Y.assign (by rfl) ?_
 refine XL.nil ?_
 refine QN.next ?_
 refine XC.block ?_
 refine XC.loop (α := Nat) (fun k => [(0, byteV x), (3, .int .i64 ((k + 1 : Nat) : Int))]) (fun k wr => k ≤ 255 ∧ pinvK x k = none ∧ Ext w wr) (fun k => 255 - k) (0) ?_ ?_ ?_
 ·exact ⟨rfl, rfl, trivial⟩
 ·exact ⟨by omega, rfl, Chg.refl _ _⟩
 ·rintro k wr hI
  obtain ⟨hk, hn, hE⟩ := hI
  refine XC.seq ?_
  refine XC.seq ?_
  refine XC.region ?_
  show XL _ _ _ _ (List.cons _ _) _ _
  refine XL.s rfl ?_
  refine Y.move (by rfl) ?_
  refine XL.s rfl ?_
  refine Y.lss (by rfl) (by rfl) ?_
  refine XL.nil ?_
  refine QN.next ?_
  refine XC.condS rfl ?_ ?_
  ·intro hc
   try simp only [decide_eq_true_eq, decide_eq_false_iff_not, Bool.not_eq_true', Bool.not_eq_false', Bool.not_eq_eq_eq_not, Bool.not_true, Bool.not_false, Bool.or_eq_true, Bool.and_eq_true, Bool.or_eq_false_iff] at hc
   refine XC.skip ?_
   refine QN.next ?_
   refine XC.seq ?_
   refine XC.block ?_
   refine XC.seq ?_
   refine XC.region ?_
   show XL _ _ _ _ (List.cons _ _) _ _
   refine XL.s rfl ?_
   refine Y.move (by rfl) ?_
   refine XL.s rfl ?_
   refine Y.move (by rfl) ?_
   refine XL.s rfl ?_
   refine Y.convI Tryz.underlying3 Tryz.underlying5 (by rfl) (byte_of _) ?_
   refine XL.s rfl ?_
   refine Y.call (by rfl) ok90 (rmul_ok x (UInt8.ofNat (k + 1)) _) ?_
   rintro v11 w11 ⟨rfl, hE11⟩
   refine XL.s rfl ?_
   refine Y.eql (by rfl) (by rfl) ?_
   refine XL.nil ?_
   refine QN.next ?_
   refine XC.condS rfl ?_ ?_
   ·intro hx
    try simp only [decide_eq_true_eq, decide_eq_false_iff_not, Bool.not_eq_true', Bool.not_eq_false', Bool.not_eq_eq_eq_not, Bool.not_true, Bool.not_false, Bool.or_eq_true, Bool.and_eq_true, Bool.or_eq_false_iff] at hx
    have hx1 : pmul x (UInt8.ofNat (k + 1)) = 1 := UInt8.toNat_inj.1 (by rw [show (1 : UInt8).toNat = 1 from rfl]; omega)
    refine XC.seq ?_
    refine XC.region ?_
    show XL _ _ _ _ (List.cons _ _) _ _
    refine XL.s rfl ?_
    refine Y.move (by rfl) ?_
    refine XL.s rfl ?_
    refine Y.convI Tryz.underlying3 Tryz.underlying5 (by rfl) (byte_of _) ?_
    refine XL.s rfl ?_
    refine Y.assign (by rfl) ?_
    refine XL.nil ?_
    refine QN.next ?_
    refine XC.ret ?_
    refine QN.done1 (fn := Tryz.f91) (R := R) (.inl rfl) rfl rfl ?_
    refine hR _ _ ?_
    exact ⟨by rw [pinv, pinvK_some x k 255 (by rw [pinvK, hn]; exact if_pos hx1) (by omega)]; rfl, hE.trans hE11⟩
   ·intro hx
    try simp only [decide_eq_true_eq, decide_eq_false_iff_not, Bool.not_eq_true', Bool.not_eq_false', Bool.not_eq_eq_eq_not, Bool.not_true, Bool.not_false, Bool.or_eq_true, Bool.and_eq_true, Bool.or_eq_false_iff] at hx
    have hx1 : ¬ pmul x (UInt8.ofNat (k + 1)) = 1 := fun e => hx (by rw [e]; rfl)
    refine XC.skip ?_
    refine QN.blk ?_
    refine QN.next ?_
    refine XC.region ?_
    show XL _ _ _ _ (List.cons _ _) _ _
    refine XL.s rfl ?_
    refine Y.move (by rfl) ?_
    refine XL.s rfl ?_
    refine Y.add (by rfl) (by rfl) (wrap64 (by omega) (by omega)) ?_
    refine XL.s rfl ?_
    refine Y.assign (by rfl) ?_
    refine XL.nil ?_
    refine QN.again (k + 1) ?_ ?_ ?_
    ·exact ⟨rfl, rfl, trivial⟩
    ·exact ⟨by omega, by rw [pinvK, hn]; exact if_neg hx1, hE.trans hE11⟩
    ·first | omega | (simp only []; omega) | (simp; omega)
  ·intro hc
   try simp only [decide_eq_true_eq, decide_eq_false_iff_not, Bool.not_eq_true', Bool.not_eq_false', Bool.not_eq_eq_eq_not, Bool.not_true, Bool.not_false, Bool.or_eq_true, Bool.and_eq_true, Bool.or_eq_false_iff] at hc
   obtain rfl : k = 255 := by omega
   refine XC.exit ?_
   refine QN.thenE ?_
   refine QN.thenE ?_
   refine QN.hit ?_
   refine QN.next ?_
   refine XC.seq ?_
   refine XC.region ?_
   show XL _ _ _ _ (List.cons _ _) _ _
   refine XL.s rfl ?_
   refine Y.assign (by rfl) ?_
   refine XL.nil ?_
   refine QN.next ?_
   refine XC.ret ?_
   refine QN.done1 (fn := Tryz.f91) (R := R) (.inl rfl) rfl rfl ?_
   refine hR _ _ ?_
   exact ⟨by rw [pinv, hn]; rfl, hE⟩
end Go.Proofs.YtchammpamigonaaGreatX
end
