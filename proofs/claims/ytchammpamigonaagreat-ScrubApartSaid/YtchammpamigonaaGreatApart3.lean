/- For every shape, two texts and seven spoils shardloglaw25.ScrubApart returns true and leaves what it was handed as it was; no condition. Part 3 of 6: joined by a program of this repo out of texts of its own. -/
import Derived.Test.YtchammpamigonaaGreatProg
import Derived.Lib.Strings
import Derived.Lib.Slices
import Derived.Lib.Small
import Derived.Lib.Walk
import Derived.Lib.BitFns
import Derived.Test.YtchammpamigonaaGreatApart2
set_option linter.unusedVariables false
set_option linter.unusedSimpArgs false
section
set_option linter.unusedVariables false
set_option linter.unusedSimpArgs false
set_option maxRecDepth 10000
set_option maxHeartbeats 4000000
namespace Go.Proofs.YtchammpamigonaaGreatX
open Go Go.RowKit Go.Proofs
set_option maxHeartbeats 4000000 in
set_option maxRecDepth 100000 in
theorem bitsLen64_ok (x : Int) (w : World) (h0 : 0 ≤ x) (h1 : x ≤ 18446744073709551615) :
    Calls Tryz.prog 116 #[.int .u64 x] w fun e w' => e = .returned (.int .i64 (Lib.bitLen x.toNat)) ∧ w' = w := by
  go_enter Tryz.func116, Tryz.ntmps116
  go_wp2
  all_goals (go_ret; refine ⟨congrArg Ending.returned (congrArg (Value.int IntKind.i64) ?_), rfl⟩)
  all_goals first
    | (rw [Lib.len8_of (x / 4294967296 / 65536 / 256 % 256) (by omega) (by omega)]
       have e : (x / 4294967296 / 65536 / 256 % 256).toNat = x.toNat / 72057594037927936 := by omega
       have l := Lib.bitLen_le8' (x / 4294967296 / 65536 / 256 % 256) (by omega) (by omega)
       have s := Lib.bitLen_shift56 x.toNat (by omega) (by omega)
       rw [e] at l ⊢
       omega)
    | (rw [Lib.len8_of (x / 4294967296 / 65536 % 256) (by omega) (by omega)]
       have e : (x / 4294967296 / 65536 % 256).toNat = x.toNat / 281474976710656 := by omega
       have l := Lib.bitLen_le8' (x / 4294967296 / 65536 % 256) (by omega) (by omega)
       have s := Lib.bitLen_shift48 x.toNat (by omega) (by omega)
       rw [e] at l ⊢
       omega)
    | (rw [Lib.len8_of (x / 4294967296 / 256 % 256) (by omega) (by omega)]
       have e : (x / 4294967296 / 256 % 256).toNat = x.toNat / 1099511627776 := by omega
       have l := Lib.bitLen_le8' (x / 4294967296 / 256 % 256) (by omega) (by omega)
       have s := Lib.bitLen_shift40 x.toNat (by omega) (by omega)
       rw [e] at l ⊢
       omega)
    | (rw [Lib.len8_of (x / 4294967296 % 256) (by omega) (by omega)]
       have e : (x / 4294967296 % 256).toNat = x.toNat / 4294967296 := by omega
       have l := Lib.bitLen_le8' (x / 4294967296 % 256) (by omega) (by omega)
       have s := Lib.bitLen_shift32 x.toNat (by omega) (by omega)
       rw [e] at l ⊢
       omega)
    | (rw [Lib.len8_of (x / 65536 / 256 % 256) (by omega) (by omega)]
       have e : (x / 65536 / 256 % 256).toNat = x.toNat / 16777216 := by omega
       have l := Lib.bitLen_le8' (x / 65536 / 256 % 256) (by omega) (by omega)
       have s := Lib.bitLen_shift24 x.toNat (by omega) (by omega)
       rw [e] at l ⊢
       omega)
    | (rw [Lib.len8_of (x / 65536 % 256) (by omega) (by omega)]
       have e : (x / 65536 % 256).toNat = x.toNat / 65536 := by omega
       have l := Lib.bitLen_le8' (x / 65536 % 256) (by omega) (by omega)
       have s := Lib.bitLen_shift16 x.toNat (by omega) (by omega)
       rw [e] at l ⊢
       omega)
    | (rw [Lib.len8_of (x / 256 % 256) (by omega) (by omega)]
       have e : (x / 256 % 256).toNat = x.toNat / 256 := by omega
       have l := Lib.bitLen_le8' (x / 256 % 256) (by omega) (by omega)
       have s := Lib.bitLen_shift8 x.toNat (by omega) (by omega)
       rw [e] at l ⊢
       omega)
    | (rw [Lib.len8_of (x % 256) (by omega) (by omega)]
       have e : (x % 256).toNat = x.toNat := by omega
       have l := Lib.bitLen_le8' (x % 256) (by omega) (by omega)
       rw [e] at l ⊢
       omega)
theorem bitsLen_ok (x : Int) (w : World) (h0 : 0 ≤ x) (h1 : x ≤ 18446744073709551615) :
    Calls Tryz.prog 104 #[.int .u64 x] w fun e w' => e = .returned (.int .i64 (Lib.bitLen x.toNat)) ∧ w' = w := by
  go_enter Tryz.func104, Tryz.ntmps104
  go_wp2_with (go_at_call 116; refine (bitsLen64_ok x _ h0 h1).mono ?_; rintro e w' ⟨rfl, rfl⟩)
  go_ret
  exact ⟨rfl, rfl⟩
theorem bitsLenR (x : Int) (w : World) (h0 : 0 ≤ x) (h1 : x ≤ 18446744073709551615) : Rets Tryz.prog 104 #[.int .u64 x] w fun v w' => ∃ z : Int, v = .int .i64 z ∧ w' = w :=
  (bitsLen_ok x w h0 h1).mono fun e w' h => ⟨_, h.1, _, rfl, h.2⟩
end Go.Proofs.YtchammpamigonaaGreatX
end
section
set_option linter.unusedVariables false
set_option linter.unusedSimpArgs false
set_option maxRecDepth 10000
set_option maxHeartbeats 4000000
namespace Go.Proofs.YtchammpamigonaaGreatX
open Go Go.RowKit Go.Proofs
theorem isNaN_ok (a : List UInt8) (w : World) :
  Rets Tryz.prog 123 #[strV a] w fun v w' => v = .bool false ∧ w' = w := by
 refine Rets.enter (args := [strV a]) (n := 6) Tryz.func123 rfl rfl rfl ?_
 intro R hR
 show XC _ _ _ _ [(0, strV a)] _
 refine XC.seq ?_
 refine XC.region ?_
 show XL _ _ _ _ (List.cons _ _) _ _
 refine XL.s rfl ?_
 refine Y.assign (by rfl) ?_
 refine XL.nil ?_
 refine QN.next ?_
 refine XC.seq ?_
 refine XC.region ?_
 show XL _ _ _ _ (List.cons _ _) _ _
 refine XL.s rfl ?_
 refine Y.move (by rfl) ?_
 refine XL.s rfl ?_
 refine Y.move (by rfl) ?_
 refine XL.s rfl ?_
 refine Y.neqS (by rfl) (by rfl) ?_
 refine XL.s rfl ?_
 refine Y.assign (by rfl) ?_
 refine XL.nil ?_
 refine QN.next ?_
 refine XC.ret ?_
 refine QN.done1 (fn := Tryz.f123) (R := R) (.inl rfl) rfl rfl ?_
 refine hR _ _ ?_
 exact ⟨by simp [resVal], rfl⟩
theorem less_ok (a b : List UInt8) (w : World) :
  Rets Tryz.prog 112 #[strV a, strV b] w fun v w' => v = .bool (Op.bytesLess a b) ∧ w' = w := by
 refine Rets.enter (args := [strV a, strV b]) (n := 17) Tryz.func112 rfl rfl rfl ?_
 intro R hR
 show XC _ _ _ _ [(0, strV a), (1, strV b)] _
 refine XC.seq ?_
 refine XC.region ?_
 show XL _ _ _ _ (List.cons _ _) _ _
 refine XL.s rfl ?_
 refine Y.assign (by rfl) ?_
 refine XL.nil ?_
 refine QN.next ?_
 refine XC.seq ?_
 refine XC.region ?_
 show XL _ _ _ _ (List.cons _ _) _ _
 refine XL.s rfl ?_
 refine Y.move (by rfl) ?_
 refine XL.s rfl ?_
 refine Y.call (by rfl) ok123 (isNaN_ok _ _) ?_
 rintro v6 w6 ⟨rfl, rfl⟩
 refine XL.s rfl ?_
 refine Y.move (by rfl) ?_
 refine XL.gf rfl rfl rfl rfl ?_
 refine XL.gf rfl rfl rfl rfl ?_
 refine XL.gf rfl rfl rfl rfl ?_
 refine XL.s rfl ?_
 refine Y.pickF (by rfl) rfl (by rfl) ?_
 refine XL.s rfl ?_
 refine Y.move (by rfl) ?_
 refine XL.gt rfl rfl rfl rfl ?_
 refine Y.move (by rfl) ?_
 refine XL.gt rfl rfl rfl rfl ?_
 refine Y.move (by rfl) ?_
 refine XL.gt rfl rfl rfl rfl ?_
 refine Y.lssS (by rfl) (by rfl) ?_
 refine XL.s rfl ?_
 refine Y.pickF (by rfl) rfl (by rfl) ?_
 refine XL.s rfl ?_
 refine Y.assign (by rfl) ?_
 refine XL.nil ?_
 refine QN.next ?_
 refine XC.ret ?_
 refine QN.done1 (fn := Tryz.f112) (R := R) (.inl rfl) rfl rfl ?_
 refine hR _ _ ?_
 exact ⟨rfl, rfl⟩
theorem insort_ok (g cap n : Nat) (ss : List (List UInt8)) (w : World) (hO : Own (· = g) w 9 1 (.slice (some ⟨g, 0, none⟩) n cap) n (strsV ss)) (hl : ss.length = n) (hn : n ≤ 1000000) :
  Rets Tryz.prog 106 #[.slice (some ⟨g, 0, none⟩) n cap, .int .i64 0, .int .i64 n] w fun v w' => ∃ tt : List (List UInt8), tt.Perm ss ∧ Own (· = g) w' 9 1 (.slice (some ⟨g, 0, none⟩) n cap) n (strsV tt) ∧ Chg (· = g) w w' := by
 refine Rets.enter (args := [.slice (some ⟨g, 0, none⟩) n cap, .int .i64 0, .int .i64 n]) (n := 49) Tryz.func106 rfl rfl rfl ?_
 intro R hR
 show XC _ _ _ _ [(0, .slice (some ⟨g, 0, none⟩) n cap), (1, .int .i64 0), (2, .int .i64 n)] _
 refine XC.seq ?_
 refine XC.region ?_
 show XL _ _ _ _ (List.cons _ _) _ _
 refine XL.s rfl ?_
 refine Y.move (by rfl) ?_
 refine XL.s rfl ?_
 refine Y.add (by rfl) (by rfl) (wrap64 (by omega) (by omega)) ?_
 refine XL.s rfl ?_
 refine Y.assign (by rfl) ?_
 refine XL.nil ?_
 refine QN.next ?_
 refine XC.block ?_
 refine XC.loop (α := Nat × List (List UInt8)) (fun (i, tt) => [(0, .slice (some ⟨g, 0, none⟩) n cap), (1, .int .i64 0), (2, .int .i64 n), (6, .int .i64 i)]) (fun (i, tt) wr => 1 ≤ i ∧ tt.Perm ss ∧ Own (· = g) wr 9 1 (.slice (some ⟨g, 0, none⟩) n cap) n (strsV tt) ∧ Chg (· = g) w wr) (fun (i, tt) => n - i) ((1, ss)) ?_ ?_ ?_
 ·exact ⟨rfl, rfl, rfl, rfl, trivial⟩
 ·exact ⟨Nat.le_refl _, List.Perm.refl _, hO, Chg.refl _ _⟩
 ·rintro ⟨i, tt⟩ wr hI
  obtain ⟨h1, hp, hO, hC⟩ := hI
  refine XC.seq ?_
  refine XC.seq ?_
  refine XC.region ?_
  show XL _ _ _ _ (List.cons _ _) _ _
  refine XL.s rfl ?_
  refine Y.move (by rfl) ?_
  refine XL.s rfl ?_
  refine Y.move (by rfl) ?_
  refine XL.s rfl ?_
  refine Y.lss (by rfl) (by rfl) ?_
  refine XL.nil ?_
  refine QN.next ?_
  refine XC.condS rfl ?_ ?_
  ·intro hc
   try simp only [decide_eq_true_eq, decide_eq_false_iff_not, Bool.not_eq_true', Bool.not_eq_false', Bool.not_eq_eq_eq_not, Bool.not_true, Bool.not_false, Bool.or_eq_true, Bool.and_eq_true, Bool.or_eq_false_iff] at hc
   refine XC.skip ?_
   refine QN.next ?_
   refine XC.seq ?_
   refine XC.block ?_
   refine XC.seq ?_
   refine XC.region ?_
   show XL _ _ _ _ (List.cons _ _) _ _
   refine XL.s rfl ?_
   refine Y.move (by rfl) ?_
   refine XL.s rfl ?_
   refine Y.assign (by rfl) ?_
   refine XL.nil ?_
   refine QN.next ?_
   refine XC.block ?_
   refine XC.loop (α := Nat × List (List UInt8)) (fun (j, ss2) => [(0, .slice (some ⟨g, 0, none⟩) n cap), (1, .int .i64 0), (2, .int .i64 n), (6, .int .i64 i), (7, .int .i64 j)]) (fun (j, ss2) wr => j ≤ i ∧ ss2.Perm ss ∧ Own (· = g) wr 9 1 (.slice (some ⟨g, 0, none⟩) n cap) n (strsV ss2) ∧ Chg (· = g) w wr) (fun (j, ss2) => j) ((i, tt)) ?_ ?_ ?_
   ·exact ⟨rfl, rfl, rfl, rfl, rfl, trivial⟩
   ·exact ⟨Nat.le_refl _, hp, hO, hC⟩
   ·rintro ⟨j, ss2⟩ wr hI
    obtain ⟨h2, hp2, hO, hC⟩ := hI
    refine XC.seq ?_
    refine XC.seq ?_
    by_cases hj : j = 0
    ·skip
     apply XC.drop [8, 9, 10, 11, 12, 13, 14, 15, 16, 17, 18, 19, 20, 21, 22, 23, 24, 25, 26, 27, 28, 29, 30, 31, 32, 33, 34, 35, 36, 37, 38, 39, 40, 41, 42, 43, 44, 45, 46, 47, 48]
     ·repeat (first | apply DropTo.nil | apply DropTo.skip rfl | apply DropTo.keep rfl)
     refine XC.drawL 13 [[], [], [0, 1], [0, 1, 2], [0, 1, 2, 3], [0, 1, 2, 3], [0, 1, 2, 3, 4, 5], [0, 1, 2, 3, 4, 5, 6], [0, 1, 2, 3], [0, 1, 2, 3], [0, 1, 2, 3, 9], [0, 1, 2, 3, 8, 9, 10], [0, 1, 2, 3, 8, 9, 10, 11], [0, 1, 2, 3, 4, 5, 6, 7, 8, 9, 10, 11, 12], [0, 1, 2, 3, 4, 5, 6, 7, 8, 9, 10, 11, 12, 13]] _ (Chg NoB) (Steady.chg NoB) [4, 5, 6, 7, 8, 9, 10, 11, 12] [] [0, 1, 2, 3, 4, 5, 6, 7, 8, 9, 10, 11, 12] fol (by kernel_rfl) (by rfl) (by rfl) trivial ⟨?_, ?_, ?_, ?_, ?_, ?_, ?_, ?_, ?_, ?_, ?_, ?_, ?_, trivial⟩ ?_
     ·intro aD4 wD4 haD4 hCD4 hrD4
      refine ⟨rfl, ?_⟩
      refine XD.start haD4 ?_
      apply XD.stepP rfl
      intro w3
      refine Y.move (by rfl) ?_
      exact ⟨rfl, rfl⟩
     ·intro aD4 wD4 haD4 hCD4 hrD4
      refine ⟨rfl, ?_⟩
      refine XD.start haD4 ?_
      apply XD.stepP rfl
      intro w3
      refine Y.move (by rfl) ?_
      exact ⟨rfl, rfl⟩
     ·intro aD4 wD4 haD4 hCD4 hrD4
      obtain ⟨r0, r1, -⟩ := hrD4
      refine ⟨rfl, ?_⟩
      refine XD.start haD4 ?_
      refine XD.pure r0 ?_
      refine Y.move (by rfl) ?_
      refine XD.pure r1 ?_
      refine Y.move (by rfl) ?_
      apply XD.stepP rfl
      intro w3
      refine Y.gtr (by rfl) (by rfl) ?_
      exact ⟨rfl, rfl⟩
     ·intro aD4 wD4 haD4 hCD4 hrD4
      obtain ⟨r0, r1, r2, -⟩ := hrD4
      refine ⟨rfl, ?_⟩
      refine XD.start haD4 ?_
      refine XD.pure r0 ?_
      refine Y.move (by rfl) ?_
      refine XD.pure r1 ?_
      refine Y.move (by rfl) ?_
      refine XD.pure r2 ?_
      refine Y.gtr (by rfl) (by rfl) ?_
      apply XD.stepP rfl
      intro w3
      refine Y.move (by rfl) ?_
      exact ⟨rfl, rfl⟩
     ·intro aD4 wD4 haD4 hCD4 hrD4
      obtain ⟨r0, r1, r2, r3, -⟩ := hrD4
      refine XD.start haD4 ?_
      refine XD.pure r0 ?_
      refine Y.move (by rfl) ?_
      refine XD.pure r1 ?_
      refine Y.move (by rfl) ?_
      refine XD.pure r2 ?_
      refine Y.gtr (by rfl) (by rfl) ?_
      refine XD.pure r3 ?_
      refine Y.move (by rfl) ?_
      exact XD.wantF rfl rfl (by rfl) ya
     ·intro aD4 wD4 haD4 hCD4 hrD4
      obtain ⟨r0, r1, r2, r3, -⟩ := hrD4
      refine XD.start haD4 ?_
      refine XD.pure r0 ?_
      refine Y.move (by rfl) ?_
      refine XD.pure r1 ?_
      refine Y.move (by rfl) ?_
      refine XD.pure r2 ?_
      refine Y.gtr (by rfl) (by rfl) ?_
      refine XD.pure r3 ?_
      refine Y.move (by rfl) ?_
      exact XD.wantF rfl rfl (by rfl) ya
     ·intro aD4 wD4 haD4 hCD4 hrD4
      obtain ⟨r0, r1, r2, r3, r4, r5, -⟩ := hrD4
      refine XD.start haD4 ?_
      refine XD.pure r0 ?_
      refine Y.move (by rfl) ?_
      refine XD.pure r1 ?_
      refine Y.move (by rfl) ?_
      refine XD.pure r2 ?_
      refine Y.gtr (by rfl) (by rfl) ?_
      refine XD.pure r3 ?_
      refine Y.move (by rfl) ?_
      refine XD.skip r4 ?_
      refine XD.skip r5 ?_
      exact XD.wantF rfl rfl (by rfl) ya
     ·intro aD4 wD4 haD4 hCD4 hrD4
      obtain ⟨r0, r1, r2, r3, r4, r5, r6, -⟩ := hrD4
      refine XD.start haD4 ?_
      refine XD.pure r0 ?_
      refine Y.move (by rfl) ?_
      refine XD.pure r1 ?_
      refine Y.move (by rfl) ?_
      refine XD.pure r2 ?_
      refine Y.gtr (by rfl) (by rfl) ?_
      refine XD.pure r3 ?_
      refine Y.move (by rfl) ?_
      refine XD.skip r4 ?_
      refine XD.skip r5 ?_
      refine XD.skip r6 ?_
      exact XD.wantF rfl rfl (by rfl) ya
     ·intro aD4 wD4 haD4 hCD4 hrD4
      obtain ⟨r0, r1, r2, r3, -⟩ := hrD4
      refine XD.start haD4 ?_
      refine XD.pure r0 ?_
      refine Y.move (by rfl) ?_
      refine XD.pure r1 ?_
      refine Y.move (by rfl) ?_
      refine XD.pure r2 ?_
      refine Y.gtr (by rfl) (by rfl) ?_
      refine XD.pure r3 ?_
      refine Y.move (by rfl) ?_
      exact XD.wantF rfl rfl (by rfl) ya
     ·intro aD4 wD4 haD4 hCD4 hrD4
      obtain ⟨r0, r1, r2, r3, -⟩ := hrD4
      refine XD.start haD4 ?_
      refine XD.pure r0 ?_
      refine Y.move (by rfl) ?_
      refine XD.pure r1 ?_
      refine Y.move (by rfl) ?_
      refine XD.pure r2 ?_
      refine Y.gtr (by rfl) (by rfl) ?_
      refine XD.pure r3 ?_
      refine Y.move (by rfl) ?_
      exact XD.wantF rfl rfl (by rfl) ya
     ·intro aD4 wD4 haD4 hCD4 hrD4
      obtain ⟨r0, r1, r2, r3, r9, -⟩ := hrD4
      refine XD.start haD4 ?_
      refine XD.pure r0 ?_
      refine Y.move (by rfl) ?_
      refine XD.pure r1 ?_
      refine Y.move (by rfl) ?_
      refine XD.pure r2 ?_
      refine Y.gtr (by rfl) (by rfl) ?_
      refine XD.pure r3 ?_
      refine Y.move (by rfl) ?_
      refine XD.skip r9 ?_
      exact XD.wantF rfl rfl (by rfl) ya
     ·intro aD4 wD4 haD4 hCD4 hrD4
      obtain ⟨r0, r1, r2, r3, r8, r9, r10, -⟩ := hrD4
      refine XD.start haD4 ?_
      refine XD.pure r0 ?_
      refine Y.move (by rfl) ?_
      refine XD.pure r1 ?_
      refine Y.move (by rfl) ?_
      refine XD.pure r2 ?_
      refine Y.gtr (by rfl) (by rfl) ?_
      refine XD.pure r3 ?_
      refine Y.move (by rfl) ?_
      refine XD.skip r8 ?_
      refine XD.skip r9 ?_
      refine XD.skip r10 ?_
      exact XD.wantF rfl rfl (by rfl) ya
     ·intro aD4 wD4 haD4 hCD4 hrD4
      obtain ⟨r0, r1, r2, r3, r8, r9, r10, r11, -⟩ := hrD4
      refine XD.start haD4 ?_
      refine XD.pure r0 ?_
      refine Y.move (by rfl) ?_
      refine XD.pure r1 ?_
      refine Y.move (by rfl) ?_
      refine XD.pure r2 ?_
      refine Y.gtr (by rfl) (by rfl) ?_
      refine XD.pure r3 ?_
      refine Y.move (by rfl) ?_
      refine XD.skip r8 ?_
      refine XD.skip r9 ?_
      refine XD.skip r10 ?_
      refine XD.skip r11 ?_
      exact XD.wantF rfl rfl (by rfl) ya
     intro aD4 wD4 haD4 hCD4 hrD4
     obtain ⟨r0, r1, r2, r3, r4, r5, r6, r7, r8, r9, r10, r11, r12, -⟩ := hrD4
     replace hO := hO.ext hCD4
     refine XD.start haD4 ?_
     refine XD.pure r0 ?_
     refine Y.move (by rfl) ?_
     refine XD.pure r1 ?_
     refine Y.move (by rfl) ?_
     refine XD.pure r2 ?_
     refine Y.gtr (by rfl) (by rfl) ?_
     refine XD.pure r3 ?_
     refine Y.move (by rfl) ?_
     refine XD.skip r4 ?_
     refine XD.skip r5 ?_
     refine XD.skip r6 ?_
     refine XD.skip r7 ?_
     refine XD.skip r8 ?_
     refine XD.skip r9 ?_
     refine XD.skip r10 ?_
     refine XD.skip r11 ?_
     refine XD.skip r12 ?_
     refine XD.fin haD4 ?_
     show XL _ _ _ _ (List.cons _ _) _ _
     refine XL.gf rfl rfl ya rfl ?_
     refine XL.s rfl ?_
     refine Y.pickF (by rfl) ya (by rfl) ?_
     refine XL.nil ?_
     refine QN.next ?_
     refine XC.condF rfl rfl ?_
     refine XC.exit ?_
     refine QN.thenE ?_
     refine QN.thenE ?_
     refine QN.hit ?_
     refine QN.blk ?_
     refine QN.next ?_
     refine XC.region ?_
     show XL _ _ _ _ (List.cons _ _) _ _
     refine XL.s rfl ?_
     refine Y.move (by rfl) ?_
     refine XL.s rfl ?_
     refine Y.add (by rfl) (by rfl) (wrap64 (by omega) (by omega)) ?_
     refine XL.s rfl ?_
     refine Y.assign (by rfl) ?_
     refine XL.nil ?_
     refine QN.again ((i + 1, ss2)) ?_ ?_ ?_
     ·exact ⟨rfl, rfl, rfl, rfl, trivial⟩
     ·exact ⟨by omega, hp2, hO, hC.ext hCD4⟩
     ·first | omega | (simp only []; omega) | (simp; omega)
    ·skip
     obtain ⟨k, rfl⟩ : ∃ k, j = k + 1 := ⟨j - 1, by omega⟩
     have hl2 : ss2.length = n := hp2.length_eq.trans hl
     apply XC.drop [8, 9, 10, 11, 12, 13, 14, 15, 16, 17, 18, 19, 20, 21, 22, 23, 24, 25, 26, 27, 28, 29, 30, 31, 32, 33, 34, 35, 36, 37, 38, 39, 40, 41, 42, 43, 44, 45, 46, 47, 48]
     ·repeat (first | apply DropTo.nil | apply DropTo.skip rfl | apply DropTo.keep rfl)
     refine XC.drawL 13 [[], [], [0, 1], [0, 1, 2], [0, 1, 2, 3], [0, 1, 2, 3], [0, 1, 2, 3, 4, 5], [0, 1, 2, 3, 4, 5, 6], [0, 1, 2, 3], [0, 1, 2, 3], [0, 1, 2, 3, 9], [0, 1, 2, 3, 8, 9, 10], [0, 1, 2, 3, 8, 9, 10, 11], [0, 1, 2, 3, 4, 5, 6, 7, 8, 9, 10, 11, 12], [0, 1, 2, 3, 4, 5, 6, 7, 8, 9, 10, 11, 12, 13]] _ (Chg NoB) (Steady.chg NoB) [] [(7, (fun v _ => v = strV ss2[k + 1])), (12, (fun v _ => v = strV ss2[k]))] [0, 1, 2, 3, 4, 5, 6, 7, 8, 9, 10, 11, 12] fol (by kernel_rfl) (by rfl) (by rfl) ⟨(fun _ _ _ _ h => h), (fun _ _ _ _ h => h), trivial⟩ ⟨?_, ?_, ?_, ?_, ?_, ?_, ?_, ?_, ?_, ?_, ?_, ?_, ?_, trivial⟩ ?_
     ·intro aD4 wD4 haD4 hCD4 hrD4
      refine ⟨rfl, ?_⟩
      refine XD.start haD4 ?_
      apply XD.stepP rfl
      intro w3
      refine Y.move (by rfl) ?_
      exact ⟨rfl, rfl⟩
     ·intro aD4 wD4 haD4 hCD4 hrD4
      refine ⟨rfl, ?_⟩
      refine XD.start haD4 ?_
      apply XD.stepP rfl
      intro w3
      refine Y.move (by rfl) ?_
      exact ⟨rfl, rfl⟩
     ·intro aD4 wD4 haD4 hCD4 hrD4
      obtain ⟨r0, r1, -⟩ := hrD4
      refine ⟨rfl, ?_⟩
      refine XD.start haD4 ?_
      refine XD.pure r0 ?_
      refine Y.move (by rfl) ?_
      refine XD.pure r1 ?_
      refine Y.move (by rfl) ?_
      apply XD.stepP rfl
      intro w3
      refine Y.gtr (by rfl) (by rfl) ?_
      exact ⟨rfl, rfl⟩
     ·intro aD4 wD4 haD4 hCD4 hrD4
      obtain ⟨r0, r1, r2, -⟩ := hrD4
      refine ⟨rfl, ?_⟩
      refine XD.start haD4 ?_
      refine XD.pure r0 ?_
      refine Y.move (by rfl) ?_
      refine XD.pure r1 ?_
      refine Y.move (by rfl) ?_
      refine XD.pure r2 ?_
      refine Y.gtr (by rfl) (by rfl) ?_
      apply XD.stepP rfl
      intro w3
      refine Y.move (by rfl) ?_
      exact ⟨rfl, rfl⟩
     ·intro aD4 wD4 haD4 hCD4 hrD4
      obtain ⟨r0, r1, r2, r3, -⟩ := hrD4
      refine XD.start haD4 ?_
      refine XD.pure r0 ?_
      refine Y.move (by rfl) ?_
      refine XD.pure r1 ?_
      refine Y.move (by rfl) ?_
      refine XD.pure r2 ?_
      refine Y.gtr (by rfl) (by rfl) ?_
      refine XD.pure r3 ?_
      refine Y.move (by rfl) ?_
      refine XD.wantT rfl rfl (by rfl) ya ?_
      apply XD.stepP rfl
      intro w3
      refine Y.move (by rfl) ?_
      exact ⟨rfl, rfl⟩
     ·intro aD4 wD4 haD4 hCD4 hrD4
      obtain ⟨r0, r1, r2, r3, -⟩ := hrD4
      refine XD.start haD4 ?_
      refine XD.pure r0 ?_
      refine Y.move (by rfl) ?_
      refine XD.pure r1 ?_
      refine Y.move (by rfl) ?_
      refine XD.pure r2 ?_
      refine Y.gtr (by rfl) (by rfl) ?_
      refine XD.pure r3 ?_
      refine Y.move (by rfl) ?_
      refine XD.wantT rfl rfl (by rfl) ya ?_
      apply XD.stepP rfl
      intro w3
      refine Y.move (by rfl) ?_
      exact ⟨rfl, rfl⟩
     ·intro aD4 wD4 haD4 hCD4 hrD4
      obtain ⟨r0, r1, r2, r3, r4, r5, -⟩ := hrD4
      refine XD.start haD4 ?_
      refine XD.pure r0 ?_
      refine Y.move (by rfl) ?_
      refine XD.pure r1 ?_
      refine Y.move (by rfl) ?_
      refine XD.pure r2 ?_
      refine Y.gtr (by rfl) (by rfl) ?_
      refine XD.pure r3 ?_
      refine Y.move (by rfl) ?_
      refine XD.pure r4 ?_
      refine Y.move (by rfl) ?_
      refine XD.pure r5 ?_
      refine Y.move (by rfl) ?_
      refine XD.wantT rfl rfl (by rfl) ya ?_
      apply XD.stepP rfl
      intro w3
      refine Y.indexL st56 (by rfl) (by rfl) (by omega) ?_
      exact ⟨rfl, rfl⟩
     ·intro aD4 wD4 haD4 hCD4 hrD4
      obtain ⟨r0, r1, r2, r3, r4, r5, r6, -⟩ := hrD4
      replace hO := hO.ext hCD4
      refine XD.start haD4 ?_
      refine XD.pure r0 ?_
      refine Y.move (by rfl) ?_
      refine XD.pure r1 ?_
      refine Y.move (by rfl) ?_
      refine XD.pure r2 ?_
      refine Y.gtr (by rfl) (by rfl) ?_
      refine XD.pure r3 ?_
      refine Y.move (by rfl) ?_
      refine XD.pure r4 ?_
      refine Y.move (by rfl) ?_
      refine XD.pure r5 ?_
      refine Y.move (by rfl) ?_
      refine XD.pure r6 ?_
      refine Y.indexL st56 (by rfl) (by rfl) (by omega) ?_
      refine XD.wantT rfl rfl (by rfl) ya ?_
      refine XD.stepI ?_
      refine Y.load one9 (by rfl) (by rw [Nat.zero_add]; exact hO.cell rfl (strsV_get (by omega))) ?_
      exact ⟨Chg.refl _ _, rfl⟩
     ·intro aD4 wD4 haD4 hCD4 hrD4
      obtain ⟨r0, r1, r2, r3, -⟩ := hrD4
      refine XD.start haD4 ?_
      refine XD.pure r0 ?_
      refine Y.move (by rfl) ?_
      refine XD.pure r1 ?_
      refine Y.move (by rfl) ?_
      refine XD.pure r2 ?_
      refine Y.gtr (by rfl) (by rfl) ?_
      refine XD.pure r3 ?_
      refine Y.move (by rfl) ?_
      refine XD.wantT rfl rfl (by rfl) ya ?_
      apply XD.stepP rfl
      intro w3
      refine Y.move (by rfl) ?_
      exact ⟨rfl, rfl⟩
     ·intro aD4 wD4 haD4 hCD4 hrD4
      obtain ⟨r0, r1, r2, r3, -⟩ := hrD4
      refine XD.start haD4 ?_
      refine XD.pure r0 ?_
      refine Y.move (by rfl) ?_
      refine XD.pure r1 ?_
      refine Y.move (by rfl) ?_
      refine XD.pure r2 ?_
      refine Y.gtr (by rfl) (by rfl) ?_
      refine XD.pure r3 ?_
      refine Y.move (by rfl) ?_
      refine XD.wantT rfl rfl (by rfl) ya ?_
      apply XD.stepP rfl
      intro w3
      refine Y.move (by rfl) ?_
      exact ⟨rfl, rfl⟩
     ·intro aD4 wD4 haD4 hCD4 hrD4
      obtain ⟨r0, r1, r2, r3, r9, -⟩ := hrD4
      refine XD.start haD4 ?_
      refine XD.pure r0 ?_
      refine Y.move (by rfl) ?_
      refine XD.pure r1 ?_
      refine Y.move (by rfl) ?_
      refine XD.pure r2 ?_
      refine Y.gtr (by rfl) (by rfl) ?_
      refine XD.pure r3 ?_
      refine Y.move (by rfl) ?_
      refine XD.pure r9 ?_
      refine Y.move (by rfl) ?_
      refine XD.wantT rfl rfl (by rfl) ya ?_
      apply XD.stepP rfl
      intro w3
      refine Y.sub (by rfl) (by rfl) (show IntKind.i64.wrap (((k + 1 : Nat) : Int) - 1) = ((k : Nat) : Int) from by rw [wrap64 (by omega) (by omega)]; omega) ?_
      exact ⟨rfl, rfl⟩
     ·intro aD4 wD4 haD4 hCD4 hrD4
      obtain ⟨r0, r1, r2, r3, r8, r9, r10, -⟩ := hrD4
      refine XD.start haD4 ?_
      refine XD.pure r0 ?_
      refine Y.move (by rfl) ?_
      refine XD.pure r1 ?_
      refine Y.move (by rfl) ?_
      refine XD.pure r2 ?_
      refine Y.gtr (by rfl) (by rfl) ?_
      refine XD.pure r3 ?_
      refine Y.move (by rfl) ?_
      refine XD.pure r8 ?_
      refine Y.move (by rfl) ?_
      refine XD.pure r9 ?_
      refine Y.move (by rfl) ?_
      refine XD.pure r10 ?_
      refine Y.sub (by rfl) (by rfl) (show IntKind.i64.wrap (((k + 1 : Nat) : Int) - 1) = ((k : Nat) : Int) from by rw [wrap64 (by omega) (by omega)]; omega) ?_
      refine XD.wantT rfl rfl (by rfl) ya ?_
      apply XD.stepP rfl
      intro w3
      refine Y.indexL st56 (by rfl) (by rfl) (by omega) ?_
      exact ⟨rfl, rfl⟩
     ·intro aD4 wD4 haD4 hCD4 hrD4
      obtain ⟨r0, r1, r2, r3, r8, r9, r10, r11, -⟩ := hrD4
      replace hO := hO.ext hCD4
      refine XD.start haD4 ?_
      refine XD.pure r0 ?_
      refine Y.move (by rfl) ?_
      refine XD.pure r1 ?_
      refine Y.move (by rfl) ?_
      refine XD.pure r2 ?_
      refine Y.gtr (by rfl) (by rfl) ?_
      refine XD.pure r3 ?_
      refine Y.move (by rfl) ?_
      refine XD.pure r8 ?_
      refine Y.move (by rfl) ?_
      refine XD.pure r9 ?_
      refine Y.move (by rfl) ?_
      refine XD.pure r10 ?_
      refine Y.sub (by rfl) (by rfl) (show IntKind.i64.wrap (((k + 1 : Nat) : Int) - 1) = ((k : Nat) : Int) from by rw [wrap64 (by omega) (by omega)]; omega) ?_
      refine XD.pure r11 ?_
      refine Y.indexL st56 (by rfl) (by rfl) (by omega) ?_
      refine XD.wantT rfl rfl (by rfl) ya ?_
      refine XD.stepI ?_
      refine Y.load one9 (by rfl) (by rw [Nat.zero_add]; exact hO.cell rfl (strsV_get (by omega))) ?_
      exact ⟨Chg.refl _ _, rfl⟩
     intro aD4 wD4 haD4 hCD4 hrD4
     obtain ⟨r0, r1, r2, r3, r4, r5, r6, r7, r8, r9, r10, r11, r12, -⟩ := hrD4
     replace hO := hO.ext hCD4
     refine XD.start haD4 ?_
     refine XD.pure r0 ?_
     refine Y.move (by rfl) ?_
     refine XD.pure r1 ?_
     refine Y.move (by rfl) ?_
     refine XD.pure r2 ?_
     refine Y.gtr (by rfl) (by rfl) ?_
     refine XD.pure r3 ?_
     refine Y.move (by rfl) ?_
     refine XD.pure r4 ?_
     refine Y.move (by rfl) ?_
     refine XD.pure r5 ?_
     refine Y.move (by rfl) ?_
     refine XD.pure r6 ?_
     refine Y.indexL st56 (by rfl) (by rfl) (by omega) ?_
     refine XD.imp r7 ?_
     rintro _ rfl
     refine XD.pure r8 ?_
     refine Y.move (by rfl) ?_
     refine XD.pure r9 ?_
     refine Y.move (by rfl) ?_
     refine XD.pure r10 ?_
     refine Y.sub (by rfl) (by rfl) (show IntKind.i64.wrap (((k + 1 : Nat) : Int) - 1) = ((k : Nat) : Int) from by rw [wrap64 (by omega) (by omega)]; omega) ?_
     refine XD.pure r11 ?_
     refine Y.indexL st56 (by rfl) (by rfl) (by omega) ?_
     refine XD.imp r12 ?_
     rintro _ rfl
     refine XD.fin haD4 ?_
     show XL _ _ _ _ (List.cons _ _) _ _
     refine XL.gt rfl rfl ya rfl ?_
     refine Y.call (by rfl) ok112 (less_ok _ _ _) ?_
     rintro v29 w29 ⟨rfl, rfl⟩
     refine XL.s rfl ?_
     refine Y.pickT (by rfl) ya (by rfl) ?_
     refine XL.nil ?_
     refine QN.next ?_
     refine XC.condS rfl ?_ ?_
     ·intro hc2
      try simp only [decide_eq_true_eq, decide_eq_false_iff_not, Bool.not_eq_true', Bool.not_eq_false', Bool.not_eq_eq_eq_not, Bool.not_true, Bool.not_false, Bool.or_eq_true, Bool.and_eq_true, Bool.or_eq_false_iff] at hc2
      refine XC.skip ?_
      refine QN.next ?_
      refine XC.seq ?_
      refine XC.block ?_
      apply XC.drop [8, 9, 10, 11, 12, 13, 14, 15, 16, 17, 18, 19, 20, 21, 22, 23, 24, 25, 26, 27, 28, 29, 30, 31, 32, 33, 34, 35, 36, 37, 38, 39, 40, 41, 42, 43, 44, 45, 46, 47, 48]
      ·repeat (first | apply DropTo.nil | apply DropTo.skip rfl | apply DropTo.keep rfl)
      refine XC.draw2L 16 [[], [], [], [], [3], [], [], [6], [5, 6, 7], [5, 6, 7, 8], [], [], [10, 11], [10, 11, 12], [0, 1, 5, 6, 7, 8, 9, 10, 11, 12, 13], [0, 1, 5, 6, 7, 8, 9, 10, 11, 12, 13, 14], [0, 1, 2, 3, 4, 5, 6, 7, 8, 9, 10, 11, 12, 13, 14, 15], [0, 1, 2, 3, 4, 5, 6, 7, 8, 9, 10, 11, 12, 13, 14, 15, 16]] _ 15 [0, 1, 5, 6, 7, 8, 9, 10, 11, 12, 13, 14, 15] ((fun x => x = g)) [] [(9, (fun _ => (fun v _ => v = strV ss2[k]))), (13, (fun _ => (fun v _ => v = strV ss2[k + 1]))), (15, (fun _ => (fun _ w' => Own (· = g) w' 9 1 (.slice (some ⟨g, 0, none⟩) n cap) n ((strsV ss2).set (0 + (k + 1)) (strV ss2[k])))))] [0, 1, 2, 3, 4, 5, 6, 7, 8, 9, 10, 11, 12, 13, 14, 15] fol (by kernel_rfl) (by rfl) (by rfl) (by rfl) ⟨(fun _ => (fun _ _ _ _ h => h)), (fun _ => (fun _ _ _ _ h => h)), (fun _ => (fun v w1 w2 hE h => h.ext hE)), trivial⟩ ⟨(fun _ _ _ _ _ h => h), (fun _ _ _ _ _ h => h), (fun _ _ _ _ _ h => h), trivial⟩ ⟨?_, ?_, ?_, ?_, ?_, ?_, ?_, ?_, ?_, ?_, ?_, ?_, ?_, ?_, ?_, ?_, trivial⟩ ?_
      ·intro aD6 wD6 haD6 hCD6 hrD6
       replace hCD6 : Ext _ wD6 := hCD6
       refine ⟨rfl, ?_⟩
       refine XD.start haD6 ?_
       apply XD.stepP rfl
       intro w3
       refine Y.move (by rfl) ?_
       exact ⟨rfl, rfl⟩
      ·intro aD6 wD6 haD6 hCD6 hrD6
       replace hCD6 : Ext _ wD6 := hCD6
       refine ⟨rfl, ?_⟩
       refine XD.start haD6 ?_
       apply XD.stepP rfl
       intro w3
       refine Y.move (by rfl) ?_
       exact ⟨rfl, rfl⟩
      ·intro aD6 wD6 haD6 hCD6 hrD6
       replace hCD6 : Chg _ _ wD6 := hCD6
       refine ⟨rfl, ?_⟩
       refine XD.start haD6 ?_
       apply XD.stepP rfl
       intro w3
       refine Y.move (by rfl) ?_
       exact ⟨rfl, rfl⟩
      ·intro aD6 wD6 haD6 hCD6 hrD6
       replace hCD6 : Chg _ _ wD6 := hCD6
       refine ⟨rfl, ?_⟩
       refine XD.start haD6 ?_
       apply XD.stepP rfl
       intro w3
       refine Y.move (by rfl) ?_
       exact ⟨rfl, rfl⟩
      ·intro aD6 wD6 haD6 hCD6 hrD6
       obtain ⟨r3, -⟩ := hrD6
       replace hCD6 : Chg _ _ wD6 := hCD6
       refine ⟨rfl, ?_⟩
       refine XD.start haD6 ?_
       refine XD.pure r3 ?_
       refine Y.move (by rfl) ?_
       apply XD.stepP rfl
       intro w3
       refine Y.sub (by rfl) (by rfl) (show IntKind.i64.wrap (((k + 1 : Nat) : Int) - 1) = ((k : Nat) : Int) from by rw [wrap64 (by omega) (by omega)]; omega) ?_
       exact ⟨rfl, rfl⟩
      ·intro aD6 wD6 haD6 hCD6 hrD6
       replace hCD6 : Ext _ wD6 := hCD6
       refine ⟨rfl, ?_⟩
       refine XD.start haD6 ?_
       apply XD.stepP rfl
       intro w3
       refine Y.move (by rfl) ?_
       exact ⟨rfl, rfl⟩
      ·intro aD6 wD6 haD6 hCD6 hrD6
       replace hCD6 : Ext _ wD6 := hCD6
       refine ⟨rfl, ?_⟩
       refine XD.start haD6 ?_
       apply XD.stepP rfl
       intro w3
       refine Y.move (by rfl) ?_
       exact ⟨rfl, rfl⟩
      ·intro aD6 wD6 haD6 hCD6 hrD6
       obtain ⟨r6, -⟩ := hrD6
       replace hCD6 : Ext _ wD6 := hCD6
       refine ⟨rfl, ?_⟩
       refine XD.start haD6 ?_
       refine XD.pure r6 ?_
       refine Y.move (by rfl) ?_
       apply XD.stepP rfl
       intro w3
       refine Y.sub (by rfl) (by rfl) (show IntKind.i64.wrap (((k + 1 : Nat) : Int) - 1) = ((k : Nat) : Int) from by rw [wrap64 (by omega) (by omega)]; omega) ?_
       exact ⟨rfl, rfl⟩
      ·intro aD6 wD6 haD6 hCD6 hrD6
       obtain ⟨r5, r6, r7, -⟩ := hrD6
       replace hCD6 : Ext _ wD6 := hCD6
       refine ⟨rfl, ?_⟩
       refine XD.start haD6 ?_
       refine XD.pure r5 ?_
       refine Y.move (by rfl) ?_
       refine XD.pure r6 ?_
       refine Y.move (by rfl) ?_
       refine XD.pure r7 ?_
       refine Y.sub (by rfl) (by rfl) (show IntKind.i64.wrap (((k + 1 : Nat) : Int) - 1) = ((k : Nat) : Int) from by rw [wrap64 (by omega) (by omega)]; omega) ?_
       apply XD.stepP rfl
       intro w3
       refine Y.indexL st56 (by rfl) (by rfl) (by omega) ?_
       exact ⟨rfl, rfl⟩
      ·intro aD6 wD6 haD6 hCD6 hrD6
       obtain ⟨r5, r6, r7, r8, -⟩ := hrD6
       replace hCD6 : Ext _ wD6 := hCD6
       replace hO := hO.ext hCD6
       refine ⟨rfl, ?_⟩
       refine XD.start haD6 ?_
       refine XD.pure r5 ?_
       refine Y.move (by rfl) ?_
       refine XD.pure r6 ?_
       refine Y.move (by rfl) ?_
       refine XD.pure r7 ?_
       refine Y.sub (by rfl) (by rfl) (show IntKind.i64.wrap (((k + 1 : Nat) : Int) - 1) = ((k : Nat) : Int) from by rw [wrap64 (by omega) (by omega)]; omega) ?_
       refine XD.pure r8 ?_
       refine Y.indexL st56 (by rfl) (by rfl) (by omega) ?_
       refine XD.stepI ?_
       refine Y.load one9 (by rfl) (by rw [Nat.zero_add]; exact hO.cell rfl (strsV_get (by omega))) ?_
       exact ⟨Chg.refl _ _, rfl⟩
      ·intro aD6 wD6 haD6 hCD6 hrD6
       replace hCD6 : Ext _ wD6 := hCD6
       refine ⟨rfl, ?_⟩
       refine XD.start haD6 ?_
       apply XD.stepP rfl
       intro w3
       refine Y.move (by rfl) ?_
       exact ⟨rfl, rfl⟩
      ·intro aD6 wD6 haD6 hCD6 hrD6
       replace hCD6 : Ext _ wD6 := hCD6
       refine ⟨rfl, ?_⟩
       refine XD.start haD6 ?_
       apply XD.stepP rfl
       intro w3
       refine Y.move (by rfl) ?_
       exact ⟨rfl, rfl⟩
      ·intro aD6 wD6 haD6 hCD6 hrD6
       obtain ⟨r10, r11, -⟩ := hrD6
       replace hCD6 : Ext _ wD6 := hCD6
       refine ⟨rfl, ?_⟩
       refine XD.start haD6 ?_
       refine XD.pure r10 ?_
       refine Y.move (by rfl) ?_
       refine XD.pure r11 ?_
       refine Y.move (by rfl) ?_
       apply XD.stepP rfl
       intro w3
       refine Y.indexL st56 (by rfl) (by rfl) (by omega) ?_
       exact ⟨rfl, rfl⟩
      ·intro aD6 wD6 haD6 hCD6 hrD6
       obtain ⟨r10, r11, r12, -⟩ := hrD6
       replace hCD6 : Ext _ wD6 := hCD6
       replace hO := hO.ext hCD6
       refine ⟨rfl, ?_⟩
       refine XD.start haD6 ?_
       refine XD.pure r10 ?_
       refine Y.move (by rfl) ?_
       refine XD.pure r11 ?_
       refine Y.move (by rfl) ?_
       refine XD.pure r12 ?_
       refine Y.indexL st56 (by rfl) (by rfl) (by omega) ?_
       refine XD.stepI ?_
       refine Y.load one9 (by rfl) (by rw [Nat.zero_add]; exact hO.cell rfl (strsV_get (by omega))) ?_
       exact ⟨Chg.refl _ _, rfl⟩
      ·intro aD6 wD6 haD6 hCD6 hrD6
       obtain ⟨r0, r1, r5, r6, r7, r8, r9, r10, r11, r12, r13, -⟩ := hrD6
       replace hCD6 : Ext _ wD6 := hCD6
       replace hO := hO.ext hCD6
       refine ⟨rfl, ?_⟩
       refine XD.start haD6 ?_
       refine XD.pure r0 ?_
       refine Y.move (by rfl) ?_
       refine XD.pure r1 ?_
       refine Y.move (by rfl) ?_
       refine XD.pure r5 ?_
       refine Y.move (by rfl) ?_
       refine XD.pure r6 ?_
       refine Y.move (by rfl) ?_
       refine XD.pure r7 ?_
       refine Y.sub (by rfl) (by rfl) (show IntKind.i64.wrap (((k + 1 : Nat) : Int) - 1) = ((k : Nat) : Int) from by rw [wrap64 (by omega) (by omega)]; omega) ?_
       refine XD.pure r8 ?_
       refine Y.indexL st56 (by rfl) (by rfl) (by omega) ?_
       refine XD.imp r9 ?_
       rintro _ rfl
       refine XD.pure r10 ?_
       refine Y.move (by rfl) ?_
       refine XD.pure r11 ?_
       refine Y.move (by rfl) ?_
       refine XD.pure r12 ?_
       refine Y.indexL st56 (by rfl) (by rfl) (by omega) ?_
       refine XD.imp r13 ?_
       rintro _ rfl
       apply XD.stepP rfl
       intro w3
       refine Y.indexL st56 (by rfl) (by rfl) (by omega) ?_
       exact ⟨rfl, rfl⟩
      ·intro aD6 wD6 haD6 hCD6 hrD6
       obtain ⟨r0, r1, r5, r6, r7, r8, r9, r10, r11, r12, r13, r14, -⟩ := hrD6
       replace hCD6 : Ext _ wD6 := hCD6
       replace hO := hO.ext hCD6
       refine ⟨rfl, ?_⟩
       refine XD.start haD6 ?_
       refine XD.pure r0 ?_
       refine Y.move (by rfl) ?_
       refine XD.pure r1 ?_
       refine Y.move (by rfl) ?_
       refine XD.pure r5 ?_
       refine Y.move (by rfl) ?_
       refine XD.pure r6 ?_
       refine Y.move (by rfl) ?_
       refine XD.pure r7 ?_
       refine Y.sub (by rfl) (by rfl) (show IntKind.i64.wrap (((k + 1 : Nat) : Int) - 1) = ((k : Nat) : Int) from by rw [wrap64 (by omega) (by omega)]; omega) ?_
       refine XD.pure r8 ?_
       refine Y.indexL st56 (by rfl) (by rfl) (by omega) ?_
       refine XD.imp r9 ?_
       rintro _ rfl
       refine XD.pure r10 ?_
       refine Y.move (by rfl) ?_
       refine XD.pure r11 ?_
       refine Y.move (by rfl) ?_
       refine XD.pure r12 ?_
       refine Y.indexL st56 (by rfl) (by rfl) (by omega) ?_
       refine XD.imp r13 ?_
       rintro _ rfl
       refine XD.pure r14 ?_
       refine Y.indexL st56 (by rfl) (by rfl) (by omega) ?_
       refine XD.stepI ?_
       refine Y.storeO one9 (by rfl) (by rfl) rfl hO rfl (by omega) ?_
       intro w2 a1 a2 _; exact ⟨a2, a1⟩
      intro aD6 wD6 haD6 hCD6 hrD6
      obtain ⟨r0, r1, r2, r3, r4, r5, r6, r7, r8, r9, r10, r11, r12, r13, r14, r15, -⟩ := hrD6
      refine XD.start haD6 ?_
      refine XD.pure r0 ?_
      refine Y.move (by rfl) ?_
      refine XD.pure r1 ?_
      refine Y.move (by rfl) ?_
      refine XD.pure r2 ?_
      refine Y.move (by rfl) ?_
      refine XD.pure r3 ?_
      refine Y.move (by rfl) ?_
      refine XD.pure r4 ?_
      refine Y.sub (by rfl) (by rfl) (show IntKind.i64.wrap (((k + 1 : Nat) : Int) - 1) = ((k : Nat) : Int) from by rw [wrap64 (by omega) (by omega)]; omega) ?_
      refine XD.pure r5 ?_
      refine Y.move (by rfl) ?_
      refine XD.pure r6 ?_
      refine Y.move (by rfl) ?_
      refine XD.pure r7 ?_
      refine Y.sub (by rfl) (by rfl) (show IntKind.i64.wrap (((k + 1 : Nat) : Int) - 1) = ((k : Nat) : Int) from by rw [wrap64 (by omega) (by omega)]; omega) ?_
      refine XD.pure r8 ?_
      refine Y.indexL st56 (by rfl) (by rfl) (by omega) ?_
      refine XD.imp r9 ?_
      rintro _ rfl
      refine XD.pure r10 ?_
      refine Y.move (by rfl) ?_
      refine XD.pure r11 ?_
      refine Y.move (by rfl) ?_
      refine XD.pure r12 ?_
      refine Y.indexL st56 (by rfl) (by rfl) (by omega) ?_
      refine XD.imp r13 ?_
      rintro _ rfl
      refine XD.pure r14 ?_
      refine Y.indexL st56 (by rfl) (by rfl) (by omega) ?_
      refine XD.impN r15 ?_
      rintro _ hst
      refine XD.fin haD6 ?_
      show XL _ _ _ _ (List.cons _ _) _ _
      refine XL.s rfl ?_
      refine Y.indexL st56 (by rfl) (by rfl) (by omega) ?_
      refine XL.o ?_
      refine Y.storeO one9 (by rfl) (by rfl) rfl hst rfl (by omega) ?_
      intro w2 hO2 hC2 hz2
      have hCC := ((hC.ext hCD4).trans hCD6 (S'' := (· = g)) (fun _ h => h) (fun _ _ h => h)).trans hC2 (S'' := (· = g)) (fun _ h => h) (fun _ _ h => h)
      rw [Nat.zero_add, Nat.zero_add, strsV_set, strsV_set] at hO2
      have hsw : (ss2.set (k + 1) ss2[k]).set k ss2[k + 1] = swapS ss2 k := by simp [swapS, List.getD_eq_getElem?_getD, show k < ss2.length by omega, show k + 1 < ss2.length by omega]
      rw [hsw] at hO2
      refine XL.nil ?_
      refine QN.blk ?_
      refine QN.next ?_
      refine XC.region ?_
      show XL _ _ _ _ (List.cons _ _) _ _
      refine XL.s rfl ?_
      refine Y.move (by rfl) ?_
      refine XL.s rfl ?_
      refine Y.sub (by rfl) (by rfl) (show IntKind.i64.wrap (((k + 1 : Nat) : Int) - 1) = ((k : Nat) : Int) from by rw [wrap64 (by omega) (by omega)]; omega) ?_
      refine XL.s rfl ?_
      refine Y.assign (by rfl) ?_
      refine XL.nil ?_
      refine QN.again ((k, swapS ss2 k)) ?_ ?_ ?_
      ·exact ⟨rfl, rfl, rfl, rfl, rfl, trivial⟩
      ·exact ⟨by omega, (swapS_perm (by omega)).trans hp2, hO2, hCC⟩
      ·first | omega | (simp only []; omega) | (simp; omega)
     ·intro hc2
      try simp only [decide_eq_true_eq, decide_eq_false_iff_not, Bool.not_eq_true', Bool.not_eq_false', Bool.not_eq_eq_eq_not, Bool.not_true, Bool.not_false, Bool.or_eq_true, Bool.and_eq_true, Bool.or_eq_false_iff] at hc2
      refine XC.exit ?_
      refine QN.thenE ?_
      refine QN.thenE ?_
      refine QN.hit ?_
      refine QN.blk ?_
      refine QN.next ?_
      refine XC.region ?_
      show XL _ _ _ _ (List.cons _ _) _ _
      refine XL.s rfl ?_
      refine Y.move (by rfl) ?_
      refine XL.s rfl ?_
      refine Y.add (by rfl) (by rfl) (wrap64 (by omega) (by omega)) ?_
      refine XL.s rfl ?_
      refine Y.assign (by rfl) ?_
      refine XL.nil ?_
      refine QN.again ((i + 1, ss2)) ?_ ?_ ?_
      ·exact ⟨rfl, rfl, rfl, rfl, trivial⟩
      ·exact ⟨by omega, hp2, hO, hC.ext hCD4⟩
      ·first | omega | (simp only []; omega) | (simp; omega)
  ·intro hc
   try simp only [decide_eq_true_eq, decide_eq_false_iff_not, Bool.not_eq_true', Bool.not_eq_false', Bool.not_eq_eq_eq_not, Bool.not_true, Bool.not_false, Bool.or_eq_true, Bool.and_eq_true, Bool.or_eq_false_iff] at hc
   refine XC.exit ?_
   refine QN.thenE ?_
   refine QN.thenE ?_
   refine QN.hit ?_
   refine QN.done0 (fn := Tryz.f106) (R := R) (.inr rfl) rfl rfl ?_
   refine hR _ _ ?_
   exact ⟨tt, hp, hO, hC⟩
theorem pdq_ok (g cap n : Nat) (ss : List (List UInt8)) (w : World) (hO : Own (· = g) w 9 1 (.slice (some ⟨g, 0, none⟩) n cap) n (strsV ss)) (hl : ss.length = n) (hn : n ≤ 1000000) (h12 : n ≤ 12) (q : Int) :
  Rets Tryz.prog 103 #[.slice (some ⟨g, 0, none⟩) n cap, .int .i64 0, .int .i64 n, .int .i64 q] w fun v w' => ∃ tt : List (List UInt8), tt.Perm ss ∧ Own (· = g) w' 9 1 (.slice (some ⟨g, 0, none⟩) n cap) n (strsV tt) ∧ Chg (· = g) w w' := by
 refine Rets.enter (args := [.slice (some ⟨g, 0, none⟩) n cap, .int .i64 0, .int .i64 n, .int .i64 q]) (n := 134) Tryz.func103 rfl rfl rfl ?_
 intro R hR
 show XC _ _ _ _ [(0, .slice (some ⟨g, 0, none⟩) n cap), (1, .int .i64 0), (2, .int .i64 n), (3, .int .i64 q)] _
 refine XC.seq ?_
 refine XC.region ?_
 show XL _ _ _ _ (List.cons _ _) _ _
 refine XL.s rfl ?_
 refine Y.assign (by rfl) ?_
 refine XL.nil ?_
 refine QN.next ?_
 refine XC.seq ?_
 refine XC.region ?_
 show XL _ _ _ _ (List.cons _ _) _ _
 refine XL.s rfl ?_
 refine Y.assign (by rfl) ?_
 refine XL.nil ?_
 refine QN.next ?_
 refine XC.block ?_
 refine XC.loop (α := Unit) (fun u => [(0, .slice (some ⟨g, 0, none⟩) n cap), (1, .int .i64 0), (2, .int .i64 n), (3, .int .i64 q)]) (fun u wr => u = () ∧ w = wr) (fun u => 0) (()) ?_ ?_ ?_
 ·exact ⟨rfl, rfl, rfl, rfl, trivial⟩
 ·exact ⟨rfl, rfl⟩
 ·rintro u wr hI
  obtain ⟨-, rfl⟩ := hI
  refine XC.block ?_
  refine XC.seq ?_
  refine XC.region ?_
  show XL _ _ _ _ (List.cons _ _) _ _
  refine XL.s rfl ?_
  refine Y.move (by rfl) ?_
  refine XL.s rfl ?_
  refine Y.move (by rfl) ?_
  refine XL.s rfl ?_
  refine Y.sub (by rfl) (by rfl) (show IntKind.i64.wrap ((n : Int) - 0) = (n : Int) from by rw [wrap64 (by omega) (by omega)]; omega) ?_
  refine XL.s rfl ?_
  refine Y.assign (by rfl) ?_
  refine XL.nil ?_
  refine QN.next ?_
  refine XC.seq ?_
  refine XC.seq ?_
  refine XC.region ?_
  show XL _ _ _ _ (List.cons _ _) _ _
  refine XL.s rfl ?_
  refine Y.move (by rfl) ?_
  refine XL.s rfl ?_
  refine Y.leq (by rfl) (by rfl) ?_
  refine XL.nil ?_
  refine QN.next ?_
  refine XC.condT rfl ya ?_
  refine XC.seq ?_
  refine XC.region ?_
  show XL _ _ _ _ (List.cons _ _) _ _
  refine XL.s rfl ?_
  refine Y.move (by rfl) ?_
  refine XL.s rfl ?_
  refine Y.move (by rfl) ?_
  refine XL.s rfl ?_
  refine Y.move (by rfl) ?_
  refine XL.s rfl ?_
  refine Y.call (by rfl) ok106 (insort_ok g cap n ss _ hO hl hn) ?_
  rintro v27 w27 ⟨tt, hp, hO2, hC2⟩
  refine XL.nil ?_
  refine QN.next ?_
  refine XC.ret ?_
  refine QN.done0 (fn := Tryz.f103) (R := R) (.inl rfl) rfl rfl ?_
  refine hR _ _ ?_
  exact ⟨tt, hp, hO2, hC2⟩
theorem sort_ok (g cap n : Nat) (ss : List (List UInt8)) (w : World) (hO : Own (· = g) w 9 1 (.slice (some ⟨g, 0, none⟩) n cap) n (strsV ss)) (hl : ss.length = n) (hn : n ≤ 1000000) (h12 : n ≤ 12) :
  Rets Tryz.prog 94 #[.slice (some ⟨g, 0, none⟩) n cap] w fun v w' => ∃ tt : List (List UInt8), tt.Perm ss ∧ Own (· = g) w' 9 1 (.slice (some ⟨g, 0, none⟩) n cap) n (strsV tt) ∧ Chg (· = g) w w' := by
 refine Rets.enter (args := [.slice (some ⟨g, 0, none⟩) n cap]) (n := 11) Tryz.func94 rfl rfl rfl ?_
 intro R hR
 show XC _ _ _ _ [(0, .slice (some ⟨g, 0, none⟩) n cap)] _
 refine XC.seq ?_
 refine XC.region ?_
 show XL _ _ _ _ (List.cons _ _) _ _
 refine XL.s rfl ?_
 refine Y.move (by rfl) ?_
 refine XL.s rfl ?_
 refine Y.len Tryz.underlying56 (by rfl) hO.row ?_
 refine XL.s rfl ?_
 refine Y.assign (by rfl) ?_
 refine XL.nil ?_
 refine QN.next ?_
 refine XC.region ?_
 show XL _ _ _ _ (List.cons _ _) _ _
 refine XL.s rfl ?_
 refine Y.move (by rfl) ?_
 refine XL.s rfl ?_
 refine Y.move (by rfl) ?_
 refine XL.s rfl ?_
 refine Y.move (by rfl) ?_
 refine XL.s rfl ?_
 refine Y.convI Tryz.underlying3 Tryz.underlying122 (by rfl) (wrapU64 (by omega) (by omega)) ?_
 refine XL.s rfl ?_
 refine Y.call (by rfl) ok104 (bitsLenR (n : Int) _ (by omega) (by omega)) ?_
 rintro v9 w9 ⟨z9, rfl, rfl⟩
 refine XL.s rfl ?_
 refine Y.call (by rfl) ok103 (pdq_ok g cap n ss _ hO hl hn h12 _) ?_
 rintro v10 w10 ⟨tt, hp, hO2, hC2⟩
 refine XL.nil ?_
 refine QN.done0 (fn := Tryz.f94) (R := R) (.inr rfl) rfl rfl ?_
 refine hR _ _ ?_
 exact ⟨tt, hp, hO2, hC2⟩
theorem insort_nil (S : Nat → Prop) (u : Value) (w : World) (hA : Apd S w 9 1 u 0 []) :
  Rets Tryz.prog 106 #[u, .int .i64 0, .int .i64 0] w fun v w' => Ext w w' := by
 refine Rets.enter (args := [u, .int .i64 0, .int .i64 0]) (n := 49) Tryz.func106 rfl rfl rfl ?_
 intro R hR
 show XC _ _ _ _ [(0, u), (1, .int .i64 0), (2, .int .i64 0)] _
 refine XC.seq ?_
 refine XC.region ?_
 show XL _ _ _ _ (List.cons _ _) _ _
 refine XL.s rfl ?_
 refine Y.move (by rfl) ?_
 refine XL.s rfl ?_
 refine Y.add (by rfl) (by rfl) (wrap64 (by omega) (by omega)) ?_
 refine XL.s rfl ?_
 refine Y.assign (by rfl) ?_
 refine XL.nil ?_
 refine QN.next ?_
 refine XC.block ?_
 refine XC.loop (α := Unit) (fun u1 => [(1, .int .i64 0), (2, .int .i64 0), (6, .int .i64 1)]) (fun u1 wr => u1 = () ∧ w = wr) (fun u1 => 0) (()) ?_ ?_ ?_
 ·exact ⟨rfl, rfl, rfl, trivial⟩
 ·exact ⟨rfl, rfl⟩
 ·rintro u1 wr hI
  obtain ⟨-, rfl⟩ := hI
  refine XC.seq ?_
  refine XC.seq ?_
  refine XC.region ?_
  show XL _ _ _ _ (List.cons _ _) _ _
  refine XL.s rfl ?_
  refine Y.move (by rfl) ?_
  refine XL.s rfl ?_
  refine Y.move (by rfl) ?_
  refine XL.s rfl ?_
  refine Y.lss (by rfl) (by rfl) ?_
  refine XL.nil ?_
  refine QN.next ?_
  refine XC.condF rfl ya ?_
  refine XC.exit ?_
  refine QN.thenE ?_
  refine QN.thenE ?_
  refine QN.hit ?_
  refine QN.done0 (fn := Tryz.f106) (R := R) (.inr rfl) rfl rfl ?_
  refine hR _ _ ?_
  exact Chg.refl _ _
theorem pdq_nil (S : Nat → Prop) (u : Value) (w : World) (hA : Apd S w 9 1 u 0 []) (q : Int) :
  Rets Tryz.prog 103 #[u, .int .i64 0, .int .i64 0, .int .i64 q] w fun v w' => Ext w w' := by
 refine Rets.enter (args := [u, .int .i64 0, .int .i64 0, .int .i64 q]) (n := 134) Tryz.func103 rfl rfl rfl ?_
 intro R hR
 show XC _ _ _ _ [(0, u), (1, .int .i64 0), (2, .int .i64 0), (3, .int .i64 q)] _
 refine XC.seq ?_
 refine XC.region ?_
 show XL _ _ _ _ (List.cons _ _) _ _
 refine XL.s rfl ?_
 refine Y.assign (by rfl) ?_
 refine XL.nil ?_
 refine QN.next ?_
 refine XC.seq ?_
 refine XC.region ?_
 show XL _ _ _ _ (List.cons _ _) _ _
 refine XL.s rfl ?_
 refine Y.assign (by rfl) ?_
 refine XL.nil ?_
 refine QN.next ?_
 refine XC.block ?_
 refine XC.loop (α := Unit) (fun u1 => [(0, u), (1, .int .i64 0), (2, .int .i64 0), (3, .int .i64 q)]) (fun u1 wr => u1 = () ∧ w = wr) (fun u1 => 0) (()) ?_ ?_ ?_
 ·exact ⟨rfl, rfl, rfl, rfl, trivial⟩
 ·exact ⟨rfl, rfl⟩
 ·rintro u1 wr hI
  obtain ⟨-, rfl⟩ := hI
  refine XC.block ?_
  refine XC.seq ?_
  refine XC.region ?_
  show XL _ _ _ _ (List.cons _ _) _ _
  refine XL.s rfl ?_
  refine Y.move (by rfl) ?_
  refine XL.s rfl ?_
  refine Y.move (by rfl) ?_
  refine XL.s rfl ?_
  refine Y.sub (by rfl) (by rfl) (show IntKind.i64.wrap ((0 : Int) - 0) = (0 : Int) from by decide) ?_
  refine XL.s rfl ?_
  refine Y.assign (by rfl) ?_
  refine XL.nil ?_
  refine QN.next ?_
  refine XC.seq ?_
  refine XC.seq ?_
  refine XC.region ?_
  show XL _ _ _ _ (List.cons _ _) _ _
  refine XL.s rfl ?_
  refine Y.move (by rfl) ?_
  refine XL.s rfl ?_
  refine Y.leq (by rfl) (by rfl) ?_
  refine XL.nil ?_
  refine QN.next ?_
  refine XC.condT rfl ya ?_
  refine XC.seq ?_
  refine XC.region ?_
  show XL _ _ _ _ (List.cons _ _) _ _
  refine XL.s rfl ?_
  refine Y.move (by rfl) ?_
  refine XL.s rfl ?_
  refine Y.move (by rfl) ?_
  refine XL.s rfl ?_
  refine Y.move (by rfl) ?_
  refine XL.s rfl ?_
  refine Y.call (by rfl) ok106 (insort_nil S u _ hA) ?_
  rintro v27 w27 hE27
  refine XL.nil ?_
  refine QN.next ?_
  refine XC.ret ?_
  refine QN.done0 (fn := Tryz.f103) (R := R) (.inl rfl) rfl rfl ?_
  refine hR _ _ ?_
  exact hE27
theorem sort_nil (S : Nat → Prop) (u : Value) (w : World) (hA : Apd S w 9 1 u 0 []) :
  Rets Tryz.prog 94 #[u] w fun v w' => Ext w w' := by
 refine Rets.enter (args := [u]) (n := 11) Tryz.func94 rfl rfl rfl ?_
 intro R hR
 show XC _ _ _ _ [(0, u)] _
 refine XC.seq ?_
 refine XC.region ?_
 show XL _ _ _ _ (List.cons _ _) _ _
 refine XL.s rfl ?_
 refine Y.move (by rfl) ?_
 refine XL.s rfl ?_
 refine Y.len Tryz.underlying56 (by rfl) hA.row ?_
 refine XL.s rfl ?_
 refine Y.assign (by rfl) ?_
 refine XL.nil ?_
 refine QN.next ?_
 refine XC.region ?_
 show XL _ _ _ _ (List.cons _ _) _ _
 refine XL.s rfl ?_
 refine Y.move (by rfl) ?_
 refine XL.s rfl ?_
 refine Y.move (by rfl) ?_
 refine XL.s rfl ?_
 refine Y.move (by rfl) ?_
 refine XL.s rfl ?_
 refine Y.convI Tryz.underlying3 Tryz.underlying122 (by rfl) (wrapU64 (by omega) (by omega)) ?_
 refine XL.s rfl ?_
 refine Y.call (by rfl) ok104 (bitsLenR 0 _ (by omega) (by omega)) ?_
 rintro v9 w9 ⟨z9, rfl, rfl⟩
 refine XL.s rfl ?_
 refine Y.call (by rfl) ok103 (pdq_nil S u _ hA _) ?_
 rintro v10 w10 hE10
 refine XL.nil ?_
 refine QN.done0 (fn := Tryz.f94) (R := R) (.inr rfl) rfl rfl ?_
 refine hR _ _ ?_
 exact hE10
end Go.Proofs.YtchammpamigonaaGreatX
end
section
set_option linter.unusedVariables false
set_option linter.unusedSimpArgs false
set_option maxRecDepth 10000
set_option maxHeartbeats 4000000
namespace Go.Proofs.YtchammpamigonaaGreatX
open Go Go.RowKit Go.Proofs
theorem keys_ok (r : Nat) (w : World) :
  Rets Tryz.prog 70 #[.map (some r)] w fun v w' => ∃ b, v = .func (.func 95) #[] #[.pointer (some ⟨b, 0, none⟩)] ∧ HB w' b (.cells #[.map (some r)] 77 (0, 0)) ∧ b = w.heap.size ∧ w'.heap.size = w.heap.size + 1 ∧ Ext w w' := by
 refine Rets.enter (args := [.map (some r)]) (n := 4) Tryz.func70 rfl rfl rfl ?_
 intro R hR
 show XC _ _ _ _ [(0, .map (some r))] _
 refine XC.seq ?_
 refine XC.region ?_
 show XL _ _ _ _ (List.cons _ _) _ _
 refine XL.s rfl ?_
 refine Y.box (by rfl) ?_
 intro b1 w1 hb1 hz1 hE1
 refine XL.s rfl ?_
 refine Y.assign (by rfl) ?_
 refine XL.nil ?_
 refine QN.next ?_
 refine XC.seq ?_
 refine XC.region ?_
 show XL _ _ _ _ (List.cons _ _) _ _
 refine XL.s rfl ?_
 refine Y.makeFunc (by rfl) (by rfl) ?_
 refine XL.s rfl ?_
 refine Y.assign (by rfl) ?_
 refine XL.nil ?_
 refine QN.next ?_
 refine XC.ret ?_
 refine QN.done1 (fn := Tryz.f70) (R := R) (.inl rfl) rfl rfl ?_
 refine hR _ _ ?_
 exact ⟨b1, rfl, hb1, hz1.1, by omega, hE1⟩
theorem keys1_ok (l r b : Nat) (es : KVs) (J : KVs → World → Prop) (w : World) (hb : HB w b (.cells #[.map (some r)] 77 (0, 0))) (hm : MapB w r es) (h0 : ∀ w1, Ext w w1 → w1.heap.size = w.heap.size + 1 → J [] w1)
  (hJ : ∀ sn w1 w2, J sn w1 → Chg (· = w.heap.size) w1 w2 → w2.heap.size = w1.heap.size → J sn w2)
  (hrd : ∀ sn p w1, J sn w1 → sn.length < es.length → YieldsTo Tryz.prog l [strV p.1] w1 (fun w2 => J (sn ++ [p]) w2 ∧ Chg (fun x => x ≠ r ∧ x ≠ b ∧ x ≠ w.heap.size) w1 w2)) :
  Rets Tryz.prog 95 #[.func (.yield l) #[] #[], .pointer (some ⟨b, 0, none⟩)] w fun v w' => ∃ sn : KVs, sn.Perm es ∧ J sn w' := by
 refine Rets.enter (args := [.func (.yield l) #[] #[], .pointer (some ⟨b, 0, none⟩)]) (n := 14) Tryz.func95 rfl rfl rfl ?_
 intro R hR
 show XC _ _ _ _ [(0, .func (.yield l) #[] #[]), (1, .pointer (some ⟨b, 0, none⟩))] _
 have hbl := hb.lt
 have hrl : r < w.heap.size := by obtain ⟨_, _, hb, _⟩ := hm; exact hb.lt
 refine XC.seq ?_
 refine XC.region ?_
 show XL _ _ _ _ (List.cons _ _) _ _
 refine XL.s rfl ?_
 refine Y.load one77 (by rfl) (one0 hb) ?_
 refine XL.s rfl ?_
 refine Y.range mt77 (by rfl) hm ?_
 intro it w5 hI5 hit hz5 hE5
 subst hit
 refine XL.nil ?_
 refine QN.next ?_
 refine XC.block ?_
 refine XC.loop (α := KVs × KVs) (fun (sn, rest) => [(0, .func (.yield l) #[] #[]), (5, .pointer (some ⟨w.heap.size, 0, none⟩))]) (fun (sn, rest) wr => IterB wr w.heap.size r es sn rest ∧ J sn wr) (fun (sn, rest) => rest.length) (([], es)) ?_ ?_ ?_
 ·exact ⟨rfl, rfl, trivial⟩
 ·exact ⟨hI5, h0 _ hE5 hz5⟩
 ·rintro ⟨sn, rest⟩ wr hI
  obtain ⟨hI, hj⟩ := hI
  have hperm : (sn ++ rest).Perm es := by obtain ⟨_, _, _, _, _, _, _, h⟩ := hI; exact h
  refine XC.seq ?_
  refine XC.region ?_
  show XL _ _ _ _ (List.cons _ _) _ _
  refine XL.s rfl ?_
  refine Y.next (by rfl) hI ?_
  intro vs w6 hvs hC6 hz6 hgo
  refine XL.s rfl ?_
  refine Y.extract (by rfl) hvs ?_
  refine XL.nil ?_
  refine QN.next ?_
  refine XC.seq ?_
  refine XC.condS rfl ?_ ?_
  ·intro hc
   try simp only [decide_eq_true_eq, decide_eq_false_iff_not, Bool.not_eq_true', Bool.not_eq_false', Bool.not_eq_eq_eq_not, Bool.not_true, Bool.not_false, Bool.or_eq_true, Bool.and_eq_true, Bool.or_eq_false_iff] at hc
   obtain ⟨p, rest', hp, hIC, hlen⟩ := hgo (by intro e; rw [e] at hc; simp at hc)
   have hsl : sn.length < es.length := by have := hperm.length_eq; rw [List.length_append] at this; omega
   refine XC.skip ?_
   refine QN.next ?_
   refine XC.block ?_
   refine XC.seq ?_
   refine XC.region ?_
   show XL _ _ _ _ (List.cons _ _) _ _
   refine XL.s rfl ?_
   refine Y.entry (by rfl) hIC ?_
   refine XL.s rfl ?_
   refine Y.extract (by rfl) (by rfl) ?_
   refine XL.s rfl ?_
   refine Y.assign (by rfl) ?_
   refine XL.nil ?_
   refine QN.next ?_
   refine XC.seq ?_
   refine XC.region ?_
   show XL _ _ _ _ (List.cons _ _) _ _
   refine XL.s rfl ?_
   refine Y.move (by rfl) ?_
   refine XL.s rfl ?_
   refine Y.move (by rfl) ?_
   refine XL.s rfl ?_
   refine Y.yield (by rfl) (by rfl) (hrd sn p _ (hJ _ _ _ hj hC6 hz6) hsl) ?_
   rintro w12 ⟨hj12, hC12⟩
   refine XL.s rfl ?_
   refine Y.not (by rfl) ?_
   refine XL.nil ?_
   refine QN.next ?_
   refine XC.condF rfl rfl ?_
   refine XC.skip ?_
   refine QN.blk ?_
   refine QN.again ((sn ++ [p], rest')) ?_ ?_ ?_
   ·exact ⟨rfl, rfl, trivial⟩
   ·exact ⟨hIC.b.chg hC12 (fun h => h.2.2 rfl) (fun h => h.1 rfl), hj12⟩
   ·first | omega | (simp only []; omega) | (simp; omega)
  ·intro hc
   try simp only [decide_eq_true_eq, decide_eq_false_iff_not, Bool.not_eq_true', Bool.not_eq_false', Bool.not_eq_eq_eq_not, Bool.not_true, Bool.not_false, Bool.or_eq_true, Bool.and_eq_true, Bool.or_eq_false_iff] at hc
   have hre : rest = [] := by simpa using hc
   subst hre
   rw [List.append_nil] at hperm
   refine XC.exit ?_
   refine QN.thenE ?_
   refine QN.thenE ?_
   refine QN.hit ?_
   refine QN.done0 (fn := Tryz.f95) (R := R) (.inr rfl) rfl rfl ?_
   refine hR _ _ ?_
   exact ⟨sn, hperm, hJ _ _ _ hj hC6 hz6⟩
theorem appseq_ok (r b : Nat) (es : KVs) (w : World) (hb : HB w b (.cells #[.map (some r)] 77 (0, 0))) (hm : MapB w r es) (hn : es.length ≤ 1000000) :
  Rets Tryz.prog 102 #[.slice none 0 0, .func (.func 95) #[] #[.pointer (some ⟨b, 0, none⟩)]] w fun v w' => ∃ sn : KVs, sn.Perm es ∧ Ext w w' ∧ Apd (Since w) w' 9 1 v sn.length (strsV (keysK sn)) ∧ (0 < sn.length → Own (Since w) w' 9 1 v sn.length (strsV (keysK sn))) := by
 refine Rets.enterM (args := [.slice none 0 0, .func (.func 95) #[] #[.pointer (some ⟨b, 0, none⟩)]]) (n := 13) Tryz.func102 rfl rfl rfl ?_
 intro R hR
 show XC _ _ _ _ [(0, .slice none 0 0), (1, .func (.func 95) #[] #[.pointer (some ⟨b, 0, none⟩)])] _
 have hbl := hb.lt
 have hrl : r < w.heap.size := by obtain ⟨_, _, hb, _⟩ := hm; exact hb.lt
 refine XC.seq ?_
 refine XC.region ?_
 show XL _ _ _ _ (List.cons _ _) _ _
 refine XL.s rfl ?_
 refine Y.box (by rfl) ?_
 intro b2 w2 hb2 hz2 hE2
 have hb2 : HB w2 b2 (.cells #[.slice none 0 0] 56 (0, 0)) := hb2
 refine XL.s rfl ?_
 refine Y.assign (by rfl) ?_
 refine XL.nil ?_
 refine QN.next ?_
 refine XC.seq ?_
 refine XC.seq ?_
 refine XC.region ?_
 show XL _ _ _ _ (List.cons _ _) _ _
 refine XL.s rfl ?_
 refine Y.move (by rfl) ?_
 refine XL.nil ?_
 refine QN.next ?_
 refine XC.block ?_
 refine XC.rangeFunc (by rfl) ok95 ?_
 intro ℓ D w1 hD hℓ hz1 hE1 hL1
 refine Rets.mono (keys1_ok ℓ r b es (fun sn W => ∃ u, HB W b2 (.cells #[u] 56 (0, 0)) ∧ Apd (fun x => w1.heap.size < x) W 9 1 u sn.length (strsV (keysK sn)) ∧ (0 < sn.length → Own (fun x => w1.heap.size < x) W 9 1 u sn.length (strsV (keysK sn))) ∧ LoopS _ _ _ _ _ ℓ D .ready W ∧ Ext w W ∧ w1.heap.size < W.heap.size) w1 ((hb.ext hE2).ext hE1) ((hm.ext hE2).ext hE1) (fun W hE hz => ⟨_, (hb2.ext hE1).ext hE, Apd.nil _ _ _ _, (fun h => by simp at h), hL1.ext hE, (hE2.trans hE1).trans hE, by omega⟩) (fun sn W1 W2 ⟨u, k1, k2, k3, k4, k5, k6⟩ hC hz => ⟨u, k1.chg hC (by have := hE1.size; omega), k2.chg hC (fun x _ hx e => by omega), (fun h => (k3 h).chg hC (fun x _ hx e => by omega)), k4.chg hC (by omega) (by omega), k5.chgNew hC (fun x hx => by have := hE1.size; omega), by omega⟩) ?_) ?_
 ·rintro sn p W1 ⟨u, k1, k2, k3, k4, k5, k6⟩ hsl 
  refine YieldsTo.of k4 rfl rfl ?_
  show XC _ _ _ _ (List.cons (7, _) _) _
  refine XC.region ?_
  show XL _ _ _ _ (List.cons _ _) _ _
  refine XL.s rfl ?_
  refine Y.assign (by rfl) ?_
  refine XL.nil ?_
  refine QN.begun k4 ?_
  intro wb hCb hzb hLb
  refine XC.block ?_
  refine XC.region ?_
  show XL _ _ _ _ (List.cons _ _) _ _
  refine XL.s rfl ?_
  refine Y.load one56 (by rfl) (one0 (k1.chg hCb (by have := hE1.size; omega))) ?_
  refine XL.s rfl ?_
  refine Y.move (by rfl) ?_
  refine XL.s rfl ?_
  refine Y.buildSlice st56 (by rfl) (by rfl) (by omega) (by simp [Value.oneCell', byteV, strV]) ?_
  intro v10 w10 hN10
  have k2b := k2.chg hCb (fun x _ hx e => by omega)
  have hzb10 := hN10.1.size
  refine XL.s rfl ?_
  refine Y.appendG st56 Tryz.underlying56 (by rfl) (by rfl) (k2b.ext hN10.1) hN10.row rfl (by omega) (by omega) ?_
  intro v11 w11 hA11 hO11 hC11
  have hb2' : HB w11 b2 (.cells #[u] 56 (0, 0)) := ((k1.chg hCb (by have := hE1.size; omega)).ext hN10.1).chg hC11 (by have := hE1.size; omega)
  refine XL.o ?_
  refine Y.storeB one56 (by rfl) (by rfl) hA11.row.oneC hb2' (by simp) (nofr0 _) ?_
  intro w12 hb12 hC12 hz12 _
  have hz11 := hC11.size
  have hlt1 := k1.lt
  have hzz := k4
  have hlw : ℓ < W1.heap.size ∧ D < W1.heap.size := by obtain ⟨_, _, a, b, _⟩ := k4; exact ⟨a.lt, b.lt⟩
  refine XL.nil ?_
  refine QN.blk ?_
  refine QN.rounded (((hLb.ext hN10.1).chg hC11 (by omega) (by omega)).chg hC12 (by have := hE1.size; omega) (by have := hE1.size; omega)) ?_
  intro we hCe hze hLe
  have hsn : strsV (keysK (sn ++ [p])) = strsV (keysK sn) ++ [strV p.1] := keysK_snoc _ _
  have hnn : ∀ x, (Grow (fun x => w1.heap.size < x) w10 w11) x → ¬ x = b2 := fun x hx e => by have := hE1.size; rcases hx with h | h <;> omega
  have hgg : ∀ x, x < w12.heap.size → (Grow (fun x => w1.heap.size < x) w10 w11) x → w1.heap.size < x := fun x _ hx => by rcases hx with h | h <;> first | exact h | (have := h.1; have := hE1.size; omega)
  have hA12 : Apd (fun x => w1.heap.size < x) w12 9 1 v11 (sn ++ [p]).length (strsV (keysK (sn ++ [p]))) := by rw [hsn, List.length_append]; exact (hA11.chg hC12 (fun x _ hx => hnn x hx)).mono hgg
  have hO12 : Own (fun x => w1.heap.size < x) w12 9 1 v11 (sn ++ [p]).length (strsV (keysK (sn ++ [p]))) := by rw [hsn, List.length_append]; exact ((hO11 (by decide)).chg hC12 (fun x _ hx => hnn x hx)).mono hgg
  have hCall : Chg (fun x => x = ℓ ∨ x = b2 ∨ w1.heap.size < x) W1 we := ((((hCb.mono (S' := fun x => x = ℓ ∨ x = b2 ∨ w1.heap.size < x) (fun _ _ h => .inl h)).ext hN10.1).trans hC11 (fun _ h => h) (fun _ _ h => .inr (.inr h))).trans hC12 (fun _ h => h) (fun _ _ h => .inr (.inl h))).trans hCe (fun _ h => h) (fun _ _ h => .inl h)
  exact ⟨⟨v11, (show HB w12 b2 (.cells #[v11] 56 (0, 0)) from hb12).chg hCe (by have := hE1.size; omega), hA12.chg hCe (fun x _ hx e => by omega), fun _ => hO12.chg hCe (fun x _ hx e => by omega), hLe, k5.chgNew hCall (fun x hx => by have := hE1.size; omega), by have := hCall.size; omega⟩, hCall.mono fun x _ hx => by have := hE1.size; omega⟩
 ·rintro v W ⟨sn, hperm, u, k1, k2, k3, k4, k5, k6⟩ 
  refine ⟨k4, ?_⟩
  intro w3 hC3 hz3 hD3
  have hE1z := hE1.size
  refine QN.blk ?_
  refine QN.next ?_
  refine XC.seq ?_
  refine XC.region ?_
  show XL _ _ _ _ (List.cons _ _) _ _
  refine XL.s rfl ?_
  refine Y.load one56 (by rfl) (one0 (k1.chg hC3 (by omega))) ?_
  refine XL.s rfl ?_
  refine Y.assign (by rfl) ?_
  refine XL.nil ?_
  refine QN.next ?_
  refine XC.ret ?_
  refine QN.doneM (fn := Tryz.f102) (R := R) (.inl rfl) rfl rfl rfl hD3 ?_
  intro wf hCf hzf
  refine hR _ _ ?_
  exact ⟨sn, hperm, (k5.chgNew hC3 (fun x hx => by omega)).chgNew hCf (fun x hx => by omega), ((k2.chg hC3 (fun x _ hx e => by omega)).chg hCf (fun x _ hx e => by omega)).mono (fun x _ hx => by show w.heap.size ≤ x; omega), fun h => (((k3 h).chg hC3 (fun x _ hx e => by omega)).chg hCf (fun x _ hx e => by omega)).mono (fun x _ hx => by show w.heap.size ≤ x; omega)⟩
theorem collect_ok (r b : Nat) (es : KVs) (w : World) (hb : HB w b (.cells #[.map (some r)] 77 (0, 0))) (hm : MapB w r es) (hn : es.length ≤ 1000000) :
  Rets Tryz.prog 93 #[.func (.func 95) #[] #[.pointer (some ⟨b, 0, none⟩)]] w fun v w' => ∃ sn : KVs, sn.Perm es ∧ Ext w w' ∧ Apd (Since w) w' 9 1 v sn.length (strsV (keysK sn)) ∧ (0 < sn.length → Own (Since w) w' 9 1 v sn.length (strsV (keysK sn))) := by
 refine Rets.enter (args := [.func (.func 95) #[] #[.pointer (some ⟨b, 0, none⟩)]]) (n := 5) Tryz.func93 rfl rfl rfl ?_
 intro R hR
 show XC _ _ _ _ [(0, .func (.func 95) #[] #[.pointer (some ⟨b, 0, none⟩)])] _
 refine XC.seq ?_
 refine XC.region ?_
 show XL _ _ _ _ (List.cons _ _) _ _
 refine XL.s rfl ?_
 refine Y.assign (by rfl) ?_
 refine XL.nil ?_
 refine QN.next ?_
 refine XC.seq ?_
 refine XC.region ?_
 show XL _ _ _ _ (List.cons _ _) _ _
 refine XL.s rfl ?_
 refine Y.move (by rfl) ?_
 refine XL.s rfl ?_
 refine Y.call (by rfl) ok102 (appseq_ok r b es _ hb hm hn) ?_
 rintro v4 w4 h4
 refine XL.s rfl ?_
 refine Y.assign (by rfl) ?_
 refine XL.nil ?_
 refine QN.next ?_
 refine XC.ret ?_
 refine QN.done1 (fn := Tryz.f93) (R := R) (.inl rfl) rfl rfl ?_
 refine hR _ _ ?_
 exact h4
theorem sorted_ok (r b : Nat) (es : KVs) (w : World) (hb : HB w b (.cells #[.map (some r)] 77 (0, 0))) (hm : MapB w r es) (hn : es.length ≤ 1000000) (h12 : es.length ≤ 12) :
  Rets Tryz.prog 69 #[.func (.func 95) #[] #[.pointer (some ⟨b, 0, none⟩)]] w fun v w' => ∃ ss : List (List UInt8), ss.Perm (es.map (·.1)) ∧ New w w' 9 1 v ss.length (strsV ss) := by
 refine Rets.enter (args := [.func (.func 95) #[] #[.pointer (some ⟨b, 0, none⟩)]]) (n := 9) Tryz.func69 rfl rfl rfl ?_
 intro R hR
 show XC _ _ _ _ [(0, .func (.func 95) #[] #[.pointer (some ⟨b, 0, none⟩)])] _
 refine XC.seq ?_
 refine XC.region ?_
 show XL _ _ _ _ (List.cons _ _) _ _
 refine XL.s rfl ?_
 refine Y.assign (by rfl) ?_
 refine XL.nil ?_
 refine QN.next ?_
 refine XC.seq ?_
 refine XC.region ?_
 show XL _ _ _ _ (List.cons _ _) _ _
 refine XL.s rfl ?_
 refine Y.move (by rfl) ?_
 refine XL.s rfl ?_
 refine Y.call (by rfl) ok93 (collect_ok r b es _ hb hm hn) ?_
 rintro v5 w5 ⟨sn, hperm, hE5, hA5, hO5⟩
 have hlen := hperm.length_eq
 refine XL.s rfl ?_
 refine Y.assign (by rfl) ?_
 refine XL.nil ?_
 refine QN.next ?_
 refine XC.seq ?_
 by_cases hs : 0 < sn.length
 ·skip
  obtain ⟨g, hob, hSg, hgl, hO⟩ := (hO5 hs).at
  obtain ⟨q, cap, hv⟩ : ∃ q cap, v5 = .slice q sn.length cap := hA5.row.val
  have hq : v5 = .slice (some ⟨g, 0, none⟩) sn.length cap := by obtain ⟨_, _, g', cap', cur, fr, hv', _, _, hg', _⟩ := hO; rw [hv'] at hv ⊢; cases hv; rw [show g' = g from hg']
  subst hq
  have hgw : w.heap.size ≤ g := hSg
  refine XC.region ?_
  show XL _ _ _ _ (List.cons _ _) _ _
  refine XL.s rfl ?_
  refine Y.move (by rfl) ?_
  refine XL.s rfl ?_
  refine Y.call (by rfl) ok94 (sort_ok g cap sn.length (keysK sn) _ hO (by simp [keysK]) (by omega) (by omega)) ?_
  rintro v7 w7 ⟨tt, hp7, hO7, hC7⟩
  have hl7 : tt.length = sn.length := by simpa [keysK] using hp7.length_eq
  refine XL.nil ?_
  refine QN.next ?_
  refine XC.seq ?_
  refine XC.region ?_
  show XL _ _ _ _ (List.cons _ _) _ _
  refine XL.s rfl ?_
  refine Y.move (by rfl) ?_
  refine XL.s rfl ?_
  refine Y.assign (by rfl) ?_
  refine XL.nil ?_
  refine QN.next ?_
  refine XC.ret ?_
  refine QN.done1 (fn := Tryz.f69) (R := R) (.inl rfl) rfl rfl ?_
  refine hR _ _ ?_
  exact ⟨tt, hp7.trans (hperm.map _), hE5.chgNew hC7 (fun x hx => by omega), by rw [hl7]; exact (hO7.apd).mono (fun x _ hx => by show w.heap.size ≤ x; omega)⟩
 ·skip
  have hs0 : sn = [] := List.eq_nil_of_length_eq_zero (by omega)
  subst hs0
  refine XC.region ?_
  show XL _ _ _ _ (List.cons _ _) _ _
  refine XL.s rfl ?_
  refine Y.move (by rfl) ?_
  refine XL.s rfl ?_
  refine Y.call (by rfl) ok94 (sort_nil _ _ _ hA5) ?_
  rintro v7 w7 hE7
  refine XL.nil ?_
  refine QN.next ?_
  refine XC.seq ?_
  refine XC.region ?_
  show XL _ _ _ _ (List.cons _ _) _ _
  refine XL.s rfl ?_
  refine Y.move (by rfl) ?_
  refine XL.s rfl ?_
  refine Y.assign (by rfl) ?_
  refine XL.nil ?_
  refine QN.next ?_
  refine XC.ret ?_
  refine QN.done1 (fn := Tryz.f69) (R := R) (.inl rfl) rfl rfl ?_
  refine hR _ _ ?_
  exact ⟨[], (by have := hperm.map (·.1); simpa using this), hE5.trans hE7, hA5.ext hE7⟩
theorem dnames_ok (F : Nat → Prop) (dv : Value) (most : Nat) (fs : FS) (w : World) (hD : DiskB 79 82 5 F w dv most fs) (hn : fs.length ≤ 12) :
  Rets Tryz.prog 43 #[dv] w fun v w' => ∃ ss : List (List UInt8), ss.Perm (fs.map (·.1)) ∧ New w w' 9 1 v ss.length (strsV ss) := by
 refine Rets.enter (args := [dv]) (n := 9) Tryz.func43 rfl rfl rfl ?_
 intro R hR
 show XC _ _ _ _ [(0, dv)] _
 obtain ⟨db, r, Fs, es, rfl, hX, hF1, hF2, hF3⟩ := hD
 have hkl : es.length = fs.length := by have := congrArg List.length hX.keys; simpa using this
 refine XC.seq ?_
 refine XC.region ?_
 show XL _ _ _ _ (List.cons _ _) _ _
 refine XL.s rfl ?_
 refine Y.assign (by rfl) ?_
 refine XL.nil ?_
 refine QN.next ?_
 refine XC.seq ?_
 refine XC.region ?_
 show XL _ _ _ _ (List.cons _ _) _ _
 refine XL.s rfl ?_
 refine Y.move (by rfl) ?_
 refine XL.s rfl ?_
 refine Y.nilCheck (by rfl) ?_
 refine XL.s rfl ?_
 refine Y.fieldAddr fld79_0 (by rfl) ?_
 refine XL.s rfl ?_
 refine Y.load one77 (by rfl) (two0 hX.cell) ?_
 refine XL.s rfl ?_
 refine Y.call (by rfl) ok70 (keys_ok r _) ?_
 rintro v7 w7 ⟨b, rfl, hb7, hbz, hz7, hE7⟩
 refine XL.s rfl ?_
 refine Y.call (by rfl) ok69 (sorted_ok r b es _ hb7 (hX.map.ext hE7) (by omega) (by omega)) ?_
 rintro v8 w8 ⟨ss, hp, hN⟩
 refine XL.s rfl ?_
 refine Y.assign (by rfl) ?_
 refine XL.nil ?_
 refine QN.next ?_
 refine XC.ret ?_
 refine QN.done1 (fn := Tryz.f43) (R := R) (.inl rfl) rfl rfl ?_
 refine hR _ _ ?_
 exact ⟨ss, by rw [← hX.keys]; exact hp, hN.older hE7⟩
end Go.Proofs.YtchammpamigonaaGreatX
end
section
set_option linter.unusedVariables false
set_option linter.unusedSimpArgs false
set_option maxRecDepth 10000
set_option maxHeartbeats 4000000
namespace Go.Proofs.YtchammpamigonaaGreatX
open Go Go.RowKit Go.Proofs
theorem readA_no (F : Nat → Prop) (dv : Value) (most : Nat) (m : Fm) (U c : Nat) (k : List UInt8) (w : World) (hD : DiskA 79 82 5 F w dv most m U c) (hk : m k = none) : Rets Tryz.prog 23 #[dv, strV k] w fun v w' => v = .tuple #[.slice none 0 0, .int .i64 5] ∧ Ext w w' := by
 obtain ⟨fs, hB, hL⟩ := hD
 exact dread_no F dv most fs k w hB (fmapK_none (by rw [hL.look]; exact hk))
theorem readA_yes (F : Nat → Prop) (dv : Value) (most : Nat) (m : Fm) (U c : Nat) (k : List UInt8) (w : World) (hD : DiskA 79 82 5 F w dv most m U c) (d : List UInt8) (s : Nat) (hk : m k = some (d, s)) (hU : U ≤ 1000000) : Rets Tryz.prog 23 #[dv, strV k] w fun v w' => ∃ b, v = .tuple #[b, .int .i64 0] ∧ NewB 5 w w' b d := by
 obtain ⟨fs, hB, hL⟩ := hD
 have hl := hL.lenAt hk
 rw [← hL.look] at hk
 obtain ⟨f, hf, rfl, rfl⟩ := fmapK_some hk
 exact dread_yes F dv most fs k w hB f hf (by omega)
theorem delA (F : Nat → Prop) (dv : Value) (most : Nat) (m : Fm) (U c : Nat) (k : List UInt8) (w : World) (hD : DiskA 79 82 5 F w dv most m U c) : Rets Tryz.prog 42 #[dv, strV k] w fun v w' => Chg F w w' ∧ DiskA 79 82 5 F w' dv most (upd m k none) U c := by
 obtain ⟨fs, hB, hL⟩ := hD
 cases hk : m k with
 | none =>
  have he : upd m k none = m := by funext x; simp only [upd]; split; (rename_i e; rw [e, hk]); rfl
  rw [he]
  exact (ddel_no F dv most fs k w hB (fmapK_none (by rw [hL.look]; exact hk))).mono fun v w' h => ⟨h.2.chg, fs, hB.ext h.2, hL⟩
 | some p =>
  obtain ⟨d, s⟩ := p
  rw [← hL.look] at hk
  obtain ⟨f, hf, _, _⟩ := fmapK_some hk
  exact (ddel_yes F dv most fs k w hB f hf).mono fun v w' h => ⟨h.2.1, _, h.2.2, hL.del k⟩
theorem renA (F : Nat → Prop) (dv : Value) (most : Nat) (m : Fm) (U c : Nat) (k : List UInt8) (w : World) (hD : DiskA 79 82 5 F w dv most m U c) (k2 : List UInt8) (h1 : 1 ≤ k.length ∧ k.length ≤ 24) (h2 : 1 ≤ k2.length ∧ k2.length ≤ 24) (d : List UInt8) (s : Nat) (hk : m k = some (d, s)) : Rets Tryz.prog 46 #[dv, strV k, strV k2] w fun v w' => v = .int .i64 0 ∧ Chg F w w' ∧ DiskA 79 82 5 F w' dv most (upd (upd m k none) k2 (some (d, s))) U c := by
 obtain ⟨fs, hB, hL⟩ := hD
 rw [← hL.look] at hk
 obtain ⟨f, hf, rfl, rfl⟩ := fmapK_some hk
 exact (dren_yes F dv most fs k w hB k2 h1 h2 f hf).mono fun v w' h => ⟨h.1, h.2.1, _, h.2.2, hL.ren hf⟩
theorem syncA (F : Nat → Prop) (dv : Value) (most : Nat) (m : Fm) (U c : Nat) (k : List UInt8) (w : World) (hD : DiskA 79 82 5 F w dv most m U c) (d : List UInt8) (s : Nat) (hk : m k = some (d, s)) : Rets Tryz.prog 39 #[dv, strV k] w fun v w' => v = .int .i64 0 ∧ Chg F w w' ∧ DiskA 79 82 5 F w' dv most (upd m k (some (d, d.length))) U c := by
 obtain ⟨fs, hB, hL⟩ := hD
 rw [← hL.look] at hk
 obtain ⟨f, hf, rfl, rfl⟩ := fmapK_some hk
 exact (dosync_yes F dv most fs k w hB f hf).mono fun v w' h => ⟨h.1, h.2.1, _, h.2.2, hL.up' (f := { f with syn := f.data.length }) (a := 0) hf (Nat.le_refl _)⟩
theorem appA_new (F : Nat → Prop) (dv : Value) (most : Nat) (m : Fm) (U c : Nat) (k : List UInt8) (w : World) (hD : DiskA 79 82 5 F w dv most m U c) (S : Nat → Prop) (u : Value) (l : List UInt8) (hr : Bs S w u l) (hsd : ∀ b, S b → ¬ F b) (hU : U + l.length ≤ most) (hm : most ≤ 1000000) (h1 : 1 ≤ k.length ∧ k.length ≤ 24) (hk : m k = none) : Rets Tryz.prog 38 #[dv, strV k, u] w fun v w' => v = .int .i64 0 ∧ Chg F w w' ∧ DiskA 79 82 5 (Grow F w w') w' dv most (upd m k (some (l, 0))) (U + l.length) (c + 1) := by
 obtain ⟨fs, hB, hL⟩ := hD
 have := hL.used
 exact (dapp_new F dv most fs k S u l w hB hr (by omega) (by omega) (by omega) h1 (by omega) (fmapK_none (by rw [hL.look]; exact hk)) hsd).mono fun v w' h => ⟨h.1, h.2.1, _, h.2.2, hL.up k ⟨l, 0, decide (0 < l.length)⟩⟩
theorem copyA (F : Nat → Prop) (dv : Value) (most : Nat) (m : Fm) (U c : Nat) (w : World) (hD : DiskA 79 82 5 F w dv most m U c) (hm : most ≤ 65536) (hU : U ≤ 1000000) : Rets Tryz.prog 27 #[dv] w fun v w' => DiskA 79 82 5 (btw w.heap.size w'.heap.size) w' v most m U c ∧ Ext w w' := by
 obtain ⟨fs, hB, hL⟩ := hD
 have hu := hL.used
 refine (dcopy_ok F dv most fs w hB hm fun p hp => ?_).mono fun v w' ⟨sn, hp, hB', hE⟩ => ⟨⟨_, hB', hL.cp hp⟩, hE⟩
 have h1 := lenAt_le hL.nd p.1
 have h2 := lookK_of_mem hL.nd hp
 simp only [lenAt, h2, Option.map_some, Option.getD_some] at h1
 omega
theorem namesA (F : Nat → Prop) (dv : Value) (most : Nat) (m : Fm) (U c : Nat) (w : World) (hD : DiskA 79 82 5 F w dv most m U c) (hc : c ≤ 12) : Rets Tryz.prog 43 #[dv] w fun v w' => ∃ ss : List (List UInt8), ss.Nodup ∧ (∀ x, x ∈ ss ↔ m x ≠ none) ∧ ss.length ≤ c ∧ New w w' 9 1 v ss.length (strsV ss) := by
 obtain ⟨fs, hB, hL⟩ := hD
 have hl := hL.len
 exact (dnames_ok F dv most fs w hB (by omega)).mono fun v w' ⟨ss, hp, hN⟩ => ⟨ss, hp.nodup_iff.2 hL.nd, fun x => by rw [hp.mem_iff, fmapK_mem, hL.look], by have := hp.length_eq; simp at this; omega, hN⟩
end Go.Proofs.YtchammpamigonaaGreatX
end
section
set_option linter.unusedVariables false
set_option linter.unusedSimpArgs false
set_option maxRecDepth 10000
set_option maxHeartbeats 4000000
namespace Go.Proofs.YtchammpamigonaaGreatX
open Go Go.RowKit Go.Proofs
theorem bit_ok (x : BitVec 32) (w : World) :
  Rets Tryz.prog 124 #[w32 x] w fun v w' => v = w32 (bitC x) ∧ w' = w := by
 refine Rets.enter (args := [w32 x]) (n := 11) Tryz.func124 rfl rfl rfl ?_
 intro R hR
 show XC _ _ _ _ [(0, w32 x)] _
 have e1 := odd32 x
 refine XC.seq ?_
 refine XC.region ?_
 show XL _ _ _ _ (List.cons _ _) _ _
 refine XL.s rfl ?_
 refine Y.assign (by rfl) ?_
 refine XL.nil ?_
 refine QN.next ?_
 refine XC.seq ?_
 refine XC.seq ?_
 refine XC.region ?_
 show XL _ _ _ _ (List.cons _ _) _ _
 refine XL.s rfl ?_
 refine Y.move (by rfl) ?_
 refine XL.s rfl ?_
 refine Y.and (by rfl) (by rfl) (and32 x 1) ?_
 refine XL.s rfl ?_
 refine Y.eql (by rfl) (by rfl) ?_
 refine XL.nil ?_
 refine QN.next ?_
 refine XC.condS rfl ?_ ?_
 ·intro hc
  try simp only [decide_eq_true_eq, decide_eq_false_iff_not, Bool.not_eq_true', Bool.not_eq_false', Bool.not_eq_eq_eq_not, Bool.not_true, Bool.not_false, Bool.or_eq_true, Bool.and_eq_true, Bool.or_eq_false_iff] at hc
  refine XC.seq ?_
  refine XC.region ?_
  show XL _ _ _ _ (List.cons _ _) _ _
  refine XL.s rfl ?_
  refine Y.move (by rfl) ?_
  refine XL.s rfl ?_
  refine Y.shr (by rfl) (by rfl) (by omega) (shr32 x) ?_
  refine XL.s rfl ?_
  refine Y.xor (by rfl) (by rfl) (xor32 (x >>> 1) 2197175160) ?_
  refine XL.s rfl ?_
  refine Y.assign (by rfl) ?_
  refine XL.nil ?_
  refine QN.next ?_
  refine XC.ret ?_
  refine QN.done1 (fn := Tryz.f124) (R := R) (.inl rfl) rfl rfl ?_
  refine hR _ _ ?_
  exact ⟨by rw [bitC, if_pos (e1.2 hc)]; rfl, rfl⟩
 ·intro hc
  try simp only [decide_eq_true_eq, decide_eq_false_iff_not, Bool.not_eq_true', Bool.not_eq_false', Bool.not_eq_eq_eq_not, Bool.not_true, Bool.not_false, Bool.or_eq_true, Bool.and_eq_true, Bool.or_eq_false_iff] at hc
  refine XC.skip ?_
  refine QN.next ?_
  refine XC.seq ?_
  refine XC.region ?_
  show XL _ _ _ _ (List.cons _ _) _ _
  refine XL.s rfl ?_
  refine Y.move (by rfl) ?_
  refine XL.s rfl ?_
  refine Y.shr (by rfl) (by rfl) (by omega) (shr32 x) ?_
  refine XL.s rfl ?_
  refine Y.assign (by rfl) ?_
  refine XL.nil ?_
  refine QN.next ?_
  refine XC.ret ?_
  refine QN.done1 (fn := Tryz.f124) (R := R) (.inl rfl) rfl rfl ?_
  refine hR _ _ ?_
  exact ⟨by rw [bitC, if_neg (fun h => hc (e1.1 h))]; rfl, rfl⟩
theorem eight_ok (x : BitVec 32) (b : UInt8) (w : World) :
  Rets Tryz.prog 117 #[w32 x, byteV b] w fun v w' => v = w32 (byteC x b) ∧ w' = w := by
 refine Rets.enter (args := [w32 x, byteV b]) (n := 17) Tryz.func117 rfl rfl rfl ?_
 intro R hR
 show XC _ _ _ _ [(0, w32 x), (1, byteV b)] _
 refine XC.seq ?_
 refine XC.region ?_
 show XL _ _ _ _ (List.cons _ _) _ _
 refine XL.s rfl ?_
 refine Y.assign (by rfl) ?_
 refine XL.nil ?_
 refine QN.next ?_
 refine XC.seq ?_
 refine XC.region ?_
 show XL _ _ _ _ (List.cons _ _) _ _
 refine XL.s rfl ?_
 refine Y.assign (by rfl) ?_
 refine XL.nil ?_
 refine QN.next ?_
 refine XC.seq ?_
 refine XC.region ?_
 show XL _ _ _ _ (List.cons _ _) _ _
 refine XL.s rfl ?_
 refine Y.move (by rfl) ?_
 refine XL.s rfl ?_
 refine Y.move (by rfl) ?_
 refine XL.s rfl ?_
 refine Y.convI Tryz.underlying5 Tryz.underlying156 (by rfl) (byte32 b) ?_
 refine XL.s rfl ?_
 refine Y.xor (by rfl) (by rfl) (xor32 x (BitVec.ofNat 32 b.toNat)) ?_
 refine XL.s rfl ?_
 refine Y.assign (by rfl) ?_
 refine XL.nil ?_
 refine QN.next ?_
 refine XC.seq ?_
 refine XC.seq ?_
 refine XC.region ?_
 show XL _ _ _ _ (List.cons _ _) _ _
 refine XL.s rfl ?_
 refine Y.move (by rfl) ?_
 refine XL.nil ?_
 refine QN.next ?_
 refine XC.block ?_
 refine XC.loop (α := Nat) (fun k => [(5, .func (.func 124) #[] #[]), (0, w32 (bitsC k (x ^^^ BitVec.ofNat 32 b.toNat))), (10, .int .i64 k)]) (fun k wr => k ≤ 8 ∧ w = wr) (fun k => 8 - k) (0) ?_ ?_ ?_
 ·exact ⟨rfl, rfl, rfl, trivial⟩
 ·exact ⟨by omega, rfl⟩
 ·rintro k wr hI
  obtain ⟨hk, rfl⟩ := hI
  refine XC.seq ?_
  refine XC.region ?_
  show XL _ _ _ _ (List.cons _ _) _ _
  refine XL.s rfl ?_
  refine Y.lss (by rfl) (by rfl) ?_
  refine XL.nil ?_
  refine QN.next ?_
  refine XC.seq ?_
  refine XC.condS rfl ?_ ?_
  ·intro hc
   try simp only [decide_eq_true_eq, decide_eq_false_iff_not, Bool.not_eq_true', Bool.not_eq_false', Bool.not_eq_eq_eq_not, Bool.not_true, Bool.not_false, Bool.or_eq_true, Bool.and_eq_true, Bool.or_eq_false_iff] at hc
   refine XC.skip ?_
   refine QN.next ?_
   refine XC.seq ?_
   refine XC.block ?_
   refine XC.region ?_
   show XL _ _ _ _ (List.cons _ _) _ _
   refine XL.s rfl ?_
   refine Y.move (by rfl) ?_
   refine XL.s rfl ?_
   refine Y.move (by rfl) ?_
   refine XL.s rfl ?_
   refine Y.callV (by rfl) (by rfl) ok124 (by exact bit_ok _ _) ?_
   rintro v14 w14 ⟨rfl, rfl⟩
   refine XL.s rfl ?_
   refine Y.assign (by rfl) ?_
   refine XL.nil ?_
   refine QN.blk ?_
   refine QN.next ?_
   refine XC.region ?_
   show XL _ _ _ _ (List.cons _ _) _ _
   refine XL.s rfl ?_
   refine Y.add (by rfl) (by rfl) (wrap64 (by omega) (by omega)) ?_
   refine XL.s rfl ?_
   refine Y.move (by rfl) ?_
   refine XL.nil ?_
   refine QN.again (k + 1) ?_ ?_ ?_
   ·exact ⟨rfl, rfl, rfl, trivial⟩
   ·exact ⟨by omega, rfl⟩
   ·first | omega | (simp only []; omega) | (simp; omega)
  ·intro hc
   try simp only [decide_eq_true_eq, decide_eq_false_iff_not, Bool.not_eq_true', Bool.not_eq_false', Bool.not_eq_eq_eq_not, Bool.not_true, Bool.not_false, Bool.or_eq_true, Bool.and_eq_true, Bool.or_eq_false_iff] at hc
   obtain rfl : k = 8 := by omega
   refine XC.exit ?_
   refine QN.thenE ?_
   refine QN.thenE ?_
   refine QN.hit ?_
   refine QN.next ?_
   refine XC.seq ?_
   refine XC.region ?_
   show XL _ _ _ _ (List.cons _ _) _ _
   refine XL.s rfl ?_
   refine Y.move (by rfl) ?_
   refine XL.s rfl ?_
   refine Y.assign (by rfl) ?_
   refine XL.nil ?_
   refine QN.next ?_
   refine XC.ret ?_
   refine QN.done1 (fn := Tryz.f117) (R := R) (.inl rfl) rfl rfl ?_
   refine hR _ _ ?_
   exact ⟨rfl, rfl⟩
theorem more_ok (S : Nat → Prop) (u : Value) (l : List UInt8) (w : World) (hr : Bs S w u l) :
  Rets Tryz.prog 105 #[w32 0, u] w fun v w' => v = w32 (crc l) ∧ w' = w := by
 refine Rets.enter (args := [w32 0, u]) (n := 22) Tryz.func105 rfl rfl rfl ?_
 intro R hR
 show XC _ _ _ _ [(0, w32 0), (1, u)] _
 have hln := hr.le
 refine XC.seq ?_
 refine XC.region ?_
 show XL _ _ _ _ (List.cons _ _) _ _
 refine XL.s rfl ?_
 refine Y.assign (by rfl) ?_
 refine XL.nil ?_
 refine QN.next ?_
 refine XC.seq ?_
 refine XC.region ?_
 show XL _ _ _ _ (List.cons _ _) _ _
 refine XL.s rfl ?_
 refine Y.move (by rfl) ?_
 refine XL.s rfl ?_
 refine Y.xor (by rfl) (by rfl) (xor32 0 4294967295) ?_
 refine XL.s rfl ?_
 refine Y.assign (by rfl) ?_
 refine XL.nil ?_
 refine QN.next ?_
 refine XC.seq ?_
 refine XC.seq ?_
 refine XC.region ?_
 show XL _ _ _ _ (List.cons _ _) _ _
 refine XL.s rfl ?_
 refine Y.move (by rfl) ?_
 refine XL.s rfl ?_
 first | refine Y.lenV Tryz.underlying39 (by rfl) ?_ | refine Y.len Tryz.underlying39 (by rfl) (by first | assumption | exact Apd.row (by assumption) | exact New.row (by assumption)) ?_
 refine XL.s rfl ?_
 refine Y.move (by rfl) ?_
 refine XL.nil ?_
 refine QN.next ?_
 refine XC.block ?_
 refine XC.loop (α := Nat) (fun k => [(10, u), (11, .int .i64 (l.length : Nat)), (12, .int .i64 k), (5, w32 (runC 4294967295 (l.take k)))]) (fun k wr => k ≤ l.length ∧ w = wr) (fun k => l.length - k) (0) ?_ ?_ ?_
 ·exact ⟨rfl, rfl, rfl, rfl, trivial⟩
 ·exact ⟨by omega, rfl⟩
 ·rintro k wr hI
  obtain ⟨hk, rfl⟩ := hI
  refine XC.seq ?_
  refine XC.region ?_
  show XL _ _ _ _ (List.cons _ _) _ _
  refine XL.s rfl ?_
  refine Y.lss (by rfl) (by rfl) ?_
  refine XL.nil ?_
  refine QN.next ?_
  refine XC.seq ?_
  refine XC.condS rfl ?_ ?_
  ·intro hc
   try simp only [decide_eq_true_eq, decide_eq_false_iff_not, Bool.not_eq_true', Bool.not_eq_false', Bool.not_eq_eq_eq_not, Bool.not_true, Bool.not_false, Bool.or_eq_true, Bool.and_eq_true, Bool.or_eq_false_iff] at hc
   have hk' : k < l.length := by omega
   refine XC.skip ?_
   refine QN.next ?_
   refine XC.seq ?_
   refine XC.block ?_
   refine XC.seq ?_
   refine XC.region ?_
   show XL _ _ _ _ (List.cons _ _) _ _
   refine XL.s rfl ?_
   refine Y.indexR st39 (by rfl) (by rfl) hr ⟨by omega, by omega⟩ (by rw [Int.toNat_natCast]; exact bytesV_get _ _ hk') ?_
   intro b14 o14 hs14 hc14
   refine XL.s rfl ?_
   refine Y.load one5 (by rfl) (by assumption) ?_
   refine XL.s rfl ?_
   refine Y.assign (by rfl) ?_
   refine XL.nil ?_
   refine QN.next ?_
   refine XC.region ?_
   show XL _ _ _ _ (List.cons _ _) _ _
   refine XL.s rfl ?_
   refine Y.move (by rfl) ?_
   refine XL.s rfl ?_
   refine Y.move (by rfl) ?_
   refine XL.s rfl ?_
   refine Y.call (by rfl) ok117 (eight_ok _ (l[k]) _) ?_
   rintro v18 w18 ⟨rfl, rfl⟩
   refine XL.s rfl ?_
   refine Y.assign (by rfl) ?_
   refine XL.nil ?_
   refine QN.blk ?_
   refine QN.next ?_
   refine XC.region ?_
   show XL _ _ _ _ (List.cons _ _) _ _
   refine XL.s rfl ?_
   refine Y.add (by rfl) (by rfl) (wrap64 (by omega) (by omega)) ?_
   refine XL.s rfl ?_
   refine Y.move (by rfl) ?_
   refine XL.nil ?_
   refine QN.again (k + 1) ?_ ?_ ?_
   ·exact ⟨rfl, rfl, rfl, by rw [take_succ_getD _ _ hk', runC_snoc]; rfl, trivial⟩
   ·exact ⟨by omega, rfl⟩
   ·first | omega | (simp only []; omega) | (simp; omega)
  ·intro hc
   try simp only [decide_eq_true_eq, decide_eq_false_iff_not, Bool.not_eq_true', Bool.not_eq_false', Bool.not_eq_eq_eq_not, Bool.not_true, Bool.not_false, Bool.or_eq_true, Bool.and_eq_true, Bool.or_eq_false_iff] at hc
   obtain rfl : k = l.length := by omega
   rw [List.take_length]
   refine XC.exit ?_
   refine QN.thenE ?_
   refine QN.thenE ?_
   refine QN.hit ?_
   refine QN.next ?_
   refine XC.seq ?_
   refine XC.region ?_
   show XL _ _ _ _ (List.cons _ _) _ _
   refine XL.s rfl ?_
   refine Y.move (by rfl) ?_
   refine XL.s rfl ?_
   refine Y.xor (by rfl) (by rfl) (xor32 (runC 4294967295 l) 4294967295) ?_
   refine XL.s rfl ?_
   refine Y.assign (by rfl) ?_
   refine XL.nil ?_
   refine QN.next ?_
   refine XC.ret ?_
   refine QN.done1 (fn := Tryz.f105) (R := R) (.inl rfl) rfl rfl ?_
   refine hR _ _ ?_
   exact ⟨rfl, rfl⟩
theorem sum_ok (S : Nat → Prop) (u : Value) (l : List UInt8) (w : World) (hr : Bs S w u l) :
  Rets Tryz.prog 100 #[u] w fun v w' => v = w32 (crc l) ∧ w' = w := by
 refine Rets.enter (args := [u]) (n := 5) Tryz.func100 rfl rfl rfl ?_
 intro R hR
 show XC _ _ _ _ [(0, u)] _
 refine XC.seq ?_
 refine XC.region ?_
 show XL _ _ _ _ (List.cons _ _) _ _
 refine XL.s rfl ?_
 refine Y.assign (by rfl) ?_
 refine XL.nil ?_
 refine QN.next ?_
 refine XC.seq ?_
 refine XC.region ?_
 show XL _ _ _ _ (List.cons _ _) _ _
 refine XL.s rfl ?_
 refine Y.move (by rfl) ?_
 refine XL.s rfl ?_
 refine Y.call (by rfl) ok105 (more_ok _ _ _ _ hr) ?_
 rintro v4 w4 ⟨rfl, rfl⟩
 refine XL.s rfl ?_
 refine Y.assign (by rfl) ?_
 refine XL.nil ?_
 refine QN.next ?_
 refine XC.ret ?_
 refine QN.done1 (fn := Tryz.f100) (R := R) (.inl rfl) rfl rfl ?_
 refine hR _ _ ?_
 exact ⟨rfl, rfl⟩
end Go.Proofs.YtchammpamigonaaGreatX
end
section
set_option linter.unusedVariables false
set_option linter.unusedSimpArgs false
set_option maxRecDepth 10000
set_option maxHeartbeats 4000000
namespace Go.Proofs.YtchammpamigonaaGreatX
open Go Go.RowKit Go.Proofs
theorem grow_nil (n : Nat) (hn : n ≤ 140737488355328) (w : World) :
  Rets Tryz.prog 99 #[.slice none 0 0, .int .i64 n] w fun v w' => New w w' 5 1 v 0 [] := by
 refine Rets.enter (args := [.slice none 0 0, .int .i64 n]) (n := 27) Tryz.func99 rfl rfl rfl ?_
 intro R hR
 show XC _ _ _ _ [(0, .slice none 0 0), (1, .int .i64 n)] _
 refine XC.seq ?_
 refine XC.region ?_
 show XL _ _ _ _ (List.cons _ _) _ _
 refine XL.s rfl ?_
 refine Y.assign (by rfl) ?_
 refine XL.nil ?_
 refine QN.next ?_
 refine XC.seq ?_
 refine XC.seq ?_
 refine XC.region ?_
 show XL _ _ _ _ (List.cons _ _) _ _
 refine XL.s rfl ?_
 refine Y.move (by rfl) ?_
 refine XL.s rfl ?_
 refine Y.lss (by rfl) (by rfl) ?_
 refine XL.nil ?_
 refine QN.next ?_
 refine XC.condF rfl ya ?_
 refine XC.skip ?_
 refine QN.next ?_
 refine XC.seq ?_
 refine XC.seq ?_
 refine XC.region ?_
 show XL _ _ _ _ (List.cons _ _) _ _
 refine XL.s rfl ?_
 refine Y.move (by rfl) ?_
 refine XL.s rfl ?_
 refine Y.move (by rfl) ?_
 refine XL.s rfl ?_
 refine Y.cap Tryz.underlying39 (by rfl) ?_
 refine XL.s rfl ?_
 refine Y.move (by rfl) ?_
 refine XL.s rfl ?_
 first | refine Y.lenV Tryz.underlying39 (by rfl) ?_ | refine Y.len Tryz.underlying39 (by rfl) (by first | assumption | exact Apd.row (by assumption) | exact New.row (by assumption)) ?_
 refine XL.s rfl ?_
 refine Y.sub (by rfl) (by rfl) (wrap64 (by omega) (by omega)) ?_
 refine XL.s rfl ?_
 refine Y.sub (by rfl) (by rfl) (show IntKind.i64.wrap _ = (n : Int) from by rw [wrap64 (by omega) (by omega)]; omega) ?_
 refine XL.s rfl ?_
 refine Y.assign (by rfl) ?_
 refine XL.nil ?_
 refine QN.next ?_
 refine XC.seq ?_
 refine XC.region ?_
 show XL _ _ _ _ (List.cons _ _) _ _
 refine XL.s rfl ?_
 refine Y.move (by rfl) ?_
 refine XL.s rfl ?_
 refine Y.gtr (by rfl) (by rfl) ?_
 refine XL.nil ?_
 refine QN.next ?_
 refine XC.condS rfl ?_ ?_
 ·intro hc
  try simp only [decide_eq_true_eq, decide_eq_false_iff_not, Bool.not_eq_true', Bool.not_eq_false', Bool.not_eq_eq_eq_not, Bool.not_true, Bool.not_false, Bool.or_eq_true, Bool.and_eq_true, Bool.or_eq_false_iff] at hc
  refine XC.region ?_
  show XL _ _ _ _ (List.cons _ _) _ _
  refine XL.s rfl ?_
  refine Y.move (by rfl) ?_
  refine XL.s rfl ?_
  refine Y.move (by rfl) ?_
  refine XL.s rfl ?_
  refine Y.cap Tryz.underlying39 (by rfl) ?_
  refine XL.s rfl ?_
  refine Y.sliceNil st39 (by rfl) (by rfl) ?_
  refine XL.s rfl ?_
  refine Y.move (by rfl) ?_
  refine XL.s rfl ?_
  refine Y.appendZ st39 Tryz.underlying3 (by rfl) (by rfl) (by omega) (by omega) (by omega) rfl ?_
  intro v22 w22 hO22 hE22
  obtain ⟨a22, c22, rfl⟩ := hO22.row.val
  refine XL.s rfl ?_
  refine Y.move (by rfl) ?_
  refine XL.s rfl ?_
  first | refine Y.lenV Tryz.underlying39 (by rfl) ?_ | refine Y.len Tryz.underlying39 (by rfl) (by first | assumption | exact Apd.row (by assumption) | exact New.row (by assumption)) ?_
  refine XL.s rfl ?_
  refine Y.sliceO st39 (by rfl) hO22 (by rfl) (by rfl) (by omega) ?_
  intro v25 hO25
  refine XL.s rfl ?_
  refine Y.assign (by rfl) ?_
  refine XL.nil ?_
  refine QN.next ?_
  refine XC.seq ?_
  refine XC.region ?_
  show XL _ _ _ _ (List.cons _ _) _ _
  refine XL.s rfl ?_
  refine Y.move (by rfl) ?_
  refine XL.s rfl ?_
  refine Y.assign (by rfl) ?_
  refine XL.nil ?_
  refine QN.next ?_
  refine XC.ret ?_
  refine QN.done1 (fn := Tryz.f99) (R := R) (.inl rfl) rfl rfl ?_
  refine hR _ _ ?_
  exact ⟨hE22, by simpa using hO25.apd⟩
 ·intro hc
  try simp only [decide_eq_true_eq, decide_eq_false_iff_not, Bool.not_eq_true', Bool.not_eq_false', Bool.not_eq_eq_eq_not, Bool.not_true, Bool.not_false, Bool.or_eq_true, Bool.and_eq_true, Bool.or_eq_false_iff] at hc
  refine XC.skip ?_
  refine QN.next ?_
  refine XC.seq ?_
  refine XC.region ?_
  show XL _ _ _ _ (List.cons _ _) _ _
  refine XL.s rfl ?_
  refine Y.move (by rfl) ?_
  refine XL.s rfl ?_
  refine Y.assign (by rfl) ?_
  refine XL.nil ?_
  refine QN.next ?_
  refine XC.ret ?_
  refine QN.done1 (fn := Tryz.f99) (R := R) (.inl rfl) rfl rfl ?_
  refine hR _ _ ?_
  exact New.nil _ _ _
theorem concat_ok (S : Nat → Prop) (u : Value) (m : List (List UInt8)) (w : World) (hr : Rows S w u m) (hn : m.flatten.length ≤ 140737488355328) :
  Rets Tryz.prog 81 #[u] w fun v w' => NewB 5 w w' v m.flatten := by
 refine Rets.enter (args := [u]) (n := 36) Tryz.func81 rfl rfl rfl ?_
 intro R hR
 show XC _ _ _ _ [(0, u)] _
 have hr0 := hr
 obtain ⟨vs, hvs, hall⟩ := hr
 have hln := hvs.le
 refine XC.seq ?_
 refine XC.region ?_
 show XL _ _ _ _ (List.cons _ _) _ _
 refine XL.s rfl ?_
 refine Y.assign (by rfl) ?_
 refine XL.nil ?_
 refine QN.next ?_
 refine XC.seq ?_
 refine XC.region ?_
 show XL _ _ _ _ (List.cons _ _) _ _
 refine XL.s rfl ?_
 refine Y.assign (by rfl) ?_
 refine XL.nil ?_
 refine QN.next ?_
 refine XC.seq ?_
 refine XC.seq ?_
 refine XC.region ?_
 show XL _ _ _ _ (List.cons _ _) _ _
 refine XL.s rfl ?_
 refine Y.move (by rfl) ?_
 refine XL.s rfl ?_
 first | refine Y.lenV Tryz.underlying37 (by rfl) ?_ | refine Y.len Tryz.underlying37 (by rfl) (by first | assumption | exact Apd.row (by assumption) | exact New.row (by assumption)) ?_
 refine XL.s rfl ?_
 refine Y.move (by rfl) ?_
 refine XL.nil ?_
 refine QN.next ?_
 refine XC.block ?_
 refine XC.loop (α := Nat) (fun k => [(0, u), (9, u), (10, .int .i64 (m.length : Nat)), (11, .int .i64 k), (3, .int .i64 ((m.take k).flatten.length : Nat))]) (fun k wr => k ≤ m.length ∧ w = wr) (fun k => m.length - k) (0) ?_ ?_ ?_
 ·exact ⟨rfl, rfl, rfl, rfl, rfl, trivial⟩
 ·exact ⟨by omega, rfl⟩
 ·rintro k wr hI
  obtain ⟨hk, rfl⟩ := hI
  refine XC.seq ?_
  refine XC.region ?_
  show XL _ _ _ _ (List.cons _ _) _ _
  refine XL.s rfl ?_
  refine Y.lss (by rfl) (by rfl) ?_
  refine XL.nil ?_
  refine QN.next ?_
  refine XC.seq ?_
  refine XC.condS rfl ?_ ?_
  ·intro hc
   try simp only [decide_eq_true_eq, decide_eq_false_iff_not, Bool.not_eq_true', Bool.not_eq_false', Bool.not_eq_eq_eq_not, Bool.not_true, Bool.not_false, Bool.or_eq_true, Bool.and_eq_true, Bool.or_eq_false_iff] at hc
   have hk' : k < m.length := by omega
   obtain ⟨q, hq, hb⟩ := hall.get (i := k) (List.getElem?_eq_getElem hk')
   have hfl := flatten_take_le m (k + 1)
   rw [flatten_take_succ m k hk', List.length_append] at hfl
   refine XC.skip ?_
   refine QN.next ?_
   refine XC.seq ?_
   refine XC.block ?_
   refine XC.seq ?_
   refine XC.region ?_
   show XL _ _ _ _ (List.cons _ _) _ _
   refine XL.s rfl ?_
   refine Y.indexR st37 (by rfl) (by rfl) hvs ⟨by omega, by omega⟩ (by rw [Int.toNat_natCast]; exact hq) ?_
   intro b13 o13 hs13 hc13
   refine XL.s rfl ?_
   refine Y.load one39 (by rfl) (by assumption) ?_
   refine XL.s rfl ?_
   refine Y.assign (by rfl) ?_
   refine XL.nil ?_
   refine QN.next ?_
   refine XC.seq ?_
   refine XC.region ?_
   show XL _ _ _ _ (List.cons _ _) _ _
   refine XL.s rfl ?_
   refine Y.move (by rfl) ?_
   refine XL.s rfl ?_
   refine Y.move (by rfl) ?_
   refine XL.s rfl ?_
   first | refine Y.lenV Tryz.underlying39 (by rfl) ?_ | refine Y.len Tryz.underlying39 (by rfl) (by first | assumption | exact Apd.row (by assumption) | exact New.row (by assumption)) ?_
   refine XL.s rfl ?_
   refine Y.add (by rfl) (by rfl) (wrap64 (by omega) (by omega)) ?_
   refine XL.s rfl ?_
   refine Y.assign (by rfl) ?_
   refine XL.nil ?_
   refine QN.next ?_
   refine XC.seq ?_
   refine XC.region ?_
   show XL _ _ _ _ (List.cons _ _) _ _
   refine XL.s rfl ?_
   refine Y.move (by rfl) ?_
   refine XL.s rfl ?_
   refine Y.lss (by rfl) (by rfl) ?_
   refine XL.nil ?_
   refine QN.next ?_
   refine XC.condF rfl (by simp; omega) ?_
   refine XC.skip ?_
   refine QN.blk ?_
   refine QN.next ?_
   refine XC.region ?_
   show XL _ _ _ _ (List.cons _ _) _ _
   refine XL.s rfl ?_
   refine Y.add (by rfl) (by rfl) (wrap64 (by omega) (by omega)) ?_
   refine XL.s rfl ?_
   refine Y.move (by rfl) ?_
   refine XL.nil ?_
   refine QN.again (k + 1) ?_ ?_ ?_
   ·exact ⟨rfl, rfl, rfl, rfl, by rw [flatten_take_succ m k hk', List.length_append]; rfl, trivial⟩
   ·exact ⟨by omega, rfl⟩
   ·first | omega | (simp only []; omega) | (simp; omega)
  ·intro hc
   try simp only [decide_eq_true_eq, decide_eq_false_iff_not, Bool.not_eq_true', Bool.not_eq_false', Bool.not_eq_eq_eq_not, Bool.not_true, Bool.not_false, Bool.or_eq_true, Bool.and_eq_true, Bool.or_eq_false_iff] at hc
   obtain rfl : k = m.length := by omega
   rw [List.take_length]
   refine XC.exit ?_
   refine QN.thenE ?_
   refine QN.thenE ?_
   refine QN.hit ?_
   refine QN.next ?_
   refine XC.seq ?_
   refine XC.region ?_
   show XL _ _ _ _ (List.cons _ _) _ _
   refine XL.s rfl ?_
   refine Y.move (by rfl) ?_
   refine XL.s rfl ?_
   refine Y.call (by rfl) ok99 (grow_nil _ hn _) ?_
   rintro v24 w24 hN24
   replace hvs := hvs.ext hN24.1
   refine XL.s rfl ?_
   refine Y.assign (by rfl) ?_
   refine XL.nil ?_
   refine QN.next ?_
   refine XC.seq ?_
   refine XC.seq ?_
   refine XC.region ?_
   show XL _ _ _ _ (List.cons _ _) _ _
   refine XL.s rfl ?_
   refine Y.move (by rfl) ?_
   refine XL.s rfl ?_
   first | refine Y.lenV Tryz.underlying37 (by rfl) ?_ | refine Y.len Tryz.underlying37 (by rfl) (by first | assumption | exact Apd.row (by assumption) | exact New.row (by assumption)) ?_
   refine XL.s rfl ?_
   refine Y.move (by rfl) ?_
   refine XL.nil ?_
   refine QN.next ?_
   refine XC.block ?_
   refine XC.loop (α := Nat × Value) (fun (j, a) => [(25, u), (26, .int .i64 (m.length : Nat)), (27, .int .i64 j), (6, a)]) (fun (j, a) wr => j ≤ m.length ∧ NewB 5 w wr a (m.take j).flatten) (fun (j, a) => m.length - j) ((0, v24)) ?_ ?_ ?_
   ·exact ⟨rfl, rfl, rfl, rfl, trivial⟩
   ·exact ⟨by omega, hN24.cast (by simp) (by simp [bytesV])⟩
   ·rintro ⟨j, a⟩ wr hI
    obtain ⟨hj, hN⟩ := hI
    refine XC.seq ?_
    refine XC.region ?_
    show XL _ _ _ _ (List.cons _ _) _ _
    refine XL.s rfl ?_
    refine Y.lss (by rfl) (by rfl) ?_
    refine XL.nil ?_
    refine QN.next ?_
    refine XC.seq ?_
    refine XC.condS rfl ?_ ?_
    ·intro hd
     try simp only [decide_eq_true_eq, decide_eq_false_iff_not, Bool.not_eq_true', Bool.not_eq_false', Bool.not_eq_eq_eq_not, Bool.not_true, Bool.not_false, Bool.or_eq_true, Bool.and_eq_true, Bool.or_eq_false_iff] at hd
     have hj' : j < m.length := by omega
     have hvs' := hr0.ext hN.1
     obtain ⟨vs, hvs', hall'⟩ := hvs'
     obtain ⟨q, hq, hb⟩ := hall'.get (i := j) (List.getElem?_eq_getElem hj')
     have hfl := flatten_take_le m (j + 1)
     rw [flatten_take_succ m j hj', List.length_append] at hfl
     refine XC.skip ?_
     refine QN.next ?_
     refine XC.seq ?_
     refine XC.block ?_
     refine XC.seq ?_
     refine XC.region ?_
     show XL _ _ _ _ (List.cons _ _) _ _
     refine XL.s rfl ?_
     refine Y.indexR st37 (by rfl) (by rfl) hvs' ⟨by omega, by omega⟩ (by rw [Int.toNat_natCast]; exact hq) ?_
     intro b29 o29 hs29 hc29
     refine XL.s rfl ?_
     refine Y.load one39 (by rfl) (by assumption) ?_
     refine XL.s rfl ?_
     refine Y.assign (by rfl) ?_
     refine XL.nil ?_
     refine QN.next ?_
     refine XC.region ?_
     show XL _ _ _ _ (List.cons _ _) _ _
     refine XL.s rfl ?_
     refine Y.move (by rfl) ?_
     refine XL.s rfl ?_
     refine Y.move (by rfl) ?_
     refine XL.s rfl ?_
     refine Y.appendN st39 Tryz.underlying39 (by rfl) (by rfl) hN hb (by simp [bytesV]) (by omega) (by omega) ?_
     intro v33 w33 hN33 hC33
     refine XL.s rfl ?_
     refine Y.assign (by rfl) ?_
     refine XL.nil ?_
     refine QN.blk ?_
     refine QN.next ?_
     refine XC.region ?_
     show XL _ _ _ _ (List.cons _ _) _ _
     refine XL.s rfl ?_
     refine Y.add (by rfl) (by rfl) (wrap64 (by omega) (by omega)) ?_
     refine XL.s rfl ?_
     refine Y.move (by rfl) ?_
     refine XL.nil ?_
     refine QN.again ((j + 1, v33)) ?_ ?_ ?_
     ·exact ⟨rfl, rfl, rfl, rfl, trivial⟩
     ·exact ⟨by omega, hN33.cast (by rw [flatten_take_succ m j hj', List.length_append]) (by rw [flatten_take_succ m j hj', bytesV_append])⟩
     ·first | omega | (simp only []; omega) | (simp; omega)
    ·intro hd
     try simp only [decide_eq_true_eq, decide_eq_false_iff_not, Bool.not_eq_true', Bool.not_eq_false', Bool.not_eq_eq_eq_not, Bool.not_true, Bool.not_false, Bool.or_eq_true, Bool.and_eq_true, Bool.or_eq_false_iff] at hd
     obtain rfl : j = m.length := by omega
     rw [List.take_length] at hN
     refine XC.exit ?_
     refine QN.thenE ?_
     refine QN.thenE ?_
     refine QN.hit ?_
     refine QN.next ?_
     refine XC.seq ?_
     refine XC.region ?_
     show XL _ _ _ _ (List.cons _ _) _ _
     refine XL.s rfl ?_
     refine Y.move (by rfl) ?_
     refine XL.s rfl ?_
     refine Y.assign (by rfl) ?_
     refine XL.nil ?_
     refine QN.next ?_
     refine XC.ret ?_
     refine QN.done1 (fn := Tryz.f81) (R := R) (.inl rfl) rfl rfl ?_
     refine hR _ _ ?_
     exact hN
theorem equalB_ok (S S' : Nat → Prop) (u u' : Value) (l m : List UInt8) (w : World) (hr : Bs S w u l) (hr' : Bs S' w u' m) :
  Rets Tryz.prog 75 #[u, u'] w fun v w' => v = .bool (decide (l = m)) ∧ Ext w w' := by
 refine Rets.enter (args := [u, u']) (n := 26) Tryz.func75 rfl rfl rfl ?_
 intro R hR
 show XC _ _ _ _ [(0, u), (1, u')] _
 have hln := hr.le
 refine XC.seq ?_
 refine XC.region ?_
 show XL _ _ _ _ (List.cons _ _) _ _
 refine XL.s rfl ?_
 refine Y.assign (by rfl) ?_
 refine XL.nil ?_
 refine QN.next ?_
 refine XC.seq ?_
 refine XC.seq ?_
 refine XC.region ?_
 show XL _ _ _ _ (List.cons _ _) _ _
 refine XL.s rfl ?_
 refine Y.move (by rfl) ?_
 refine XL.s rfl ?_
 first | refine Y.lenV Tryz.underlying39 (by rfl) ?_ | refine Y.len Tryz.underlying39 (by rfl) (by first | assumption | exact Apd.row (by assumption) | exact New.row (by assumption)) ?_
 refine XL.s rfl ?_
 refine Y.move (by rfl) ?_
 refine XL.s rfl ?_
 first | refine Y.lenV Tryz.underlying39 (by rfl) ?_ | refine Y.len Tryz.underlying39 (by rfl) (by first | assumption | exact Apd.row (by assumption) | exact New.row (by assumption)) ?_
 refine XL.s rfl ?_
 refine Y.neq (by rfl) (by rfl) ?_
 refine XL.nil ?_
 refine QN.next ?_
 refine XC.condS rfl ?_ ?_
 ·intro hc
  try simp only [decide_eq_true_eq, decide_eq_false_iff_not, Bool.not_eq_true', Bool.not_eq_false', Bool.not_eq_eq_eq_not, Bool.not_true, Bool.not_false, Bool.or_eq_true, Bool.and_eq_true, Bool.or_eq_false_iff] at hc
  refine XC.seq ?_
  refine XC.region ?_
  show XL _ _ _ _ (List.cons _ _) _ _
  refine XL.s rfl ?_
  refine Y.assign (by rfl) ?_
  refine XL.nil ?_
  refine QN.next ?_
  refine XC.ret ?_
  refine QN.done1 (fn := Tryz.f75) (R := R) (.inl rfl) rfl rfl ?_
  refine hR _ _ ?_
  exact ⟨by rw [decide_eq_false (fun e => hc (by rw [e]))], Chg.refl _ _⟩
 ·intro hc
  try simp only [decide_eq_true_eq, decide_eq_false_iff_not, Bool.not_eq_true', Bool.not_eq_false', Bool.not_eq_eq_eq_not, Bool.not_true, Bool.not_false, Bool.or_eq_true, Bool.and_eq_true, Bool.or_eq_false_iff] at hc
  have hlen : l.length = m.length := by omega
  refine XC.skip ?_
  refine QN.next ?_
  refine XC.seq ?_
  refine XC.seq ?_
  refine XC.region ?_
  show XL _ _ _ _ (List.cons _ _) _ _
  refine XL.s rfl ?_
  refine Y.move (by rfl) ?_
  refine XL.s rfl ?_
  first | refine Y.lenV Tryz.underlying39 (by rfl) ?_ | refine Y.len Tryz.underlying39 (by rfl) (by first | assumption | exact Apd.row (by assumption) | exact New.row (by assumption)) ?_
  refine XL.s rfl ?_
  refine Y.move (by rfl) ?_
  refine XL.nil ?_
  refine QN.next ?_
  refine XC.block ?_
  refine XC.loop (α := Nat) (fun k => [(0, u), (1, u'), (12, .int .i64 (l.length : Nat)), (13, .int .i64 k)]) (fun k wr => k ≤ l.length ∧ Ext w wr ∧ l.take k = m.take k) (fun k => l.length - k) (0) ?_ ?_ ?_
  ·exact ⟨rfl, rfl, rfl, rfl, trivial⟩
  ·exact ⟨by omega, Chg.refl _ _, by simp⟩
  ·rintro k wr hI
   obtain ⟨hk, hE, he⟩ := hI
   replace hr := hr.ext hE
   replace hr' := hr'.ext hE
   refine XC.seq ?_
   refine XC.region ?_
   show XL _ _ _ _ (List.cons _ _) _ _
   refine XL.s rfl ?_
   refine Y.lss (by rfl) (by rfl) ?_
   refine XL.nil ?_
   refine QN.next ?_
   refine XC.seq ?_
   refine XC.condS rfl ?_ ?_
   ·intro hd
    try simp only [decide_eq_true_eq, decide_eq_false_iff_not, Bool.not_eq_true', Bool.not_eq_false', Bool.not_eq_eq_eq_not, Bool.not_true, Bool.not_false, Bool.or_eq_true, Bool.and_eq_true, Bool.or_eq_false_iff] at hd
    have hk' : k < l.length := by omega
    have hk2 : k < m.length := by omega
    refine XC.skip ?_
    refine QN.next ?_
    refine XC.seq ?_
    refine XC.block ?_
    refine XC.seq ?_
    refine XC.region ?_
    show XL _ _ _ _ (List.cons _ _) _ _
    refine XL.s rfl ?_
    refine Y.move (by rfl) ?_
    refine XL.s rfl ?_
    refine Y.assign (by rfl) ?_
    refine XL.nil ?_
    refine QN.next ?_
    refine XC.seq ?_
    apply XC.drop [6, 7, 8, 9, 10, 11, 14, 15, 16, 17, 18, 19, 20, 21, 22, 23, 24, 25]
    ·repeat (first | apply DropTo.nil | apply DropTo.skip rfl | apply DropTo.keep rfl)
    refine XC.drawL 8 [[], [], [0, 1], [0, 1, 2], [], [], [4, 5], [4, 5, 6], [0, 1, 2, 3, 4, 5, 6, 7]] _ (Chg NoB) (Steady.chg NoB) [] [(2, (fun v w' => ∃ b o, v = .pointer (some ⟨b, o, none⟩) ∧ w'.cell? ⟨b, o, none⟩ = some (byteV l[k]))), (3, (fun v _ => v = byteV l[k])), (6, (fun v w' => ∃ b o, v = .pointer (some ⟨b, o, none⟩) ∧ w'.cell? ⟨b, o, none⟩ = some (byteV m[k]))), (7, (fun v _ => v = byteV m[k]))] [0, 1, 2, 3, 4, 5, 6, 7] fol (by kernel_rfl) (by rfl) (by rfl) ⟨(fun v w1 w2 hE ⟨b, o, hv, hc⟩ => ⟨b, o, hv, hE.cell hc⟩), (fun _ _ _ _ h => h), (fun v w1 w2 hE ⟨b, o, hv, hc⟩ => ⟨b, o, hv, hE.cell hc⟩), (fun _ _ _ _ h => h), trivial⟩ ⟨?_, ?_, ?_, ?_, ?_, ?_, ?_, ?_, trivial⟩ ?_
    ·intro aD6 wD6 haD6 hCD6 hrD6
     refine ⟨rfl, ?_⟩
     refine XD.start haD6 ?_
     apply XD.stepP rfl
     intro w3
     refine Y.move (by rfl) ?_
     exact ⟨rfl, rfl⟩
    ·intro aD6 wD6 haD6 hCD6 hrD6
     refine ⟨rfl, ?_⟩
     refine XD.start haD6 ?_
     apply XD.stepP rfl
     intro w3
     refine Y.move (by rfl) ?_
     exact ⟨rfl, rfl⟩
    ·intro aD6 wD6 haD6 hCD6 hrD6
     obtain ⟨r0, r1, -⟩ := hrD6
     replace hr := hr.ext hCD6
     replace hr' := hr'.ext hCD6
     replace hE := hE.ext hCD6
     replace hE := hE
     refine ⟨rfl, ?_⟩
     refine XD.start haD6 ?_
     refine XD.pure r0 ?_
     refine Y.move (by rfl) ?_
     refine XD.pure r1 ?_
     refine Y.move (by rfl) ?_
     refine XD.stepI ?_
     refine Y.indexR st39 (by rfl) (by rfl) hr ⟨by omega, by omega⟩ (by rw [Int.toNat_natCast]; exact bytesV_get _ _ hk') ?_
     intro b18 o18 hs18 hc18
     exact ⟨Chg.refl _ _, _, _, rfl, hc18⟩
    ·intro aD6 wD6 haD6 hCD6 hrD6
     obtain ⟨r0, r1, r2, -⟩ := hrD6
     replace hr := hr.ext hCD6
     replace hr' := hr'.ext hCD6
     replace hE := hE.ext hCD6
     replace hE := hE
     refine ⟨rfl, ?_⟩
     refine XD.start haD6 ?_
     refine XD.pure r0 ?_
     refine Y.move (by rfl) ?_
     refine XD.pure r1 ?_
     refine Y.move (by rfl) ?_
     refine XD.imp r2 ?_
     rintro _ ⟨b18, o18, rfl, hc18⟩
     refine XD.stepI ?_
     refine Y.load one5 (by rfl) (by assumption) ?_
     exact ⟨Chg.refl _ _, rfl⟩
    ·intro aD6 wD6 haD6 hCD6 hrD6
     refine ⟨rfl, ?_⟩
     refine XD.start haD6 ?_
     apply XD.stepP rfl
     intro w3
     refine Y.move (by rfl) ?_
     exact ⟨rfl, rfl⟩
    ·intro aD6 wD6 haD6 hCD6 hrD6
     refine ⟨rfl, ?_⟩
     refine XD.start haD6 ?_
     apply XD.stepP rfl
     intro w3
     refine Y.move (by rfl) ?_
     exact ⟨rfl, rfl⟩
    ·intro aD6 wD6 haD6 hCD6 hrD6
     obtain ⟨r4, r5, -⟩ := hrD6
     replace hr := hr.ext hCD6
     replace hr' := hr'.ext hCD6
     replace hE := hE.ext hCD6
     replace hE := hE
     refine ⟨rfl, ?_⟩
     refine XD.start haD6 ?_
     refine XD.pure r4 ?_
     refine Y.move (by rfl) ?_
     refine XD.pure r5 ?_
     refine Y.move (by rfl) ?_
     refine XD.stepI ?_
     refine Y.indexR st39 (by rfl) (by rfl) hr' ⟨by omega, by omega⟩ (by rw [Int.toNat_natCast]; exact bytesV_get _ _ hk2) ?_
     intro b22 o22 hs22 hc22
     exact ⟨Chg.refl _ _, _, _, rfl, hc22⟩
    ·intro aD6 wD6 haD6 hCD6 hrD6
     obtain ⟨r4, r5, r6, -⟩ := hrD6
     replace hr := hr.ext hCD6
     replace hr' := hr'.ext hCD6
     replace hE := hE.ext hCD6
     replace hE := hE
     refine ⟨rfl, ?_⟩
     refine XD.start haD6 ?_
     refine XD.pure r4 ?_
     refine Y.move (by rfl) ?_
     refine XD.pure r5 ?_
     refine Y.move (by rfl) ?_
     refine XD.imp r6 ?_
     rintro _ ⟨b22, o22, rfl, hc22⟩
     refine XD.stepI ?_
     refine Y.load one5 (by rfl) (by assumption) ?_
     exact ⟨Chg.refl _ _, rfl⟩
    intro aD6 wD6 haD6 hCD6 hrD6
    obtain ⟨r0, r1, r2, r3, r4, r5, r6, r7, -⟩ := hrD6
    replace hr := hr.ext hCD6
    replace hr' := hr'.ext hCD6
    replace hE := hE.ext hCD6
    replace hE := hE
    refine XD.start haD6 ?_
    refine XD.pure r0 ?_
    refine Y.move (by rfl) ?_
    refine XD.pure r1 ?_
    refine Y.move (by rfl) ?_
    refine XD.imp r2 ?_
    rintro _ ⟨b18, o18, rfl, hc18⟩
    refine XD.imp r3 ?_
    rintro _ rfl
    refine XD.pure r4 ?_
    refine Y.move (by rfl) ?_
    refine XD.pure r5 ?_
    refine Y.move (by rfl) ?_
    refine XD.imp r6 ?_
    rintro _ ⟨b22, o22, rfl, hc22⟩
    refine XD.imp r7 ?_
    rintro _ rfl
    refine XD.fin haD6 ?_
    show XL _ _ _ _ (List.cons _ _) _ _
    refine XL.s rfl ?_
    refine Y.neq (by rfl) (by rfl) ?_
    refine XL.nil ?_
    refine QN.next ?_
    refine XC.condS rfl ?_ ?_
    ·intro hx
     try simp only [decide_eq_true_eq, decide_eq_false_iff_not, Bool.not_eq_true', Bool.not_eq_false', Bool.not_eq_eq_eq_not, Bool.not_true, Bool.not_false, Bool.or_eq_true, Bool.and_eq_true, Bool.or_eq_false_iff] at hx
     refine XC.seq ?_
     refine XC.region ?_
     show XL _ _ _ _ (List.cons _ _) _ _
     refine XL.s rfl ?_
     refine Y.assign (by rfl) ?_
     refine XL.nil ?_
     refine QN.next ?_
     refine XC.ret ?_
     refine QN.done1 (fn := Tryz.f75) (R := R) (.inl rfl) rfl rfl ?_
     refine hR _ _ ?_
     exact ⟨by rw [decide_eq_false (fun e => hx (by subst e; rfl))], hE⟩
    ·intro hx
     try simp only [decide_eq_true_eq, decide_eq_false_iff_not, Bool.not_eq_true', Bool.not_eq_false', Bool.not_eq_eq_eq_not, Bool.not_true, Bool.not_false, Bool.or_eq_true, Bool.and_eq_true, Bool.or_eq_false_iff] at hx
     refine XC.skip ?_
     refine QN.blk ?_
     refine QN.next ?_
     refine XC.region ?_
     show XL _ _ _ _ (List.cons _ _) _ _
     refine XL.s rfl ?_
     refine Y.add (by rfl) (by rfl) (wrap64 (by omega) (by omega)) ?_
     refine XL.s rfl ?_
     refine Y.move (by rfl) ?_
     refine XL.nil ?_
     refine QN.again (k + 1) ?_ ?_ ?_
     ·exact ⟨rfl, rfl, rfl, rfl, trivial⟩
     ·refine ⟨by omega, hE, ?_⟩
      rw [take_succ_getD _ _ hk', take_succ_getD _ _ hk2, he, UInt8.toNat_inj.1 (by omega : l[k].toNat = m[k].toNat)]
     ·first | omega | (simp only []; omega) | (simp; omega)
   ·intro hd
    try simp only [decide_eq_true_eq, decide_eq_false_iff_not, Bool.not_eq_true', Bool.not_eq_false', Bool.not_eq_eq_eq_not, Bool.not_true, Bool.not_false, Bool.or_eq_true, Bool.and_eq_true, Bool.or_eq_false_iff] at hd
    obtain rfl : k = l.length := by omega
    refine XC.exit ?_
    refine QN.thenE ?_
    refine QN.thenE ?_
    refine QN.hit ?_
    refine QN.next ?_
    refine XC.seq ?_
    refine XC.region ?_
    show XL _ _ _ _ (List.cons _ _) _ _
    refine XL.s rfl ?_
    refine Y.assign (by rfl) ?_
    refine XL.nil ?_
    refine QN.next ?_
    refine XC.ret ?_
    refine QN.done1 (fn := Tryz.f75) (R := R) (.inl rfl) rfl rfl ?_
    refine hR _ _ ?_
    exact ⟨by rw [List.take_length, hlen, List.take_length] at he; rw [decide_eq_true he], hE⟩
end Go.Proofs.YtchammpamigonaaGreatX
end
section
set_option linter.unusedVariables false
set_option linter.unusedSimpArgs false
set_option maxRecDepth 10000
set_option maxHeartbeats 4000000
namespace Go.Proofs.YtchammpamigonaaGreatX
open Go Go.RowKit Go.Proofs
theorem fsum_ok (S : Nat → Prop) (u : Value) (l : List UInt8) (w : World) (hr : Bs S w u l) :
  Rets Tryz.prog 82 #[u] w fun v w' => NewB 5 w w' v (sumB l) := by
 refine Rets.enter (args := [u]) (n := 7) Tryz.func82 rfl rfl rfl ?_
 intro R hR
 show XC _ _ _ _ [(0, u)] _
 refine XC.seq ?_
 refine XC.region ?_
 show XL _ _ _ _ (List.cons _ _) _ _
 refine XL.s rfl ?_
 refine Y.assign (by rfl) ?_
 refine XL.nil ?_
 refine QN.next ?_
 refine XC.seq ?_
 refine XC.region ?_
 show XL _ _ _ _ (List.cons _ _) _ _
 refine XL.s rfl ?_
 refine Y.move (by rfl) ?_
 refine XL.s rfl ?_
 refine Y.call (by rfl) ok100 (sum_ok _ _ _ _ hr) ?_
 rintro v4 w4 ⟨rfl, rfl⟩
 have hlt := (crc l).isLt
 refine XL.s rfl ?_
 refine Y.convI Tryz.underlying131 Tryz.underlying3 (by rfl) (wrap64 (by omega) (by omega)) ?_
 refine XL.s rfl ?_
 refine Y.call (by rfl) ok52 (num_ok (crc l).toNat (by omega) _) ?_
 rintro v6 w6 hN6
 refine XL.s rfl ?_
 refine Y.assign (by rfl) ?_
 refine XL.nil ?_
 refine QN.next ?_
 refine XC.ret ?_
 refine QN.done1 (fn := Tryz.f82) (R := R) (.inl rfl) rfl rfl ?_
 refine hR _ _ ?_
 exact hN6
theorem fput_ok (S : Nat → Prop) (u : Value) (l : List UInt8) (w : World) (hr : Bs S w u l) (hl : l.length ≤ 65535) :
  Rets Tryz.prog 51 #[u] w fun v w' => NewB 5 w w' v (frameB l) := by
 refine Rets.enter (args := [u]) (n := 18) Tryz.func51 rfl rfl rfl ?_
 intro R hR
 show XC _ _ _ _ [(0, u)] _
 refine XC.seq ?_
 refine XC.region ?_
 show XL _ _ _ _ (List.cons _ _) _ _
 refine XL.s rfl ?_
 refine Y.assign (by rfl) ?_
 refine XL.nil ?_
 refine QN.next ?_
 refine XC.seq ?_
 refine XC.seq ?_
 refine XC.region ?_
 show XL _ _ _ _ (List.cons _ _) _ _
 refine XL.s rfl ?_
 refine Y.move (by rfl) ?_
 refine XL.s rfl ?_
 first | refine Y.lenV Tryz.underlying39 (by rfl) ?_ | refine Y.len Tryz.underlying39 (by rfl) (by first | assumption | exact Apd.row (by assumption) | exact New.row (by assumption)) ?_
 refine XL.s rfl ?_
 refine Y.gtr (by rfl) (by rfl) ?_
 refine XL.nil ?_
 refine QN.next ?_
 refine XC.condF rfl ya ?_
 refine XC.skip ?_
 refine QN.next ?_
 refine XC.seq ?_
 refine XC.region ?_
 show XL _ _ _ _ (List.cons _ _) _ _
 refine XL.s rfl ?_
 refine Y.move (by rfl) ?_
 refine XL.s rfl ?_
 first | refine Y.lenV Tryz.underlying39 (by rfl) ?_ | refine Y.len Tryz.underlying39 (by rfl) (by first | assumption | exact Apd.row (by assumption) | exact New.row (by assumption)) ?_
 refine XL.s rfl ?_
 refine Y.call (by rfl) ok52 (num_ok l.length (by omega) _) ?_
 rintro v9 w9 hN9
 replace hr := hr.ext hN9.1
 refine XL.s rfl ?_
 refine Y.assign (by rfl) ?_
 refine XL.nil ?_
 refine QN.next ?_
 refine XC.seq ?_
 refine XC.region ?_
 show XL _ _ _ _ (List.cons _ _) _ _
 refine XL.s rfl ?_
 refine Y.move (by rfl) ?_
 refine XL.s rfl ?_
 refine Y.move (by rfl) ?_
 refine XL.s rfl ?_
 refine Y.call (by rfl) ok82 (fsum_ok _ _ _ _ hN9.bs) ?_
 rintro v12 w12 hN12
 replace hr := hr.ext hN12.1
 replace hN9 := hN9.ext hN12.1
 refine XL.s rfl ?_
 refine Y.move (by rfl) ?_
 refine XL.s rfl ?_
 refine Y.call (by rfl) ok82 (fsum_ok _ _ _ _ hr) ?_
 rintro v14 w14 hN14
 replace hr := hr.ext hN14.1
 replace hN9 := hN9.ext hN14.1
 replace hN12 := hN12.ext hN14.1
 refine XL.s rfl ?_
 refine Y.move (by rfl) ?_
 refine XL.s rfl ?_
 refine Y.buildSlice st37 (by rfl) (by rfl) (by omega) (by simp [hN9.row.oneC, hN12.row.oneC, hN14.row.oneC, hr.oneC]) ?_
 intro v16 w16 hN16
 replace hr := hr.ext hN16.1
 replace hN9 := hN9.ext hN16.1
 replace hN12 := hN12.ext hN16.1
 replace hN14 := hN14.ext hN16.1
 have hRw : Rows AnyB w16 v16 [numB l.length, sumB (numB l.length), sumB l, l] := ⟨_, hN16.row.any, hN9.row.any, hN12.row.any, hN14.row.any, hr.any, trivial⟩
 refine XL.s rfl ?_
 refine Y.call (by rfl) ok81 (concat_ok _ _ _ _ hRw (by simp [numB_length, sumB_length]; omega)) ?_
 rintro v17 w17 hN17
 refine XL.s rfl ?_
 refine Y.assign (by rfl) ?_
 refine XL.nil ?_
 refine QN.next ?_
 refine XC.ret ?_
 refine QN.done1 (fn := Tryz.f51) (R := R) (.inl rfl) rfl rfl ?_
 refine hR _ _ ?_
 exact (hN17.older hN9.1).cast (by simp [frameB]) (by simp [frameB])
theorem fcut_short (S : Nat → Prop) (u : Value) (l : List UInt8) (w : World) (hr : Bs S w u l) (hn : l.length ≤ 140737488355328) (hl : l.length < 12) :
  Rets Tryz.prog 72 #[u] w fun v w' => v = .tuple #[.slice none 0 0, .slice none 0 0, .bool false] ∧ Ext w w' := by
 refine Rets.enter (args := [u]) (n := 53) Tryz.func72 rfl rfl rfl ?_
 intro R hR
 show XC _ _ _ _ [(0, u)] _
 refine XC.seq ?_
 refine XC.region ?_
 show XL _ _ _ _ (List.cons _ _) _ _
 refine XL.s rfl ?_
 refine Y.assign (by rfl) ?_
 refine XL.s rfl ?_
 refine Y.assign (by rfl) ?_
 refine XL.s rfl ?_
 refine Y.assign (by rfl) ?_
 refine XL.nil ?_
 refine QN.next ?_
 refine XC.seq ?_
 refine XC.seq ?_
 refine XC.region ?_
 show XL _ _ _ _ (List.cons _ _) _ _
 refine XL.s rfl ?_
 refine Y.move (by rfl) ?_
 refine XL.s rfl ?_
 first | refine Y.lenV Tryz.underlying39 (by rfl) ?_ | refine Y.len Tryz.underlying39 (by rfl) (by first | assumption | exact Apd.row (by assumption) | exact New.row (by assumption)) ?_
 refine XL.s rfl ?_
 refine Y.lss (by rfl) (by rfl) ?_
 refine XL.nil ?_
 refine QN.next ?_
 refine XC.condT rfl ya ?_
 refine XC.seq ?_
 refine XC.region ?_
 show XL _ _ _ _ (List.cons _ _) _ _
 refine XL.s rfl ?_
 refine Y.assign (by rfl) ?_
 refine XL.s rfl ?_
 refine Y.assign (by rfl) ?_
 refine XL.s rfl ?_
 refine Y.assign (by rfl) ?_
 refine XL.nil ?_
 refine QN.next ?_
 refine XC.ret ?_
 refine QN.doneN (fn := Tryz.f72) (R := R) (.inl rfl) rfl rfl ?_
 refine hR _ _ ?_
 exact ⟨rfl, Chg.refl _ _⟩
theorem fcut_long (S : Nat → Prop) (u : Value) (l : List UInt8) (w : World) (hr : Bs S w u l) (hn : l.length ≤ 140737488355328) (hl : 12 ≤ l.length) (h1 : 65535 < numOf (l.take 4)) :
  Rets Tryz.prog 72 #[u] w fun v w' => v = .tuple #[.slice none 0 0, .slice none 0 0, .bool false] ∧ Ext w w' := by
 refine Rets.enter (args := [u]) (n := 53) Tryz.func72 rfl rfl rfl ?_
 intro R hR
 show XC _ _ _ _ [(0, u)] _
 refine XC.seq ?_
 refine XC.region ?_
 show XL _ _ _ _ (List.cons _ _) _ _
 refine XL.s rfl ?_
 refine Y.assign (by rfl) ?_
 refine XL.s rfl ?_
 refine Y.assign (by rfl) ?_
 refine XL.s rfl ?_
 refine Y.assign (by rfl) ?_
 refine XL.nil ?_
 refine QN.next ?_
 refine XC.seq ?_
 refine XC.seq ?_
 refine XC.region ?_
 show XL _ _ _ _ (List.cons _ _) _ _
 refine XL.s rfl ?_
 refine Y.move (by rfl) ?_
 refine XL.s rfl ?_
 first | refine Y.lenV Tryz.underlying39 (by rfl) ?_ | refine Y.len Tryz.underlying39 (by rfl) (by first | assumption | exact Apd.row (by assumption) | exact New.row (by assumption)) ?_
 refine XL.s rfl ?_
 refine Y.lss (by rfl) (by rfl) ?_
 refine XL.nil ?_
 refine QN.next ?_
 refine XC.condF rfl ya ?_
 refine XC.skip ?_
 refine QN.next ?_
 refine XC.seq ?_
 refine XC.region ?_
 show XL _ _ _ _ (List.cons _ _) _ _
 refine XL.s rfl ?_
 refine Y.move (by rfl) ?_
 refine XL.s rfl ?_
 refine Y.call (by rfl) ok73 (cutNum_yes _ _ _ _ hr (by omega) hn) ?_
 rintro v14 w14 ⟨u6, rfl, hN14⟩
 replace hr := hr.ext hN14.1
 have hE := hN14.1
 refine XL.s rfl ?_
 refine Y.move (by rfl) ?_
 refine XL.s rfl ?_
 refine Y.extract (by rfl) (by rfl) ?_
 refine XL.s rfl ?_
 refine Y.extract (by rfl) (by rfl) ?_
 refine XL.s rfl ?_
 refine Y.extract (by rfl) (by rfl) ?_
 refine XL.s rfl ?_
 refine Y.assign (by rfl) ?_
 refine XL.s rfl ?_
 refine Y.assign (by rfl) ?_
 refine XL.s rfl ?_
 refine Y.assign (by rfl) ?_
 refine XL.nil ?_
 refine QN.next ?_
 refine XC.seq ?_
 refine XC.region ?_
 show XL _ _ _ _ (List.cons _ _) _ _
 refine XL.s rfl ?_
 refine Y.move (by rfl) ?_
 refine XL.s rfl ?_
 refine Y.sliceFromB st39 (by rfl) (by first | assumption | exact Apd.row (by assumption) | exact New.row (by assumption)) (by rfl) (by first | rfl | exact bnd_nat) (by omega) ?_
 intro v19 hr19
 try simp only [Int.toNat_natCast, Int.reduceToNat] at hr19
 refine XL.s rfl ?_
 refine Y.call (by rfl) ok37 (cloneB_ok _ _ _ _ _ hr19 (by simp [bytesV]) (by simp; omega)) ?_
 rintro v20 w20 hN20
 replace hr := hr.ext hN20.1
 replace hE := hE.trans hN20.1
 refine XL.s rfl ?_
 refine Y.assign (by rfl) ?_
 refine XL.nil ?_
 refine QN.next ?_
 refine XC.seq ?_
 refine XC.seq ?_
 apply XC.drop [6, 7, 9, 10, 11, 12, 13, 14, 15, 16, 17, 18, 19, 20, 21, 22, 23, 24, 25, 26, 27, 28, 29, 30, 31, 32, 33, 34, 35, 36, 37, 38, 39, 40, 41, 42, 43, 44, 45, 46, 47, 48, 49, 50, 51, 52]
 ·repeat (first | apply DropTo.nil | apply DropTo.skip rfl | apply DropTo.keep rfl)
 refine XC.drawL 22 [[], [0], [0, 1], [0, 1, 2], [0, 1, 2], [0, 1, 2, 4], [0, 1, 2, 3, 4, 5], [0, 1, 2, 3, 4, 5, 6], [0, 1, 2, 3, 4, 5, 6, 7], [0, 1, 2, 3, 4, 5, 6, 7, 8], [0, 1, 2, 3, 4, 5, 6, 7, 8, 9], [0, 1, 2, 3, 4, 5, 6, 7, 8], [0, 1, 2, 3, 4, 5, 6, 7, 8, 11], [0, 1, 2, 3, 4, 5, 6, 7, 8], [0, 1, 2, 3, 4, 5, 6, 7, 8, 13], [0, 1, 2, 3, 4, 5, 6, 7, 8, 13, 14], [0, 1, 2, 3, 4, 5, 6, 7, 8], [0, 1, 2, 3, 4, 5, 6, 7, 8], [0, 1, 2, 3, 4, 5, 6, 7, 8, 16, 17], [0, 1, 2, 3, 4, 5, 6, 7, 8, 13, 14, 15, 16, 17, 18], [0, 1, 2, 3, 4, 5, 6, 7, 8, 11, 12, 13, 14, 15, 16, 17, 18, 19], [0, 1, 2, 3, 4, 5, 6, 7, 8, 11, 12, 13, 14, 15, 16, 17, 18, 19, 20], [0, 1, 2, 3, 4, 5, 6, 7, 8, 9, 10, 11, 12, 13, 14, 15, 16, 17, 18, 19, 20, 21], [0, 1, 2, 3, 4, 5, 6, 7, 8, 9, 10, 11, 12, 13, 14, 15, 16, 17, 18, 19, 20, 21, 22], [0, 1, 2, 3, 4, 5, 6, 7, 8, 9, 10, 11, 12, 13, 14, 15, 16, 17, 18, 19, 20, 21, 22, 23]] _ (Chg NoB) (Steady.chg NoB) [3, 4, 5, 6, 9, 10, 11, 12, 13, 14, 15, 16, 17, 18, 19, 20, 21] [] [0, 1, 2, 3, 4, 5, 6, 7, 8, 9, 10, 11, 12, 13, 14, 15, 16, 17, 18, 19, 20, 21] fol (by kernel_rfl) (by rfl) (by rfl) trivial ⟨?_, ?_, ?_, ?_, ?_, ?_, ?_, ?_, ?_, ?_, ?_, ?_, ?_, ?_, ?_, ?_, ?_, ?_, ?_, ?_, ?_, ?_, trivial⟩ ?_
 ·intro aD5 wD5 haD5 hCD5 hrD5
  refine ⟨rfl, ?_⟩
  refine XD.start haD5 ?_
  apply XD.stepP rfl
  intro w3
  refine Y.move (by rfl) ?_
  exact ⟨rfl, rfl⟩
 ·intro aD5 wD5 haD5 hCD5 hrD5
  obtain ⟨r0, -⟩ := hrD5
  refine ⟨rfl, ?_⟩
  refine XD.start haD5 ?_
  refine XD.pure r0 ?_
  refine Y.move (by rfl) ?_
  apply XD.stepP rfl
  intro w3
  refine Y.gtr (by rfl) (by rfl) ?_
  exact ⟨rfl, rfl⟩
 ·intro aD5 wD5 haD5 hCD5 hrD5
  obtain ⟨r0, r1, -⟩ := hrD5
  refine ⟨rfl, ?_⟩
  refine XD.start haD5 ?_
  refine XD.pure r0 ?_
  refine Y.move (by rfl) ?_
  refine XD.pure r1 ?_
  refine Y.gtr (by rfl) (by rfl) ?_
  apply XD.stepP rfl
  intro w3
  refine Y.move (by rfl) ?_
  exact ⟨rfl, rfl⟩
 ·intro aD5 wD5 haD5 hCD5 hrD5
  obtain ⟨r0, r1, r2, -⟩ := hrD5
  refine XD.start haD5 ?_
  refine XD.pure r0 ?_
  refine Y.move (by rfl) ?_
  refine XD.pure r1 ?_
  refine Y.gtr (by rfl) (by rfl) ?_
  refine XD.pure r2 ?_
  refine Y.move (by rfl) ?_
  exact XD.wantF rfl rfl (by rfl) ya
 ·intro aD5 wD5 haD5 hCD5 hrD5
  obtain ⟨r0, r1, r2, -⟩ := hrD5
  refine XD.start haD5 ?_
  refine XD.pure r0 ?_
  refine Y.move (by rfl) ?_
  refine XD.pure r1 ?_
  refine Y.gtr (by rfl) (by rfl) ?_
  refine XD.pure r2 ?_
  refine Y.move (by rfl) ?_
  exact XD.wantF rfl rfl (by rfl) ya
 ·intro aD5 wD5 haD5 hCD5 hrD5
  obtain ⟨r0, r1, r2, r4, -⟩ := hrD5
  refine XD.start haD5 ?_
  refine XD.pure r0 ?_
  refine Y.move (by rfl) ?_
  refine XD.pure r1 ?_
  refine Y.gtr (by rfl) (by rfl) ?_
  refine XD.pure r2 ?_
  refine Y.move (by rfl) ?_
  refine XD.skip r4 ?_
  exact XD.wantF rfl rfl (by rfl) ya
 ·intro aD5 wD5 haD5 hCD5 hrD5
  obtain ⟨r0, r1, r2, r3, r4, r5, -⟩ := hrD5
  refine XD.start haD5 ?_
  refine XD.pure r0 ?_
  refine Y.move (by rfl) ?_
  refine XD.pure r1 ?_
  refine Y.gtr (by rfl) (by rfl) ?_
  refine XD.pure r2 ?_
  refine Y.move (by rfl) ?_
  refine XD.skip r3 ?_
  refine XD.skip r4 ?_
  refine XD.skip r5 ?_
  exact XD.wantF rfl rfl (by rfl) ya
 ·intro aD5 wD5 haD5 hCD5 hrD5
  obtain ⟨r0, r1, r2, r3, r4, r5, r6, -⟩ := hrD5
  refine ⟨rfl, ?_⟩
  refine XD.start haD5 ?_
  refine XD.pure r0 ?_
  refine Y.move (by rfl) ?_
  refine XD.pure r1 ?_
  refine Y.gtr (by rfl) (by rfl) ?_
  refine XD.pure r2 ?_
  refine Y.move (by rfl) ?_
  refine XD.skip r3 ?_
  refine XD.skip r4 ?_
  refine XD.skip r5 ?_
  refine XD.skip r6 ?_
  apply XD.stepP rfl
  intro w3
  refine Y.pickT (by rfl) ya (by rfl) ?_
  exact ⟨rfl, rfl⟩
 ·intro aD5 wD5 haD5 hCD5 hrD5
  obtain ⟨r0, r1, r2, r3, r4, r5, r6, r7, -⟩ := hrD5
  refine ⟨rfl, ?_⟩
  refine XD.start haD5 ?_
  refine XD.pure r0 ?_
  refine Y.move (by rfl) ?_
  refine XD.pure r1 ?_
  refine Y.gtr (by rfl) (by rfl) ?_
  refine XD.pure r2 ?_
  refine Y.move (by rfl) ?_
  refine XD.skip r3 ?_
  refine XD.skip r4 ?_
  refine XD.skip r5 ?_
  refine XD.skip r6 ?_
  refine XD.pure r7 ?_
  refine Y.pickT (by rfl) ya (by rfl) ?_
  apply XD.stepP rfl
  intro w3
  refine Y.move (by rfl) ?_
  exact ⟨rfl, rfl⟩
 ·intro aD5 wD5 haD5 hCD5 hrD5
  obtain ⟨r0, r1, r2, r3, r4, r5, r6, r7, r8, -⟩ := hrD5
  refine XD.start haD5 ?_
  refine XD.pure r0 ?_
  refine Y.move (by rfl) ?_
  refine XD.pure r1 ?_
  refine Y.gtr (by rfl) (by rfl) ?_
  refine XD.pure r2 ?_
  refine Y.move (by rfl) ?_
  refine XD.skip r3 ?_
  refine XD.skip r4 ?_
  refine XD.skip r5 ?_
  refine XD.skip r6 ?_
  refine XD.pure r7 ?_
  refine Y.pickT (by rfl) ya (by rfl) ?_
  refine XD.pure r8 ?_
  refine Y.move (by rfl) ?_
  exact XD.wantF rfl rfl (by rfl) ya
 ·intro aD5 wD5 haD5 hCD5 hrD5
  obtain ⟨r0, r1, r2, r3, r4, r5, r6, r7, r8, r9, -⟩ := hrD5
  refine XD.start haD5 ?_
  refine XD.pure r0 ?_
  refine Y.move (by rfl) ?_
  refine XD.pure r1 ?_
  refine Y.gtr (by rfl) (by rfl) ?_
  refine XD.pure r2 ?_
  refine Y.move (by rfl) ?_
  refine XD.skip r3 ?_
  refine XD.skip r4 ?_
  refine XD.skip r5 ?_
  refine XD.skip r6 ?_
  refine XD.pure r7 ?_
  refine Y.pickT (by rfl) ya (by rfl) ?_
  refine XD.pure r8 ?_
  refine Y.move (by rfl) ?_
  refine XD.skip r9 ?_
  exact XD.wantF rfl rfl (by rfl) ya
 ·intro aD5 wD5 haD5 hCD5 hrD5
  obtain ⟨r0, r1, r2, r3, r4, r5, r6, r7, r8, -⟩ := hrD5
  refine XD.start haD5 ?_
  refine XD.pure r0 ?_
  refine Y.move (by rfl) ?_
  refine XD.pure r1 ?_
  refine Y.gtr (by rfl) (by rfl) ?_
  refine XD.pure r2 ?_
  refine Y.move (by rfl) ?_
  refine XD.skip r3 ?_
  refine XD.skip r4 ?_
  refine XD.skip r5 ?_
  refine XD.skip r6 ?_
  refine XD.pure r7 ?_
  refine Y.pickT (by rfl) ya (by rfl) ?_
  refine XD.pure r8 ?_
  refine Y.move (by rfl) ?_
  exact XD.wantF rfl rfl (by rfl) ya
 ·intro aD5 wD5 haD5 hCD5 hrD5
  obtain ⟨r0, r1, r2, r3, r4, r5, r6, r7, r8, r11, -⟩ := hrD5
  refine XD.start haD5 ?_
  refine XD.pure r0 ?_
  refine Y.move (by rfl) ?_
  refine XD.pure r1 ?_
  refine Y.gtr (by rfl) (by rfl) ?_
  refine XD.pure r2 ?_
  refine Y.move (by rfl) ?_
  refine XD.skip r3 ?_
  refine XD.skip r4 ?_
  refine XD.skip r5 ?_
  refine XD.skip r6 ?_
  refine XD.pure r7 ?_
  refine Y.pickT (by rfl) ya (by rfl) ?_
  refine XD.pure r8 ?_
  refine Y.move (by rfl) ?_
  refine XD.skip r11 ?_
  exact XD.wantF rfl rfl (by rfl) ya
 ·intro aD5 wD5 haD5 hCD5 hrD5
  obtain ⟨r0, r1, r2, r3, r4, r5, r6, r7, r8, -⟩ := hrD5
  refine XD.start haD5 ?_
  refine XD.pure r0 ?_
  refine Y.move (by rfl) ?_
  refine XD.pure r1 ?_
  refine Y.gtr (by rfl) (by rfl) ?_
  refine XD.pure r2 ?_
  refine Y.move (by rfl) ?_
  refine XD.skip r3 ?_
  refine XD.skip r4 ?_
  refine XD.skip r5 ?_
  refine XD.skip r6 ?_
  refine XD.pure r7 ?_
  refine Y.pickT (by rfl) ya (by rfl) ?_
  refine XD.pure r8 ?_
  refine Y.move (by rfl) ?_
  exact XD.wantF rfl rfl (by rfl) ya
 ·intro aD5 wD5 haD5 hCD5 hrD5
  obtain ⟨r0, r1, r2, r3, r4, r5, r6, r7, r8, r13, -⟩ := hrD5
  refine XD.start haD5 ?_
  refine XD.pure r0 ?_
  refine Y.move (by rfl) ?_
  refine XD.pure r1 ?_
  refine Y.gtr (by rfl) (by rfl) ?_
  refine XD.pure r2 ?_
  refine Y.move (by rfl) ?_
  refine XD.skip r3 ?_
  refine XD.skip r4 ?_
  refine XD.skip r5 ?_
  refine XD.skip r6 ?_
  refine XD.pure r7 ?_
  refine Y.pickT (by rfl) ya (by rfl) ?_
  refine XD.pure r8 ?_
  refine Y.move (by rfl) ?_
  refine XD.skip r13 ?_
  exact XD.wantF rfl rfl (by rfl) ya
 ·intro aD5 wD5 haD5 hCD5 hrD5
  obtain ⟨r0, r1, r2, r3, r4, r5, r6, r7, r8, r13, r14, -⟩ := hrD5
  refine XD.start haD5 ?_
  refine XD.pure r0 ?_
  refine Y.move (by rfl) ?_
  refine XD.pure r1 ?_
  refine Y.gtr (by rfl) (by rfl) ?_
  refine XD.pure r2 ?_
  refine Y.move (by rfl) ?_
  refine XD.skip r3 ?_
  refine XD.skip r4 ?_
  refine XD.skip r5 ?_
  refine XD.skip r6 ?_
  refine XD.pure r7 ?_
  refine Y.pickT (by rfl) ya (by rfl) ?_
  refine XD.pure r8 ?_
  refine Y.move (by rfl) ?_
  refine XD.skip r13 ?_
  refine XD.skip r14 ?_
  exact XD.wantF rfl rfl (by rfl) ya
 ·intro aD5 wD5 haD5 hCD5 hrD5
  obtain ⟨r0, r1, r2, r3, r4, r5, r6, r7, r8, -⟩ := hrD5
  refine XD.start haD5 ?_
  refine XD.pure r0 ?_
  refine Y.move (by rfl) ?_
  refine XD.pure r1 ?_
  refine Y.gtr (by rfl) (by rfl) ?_
  refine XD.pure r2 ?_
  refine Y.move (by rfl) ?_
  refine XD.skip r3 ?_
  refine XD.skip r4 ?_
  refine XD.skip r5 ?_
  refine XD.skip r6 ?_
  refine XD.pure r7 ?_
  refine Y.pickT (by rfl) ya (by rfl) ?_
  refine XD.pure r8 ?_
  refine Y.move (by rfl) ?_
  exact XD.wantF rfl rfl (by rfl) ya
 ·intro aD5 wD5 haD5 hCD5 hrD5
  obtain ⟨r0, r1, r2, r3, r4, r5, r6, r7, r8, -⟩ := hrD5
  refine XD.start haD5 ?_
  refine XD.pure r0 ?_
  refine Y.move (by rfl) ?_
  refine XD.pure r1 ?_
  refine Y.gtr (by rfl) (by rfl) ?_
  refine XD.pure r2 ?_
  refine Y.move (by rfl) ?_
  refine XD.skip r3 ?_
  refine XD.skip r4 ?_
  refine XD.skip r5 ?_
  refine XD.skip r6 ?_
  refine XD.pure r7 ?_
  refine Y.pickT (by rfl) ya (by rfl) ?_
  refine XD.pure r8 ?_
  refine Y.move (by rfl) ?_
  exact XD.wantF rfl rfl (by rfl) ya
 ·intro aD5 wD5 haD5 hCD5 hrD5
  obtain ⟨r0, r1, r2, r3, r4, r5, r6, r7, r8, r16, r17, -⟩ := hrD5
  refine XD.start haD5 ?_
  refine XD.pure r0 ?_
  refine Y.move (by rfl) ?_
  refine XD.pure r1 ?_
  refine Y.gtr (by rfl) (by rfl) ?_
  refine XD.pure r2 ?_
  refine Y.move (by rfl) ?_
  refine XD.skip r3 ?_
  refine XD.skip r4 ?_
  refine XD.skip r5 ?_
  refine XD.skip r6 ?_
  refine XD.pure r7 ?_
  refine Y.pickT (by rfl) ya (by rfl) ?_
  refine XD.pure r8 ?_
  refine Y.move (by rfl) ?_
  refine XD.skip r16 ?_
  refine XD.skip r17 ?_
  exact XD.wantF rfl rfl (by rfl) ya
 ·intro aD5 wD5 haD5 hCD5 hrD5
  obtain ⟨r0, r1, r2, r3, r4, r5, r6, r7, r8, r13, r14, r15, r16, r17, r18, -⟩ := hrD5
  refine XD.start haD5 ?_
  refine XD.pure r0 ?_
  refine Y.move (by rfl) ?_
  refine XD.pure r1 ?_
  refine Y.gtr (by rfl) (by rfl) ?_
  refine XD.pure r2 ?_
  refine Y.move (by rfl) ?_
  refine XD.skip r3 ?_
  refine XD.skip r4 ?_
  refine XD.skip r5 ?_
  refine XD.skip r6 ?_
  refine XD.pure r7 ?_
  refine Y.pickT (by rfl) ya (by rfl) ?_
  refine XD.pure r8 ?_
  refine Y.move (by rfl) ?_
  refine XD.skip r13 ?_
  refine XD.skip r14 ?_
  refine XD.skip r15 ?_
  refine XD.skip r16 ?_
  refine XD.skip r17 ?_
  refine XD.skip r18 ?_
  exact XD.wantF rfl rfl (by rfl) ya
 ·intro aD5 wD5 haD5 hCD5 hrD5
  obtain ⟨r0, r1, r2, r3, r4, r5, r6, r7, r8, r11, r12, r13, r14, r15, r16, r17, r18, r19, -⟩ := hrD5
  refine XD.start haD5 ?_
  refine XD.pure r0 ?_
  refine Y.move (by rfl) ?_
  refine XD.pure r1 ?_
  refine Y.gtr (by rfl) (by rfl) ?_
  refine XD.pure r2 ?_
  refine Y.move (by rfl) ?_
  refine XD.skip r3 ?_
  refine XD.skip r4 ?_
  refine XD.skip r5 ?_
  refine XD.skip r6 ?_
  refine XD.pure r7 ?_
  refine Y.pickT (by rfl) ya (by rfl) ?_
  refine XD.pure r8 ?_
  refine Y.move (by rfl) ?_
  refine XD.skip r11 ?_
  refine XD.skip r12 ?_
  refine XD.skip r13 ?_
  refine XD.skip r14 ?_
  refine XD.skip r15 ?_
  refine XD.skip r16 ?_
  refine XD.skip r17 ?_
  refine XD.skip r18 ?_
  refine XD.skip r19 ?_
  exact XD.wantF rfl rfl (by rfl) ya
 ·intro aD5 wD5 haD5 hCD5 hrD5
  obtain ⟨r0, r1, r2, r3, r4, r5, r6, r7, r8, r11, r12, r13, r14, r15, r16, r17, r18, r19, r20, -⟩ := hrD5
  refine XD.start haD5 ?_
  refine XD.pure r0 ?_
  refine Y.move (by rfl) ?_
  refine XD.pure r1 ?_
  refine Y.gtr (by rfl) (by rfl) ?_
  refine XD.pure r2 ?_
  refine Y.move (by rfl) ?_
  refine XD.skip r3 ?_
  refine XD.skip r4 ?_
  refine XD.skip r5 ?_
  refine XD.skip r6 ?_
  refine XD.pure r7 ?_
  refine Y.pickT (by rfl) ya (by rfl) ?_
  refine XD.pure r8 ?_
  refine Y.move (by rfl) ?_
  refine XD.skip r11 ?_
  refine XD.skip r12 ?_
  refine XD.skip r13 ?_
  refine XD.skip r14 ?_
  refine XD.skip r15 ?_
  refine XD.skip r16 ?_
  refine XD.skip r17 ?_
  refine XD.skip r18 ?_
  refine XD.skip r19 ?_
  refine XD.skip r20 ?_
  exact XD.wantF rfl rfl (by rfl) ya
 intro aD5 wD5 haD5 hCD5 hrD5
 obtain ⟨r0, r1, r2, r3, r4, r5, r6, r7, r8, r9, r10, r11, r12, r13, r14, r15, r16, r17, r18, r19, r20, r21, -⟩ := hrD5
 replace hr := hr.ext hCD5
 replace hN20 := hN20.ext hCD5
 replace hE := hE.ext hCD5
 refine XD.start haD5 ?_
 refine XD.pure r0 ?_
 refine Y.move (by rfl) ?_
 refine XD.pure r1 ?_
 refine Y.gtr (by rfl) (by rfl) ?_
 refine XD.pure r2 ?_
 refine Y.move (by rfl) ?_
 refine XD.skip r3 ?_
 refine XD.skip r4 ?_
 refine XD.skip r5 ?_
 refine XD.skip r6 ?_
 refine XD.pure r7 ?_
 refine Y.pickT (by rfl) ya (by rfl) ?_
 refine XD.pure r8 ?_
 refine Y.move (by rfl) ?_
 refine XD.skip r9 ?_
 refine XD.skip r10 ?_
 refine XD.skip r11 ?_
 refine XD.skip r12 ?_
 refine XD.skip r13 ?_
 refine XD.skip r14 ?_
 refine XD.skip r15 ?_
 refine XD.skip r16 ?_
 refine XD.skip r17 ?_
 refine XD.skip r18 ?_
 refine XD.skip r19 ?_
 refine XD.skip r20 ?_
 refine XD.skip r21 ?_
 refine XD.fin haD5 ?_
 show XL _ _ _ _ (List.cons _ _) _ _
 refine XL.gf rfl rfl ya rfl ?_
 refine XL.gf rfl rfl ya rfl ?_
 refine XL.s rfl ?_
 refine Y.pickT (by rfl) ya (by rfl) ?_
 refine XL.nil ?_
 refine QN.next ?_
 refine XC.condT rfl rfl ?_
 refine XC.seq ?_
 refine XC.region ?_
 show XL _ _ _ _ (List.cons _ _) _ _
 refine XL.s rfl ?_
 refine Y.assign (by rfl) ?_
 refine XL.s rfl ?_
 refine Y.assign (by rfl) ?_
 refine XL.s rfl ?_
 refine Y.assign (by rfl) ?_
 refine XL.nil ?_
 refine QN.next ?_
 refine XC.ret ?_
 refine QN.doneN (fn := Tryz.f72) (R := R) (.inl rfl) rfl rfl ?_
 refine hR _ _ ?_
 exact ⟨rfl, hE⟩
theorem fcut_less (S : Nat → Prop) (u : Value) (l : List UInt8) (w : World) (hr : Bs S w u l) (hn : l.length ≤ 140737488355328) (hl : 12 ≤ l.length) (h1 : numOf (l.take 4) ≤ 65535) (h2 : (l.drop 12).length < numOf (l.take 4)) :
  Rets Tryz.prog 72 #[u] w fun v w' => v = .tuple #[.slice none 0 0, .slice none 0 0, .bool false] ∧ Ext w w' := by
 refine Rets.enter (args := [u]) (n := 53) Tryz.func72 rfl rfl rfl ?_
 intro R hR
 show XC _ _ _ _ [(0, u)] _
 refine XC.seq ?_
 refine XC.region ?_
 show XL _ _ _ _ (List.cons _ _) _ _
 refine XL.s rfl ?_
 refine Y.assign (by rfl) ?_
 refine XL.s rfl ?_
 refine Y.assign (by rfl) ?_
 refine XL.s rfl ?_
 refine Y.assign (by rfl) ?_
 refine XL.nil ?_
 refine QN.next ?_
 refine XC.seq ?_
 refine XC.seq ?_
 refine XC.region ?_
 show XL _ _ _ _ (List.cons _ _) _ _
 refine XL.s rfl ?_
 refine Y.move (by rfl) ?_
 refine XL.s rfl ?_
 first | refine Y.lenV Tryz.underlying39 (by rfl) ?_ | refine Y.len Tryz.underlying39 (by rfl) (by first | assumption | exact Apd.row (by assumption) | exact New.row (by assumption)) ?_
 refine XL.s rfl ?_
 refine Y.lss (by rfl) (by rfl) ?_
 refine XL.nil ?_
 refine QN.next ?_
 refine XC.condF rfl ya ?_
 refine XC.skip ?_
 refine QN.next ?_
 refine XC.seq ?_
 refine XC.region ?_
 show XL _ _ _ _ (List.cons _ _) _ _
 refine XL.s rfl ?_
 refine Y.move (by rfl) ?_
 refine XL.s rfl ?_
 refine Y.call (by rfl) ok73 (cutNum_yes _ _ _ _ hr (by omega) hn) ?_
 rintro v14 w14 ⟨u6, rfl, hN14⟩
 replace hr := hr.ext hN14.1
 have hE := hN14.1
 refine XL.s rfl ?_
 refine Y.move (by rfl) ?_
 refine XL.s rfl ?_
 refine Y.extract (by rfl) (by rfl) ?_
 refine XL.s rfl ?_
 refine Y.extract (by rfl) (by rfl) ?_
 refine XL.s rfl ?_
 refine Y.extract (by rfl) (by rfl) ?_
 refine XL.s rfl ?_
 refine Y.assign (by rfl) ?_
 refine XL.s rfl ?_
 refine Y.assign (by rfl) ?_
 refine XL.s rfl ?_
 refine Y.assign (by rfl) ?_
 refine XL.nil ?_
 refine QN.next ?_
 refine XC.seq ?_
 refine XC.region ?_
 show XL _ _ _ _ (List.cons _ _) _ _
 refine XL.s rfl ?_
 refine Y.move (by rfl) ?_
 refine XL.s rfl ?_
 refine Y.sliceFromB st39 (by rfl) (by first | assumption | exact Apd.row (by assumption) | exact New.row (by assumption)) (by rfl) (by first | rfl | exact bnd_nat) (by omega) ?_
 intro v19 hr19
 try simp only [Int.toNat_natCast, Int.reduceToNat] at hr19
 refine XL.s rfl ?_
 refine Y.call (by rfl) ok37 (cloneB_ok _ _ _ _ _ hr19 (by simp [bytesV]) (by simp; omega)) ?_
 rintro v20 w20 hN20
 replace hr := hr.ext hN20.1
 replace hE := hE.trans hN20.1
 refine XL.s rfl ?_
 refine Y.assign (by rfl) ?_
 refine XL.nil ?_
 refine QN.next ?_
 refine XC.seq ?_
 refine XC.seq ?_
 apply XC.drop [6, 7, 9, 10, 11, 12, 13, 14, 15, 16, 17, 18, 19, 20, 21, 22, 23, 24, 25, 26, 27, 28, 29, 30, 31, 32, 33, 34, 35, 36, 37, 38, 39, 40, 41, 42, 43, 44, 45, 46, 47, 48, 49, 50, 51, 52]
 ·repeat (first | apply DropTo.nil | apply DropTo.skip rfl | apply DropTo.keep rfl)
 refine XC.drawL 22 [[], [0], [0, 1], [0, 1, 2], [0, 1, 2], [0, 1, 2, 4], [0, 1, 2, 3, 4, 5], [0, 1, 2, 3, 4, 5, 6], [0, 1, 2, 3, 4, 5, 6, 7], [0, 1, 2, 3, 4, 5, 6, 7, 8], [0, 1, 2, 3, 4, 5, 6, 7, 8, 9], [0, 1, 2, 3, 4, 5, 6, 7, 8], [0, 1, 2, 3, 4, 5, 6, 7, 8, 11], [0, 1, 2, 3, 4, 5, 6, 7, 8], [0, 1, 2, 3, 4, 5, 6, 7, 8, 13], [0, 1, 2, 3, 4, 5, 6, 7, 8, 13, 14], [0, 1, 2, 3, 4, 5, 6, 7, 8], [0, 1, 2, 3, 4, 5, 6, 7, 8], [0, 1, 2, 3, 4, 5, 6, 7, 8, 16, 17], [0, 1, 2, 3, 4, 5, 6, 7, 8, 13, 14, 15, 16, 17, 18], [0, 1, 2, 3, 4, 5, 6, 7, 8, 11, 12, 13, 14, 15, 16, 17, 18, 19], [0, 1, 2, 3, 4, 5, 6, 7, 8, 11, 12, 13, 14, 15, 16, 17, 18, 19, 20], [0, 1, 2, 3, 4, 5, 6, 7, 8, 9, 10, 11, 12, 13, 14, 15, 16, 17, 18, 19, 20, 21], [0, 1, 2, 3, 4, 5, 6, 7, 8, 9, 10, 11, 12, 13, 14, 15, 16, 17, 18, 19, 20, 21, 22], [0, 1, 2, 3, 4, 5, 6, 7, 8, 9, 10, 11, 12, 13, 14, 15, 16, 17, 18, 19, 20, 21, 22, 23]] _ (Chg NoB) (Steady.chg NoB) [9, 10, 11, 12, 13, 14, 15, 16, 17, 18, 19, 20, 21] [(5, (fun v _ => v = .int .i64 ((l.drop 12).length : Nat)))] [0, 1, 2, 3, 4, 5, 6, 7, 8, 9, 10, 11, 12, 13, 14, 15, 16, 17, 18, 19, 20, 21] fol (by kernel_rfl) (by rfl) (by rfl) ⟨(fun _ _ _ _ h => h), trivial⟩ ⟨?_, ?_, ?_, ?_, ?_, ?_, ?_, ?_, ?_, ?_, ?_, ?_, ?_, ?_, ?_, ?_, ?_, ?_, ?_, ?_, ?_, ?_, trivial⟩ ?_
 ·intro aD5 wD5 haD5 hCD5 hrD5
  refine ⟨rfl, ?_⟩
  refine XD.start haD5 ?_
  apply XD.stepP rfl
  intro w3
  refine Y.move (by rfl) ?_
  exact ⟨rfl, rfl⟩
 ·intro aD5 wD5 haD5 hCD5 hrD5
  obtain ⟨r0, -⟩ := hrD5
  refine ⟨rfl, ?_⟩
  refine XD.start haD5 ?_
  refine XD.pure r0 ?_
  refine Y.move (by rfl) ?_
  apply XD.stepP rfl
  intro w3
  refine Y.gtr (by rfl) (by rfl) ?_
  exact ⟨rfl, rfl⟩
 ·intro aD5 wD5 haD5 hCD5 hrD5
  obtain ⟨r0, r1, -⟩ := hrD5
  refine ⟨rfl, ?_⟩
  refine XD.start haD5 ?_
  refine XD.pure r0 ?_
  refine Y.move (by rfl) ?_
  refine XD.pure r1 ?_
  refine Y.gtr (by rfl) (by rfl) ?_
  apply XD.stepP rfl
  intro w3
  refine Y.move (by rfl) ?_
  exact ⟨rfl, rfl⟩
 ·intro aD5 wD5 haD5 hCD5 hrD5
  obtain ⟨r0, r1, r2, -⟩ := hrD5
  refine XD.start haD5 ?_
  refine XD.pure r0 ?_
  refine Y.move (by rfl) ?_
  refine XD.pure r1 ?_
  refine Y.gtr (by rfl) (by rfl) ?_
  refine XD.pure r2 ?_
  refine Y.move (by rfl) ?_
  refine XD.wantT rfl rfl (by rfl) ya ?_
  apply XD.stepP rfl
  intro w3
  refine Y.move (by rfl) ?_
  exact ⟨rfl, rfl⟩
 ·intro aD5 wD5 haD5 hCD5 hrD5
  obtain ⟨r0, r1, r2, -⟩ := hrD5
  refine XD.start haD5 ?_
  refine XD.pure r0 ?_
  refine Y.move (by rfl) ?_
  refine XD.pure r1 ?_
  refine Y.gtr (by rfl) (by rfl) ?_
  refine XD.pure r2 ?_
  refine Y.move (by rfl) ?_
  refine XD.wantT rfl rfl (by rfl) ya ?_
  apply XD.stepP rfl
  intro w3
  refine Y.move (by rfl) ?_
  exact ⟨rfl, rfl⟩
 ·intro aD5 wD5 haD5 hCD5 hrD5
  obtain ⟨r0, r1, r2, r4, -⟩ := hrD5
  replace hr := hr.ext hCD5
  replace hN20 := hN20.ext hCD5
  replace hE := hE.ext hCD5
  refine XD.start haD5 ?_
  refine XD.pure r0 ?_
  refine Y.move (by rfl) ?_
  refine XD.pure r1 ?_
  refine Y.gtr (by rfl) (by rfl) ?_
  refine XD.pure r2 ?_
  refine Y.move (by rfl) ?_
  refine XD.pure r4 ?_
  refine Y.move (by rfl) ?_
  refine XD.wantT rfl rfl (by rfl) ya ?_
  refine XD.stepI ?_
  refine Y.len Tryz.underlying39 (by rfl) hN20.row ?_
  exact ⟨Chg.refl _ _, rfl⟩
 ·intro aD5 wD5 haD5 hCD5 hrD5
  obtain ⟨r0, r1, r2, r3, r4, r5, -⟩ := hrD5
  replace hr := hr.ext hCD5
  replace hN20 := hN20.ext hCD5
  replace hE := hE.ext hCD5
  refine XD.start haD5 ?_
  refine XD.pure r0 ?_
  refine Y.move (by rfl) ?_
  refine XD.pure r1 ?_
  refine Y.gtr (by rfl) (by rfl) ?_
  refine XD.pure r2 ?_
  refine Y.move (by rfl) ?_
  refine XD.pure r3 ?_
  refine Y.move (by rfl) ?_
  refine XD.pure r4 ?_
  refine Y.move (by rfl) ?_
  refine XD.imp r5 ?_
  rintro _ rfl
  refine XD.wantT rfl rfl (by rfl) ya ?_
  apply XD.stepP rfl
  intro w3
  refine Y.gtr (by rfl) (by rfl) ?_
  exact ⟨rfl, rfl⟩
 ·intro aD5 wD5 haD5 hCD5 hrD5
  obtain ⟨r0, r1, r2, r3, r4, r5, r6, -⟩ := hrD5
  replace hr := hr.ext hCD5
  replace hN20 := hN20.ext hCD5
  replace hE := hE.ext hCD5
  refine ⟨rfl, ?_⟩
  refine XD.start haD5 ?_
  refine XD.pure r0 ?_
  refine Y.move (by rfl) ?_
  refine XD.pure r1 ?_
  refine Y.gtr (by rfl) (by rfl) ?_
  refine XD.pure r2 ?_
  refine Y.move (by rfl) ?_
  refine XD.pure r3 ?_
  refine Y.move (by rfl) ?_
  refine XD.pure r4 ?_
  refine Y.move (by rfl) ?_
  refine XD.imp r5 ?_
  rintro _ rfl
  refine XD.pure r6 ?_
  refine Y.gtr (by rfl) (by rfl) ?_
  apply XD.stepP rfl
  intro w3
  refine Y.pickF (by rfl) ya (by rfl) ?_
  exact ⟨rfl, rfl⟩
 ·intro aD5 wD5 haD5 hCD5 hrD5
  obtain ⟨r0, r1, r2, r3, r4, r5, r6, r7, -⟩ := hrD5
  replace hr := hr.ext hCD5
  replace hN20 := hN20.ext hCD5
  replace hE := hE.ext hCD5
  refine ⟨rfl, ?_⟩
  refine XD.start haD5 ?_
  refine XD.pure r0 ?_
  refine Y.move (by rfl) ?_
  refine XD.pure r1 ?_
  refine Y.gtr (by rfl) (by rfl) ?_
  refine XD.pure r2 ?_
  refine Y.move (by rfl) ?_
  refine XD.pure r3 ?_
  refine Y.move (by rfl) ?_
  refine XD.pure r4 ?_
  refine Y.move (by rfl) ?_
  refine XD.imp r5 ?_
  rintro _ rfl
  refine XD.pure r6 ?_
  refine Y.gtr (by rfl) (by rfl) ?_
  refine XD.pure r7 ?_
  refine Y.pickF (by rfl) ya (by rfl) ?_
  apply XD.stepP rfl
  intro w3
  refine Y.move (by rfl) ?_
  exact ⟨rfl, rfl⟩
 ·intro aD5 wD5 haD5 hCD5 hrD5
  obtain ⟨r0, r1, r2, r3, r4, r5, r6, r7, r8, -⟩ := hrD5
  refine XD.start haD5 ?_
  refine XD.pure r0 ?_
  refine Y.move (by rfl) ?_
  refine XD.pure r1 ?_
  refine Y.gtr (by rfl) (by rfl) ?_
  refine XD.pure r2 ?_
  refine Y.move (by rfl) ?_
  refine XD.pure r3 ?_
  refine Y.move (by rfl) ?_
  refine XD.pure r4 ?_
  refine Y.move (by rfl) ?_
  refine XD.imp r5 ?_
  rintro _ rfl
  refine XD.pure r6 ?_
  refine Y.gtr (by rfl) (by rfl) ?_
  refine XD.pure r7 ?_
  refine Y.pickF (by rfl) ya (by rfl) ?_
  refine XD.pure r8 ?_
  refine Y.move (by rfl) ?_
  exact XD.wantF rfl rfl (by rfl) ya
 ·intro aD5 wD5 haD5 hCD5 hrD5
  obtain ⟨r0, r1, r2, r3, r4, r5, r6, r7, r8, r9, -⟩ := hrD5
  refine XD.start haD5 ?_
  refine XD.pure r0 ?_
  refine Y.move (by rfl) ?_
  refine XD.pure r1 ?_
  refine Y.gtr (by rfl) (by rfl) ?_
  refine XD.pure r2 ?_
  refine Y.move (by rfl) ?_
  refine XD.pure r3 ?_
  refine Y.move (by rfl) ?_
  refine XD.pure r4 ?_
  refine Y.move (by rfl) ?_
  refine XD.imp r5 ?_
  rintro _ rfl
  refine XD.pure r6 ?_
  refine Y.gtr (by rfl) (by rfl) ?_
  refine XD.pure r7 ?_
  refine Y.pickF (by rfl) ya (by rfl) ?_
  refine XD.pure r8 ?_
  refine Y.move (by rfl) ?_
  refine XD.skip r9 ?_
  exact XD.wantF rfl rfl (by rfl) ya
 ·intro aD5 wD5 haD5 hCD5 hrD5
  obtain ⟨r0, r1, r2, r3, r4, r5, r6, r7, r8, -⟩ := hrD5
  refine XD.start haD5 ?_
  refine XD.pure r0 ?_
  refine Y.move (by rfl) ?_
  refine XD.pure r1 ?_
  refine Y.gtr (by rfl) (by rfl) ?_
  refine XD.pure r2 ?_
  refine Y.move (by rfl) ?_
  refine XD.pure r3 ?_
  refine Y.move (by rfl) ?_
  refine XD.pure r4 ?_
  refine Y.move (by rfl) ?_
  refine XD.imp r5 ?_
  rintro _ rfl
  refine XD.pure r6 ?_
  refine Y.gtr (by rfl) (by rfl) ?_
  refine XD.pure r7 ?_
  refine Y.pickF (by rfl) ya (by rfl) ?_
  refine XD.pure r8 ?_
  refine Y.move (by rfl) ?_
  exact XD.wantF rfl rfl (by rfl) ya
 ·intro aD5 wD5 haD5 hCD5 hrD5
  obtain ⟨r0, r1, r2, r3, r4, r5, r6, r7, r8, r11, -⟩ := hrD5
  refine XD.start haD5 ?_
  refine XD.pure r0 ?_
  refine Y.move (by rfl) ?_
  refine XD.pure r1 ?_
  refine Y.gtr (by rfl) (by rfl) ?_
  refine XD.pure r2 ?_
  refine Y.move (by rfl) ?_
  refine XD.pure r3 ?_
  refine Y.move (by rfl) ?_
  refine XD.pure r4 ?_
  refine Y.move (by rfl) ?_
  refine XD.imp r5 ?_
  rintro _ rfl
  refine XD.pure r6 ?_
  refine Y.gtr (by rfl) (by rfl) ?_
  refine XD.pure r7 ?_
  refine Y.pickF (by rfl) ya (by rfl) ?_
  refine XD.pure r8 ?_
  refine Y.move (by rfl) ?_
  refine XD.skip r11 ?_
  exact XD.wantF rfl rfl (by rfl) ya
 ·intro aD5 wD5 haD5 hCD5 hrD5
  obtain ⟨r0, r1, r2, r3, r4, r5, r6, r7, r8, -⟩ := hrD5
  refine XD.start haD5 ?_
  refine XD.pure r0 ?_
  refine Y.move (by rfl) ?_
  refine XD.pure r1 ?_
  refine Y.gtr (by rfl) (by rfl) ?_
  refine XD.pure r2 ?_
  refine Y.move (by rfl) ?_
  refine XD.pure r3 ?_
  refine Y.move (by rfl) ?_
  refine XD.pure r4 ?_
  refine Y.move (by rfl) ?_
  refine XD.imp r5 ?_
  rintro _ rfl
  refine XD.pure r6 ?_
  refine Y.gtr (by rfl) (by rfl) ?_
  refine XD.pure r7 ?_
  refine Y.pickF (by rfl) ya (by rfl) ?_
  refine XD.pure r8 ?_
  refine Y.move (by rfl) ?_
  exact XD.wantF rfl rfl (by rfl) ya
 ·intro aD5 wD5 haD5 hCD5 hrD5
  obtain ⟨r0, r1, r2, r3, r4, r5, r6, r7, r8, r13, -⟩ := hrD5
  refine XD.start haD5 ?_
  refine XD.pure r0 ?_
  refine Y.move (by rfl) ?_
  refine XD.pure r1 ?_
  refine Y.gtr (by rfl) (by rfl) ?_
  refine XD.pure r2 ?_
  refine Y.move (by rfl) ?_
  refine XD.pure r3 ?_
  refine Y.move (by rfl) ?_
  refine XD.pure r4 ?_
  refine Y.move (by rfl) ?_
  refine XD.imp r5 ?_
  rintro _ rfl
  refine XD.pure r6 ?_
  refine Y.gtr (by rfl) (by rfl) ?_
  refine XD.pure r7 ?_
  refine Y.pickF (by rfl) ya (by rfl) ?_
  refine XD.pure r8 ?_
  refine Y.move (by rfl) ?_
  refine XD.skip r13 ?_
  exact XD.wantF rfl rfl (by rfl) ya
 ·intro aD5 wD5 haD5 hCD5 hrD5
  obtain ⟨r0, r1, r2, r3, r4, r5, r6, r7, r8, r13, r14, -⟩ := hrD5
  refine XD.start haD5 ?_
  refine XD.pure r0 ?_
  refine Y.move (by rfl) ?_
  refine XD.pure r1 ?_
  refine Y.gtr (by rfl) (by rfl) ?_
  refine XD.pure r2 ?_
  refine Y.move (by rfl) ?_
  refine XD.pure r3 ?_
  refine Y.move (by rfl) ?_
  refine XD.pure r4 ?_
  refine Y.move (by rfl) ?_
  refine XD.imp r5 ?_
  rintro _ rfl
  refine XD.pure r6 ?_
  refine Y.gtr (by rfl) (by rfl) ?_
  refine XD.pure r7 ?_
  refine Y.pickF (by rfl) ya (by rfl) ?_
  refine XD.pure r8 ?_
  refine Y.move (by rfl) ?_
  refine XD.skip r13 ?_
  refine XD.skip r14 ?_
  exact XD.wantF rfl rfl (by rfl) ya
 ·intro aD5 wD5 haD5 hCD5 hrD5
  obtain ⟨r0, r1, r2, r3, r4, r5, r6, r7, r8, -⟩ := hrD5
  refine XD.start haD5 ?_
  refine XD.pure r0 ?_
  refine Y.move (by rfl) ?_
  refine XD.pure r1 ?_
  refine Y.gtr (by rfl) (by rfl) ?_
  refine XD.pure r2 ?_
  refine Y.move (by rfl) ?_
  refine XD.pure r3 ?_
  refine Y.move (by rfl) ?_
  refine XD.pure r4 ?_
  refine Y.move (by rfl) ?_
  refine XD.imp r5 ?_
  rintro _ rfl
  refine XD.pure r6 ?_
  refine Y.gtr (by rfl) (by rfl) ?_
  refine XD.pure r7 ?_
  refine Y.pickF (by rfl) ya (by rfl) ?_
  refine XD.pure r8 ?_
  refine Y.move (by rfl) ?_
  exact XD.wantF rfl rfl (by rfl) ya
 ·intro aD5 wD5 haD5 hCD5 hrD5
  obtain ⟨r0, r1, r2, r3, r4, r5, r6, r7, r8, -⟩ := hrD5
  refine XD.start haD5 ?_
  refine XD.pure r0 ?_
  refine Y.move (by rfl) ?_
  refine XD.pure r1 ?_
  refine Y.gtr (by rfl) (by rfl) ?_
  refine XD.pure r2 ?_
  refine Y.move (by rfl) ?_
  refine XD.pure r3 ?_
  refine Y.move (by rfl) ?_
  refine XD.pure r4 ?_
  refine Y.move (by rfl) ?_
  refine XD.imp r5 ?_
  rintro _ rfl
  refine XD.pure r6 ?_
  refine Y.gtr (by rfl) (by rfl) ?_
  refine XD.pure r7 ?_
  refine Y.pickF (by rfl) ya (by rfl) ?_
  refine XD.pure r8 ?_
  refine Y.move (by rfl) ?_
  exact XD.wantF rfl rfl (by rfl) ya
 ·intro aD5 wD5 haD5 hCD5 hrD5
  obtain ⟨r0, r1, r2, r3, r4, r5, r6, r7, r8, r16, r17, -⟩ := hrD5
  refine XD.start haD5 ?_
  refine XD.pure r0 ?_
  refine Y.move (by rfl) ?_
  refine XD.pure r1 ?_
  refine Y.gtr (by rfl) (by rfl) ?_
  refine XD.pure r2 ?_
  refine Y.move (by rfl) ?_
  refine XD.pure r3 ?_
  refine Y.move (by rfl) ?_
  refine XD.pure r4 ?_
  refine Y.move (by rfl) ?_
  refine XD.imp r5 ?_
  rintro _ rfl
  refine XD.pure r6 ?_
  refine Y.gtr (by rfl) (by rfl) ?_
  refine XD.pure r7 ?_
  refine Y.pickF (by rfl) ya (by rfl) ?_
  refine XD.pure r8 ?_
  refine Y.move (by rfl) ?_
  refine XD.skip r16 ?_
  refine XD.skip r17 ?_
  exact XD.wantF rfl rfl (by rfl) ya
 ·intro aD5 wD5 haD5 hCD5 hrD5
  obtain ⟨r0, r1, r2, r3, r4, r5, r6, r7, r8, r13, r14, r15, r16, r17, r18, -⟩ := hrD5
  refine XD.start haD5 ?_
  refine XD.pure r0 ?_
  refine Y.move (by rfl) ?_
  refine XD.pure r1 ?_
  refine Y.gtr (by rfl) (by rfl) ?_
  refine XD.pure r2 ?_
  refine Y.move (by rfl) ?_
  refine XD.pure r3 ?_
  refine Y.move (by rfl) ?_
  refine XD.pure r4 ?_
  refine Y.move (by rfl) ?_
  refine XD.imp r5 ?_
  rintro _ rfl
  refine XD.pure r6 ?_
  refine Y.gtr (by rfl) (by rfl) ?_
  refine XD.pure r7 ?_
  refine Y.pickF (by rfl) ya (by rfl) ?_
  refine XD.pure r8 ?_
  refine Y.move (by rfl) ?_
  refine XD.skip r13 ?_
  refine XD.skip r14 ?_
  refine XD.skip r15 ?_
  refine XD.skip r16 ?_
  refine XD.skip r17 ?_
  refine XD.skip r18 ?_
  exact XD.wantF rfl rfl (by rfl) ya
 ·intro aD5 wD5 haD5 hCD5 hrD5
  obtain ⟨r0, r1, r2, r3, r4, r5, r6, r7, r8, r11, r12, r13, r14, r15, r16, r17, r18, r19, -⟩ := hrD5
  refine XD.start haD5 ?_
  refine XD.pure r0 ?_
  refine Y.move (by rfl) ?_
  refine XD.pure r1 ?_
  refine Y.gtr (by rfl) (by rfl) ?_
  refine XD.pure r2 ?_
  refine Y.move (by rfl) ?_
  refine XD.pure r3 ?_
  refine Y.move (by rfl) ?_
  refine XD.pure r4 ?_
  refine Y.move (by rfl) ?_
  refine XD.imp r5 ?_
  rintro _ rfl
  refine XD.pure r6 ?_
  refine Y.gtr (by rfl) (by rfl) ?_
  refine XD.pure r7 ?_
  refine Y.pickF (by rfl) ya (by rfl) ?_
  refine XD.pure r8 ?_
  refine Y.move (by rfl) ?_
  refine XD.skip r11 ?_
  refine XD.skip r12 ?_
  refine XD.skip r13 ?_
  refine XD.skip r14 ?_
  refine XD.skip r15 ?_
  refine XD.skip r16 ?_
  refine XD.skip r17 ?_
  refine XD.skip r18 ?_
  refine XD.skip r19 ?_
  exact XD.wantF rfl rfl (by rfl) ya
 ·intro aD5 wD5 haD5 hCD5 hrD5
  obtain ⟨r0, r1, r2, r3, r4, r5, r6, r7, r8, r11, r12, r13, r14, r15, r16, r17, r18, r19, r20, -⟩ := hrD5
  refine XD.start haD5 ?_
  refine XD.pure r0 ?_
  refine Y.move (by rfl) ?_
  refine XD.pure r1 ?_
  refine Y.gtr (by rfl) (by rfl) ?_
  refine XD.pure r2 ?_
  refine Y.move (by rfl) ?_
  refine XD.pure r3 ?_
  refine Y.move (by rfl) ?_
  refine XD.pure r4 ?_
  refine Y.move (by rfl) ?_
  refine XD.imp r5 ?_
  rintro _ rfl
  refine XD.pure r6 ?_
  refine Y.gtr (by rfl) (by rfl) ?_
  refine XD.pure r7 ?_
  refine Y.pickF (by rfl) ya (by rfl) ?_
  refine XD.pure r8 ?_
  refine Y.move (by rfl) ?_
  refine XD.skip r11 ?_
  refine XD.skip r12 ?_
  refine XD.skip r13 ?_
  refine XD.skip r14 ?_
  refine XD.skip r15 ?_
  refine XD.skip r16 ?_
  refine XD.skip r17 ?_
  refine XD.skip r18 ?_
  refine XD.skip r19 ?_
  refine XD.skip r20 ?_
  exact XD.wantF rfl rfl (by rfl) ya
 intro aD5 wD5 haD5 hCD5 hrD5
 obtain ⟨r0, r1, r2, r3, r4, r5, r6, r7, r8, r9, r10, r11, r12, r13, r14, r15, r16, r17, r18, r19, r20, r21, -⟩ := hrD5
 replace hr := hr.ext hCD5
 replace hN20 := hN20.ext hCD5
 replace hE := hE.ext hCD5
 refine XD.start haD5 ?_
 refine XD.pure r0 ?_
 refine Y.move (by rfl) ?_
 refine XD.pure r1 ?_
 refine Y.gtr (by rfl) (by rfl) ?_
 refine XD.pure r2 ?_
 refine Y.move (by rfl) ?_
 refine XD.pure r3 ?_
 refine Y.move (by rfl) ?_
 refine XD.pure r4 ?_
 refine Y.move (by rfl) ?_
 refine XD.imp r5 ?_
 rintro _ rfl
 refine XD.pure r6 ?_
 refine Y.gtr (by rfl) (by rfl) ?_
 refine XD.pure r7 ?_
 refine Y.pickF (by rfl) ya (by rfl) ?_
 refine XD.pure r8 ?_
 refine Y.move (by rfl) ?_
 refine XD.skip r9 ?_
 refine XD.skip r10 ?_
 refine XD.skip r11 ?_
 refine XD.skip r12 ?_
 refine XD.skip r13 ?_
 refine XD.skip r14 ?_
 refine XD.skip r15 ?_
 refine XD.skip r16 ?_
 refine XD.skip r17 ?_
 refine XD.skip r18 ?_
 refine XD.skip r19 ?_
 refine XD.skip r20 ?_
 refine XD.skip r21 ?_
 refine XD.fin haD5 ?_
 show XL _ _ _ _ (List.cons _ _) _ _
 refine XL.gf rfl rfl ya rfl ?_
 refine XL.gf rfl rfl ya rfl ?_
 refine XL.s rfl ?_
 refine Y.pickT (by rfl) ya (by rfl) ?_
 refine XL.nil ?_
 refine QN.next ?_
 refine XC.condT rfl rfl ?_
 refine XC.seq ?_
 refine XC.region ?_
 show XL _ _ _ _ (List.cons _ _) _ _
 refine XL.s rfl ?_
 refine Y.assign (by rfl) ?_
 refine XL.s rfl ?_
 refine Y.assign (by rfl) ?_
 refine XL.s rfl ?_
 refine Y.assign (by rfl) ?_
 refine XL.nil ?_
 refine QN.next ?_
 refine XC.ret ?_
 refine QN.doneN (fn := Tryz.f72) (R := R) (.inl rfl) rfl rfl ?_
 refine hR _ _ ?_
 exact ⟨rfl, hE⟩
theorem fcut_bad (S : Nat → Prop) (u : Value) (l : List UInt8) (w : World) (hr : Bs S w u l) (hn : l.length ≤ 140737488355328) (hl : 12 ≤ l.length) (h1 : numOf (l.take 4) ≤ 65535) (h2 : numOf (l.take 4) ≤ (l.drop 12).length) (h3 : headOK l = false) :
  Rets Tryz.prog 72 #[u] w fun v w' => v = .tuple #[.slice none 0 0, .slice none 0 0, .bool false] ∧ Ext w w' := by
 refine Rets.enter (args := [u]) (n := 53) Tryz.func72 rfl rfl rfl ?_
 intro R hR
 show XC _ _ _ _ [(0, u)] _
 refine XC.seq ?_
 refine XC.region ?_
 show XL _ _ _ _ (List.cons _ _) _ _
 refine XL.s rfl ?_
 refine Y.assign (by rfl) ?_
 refine XL.s rfl ?_
 refine Y.assign (by rfl) ?_
 refine XL.s rfl ?_
 refine Y.assign (by rfl) ?_
 refine XL.nil ?_
 refine QN.next ?_
 refine XC.seq ?_
 refine XC.seq ?_
 refine XC.region ?_
 show XL _ _ _ _ (List.cons _ _) _ _
 refine XL.s rfl ?_
 refine Y.move (by rfl) ?_
 refine XL.s rfl ?_
 first | refine Y.lenV Tryz.underlying39 (by rfl) ?_ | refine Y.len Tryz.underlying39 (by rfl) (by first | assumption | exact Apd.row (by assumption) | exact New.row (by assumption)) ?_
 refine XL.s rfl ?_
 refine Y.lss (by rfl) (by rfl) ?_
 refine XL.nil ?_
 refine QN.next ?_
 refine XC.condF rfl ya ?_
 refine XC.skip ?_
 refine QN.next ?_
 refine XC.seq ?_
 refine XC.region ?_
 show XL _ _ _ _ (List.cons _ _) _ _
 refine XL.s rfl ?_
 refine Y.move (by rfl) ?_
 refine XL.s rfl ?_
 refine Y.call (by rfl) ok73 (cutNum_yes _ _ _ _ hr (by omega) hn) ?_
 rintro v14 w14 ⟨u6, rfl, hN14⟩
 replace hr := hr.ext hN14.1
 have hE := hN14.1
 refine XL.s rfl ?_
 refine Y.move (by rfl) ?_
 refine XL.s rfl ?_
 refine Y.extract (by rfl) (by rfl) ?_
 refine XL.s rfl ?_
 refine Y.extract (by rfl) (by rfl) ?_
 refine XL.s rfl ?_
 refine Y.extract (by rfl) (by rfl) ?_
 refine XL.s rfl ?_
 refine Y.assign (by rfl) ?_
 refine XL.s rfl ?_
 refine Y.assign (by rfl) ?_
 refine XL.s rfl ?_
 refine Y.assign (by rfl) ?_
 refine XL.nil ?_
 refine QN.next ?_
 refine XC.seq ?_
 refine XC.region ?_
 show XL _ _ _ _ (List.cons _ _) _ _
 refine XL.s rfl ?_
 refine Y.move (by rfl) ?_
 refine XL.s rfl ?_
 refine Y.sliceFromB st39 (by rfl) (by first | assumption | exact Apd.row (by assumption) | exact New.row (by assumption)) (by rfl) (by first | rfl | exact bnd_nat) (by omega) ?_
 intro v19 hr19
 try simp only [Int.toNat_natCast, Int.reduceToNat] at hr19
 refine XL.s rfl ?_
 refine Y.call (by rfl) ok37 (cloneB_ok _ _ _ _ _ hr19 (by simp [bytesV]) (by simp; omega)) ?_
 rintro v20 w20 hN20
 replace hr := hr.ext hN20.1
 replace hE := hE.trans hN20.1
 refine XL.s rfl ?_
 refine Y.assign (by rfl) ?_
 refine XL.nil ?_
 refine QN.next ?_
 refine XC.seq ?_
 refine XC.seq ?_
 apply XC.drop [6, 7, 9, 10, 11, 12, 13, 14, 15, 16, 17, 18, 19, 20, 21, 22, 23, 24, 25, 26, 27, 28, 29, 30, 31, 32, 33, 34, 35, 36, 37, 38, 39, 40, 41, 42, 43, 44, 45, 46, 47, 48, 49, 50, 51, 52]
 ·repeat (first | apply DropTo.nil | apply DropTo.skip rfl | apply DropTo.keep rfl)
 refine XC.drawL 22 [[], [0], [0, 1], [0, 1, 2], [0, 1, 2], [0, 1, 2, 4], [0, 1, 2, 3, 4, 5], [0, 1, 2, 3, 4, 5, 6], [0, 1, 2, 3, 4, 5, 6, 7], [0, 1, 2, 3, 4, 5, 6, 7, 8], [0, 1, 2, 3, 4, 5, 6, 7, 8, 9], [0, 1, 2, 3, 4, 5, 6, 7, 8], [0, 1, 2, 3, 4, 5, 6, 7, 8, 11], [0, 1, 2, 3, 4, 5, 6, 7, 8], [0, 1, 2, 3, 4, 5, 6, 7, 8, 13], [0, 1, 2, 3, 4, 5, 6, 7, 8, 13, 14], [0, 1, 2, 3, 4, 5, 6, 7, 8], [0, 1, 2, 3, 4, 5, 6, 7, 8], [0, 1, 2, 3, 4, 5, 6, 7, 8, 16, 17], [0, 1, 2, 3, 4, 5, 6, 7, 8, 13, 14, 15, 16, 17, 18], [0, 1, 2, 3, 4, 5, 6, 7, 8, 11, 12, 13, 14, 15, 16, 17, 18, 19], [0, 1, 2, 3, 4, 5, 6, 7, 8, 11, 12, 13, 14, 15, 16, 17, 18, 19, 20], [0, 1, 2, 3, 4, 5, 6, 7, 8, 9, 10, 11, 12, 13, 14, 15, 16, 17, 18, 19, 20, 21], [0, 1, 2, 3, 4, 5, 6, 7, 8, 9, 10, 11, 12, 13, 14, 15, 16, 17, 18, 19, 20, 21, 22], [0, 1, 2, 3, 4, 5, 6, 7, 8, 9, 10, 11, 12, 13, 14, 15, 16, 17, 18, 19, 20, 21, 22, 23]] _ (Chg NoB) (Steady.chg NoB) [] [(5, (fun v _ => v = .int .i64 ((l.drop 12).length : Nat))), (10, (fun v w' => Bs S w' v (l.take 12))), (12, (fun v w' => Bs S w' v (l.take 4))), (14, (fun v w' => Bs S w' v (l.take 4))), (15, (fun v w' => Bs AnyB w' v (sumB (l.take 4)))), (18, (fun v w' => Bs AnyB w' v ((l.drop 12).take (numOf (l.take 4))))), (19, (fun v w' => Bs AnyB w' v (sumB ((l.drop 12).take (numOf (l.take 4)))))), (20, (fun v w' => Rows AnyB w' v [l.take 4, sumB (l.take 4), sumB ((l.drop 12).take (numOf (l.take 4)))])), (21, (fun v w' => Bs AnyB w' v (l.take 4 ++ sumB (l.take 4) ++ sumB ((l.drop 12).take (numOf (l.take 4))))))] [0, 1, 2, 3, 4, 5, 6, 7, 8, 9, 10, 11, 12, 13, 14, 15, 16, 17, 18, 19, 20, 21] fol (by kernel_rfl) (by rfl) (by rfl) ⟨(fun _ _ _ _ h => h), (fun v w1 w2 hE h => h.ext hE), (fun v w1 w2 hE h => h.ext hE), (fun v w1 w2 hE h => h.ext hE), (fun v w1 w2 hE h => h.ext hE), (fun v w1 w2 hE h => h.ext hE), (fun v w1 w2 hE h => h.ext hE), (fun v w1 w2 hE h => h.ext hE), (fun v w1 w2 hE h => h.ext hE), trivial⟩ ⟨?_, ?_, ?_, ?_, ?_, ?_, ?_, ?_, ?_, ?_, ?_, ?_, ?_, ?_, ?_, ?_, ?_, ?_, ?_, ?_, ?_, ?_, trivial⟩ ?_
 ·intro aD5 wD5 haD5 hCD5 hrD5
  refine ⟨rfl, ?_⟩
  refine XD.start haD5 ?_
  apply XD.stepP rfl
  intro w3
  refine Y.move (by rfl) ?_
  exact ⟨rfl, rfl⟩
 ·intro aD5 wD5 haD5 hCD5 hrD5
  obtain ⟨r0, -⟩ := hrD5
  refine ⟨rfl, ?_⟩
  refine XD.start haD5 ?_
  refine XD.pure r0 ?_
  refine Y.move (by rfl) ?_
  apply XD.stepP rfl
  intro w3
  refine Y.gtr (by rfl) (by rfl) ?_
  exact ⟨rfl, rfl⟩
 ·intro aD5 wD5 haD5 hCD5 hrD5
  obtain ⟨r0, r1, -⟩ := hrD5
  refine ⟨rfl, ?_⟩
  refine XD.start haD5 ?_
  refine XD.pure r0 ?_
  refine Y.move (by rfl) ?_
  refine XD.pure r1 ?_
  refine Y.gtr (by rfl) (by rfl) ?_
  apply XD.stepP rfl
  intro w3
  refine Y.move (by rfl) ?_
  exact ⟨rfl, rfl⟩
 ·intro aD5 wD5 haD5 hCD5 hrD5
  obtain ⟨r0, r1, r2, -⟩ := hrD5
  refine XD.start haD5 ?_
  refine XD.pure r0 ?_
  refine Y.move (by rfl) ?_
  refine XD.pure r1 ?_
  refine Y.gtr (by rfl) (by rfl) ?_
  refine XD.pure r2 ?_
  refine Y.move (by rfl) ?_
  refine XD.wantT rfl rfl (by rfl) ya ?_
  apply XD.stepP rfl
  intro w3
  refine Y.move (by rfl) ?_
  exact ⟨rfl, rfl⟩
 ·intro aD5 wD5 haD5 hCD5 hrD5
  obtain ⟨r0, r1, r2, -⟩ := hrD5
  refine XD.start haD5 ?_
  refine XD.pure r0 ?_
  refine Y.move (by rfl) ?_
  refine XD.pure r1 ?_
  refine Y.gtr (by rfl) (by rfl) ?_
  refine XD.pure r2 ?_
  refine Y.move (by rfl) ?_
  refine XD.wantT rfl rfl (by rfl) ya ?_
  apply XD.stepP rfl
  intro w3
  refine Y.move (by rfl) ?_
  exact ⟨rfl, rfl⟩
 ·intro aD5 wD5 haD5 hCD5 hrD5
  obtain ⟨r0, r1, r2, r4, -⟩ := hrD5
  replace hr := hr.ext hCD5
  replace hN20 := hN20.ext hCD5
  replace hE := hE.ext hCD5
  refine XD.start haD5 ?_
  refine XD.pure r0 ?_
  refine Y.move (by rfl) ?_
  refine XD.pure r1 ?_
  refine Y.gtr (by rfl) (by rfl) ?_
  refine XD.pure r2 ?_
  refine Y.move (by rfl) ?_
  refine XD.pure r4 ?_
  refine Y.move (by rfl) ?_
  refine XD.wantT rfl rfl (by rfl) ya ?_
  refine XD.stepI ?_
  refine Y.len Tryz.underlying39 (by rfl) hN20.row ?_
  exact ⟨Chg.refl _ _, rfl⟩
 ·intro aD5 wD5 haD5 hCD5 hrD5
  obtain ⟨r0, r1, r2, r3, r4, r5, -⟩ := hrD5
  replace hr := hr.ext hCD5
  replace hN20 := hN20.ext hCD5
  replace hE := hE.ext hCD5
  refine XD.start haD5 ?_
  refine XD.pure r0 ?_
  refine Y.move (by rfl) ?_
  refine XD.pure r1 ?_
  refine Y.gtr (by rfl) (by rfl) ?_
  refine XD.pure r2 ?_
  refine Y.move (by rfl) ?_
  refine XD.pure r3 ?_
  refine Y.move (by rfl) ?_
  refine XD.pure r4 ?_
  refine Y.move (by rfl) ?_
  refine XD.imp r5 ?_
  rintro _ rfl
  refine XD.wantT rfl rfl (by rfl) ya ?_
  apply XD.stepP rfl
  intro w3
  refine Y.gtr (by rfl) (by rfl) ?_
  exact ⟨rfl, rfl⟩
 ·intro aD5 wD5 haD5 hCD5 hrD5
  obtain ⟨r0, r1, r2, r3, r4, r5, r6, -⟩ := hrD5
  replace hr := hr.ext hCD5
  replace hN20 := hN20.ext hCD5
  replace hE := hE.ext hCD5
  refine ⟨rfl, ?_⟩
  refine XD.start haD5 ?_
  refine XD.pure r0 ?_
  refine Y.move (by rfl) ?_
  refine XD.pure r1 ?_
  refine Y.gtr (by rfl) (by rfl) ?_
  refine XD.pure r2 ?_
  refine Y.move (by rfl) ?_
  refine XD.pure r3 ?_
  refine Y.move (by rfl) ?_
  refine XD.pure r4 ?_
  refine Y.move (by rfl) ?_
  refine XD.imp r5 ?_
  rintro _ rfl
  refine XD.pure r6 ?_
  refine Y.gtr (by rfl) (by rfl) ?_
  apply XD.stepP rfl
  intro w3
  refine Y.pickF (by rfl) ya (by rfl) ?_
  exact ⟨rfl, rfl⟩
 ·intro aD5 wD5 haD5 hCD5 hrD5
  obtain ⟨r0, r1, r2, r3, r4, r5, r6, r7, -⟩ := hrD5
  replace hr := hr.ext hCD5
  replace hN20 := hN20.ext hCD5
  replace hE := hE.ext hCD5
  refine ⟨rfl, ?_⟩
  refine XD.start haD5 ?_
  refine XD.pure r0 ?_
  refine Y.move (by rfl) ?_
  refine XD.pure r1 ?_
  refine Y.gtr (by rfl) (by rfl) ?_
  refine XD.pure r2 ?_
  refine Y.move (by rfl) ?_
  refine XD.pure r3 ?_
  refine Y.move (by rfl) ?_
  refine XD.pure r4 ?_
  refine Y.move (by rfl) ?_
  refine XD.imp r5 ?_
  rintro _ rfl
  refine XD.pure r6 ?_
  refine Y.gtr (by rfl) (by rfl) ?_
  refine XD.pure r7 ?_
  refine Y.pickF (by rfl) ya (by rfl) ?_
  apply XD.stepP rfl
  intro w3
  refine Y.move (by rfl) ?_
  exact ⟨rfl, rfl⟩
 ·intro aD5 wD5 haD5 hCD5 hrD5
  obtain ⟨r0, r1, r2, r3, r4, r5, r6, r7, r8, -⟩ := hrD5
  replace hr := hr.ext hCD5
  replace hN20 := hN20.ext hCD5
  replace hE := hE.ext hCD5
  refine XD.start haD5 ?_
  refine XD.pure r0 ?_
  refine Y.move (by rfl) ?_
  refine XD.pure r1 ?_
  refine Y.gtr (by rfl) (by rfl) ?_
  refine XD.pure r2 ?_
  refine Y.move (by rfl) ?_
  refine XD.pure r3 ?_
  refine Y.move (by rfl) ?_
  refine XD.pure r4 ?_
  refine Y.move (by rfl) ?_
  refine XD.imp r5 ?_
  rintro _ rfl
  refine XD.pure r6 ?_
  refine Y.gtr (by rfl) (by rfl) ?_
  refine XD.pure r7 ?_
  refine Y.pickF (by rfl) ya (by rfl) ?_
  refine XD.pure r8 ?_
  refine Y.move (by rfl) ?_
  refine XD.wantT rfl rfl (by rfl) ya ?_
  apply XD.stepP rfl
  intro w3
  refine Y.move (by rfl) ?_
  exact ⟨rfl, rfl⟩
 ·intro aD5 wD5 haD5 hCD5 hrD5
  obtain ⟨r0, r1, r2, r3, r4, r5, r6, r7, r8, r9, -⟩ := hrD5
  replace hr := hr.ext hCD5
  replace hN20 := hN20.ext hCD5
  replace hE := hE.ext hCD5
  refine XD.start haD5 ?_
  refine XD.pure r0 ?_
  refine Y.move (by rfl) ?_
  refine XD.pure r1 ?_
  refine Y.gtr (by rfl) (by rfl) ?_
  refine XD.pure r2 ?_
  refine Y.move (by rfl) ?_
  refine XD.pure r3 ?_
  refine Y.move (by rfl) ?_
  refine XD.pure r4 ?_
  refine Y.move (by rfl) ?_
  refine XD.imp r5 ?_
  rintro _ rfl
  refine XD.pure r6 ?_
  refine Y.gtr (by rfl) (by rfl) ?_
  refine XD.pure r7 ?_
  refine Y.pickF (by rfl) ya (by rfl) ?_
  refine XD.pure r8 ?_
  refine Y.move (by rfl) ?_
  refine XD.pure r9 ?_
  refine Y.move (by rfl) ?_
  refine XD.wantT rfl rfl (by rfl) ya ?_
  refine XD.stepI ?_
  refine Y.sliceToB st39 (by rfl) hr (by rfl) (by first | rfl | exact bnd_nat) (by omega) ?_
  intro v31 hr31
  try simp only [Int.toNat_natCast, Int.reduceToNat] at hr31
  exact ⟨Chg.refl _ _, hr31⟩
 ·intro aD5 wD5 haD5 hCD5 hrD5
  obtain ⟨r0, r1, r2, r3, r4, r5, r6, r7, r8, -⟩ := hrD5
  replace hr := hr.ext hCD5
  replace hN20 := hN20.ext hCD5
  replace hE := hE.ext hCD5
  refine XD.start haD5 ?_
  refine XD.pure r0 ?_
  refine Y.move (by rfl) ?_
  refine XD.pure r1 ?_
  refine Y.gtr (by rfl) (by rfl) ?_
  refine XD.pure r2 ?_
  refine Y.move (by rfl) ?_
  refine XD.pure r3 ?_
  refine Y.move (by rfl) ?_
  refine XD.pure r4 ?_
  refine Y.move (by rfl) ?_
  refine XD.imp r5 ?_
  rintro _ rfl
  refine XD.pure r6 ?_
  refine Y.gtr (by rfl) (by rfl) ?_
  refine XD.pure r7 ?_
  refine Y.pickF (by rfl) ya (by rfl) ?_
  refine XD.pure r8 ?_
  refine Y.move (by rfl) ?_
  refine XD.wantT rfl rfl (by rfl) ya ?_
  apply XD.stepP rfl
  intro w3
  refine Y.move (by rfl) ?_
  exact ⟨rfl, rfl⟩
 ·intro aD5 wD5 haD5 hCD5 hrD5
  obtain ⟨r0, r1, r2, r3, r4, r5, r6, r7, r8, r11, -⟩ := hrD5
  replace hr := hr.ext hCD5
  replace hN20 := hN20.ext hCD5
  replace hE := hE.ext hCD5
  refine XD.start haD5 ?_
  refine XD.pure r0 ?_
  refine Y.move (by rfl) ?_
  refine XD.pure r1 ?_
  refine Y.gtr (by rfl) (by rfl) ?_
  refine XD.pure r2 ?_
  refine Y.move (by rfl) ?_
  refine XD.pure r3 ?_
  refine Y.move (by rfl) ?_
  refine XD.pure r4 ?_
  refine Y.move (by rfl) ?_
  refine XD.imp r5 ?_
  rintro _ rfl
  refine XD.pure r6 ?_
  refine Y.gtr (by rfl) (by rfl) ?_
  refine XD.pure r7 ?_
  refine Y.pickF (by rfl) ya (by rfl) ?_
  refine XD.pure r8 ?_
  refine Y.move (by rfl) ?_
  refine XD.pure r11 ?_
  refine Y.move (by rfl) ?_
  refine XD.wantT rfl rfl (by rfl) ya ?_
  refine XD.stepI ?_
  refine Y.sliceToB st39 (by rfl) hr (by rfl) (by first | rfl | exact bnd_nat) (by omega) ?_
  intro v33 hr33
  try simp only [Int.toNat_natCast, Int.reduceToNat] at hr33
  exact ⟨Chg.refl _ _, hr33⟩
 ·intro aD5 wD5 haD5 hCD5 hrD5
  obtain ⟨r0, r1, r2, r3, r4, r5, r6, r7, r8, -⟩ := hrD5
  replace hr := hr.ext hCD5
  replace hN20 := hN20.ext hCD5
  replace hE := hE.ext hCD5
  refine XD.start haD5 ?_
  refine XD.pure r0 ?_
  refine Y.move (by rfl) ?_
  refine XD.pure r1 ?_
  refine Y.gtr (by rfl) (by rfl) ?_
  refine XD.pure r2 ?_
  refine Y.move (by rfl) ?_
  refine XD.pure r3 ?_
  refine Y.move (by rfl) ?_
  refine XD.pure r4 ?_
  refine Y.move (by rfl) ?_
  refine XD.imp r5 ?_
  rintro _ rfl
  refine XD.pure r6 ?_
  refine Y.gtr (by rfl) (by rfl) ?_
  refine XD.pure r7 ?_
  refine Y.pickF (by rfl) ya (by rfl) ?_
  refine XD.pure r8 ?_
  refine Y.move (by rfl) ?_
  refine XD.wantT rfl rfl (by rfl) ya ?_
  apply XD.stepP rfl
  intro w3
  refine Y.move (by rfl) ?_
  exact ⟨rfl, rfl⟩
 ·intro aD5 wD5 haD5 hCD5 hrD5
  obtain ⟨r0, r1, r2, r3, r4, r5, r6, r7, r8, r13, -⟩ := hrD5
  replace hr := hr.ext hCD5
  replace hN20 := hN20.ext hCD5
  replace hE := hE.ext hCD5
  refine XD.start haD5 ?_
  refine XD.pure r0 ?_
  refine Y.move (by rfl) ?_
  refine XD.pure r1 ?_
  refine Y.gtr (by rfl) (by rfl) ?_
  refine XD.pure r2 ?_
  refine Y.move (by rfl) ?_
  refine XD.pure r3 ?_
  refine Y.move (by rfl) ?_
  refine XD.pure r4 ?_
  refine Y.move (by rfl) ?_
  refine XD.imp r5 ?_
  rintro _ rfl
  refine XD.pure r6 ?_
  refine Y.gtr (by rfl) (by rfl) ?_
  refine XD.pure r7 ?_
  refine Y.pickF (by rfl) ya (by rfl) ?_
  refine XD.pure r8 ?_
  refine Y.move (by rfl) ?_
  refine XD.pure r13 ?_
  refine Y.move (by rfl) ?_
  refine XD.wantT rfl rfl (by rfl) ya ?_
  refine XD.stepI ?_
  refine Y.sliceToB st39 (by rfl) hr (by rfl) (by first | rfl | exact bnd_nat) (by omega) ?_
  intro v35 hr35
  try simp only [Int.toNat_natCast, Int.reduceToNat] at hr35
  exact ⟨Chg.refl _ _, hr35⟩
 ·intro aD5 wD5 haD5 hCD5 hrD5
  obtain ⟨r0, r1, r2, r3, r4, r5, r6, r7, r8, r13, r14, -⟩ := hrD5
  replace hr := hr.ext hCD5
  replace hN20 := hN20.ext hCD5
  replace hE := hE.ext hCD5
  refine XD.start haD5 ?_
  refine XD.pure r0 ?_
  refine Y.move (by rfl) ?_
  refine XD.pure r1 ?_
  refine Y.gtr (by rfl) (by rfl) ?_
  refine XD.pure r2 ?_
  refine Y.move (by rfl) ?_
  refine XD.pure r3 ?_
  refine Y.move (by rfl) ?_
  refine XD.pure r4 ?_
  refine Y.move (by rfl) ?_
  refine XD.imp r5 ?_
  rintro _ rfl
  refine XD.pure r6 ?_
  refine Y.gtr (by rfl) (by rfl) ?_
  refine XD.pure r7 ?_
  refine Y.pickF (by rfl) ya (by rfl) ?_
  refine XD.pure r8 ?_
  refine Y.move (by rfl) ?_
  refine XD.pure r13 ?_
  refine Y.move (by rfl) ?_
  refine XD.imp r14 ?_
  rintro v35 hr35
  refine XD.wantT rfl rfl (by rfl) ya ?_
  refine XD.stepI ?_
  refine Y.call (by rfl) ok82 (fsum_ok _ _ _ _ hr35) ?_
  rintro v36 w36 hN36
  exact ⟨hN36.1, hN36.bs.any⟩
 ·intro aD5 wD5 haD5 hCD5 hrD5
  obtain ⟨r0, r1, r2, r3, r4, r5, r6, r7, r8, -⟩ := hrD5
  replace hr := hr.ext hCD5
  replace hN20 := hN20.ext hCD5
  replace hE := hE.ext hCD5
  refine XD.start haD5 ?_
  refine XD.pure r0 ?_
  refine Y.move (by rfl) ?_
  refine XD.pure r1 ?_
  refine Y.gtr (by rfl) (by rfl) ?_
  refine XD.pure r2 ?_
  refine Y.move (by rfl) ?_
  refine XD.pure r3 ?_
  refine Y.move (by rfl) ?_
  refine XD.pure r4 ?_
  refine Y.move (by rfl) ?_
  refine XD.imp r5 ?_
  rintro _ rfl
  refine XD.pure r6 ?_
  refine Y.gtr (by rfl) (by rfl) ?_
  refine XD.pure r7 ?_
  refine Y.pickF (by rfl) ya (by rfl) ?_
  refine XD.pure r8 ?_
  refine Y.move (by rfl) ?_
  refine XD.wantT rfl rfl (by rfl) ya ?_
  apply XD.stepP rfl
  intro w3
  refine Y.move (by rfl) ?_
  exact ⟨rfl, rfl⟩
 ·intro aD5 wD5 haD5 hCD5 hrD5
  obtain ⟨r0, r1, r2, r3, r4, r5, r6, r7, r8, -⟩ := hrD5
  replace hr := hr.ext hCD5
  replace hN20 := hN20.ext hCD5
  replace hE := hE.ext hCD5
  refine XD.start haD5 ?_
  refine XD.pure r0 ?_
  refine Y.move (by rfl) ?_
  refine XD.pure r1 ?_
  refine Y.gtr (by rfl) (by rfl) ?_
  refine XD.pure r2 ?_
  refine Y.move (by rfl) ?_
  refine XD.pure r3 ?_
  refine Y.move (by rfl) ?_
  refine XD.pure r4 ?_
  refine Y.move (by rfl) ?_
  refine XD.imp r5 ?_
  rintro _ rfl
  refine XD.pure r6 ?_
  refine Y.gtr (by rfl) (by rfl) ?_
  refine XD.pure r7 ?_
  refine Y.pickF (by rfl) ya (by rfl) ?_
  refine XD.pure r8 ?_
  refine Y.move (by rfl) ?_
  refine XD.wantT rfl rfl (by rfl) ya ?_
  apply XD.stepP rfl
  intro w3
  refine Y.move (by rfl) ?_
  exact ⟨rfl, rfl⟩
 ·intro aD5 wD5 haD5 hCD5 hrD5
  obtain ⟨r0, r1, r2, r3, r4, r5, r6, r7, r8, r16, r17, -⟩ := hrD5
  replace hr := hr.ext hCD5
  replace hN20 := hN20.ext hCD5
  replace hE := hE.ext hCD5
  refine XD.start haD5 ?_
  refine XD.pure r0 ?_
  refine Y.move (by rfl) ?_
  refine XD.pure r1 ?_
  refine Y.gtr (by rfl) (by rfl) ?_
  refine XD.pure r2 ?_
  refine Y.move (by rfl) ?_
  refine XD.pure r3 ?_
  refine Y.move (by rfl) ?_
  refine XD.pure r4 ?_
  refine Y.move (by rfl) ?_
  refine XD.imp r5 ?_
  rintro _ rfl
  refine XD.pure r6 ?_
  refine Y.gtr (by rfl) (by rfl) ?_
  refine XD.pure r7 ?_
  refine Y.pickF (by rfl) ya (by rfl) ?_
  refine XD.pure r8 ?_
  refine Y.move (by rfl) ?_
  refine XD.pure r16 ?_
  refine Y.move (by rfl) ?_
  refine XD.pure r17 ?_
  refine Y.move (by rfl) ?_
  refine XD.wantT rfl rfl (by rfl) ya ?_
  refine XD.stepI ?_
  refine Y.sliceToB st39 (by rfl) hN20.bs (by rfl) (by first | rfl | exact bnd_nat) (by omega) ?_
  intro v39 hr39
  try simp only [Int.toNat_natCast, Int.reduceToNat] at hr39
  exact ⟨Chg.refl _ _, hr39.any⟩
 ·intro aD5 wD5 haD5 hCD5 hrD5
  obtain ⟨r0, r1, r2, r3, r4, r5, r6, r7, r8, r13, r14, r15, r16, r17, r18, -⟩ := hrD5
  replace hr := hr.ext hCD5
  replace hN20 := hN20.ext hCD5
  replace hE := hE.ext hCD5
  refine XD.start haD5 ?_
  refine XD.pure r0 ?_
  refine Y.move (by rfl) ?_
  refine XD.pure r1 ?_
  refine Y.gtr (by rfl) (by rfl) ?_
  refine XD.pure r2 ?_
  refine Y.move (by rfl) ?_
  refine XD.pure r3 ?_
  refine Y.move (by rfl) ?_
  refine XD.pure r4 ?_
  refine Y.move (by rfl) ?_
  refine XD.imp r5 ?_
  rintro _ rfl
  refine XD.pure r6 ?_
  refine Y.gtr (by rfl) (by rfl) ?_
  refine XD.pure r7 ?_
  refine Y.pickF (by rfl) ya (by rfl) ?_
  refine XD.pure r8 ?_
  refine Y.move (by rfl) ?_
  refine XD.pure r13 ?_
  refine Y.move (by rfl) ?_
  refine XD.imp r14 ?_
  rintro v35 hr35
  refine XD.imp r15 ?_
  rintro v36 hr36
  refine XD.pure r16 ?_
  refine Y.move (by rfl) ?_
  refine XD.pure r17 ?_
  refine Y.move (by rfl) ?_
  refine XD.imp r18 ?_
  rintro v39 hr39
  refine XD.wantT rfl rfl (by rfl) ya ?_
  refine XD.stepI ?_
  refine Y.call (by rfl) ok82 (fsum_ok _ _ _ _ hr39) ?_
  rintro v40 w40 hN40
  exact ⟨hN40.1, hN40.bs.any⟩
 ·intro aD5 wD5 haD5 hCD5 hrD5
  obtain ⟨r0, r1, r2, r3, r4, r5, r6, r7, r8, r11, r12, r13, r14, r15, r16, r17, r18, r19, -⟩ := hrD5
  replace hr := hr.ext hCD5
  replace hN20 := hN20.ext hCD5
  replace hE := hE.ext hCD5
  refine XD.start haD5 ?_
  refine XD.pure r0 ?_
  refine Y.move (by rfl) ?_
  refine XD.pure r1 ?_
  refine Y.gtr (by rfl) (by rfl) ?_
  refine XD.pure r2 ?_
  refine Y.move (by rfl) ?_
  refine XD.pure r3 ?_
  refine Y.move (by rfl) ?_
  refine XD.pure r4 ?_
  refine Y.move (by rfl) ?_
  refine XD.imp r5 ?_
  rintro _ rfl
  refine XD.pure r6 ?_
  refine Y.gtr (by rfl) (by rfl) ?_
  refine XD.pure r7 ?_
  refine Y.pickF (by rfl) ya (by rfl) ?_
  refine XD.pure r8 ?_
  refine Y.move (by rfl) ?_
  refine XD.pure r11 ?_
  refine Y.move (by rfl) ?_
  refine XD.imp r12 ?_
  rintro v33 hr33
  refine XD.pure r13 ?_
  refine Y.move (by rfl) ?_
  refine XD.imp r14 ?_
  rintro v35 hr35
  refine XD.imp r15 ?_
  rintro v36 hr36
  refine XD.pure r16 ?_
  refine Y.move (by rfl) ?_
  refine XD.pure r17 ?_
  refine Y.move (by rfl) ?_
  refine XD.imp r18 ?_
  rintro v39 hr39
  refine XD.imp r19 ?_
  rintro v40 hr40
  refine XD.wantT rfl rfl (by rfl) ya ?_
  refine XD.stepI ?_
  refine Y.buildSlice st37 (by rfl) (by rfl) (by omega) (by simp [hr33.oneC, hr36.oneC, hr40.oneC]) ?_
  intro v41 w41 hN41
  exact ⟨hN41.1, _, hN41.row.any, (hr33.ext hN41.1).any, (hr36.ext hN41.1).any, (hr40.ext hN41.1).any, trivial⟩
 ·intro aD5 wD5 haD5 hCD5 hrD5
  obtain ⟨r0, r1, r2, r3, r4, r5, r6, r7, r8, r11, r12, r13, r14, r15, r16, r17, r18, r19, r20, -⟩ := hrD5
  replace hr := hr.ext hCD5
  replace hN20 := hN20.ext hCD5
  replace hE := hE.ext hCD5
  refine XD.start haD5 ?_
  refine XD.pure r0 ?_
  refine Y.move (by rfl) ?_
  refine XD.pure r1 ?_
  refine Y.gtr (by rfl) (by rfl) ?_
  refine XD.pure r2 ?_
  refine Y.move (by rfl) ?_
  refine XD.pure r3 ?_
  refine Y.move (by rfl) ?_
  refine XD.pure r4 ?_
  refine Y.move (by rfl) ?_
  refine XD.imp r5 ?_
  rintro _ rfl
  refine XD.pure r6 ?_
  refine Y.gtr (by rfl) (by rfl) ?_
  refine XD.pure r7 ?_
  refine Y.pickF (by rfl) ya (by rfl) ?_
  refine XD.pure r8 ?_
  refine Y.move (by rfl) ?_
  refine XD.pure r11 ?_
  refine Y.move (by rfl) ?_
  refine XD.imp r12 ?_
  rintro v33 hr33
  refine XD.pure r13 ?_
  refine Y.move (by rfl) ?_
  refine XD.imp r14 ?_
  rintro v35 hr35
  refine XD.imp r15 ?_
  rintro v36 hr36
  refine XD.pure r16 ?_
  refine Y.move (by rfl) ?_
  refine XD.pure r17 ?_
  refine Y.move (by rfl) ?_
  refine XD.imp r18 ?_
  rintro v39 hr39
  refine XD.imp r19 ?_
  rintro v40 hr40
  refine XD.imp r20 ?_
  rintro v41 hr41
  refine XD.wantT rfl rfl (by rfl) ya ?_
  refine XD.stepI ?_
  refine Y.call (by rfl) ok81 (concat_ok _ _ _ _ hr41 (by simp [sumB_length]; omega)) ?_
  rintro v42 w42 hN42
  exact ⟨hN42.1, (hN42.bs.any).cast (by simp) (by simp)⟩
 intro aD5 wD5 haD5 hCD5 hrD5
 obtain ⟨r0, r1, r2, r3, r4, r5, r6, r7, r8, r9, r10, r11, r12, r13, r14, r15, r16, r17, r18, r19, r20, r21, -⟩ := hrD5
 replace hr := hr.ext hCD5
 replace hN20 := hN20.ext hCD5
 replace hE := hE.ext hCD5
 refine XD.start haD5 ?_
 refine XD.pure r0 ?_
 refine Y.move (by rfl) ?_
 refine XD.pure r1 ?_
 refine Y.gtr (by rfl) (by rfl) ?_
 refine XD.pure r2 ?_
 refine Y.move (by rfl) ?_
 refine XD.pure r3 ?_
 refine Y.move (by rfl) ?_
 refine XD.pure r4 ?_
 refine Y.move (by rfl) ?_
 refine XD.imp r5 ?_
 rintro _ rfl
 refine XD.pure r6 ?_
 refine Y.gtr (by rfl) (by rfl) ?_
 refine XD.pure r7 ?_
 refine Y.pickF (by rfl) ya (by rfl) ?_
 refine XD.pure r8 ?_
 refine Y.move (by rfl) ?_
 refine XD.pure r9 ?_
 refine Y.move (by rfl) ?_
 refine XD.imp r10 ?_
 rintro v31 hr31
 refine XD.pure r11 ?_
 refine Y.move (by rfl) ?_
 refine XD.imp r12 ?_
 rintro v33 hr33
 refine XD.pure r13 ?_
 refine Y.move (by rfl) ?_
 refine XD.imp r14 ?_
 rintro v35 hr35
 refine XD.imp r15 ?_
 rintro v36 hr36
 refine XD.pure r16 ?_
 refine Y.move (by rfl) ?_
 refine XD.pure r17 ?_
 refine Y.move (by rfl) ?_
 refine XD.imp r18 ?_
 rintro v39 hr39
 refine XD.imp r19 ?_
 rintro v40 hr40
 refine XD.imp r20 ?_
 rintro v41 hr41
 refine XD.imp r21 ?_
 rintro v42 hr42
 refine XD.fin haD5 ?_
 show XL _ _ _ _ (List.cons _ _) _ _
 refine XL.gt rfl rfl ya rfl ?_
 refine Y.call (by rfl) ok75 (equalB_ok _ _ _ _ _ _ _ hr31 hr42) ?_
 rintro _ w43 ⟨rfl, hE43⟩
 replace hr := hr.ext hE43
 replace hN20 := hN20.ext hE43
 replace hE := hE.ext hE43
 refine XL.gt rfl rfl ya rfl ?_
 refine Y.not (by rfl) ?_
 refine XL.s rfl ?_
 refine Y.pickF (by rfl) ya (by rfl) ?_
 refine XL.nil ?_
 refine QN.next ?_
 refine XC.condT rfl (show (!headOK l) = true from by rw [h3]; rfl) ?_
 refine XC.seq ?_
 refine XC.region ?_
 show XL _ _ _ _ (List.cons _ _) _ _
 refine XL.s rfl ?_
 refine Y.assign (by rfl) ?_
 refine XL.s rfl ?_
 refine Y.assign (by rfl) ?_
 refine XL.s rfl ?_
 refine Y.assign (by rfl) ?_
 refine XL.nil ?_
 refine QN.next ?_
 refine XC.ret ?_
 refine QN.doneN (fn := Tryz.f72) (R := R) (.inl rfl) rfl rfl ?_
 refine hR _ _ ?_
 exact ⟨rfl, hE⟩
theorem fcut_ok (S : Nat → Prop) (u : Value) (l : List UInt8) (w : World) (hr : Bs S w u l) (hn : l.length ≤ 140737488355328) (hl : 12 ≤ l.length) (h1 : numOf (l.take 4) ≤ 65535) (h2 : numOf (l.take 4) ≤ (l.drop 12).length) (h3 : headOK l = true) :
  Rets Tryz.prog 72 #[u] w fun v w' => ∃ a b, v = .tuple #[a, b, .bool true] ∧ Ext w w' ∧ Bs (Since w) w' a ((l.drop 12).take (numOf (l.take 4))) ∧ Bs (Since w) w' b ((l.drop 12).drop (numOf (l.take 4))) := by
 refine Rets.enter (args := [u]) (n := 53) Tryz.func72 rfl rfl rfl ?_
 intro R hR
 show XC _ _ _ _ [(0, u)] _
 refine XC.seq ?_
 refine XC.region ?_
 show XL _ _ _ _ (List.cons _ _) _ _
 refine XL.s rfl ?_
 refine Y.assign (by rfl) ?_
 refine XL.s rfl ?_
 refine Y.assign (by rfl) ?_
 refine XL.s rfl ?_
 refine Y.assign (by rfl) ?_
 refine XL.nil ?_
 refine QN.next ?_
 refine XC.seq ?_
 refine XC.seq ?_
 refine XC.region ?_
 show XL _ _ _ _ (List.cons _ _) _ _
 refine XL.s rfl ?_
 refine Y.move (by rfl) ?_
 refine XL.s rfl ?_
 first | refine Y.lenV Tryz.underlying39 (by rfl) ?_ | refine Y.len Tryz.underlying39 (by rfl) (by first | assumption | exact Apd.row (by assumption) | exact New.row (by assumption)) ?_
 refine XL.s rfl ?_
 refine Y.lss (by rfl) (by rfl) ?_
 refine XL.nil ?_
 refine QN.next ?_
 refine XC.condF rfl ya ?_
 refine XC.skip ?_
 refine QN.next ?_
 refine XC.seq ?_
 refine XC.region ?_
 show XL _ _ _ _ (List.cons _ _) _ _
 refine XL.s rfl ?_
 refine Y.move (by rfl) ?_
 refine XL.s rfl ?_
 refine Y.call (by rfl) ok73 (cutNum_yes _ _ _ _ hr (by omega) hn) ?_
 rintro v14 w14 ⟨u6, rfl, hN14⟩
 replace hr := hr.ext hN14.1
 have hE := hN14.1
 refine XL.s rfl ?_
 refine Y.move (by rfl) ?_
 refine XL.s rfl ?_
 refine Y.extract (by rfl) (by rfl) ?_
 refine XL.s rfl ?_
 refine Y.extract (by rfl) (by rfl) ?_
 refine XL.s rfl ?_
 refine Y.extract (by rfl) (by rfl) ?_
 refine XL.s rfl ?_
 refine Y.assign (by rfl) ?_
 refine XL.s rfl ?_
 refine Y.assign (by rfl) ?_
 refine XL.s rfl ?_
 refine Y.assign (by rfl) ?_
 refine XL.nil ?_
 refine QN.next ?_
 refine XC.seq ?_
 refine XC.region ?_
 show XL _ _ _ _ (List.cons _ _) _ _
 refine XL.s rfl ?_
 refine Y.move (by rfl) ?_
 refine XL.s rfl ?_
 refine Y.sliceFromB st39 (by rfl) (by first | assumption | exact Apd.row (by assumption) | exact New.row (by assumption)) (by rfl) (by first | rfl | exact bnd_nat) (by omega) ?_
 intro v19 hr19
 try simp only [Int.toNat_natCast, Int.reduceToNat] at hr19
 refine XL.s rfl ?_
 refine Y.call (by rfl) ok37 (cloneB_ok _ _ _ _ _ hr19 (by simp [bytesV]) (by simp; omega)) ?_
 rintro v20 w20 hN20
 replace hr := hr.ext hN20.1
 replace hE := hE.trans hN20.1
 refine XL.s rfl ?_
 refine Y.assign (by rfl) ?_
 refine XL.nil ?_
 refine QN.next ?_
 refine XC.seq ?_
 refine XC.seq ?_
 apply XC.drop [6, 7, 9, 10, 11, 12, 13, 14, 15, 16, 17, 18, 19, 20, 21, 22, 23, 24, 25, 26, 27, 28, 29, 30, 31, 32, 33, 34, 35, 36, 37, 38, 39, 40, 41, 42, 43, 44, 45, 46, 47, 48, 49, 50, 51, 52]
 ·repeat (first | apply DropTo.nil | apply DropTo.skip rfl | apply DropTo.keep rfl)
 refine XC.drawL 22 [[], [0], [0, 1], [0, 1, 2], [0, 1, 2], [0, 1, 2, 4], [0, 1, 2, 3, 4, 5], [0, 1, 2, 3, 4, 5, 6], [0, 1, 2, 3, 4, 5, 6, 7], [0, 1, 2, 3, 4, 5, 6, 7, 8], [0, 1, 2, 3, 4, 5, 6, 7, 8, 9], [0, 1, 2, 3, 4, 5, 6, 7, 8], [0, 1, 2, 3, 4, 5, 6, 7, 8, 11], [0, 1, 2, 3, 4, 5, 6, 7, 8], [0, 1, 2, 3, 4, 5, 6, 7, 8, 13], [0, 1, 2, 3, 4, 5, 6, 7, 8, 13, 14], [0, 1, 2, 3, 4, 5, 6, 7, 8], [0, 1, 2, 3, 4, 5, 6, 7, 8], [0, 1, 2, 3, 4, 5, 6, 7, 8, 16, 17], [0, 1, 2, 3, 4, 5, 6, 7, 8, 13, 14, 15, 16, 17, 18], [0, 1, 2, 3, 4, 5, 6, 7, 8, 11, 12, 13, 14, 15, 16, 17, 18, 19], [0, 1, 2, 3, 4, 5, 6, 7, 8, 11, 12, 13, 14, 15, 16, 17, 18, 19, 20], [0, 1, 2, 3, 4, 5, 6, 7, 8, 9, 10, 11, 12, 13, 14, 15, 16, 17, 18, 19, 20, 21], [0, 1, 2, 3, 4, 5, 6, 7, 8, 9, 10, 11, 12, 13, 14, 15, 16, 17, 18, 19, 20, 21, 22], [0, 1, 2, 3, 4, 5, 6, 7, 8, 9, 10, 11, 12, 13, 14, 15, 16, 17, 18, 19, 20, 21, 22, 23]] _ (Chg NoB) (Steady.chg NoB) [] [(5, (fun v _ => v = .int .i64 ((l.drop 12).length : Nat))), (10, (fun v w' => Bs S w' v (l.take 12))), (12, (fun v w' => Bs S w' v (l.take 4))), (14, (fun v w' => Bs S w' v (l.take 4))), (15, (fun v w' => Bs AnyB w' v (sumB (l.take 4)))), (18, (fun v w' => Bs AnyB w' v ((l.drop 12).take (numOf (l.take 4))))), (19, (fun v w' => Bs AnyB w' v (sumB ((l.drop 12).take (numOf (l.take 4)))))), (20, (fun v w' => Rows AnyB w' v [l.take 4, sumB (l.take 4), sumB ((l.drop 12).take (numOf (l.take 4)))])), (21, (fun v w' => Bs AnyB w' v (l.take 4 ++ sumB (l.take 4) ++ sumB ((l.drop 12).take (numOf (l.take 4))))))] [0, 1, 2, 3, 4, 5, 6, 7, 8, 9, 10, 11, 12, 13, 14, 15, 16, 17, 18, 19, 20, 21] fol (by kernel_rfl) (by rfl) (by rfl) ⟨(fun _ _ _ _ h => h), (fun v w1 w2 hE h => h.ext hE), (fun v w1 w2 hE h => h.ext hE), (fun v w1 w2 hE h => h.ext hE), (fun v w1 w2 hE h => h.ext hE), (fun v w1 w2 hE h => h.ext hE), (fun v w1 w2 hE h => h.ext hE), (fun v w1 w2 hE h => h.ext hE), (fun v w1 w2 hE h => h.ext hE), trivial⟩ ⟨?_, ?_, ?_, ?_, ?_, ?_, ?_, ?_, ?_, ?_, ?_, ?_, ?_, ?_, ?_, ?_, ?_, ?_, ?_, ?_, ?_, ?_, trivial⟩ ?_
 ·intro aD5 wD5 haD5 hCD5 hrD5
  refine ⟨rfl, ?_⟩
  refine XD.start haD5 ?_
  apply XD.stepP rfl
  intro w3
  refine Y.move (by rfl) ?_
  exact ⟨rfl, rfl⟩
 ·intro aD5 wD5 haD5 hCD5 hrD5
  obtain ⟨r0, -⟩ := hrD5
  refine ⟨rfl, ?_⟩
  refine XD.start haD5 ?_
  refine XD.pure r0 ?_
  refine Y.move (by rfl) ?_
  apply XD.stepP rfl
  intro w3
  refine Y.gtr (by rfl) (by rfl) ?_
  exact ⟨rfl, rfl⟩
 ·intro aD5 wD5 haD5 hCD5 hrD5
  obtain ⟨r0, r1, -⟩ := hrD5
  refine ⟨rfl, ?_⟩
  refine XD.start haD5 ?_
  refine XD.pure r0 ?_
  refine Y.move (by rfl) ?_
  refine XD.pure r1 ?_
  refine Y.gtr (by rfl) (by rfl) ?_
  apply XD.stepP rfl
  intro w3
  refine Y.move (by rfl) ?_
  exact ⟨rfl, rfl⟩
 ·intro aD5 wD5 haD5 hCD5 hrD5
  obtain ⟨r0, r1, r2, -⟩ := hrD5
  refine XD.start haD5 ?_
  refine XD.pure r0 ?_
  refine Y.move (by rfl) ?_
  refine XD.pure r1 ?_
  refine Y.gtr (by rfl) (by rfl) ?_
  refine XD.pure r2 ?_
  refine Y.move (by rfl) ?_
  refine XD.wantT rfl rfl (by rfl) ya ?_
  apply XD.stepP rfl
  intro w3
  refine Y.move (by rfl) ?_
  exact ⟨rfl, rfl⟩
 ·intro aD5 wD5 haD5 hCD5 hrD5
  obtain ⟨r0, r1, r2, -⟩ := hrD5
  refine XD.start haD5 ?_
  refine XD.pure r0 ?_
  refine Y.move (by rfl) ?_
  refine XD.pure r1 ?_
  refine Y.gtr (by rfl) (by rfl) ?_
  refine XD.pure r2 ?_
  refine Y.move (by rfl) ?_
  refine XD.wantT rfl rfl (by rfl) ya ?_
  apply XD.stepP rfl
  intro w3
  refine Y.move (by rfl) ?_
  exact ⟨rfl, rfl⟩
 ·intro aD5 wD5 haD5 hCD5 hrD5
  obtain ⟨r0, r1, r2, r4, -⟩ := hrD5
  replace hr := hr.ext hCD5
  replace hN20 := hN20.ext hCD5
  replace hE := hE.ext hCD5
  refine XD.start haD5 ?_
  refine XD.pure r0 ?_
  refine Y.move (by rfl) ?_
  refine XD.pure r1 ?_
  refine Y.gtr (by rfl) (by rfl) ?_
  refine XD.pure r2 ?_
  refine Y.move (by rfl) ?_
  refine XD.pure r4 ?_
  refine Y.move (by rfl) ?_
  refine XD.wantT rfl rfl (by rfl) ya ?_
  refine XD.stepI ?_
  refine Y.len Tryz.underlying39 (by rfl) hN20.row ?_
  exact ⟨Chg.refl _ _, rfl⟩
 ·intro aD5 wD5 haD5 hCD5 hrD5
  obtain ⟨r0, r1, r2, r3, r4, r5, -⟩ := hrD5
  replace hr := hr.ext hCD5
  replace hN20 := hN20.ext hCD5
  replace hE := hE.ext hCD5
  refine XD.start haD5 ?_
  refine XD.pure r0 ?_
  refine Y.move (by rfl) ?_
  refine XD.pure r1 ?_
  refine Y.gtr (by rfl) (by rfl) ?_
  refine XD.pure r2 ?_
  refine Y.move (by rfl) ?_
  refine XD.pure r3 ?_
  refine Y.move (by rfl) ?_
  refine XD.pure r4 ?_
  refine Y.move (by rfl) ?_
  refine XD.imp r5 ?_
  rintro _ rfl
  refine XD.wantT rfl rfl (by rfl) ya ?_
  apply XD.stepP rfl
  intro w3
  refine Y.gtr (by rfl) (by rfl) ?_
  exact ⟨rfl, rfl⟩
 ·intro aD5 wD5 haD5 hCD5 hrD5
  obtain ⟨r0, r1, r2, r3, r4, r5, r6, -⟩ := hrD5
  replace hr := hr.ext hCD5
  replace hN20 := hN20.ext hCD5
  replace hE := hE.ext hCD5
  refine ⟨rfl, ?_⟩
  refine XD.start haD5 ?_
  refine XD.pure r0 ?_
  refine Y.move (by rfl) ?_
  refine XD.pure r1 ?_
  refine Y.gtr (by rfl) (by rfl) ?_
  refine XD.pure r2 ?_
  refine Y.move (by rfl) ?_
  refine XD.pure r3 ?_
  refine Y.move (by rfl) ?_
  refine XD.pure r4 ?_
  refine Y.move (by rfl) ?_
  refine XD.imp r5 ?_
  rintro _ rfl
  refine XD.pure r6 ?_
  refine Y.gtr (by rfl) (by rfl) ?_
  apply XD.stepP rfl
  intro w3
  refine Y.pickF (by rfl) ya (by rfl) ?_
  exact ⟨rfl, rfl⟩
 ·intro aD5 wD5 haD5 hCD5 hrD5
  obtain ⟨r0, r1, r2, r3, r4, r5, r6, r7, -⟩ := hrD5
  replace hr := hr.ext hCD5
  replace hN20 := hN20.ext hCD5
  replace hE := hE.ext hCD5
  refine ⟨rfl, ?_⟩
  refine XD.start haD5 ?_
  refine XD.pure r0 ?_
  refine Y.move (by rfl) ?_
  refine XD.pure r1 ?_
  refine Y.gtr (by rfl) (by rfl) ?_
  refine XD.pure r2 ?_
  refine Y.move (by rfl) ?_
  refine XD.pure r3 ?_
  refine Y.move (by rfl) ?_
  refine XD.pure r4 ?_
  refine Y.move (by rfl) ?_
  refine XD.imp r5 ?_
  rintro _ rfl
  refine XD.pure r6 ?_
  refine Y.gtr (by rfl) (by rfl) ?_
  refine XD.pure r7 ?_
  refine Y.pickF (by rfl) ya (by rfl) ?_
  apply XD.stepP rfl
  intro w3
  refine Y.move (by rfl) ?_
  exact ⟨rfl, rfl⟩
 ·intro aD5 wD5 haD5 hCD5 hrD5
  obtain ⟨r0, r1, r2, r3, r4, r5, r6, r7, r8, -⟩ := hrD5
  replace hr := hr.ext hCD5
  replace hN20 := hN20.ext hCD5
  replace hE := hE.ext hCD5
  refine XD.start haD5 ?_
  refine XD.pure r0 ?_
  refine Y.move (by rfl) ?_
  refine XD.pure r1 ?_
  refine Y.gtr (by rfl) (by rfl) ?_
  refine XD.pure r2 ?_
  refine Y.move (by rfl) ?_
  refine XD.pure r3 ?_
  refine Y.move (by rfl) ?_
  refine XD.pure r4 ?_
  refine Y.move (by rfl) ?_
  refine XD.imp r5 ?_
  rintro _ rfl
  refine XD.pure r6 ?_
  refine Y.gtr (by rfl) (by rfl) ?_
  refine XD.pure r7 ?_
  refine Y.pickF (by rfl) ya (by rfl) ?_
  refine XD.pure r8 ?_
  refine Y.move (by rfl) ?_
  refine XD.wantT rfl rfl (by rfl) ya ?_
  apply XD.stepP rfl
  intro w3
  refine Y.move (by rfl) ?_
  exact ⟨rfl, rfl⟩
 ·intro aD5 wD5 haD5 hCD5 hrD5
  obtain ⟨r0, r1, r2, r3, r4, r5, r6, r7, r8, r9, -⟩ := hrD5
  replace hr := hr.ext hCD5
  replace hN20 := hN20.ext hCD5
  replace hE := hE.ext hCD5
  refine XD.start haD5 ?_
  refine XD.pure r0 ?_
  refine Y.move (by rfl) ?_
  refine XD.pure r1 ?_
  refine Y.gtr (by rfl) (by rfl) ?_
  refine XD.pure r2 ?_
  refine Y.move (by rfl) ?_
  refine XD.pure r3 ?_
  refine Y.move (by rfl) ?_
  refine XD.pure r4 ?_
  refine Y.move (by rfl) ?_
  refine XD.imp r5 ?_
  rintro _ rfl
  refine XD.pure r6 ?_
  refine Y.gtr (by rfl) (by rfl) ?_
  refine XD.pure r7 ?_
  refine Y.pickF (by rfl) ya (by rfl) ?_
  refine XD.pure r8 ?_
  refine Y.move (by rfl) ?_
  refine XD.pure r9 ?_
  refine Y.move (by rfl) ?_
  refine XD.wantT rfl rfl (by rfl) ya ?_
  refine XD.stepI ?_
  refine Y.sliceToB st39 (by rfl) hr (by rfl) (by first | rfl | exact bnd_nat) (by omega) ?_
  intro v31 hr31
  try simp only [Int.toNat_natCast, Int.reduceToNat] at hr31
  exact ⟨Chg.refl _ _, hr31⟩
 ·intro aD5 wD5 haD5 hCD5 hrD5
  obtain ⟨r0, r1, r2, r3, r4, r5, r6, r7, r8, -⟩ := hrD5
  replace hr := hr.ext hCD5
  replace hN20 := hN20.ext hCD5
  replace hE := hE.ext hCD5
  refine XD.start haD5 ?_
  refine XD.pure r0 ?_
  refine Y.move (by rfl) ?_
  refine XD.pure r1 ?_
  refine Y.gtr (by rfl) (by rfl) ?_
  refine XD.pure r2 ?_
  refine Y.move (by rfl) ?_
  refine XD.pure r3 ?_
  refine Y.move (by rfl) ?_
  refine XD.pure r4 ?_
  refine Y.move (by rfl) ?_
  refine XD.imp r5 ?_
  rintro _ rfl
  refine XD.pure r6 ?_
  refine Y.gtr (by rfl) (by rfl) ?_
  refine XD.pure r7 ?_
  refine Y.pickF (by rfl) ya (by rfl) ?_
  refine XD.pure r8 ?_
  refine Y.move (by rfl) ?_
  refine XD.wantT rfl rfl (by rfl) ya ?_
  apply XD.stepP rfl
  intro w3
  refine Y.move (by rfl) ?_
  exact ⟨rfl, rfl⟩
 ·intro aD5 wD5 haD5 hCD5 hrD5
  obtain ⟨r0, r1, r2, r3, r4, r5, r6, r7, r8, r11, -⟩ := hrD5
  replace hr := hr.ext hCD5
  replace hN20 := hN20.ext hCD5
  replace hE := hE.ext hCD5
  refine XD.start haD5 ?_
  refine XD.pure r0 ?_
  refine Y.move (by rfl) ?_
  refine XD.pure r1 ?_
  refine Y.gtr (by rfl) (by rfl) ?_
  refine XD.pure r2 ?_
  refine Y.move (by rfl) ?_
  refine XD.pure r3 ?_
  refine Y.move (by rfl) ?_
  refine XD.pure r4 ?_
  refine Y.move (by rfl) ?_
  refine XD.imp r5 ?_
  rintro _ rfl
  refine XD.pure r6 ?_
  refine Y.gtr (by rfl) (by rfl) ?_
  refine XD.pure r7 ?_
  refine Y.pickF (by rfl) ya (by rfl) ?_
  refine XD.pure r8 ?_
  refine Y.move (by rfl) ?_
  refine XD.pure r11 ?_
  refine Y.move (by rfl) ?_
  refine XD.wantT rfl rfl (by rfl) ya ?_
  refine XD.stepI ?_
  refine Y.sliceToB st39 (by rfl) hr (by rfl) (by first | rfl | exact bnd_nat) (by omega) ?_
  intro v33 hr33
  try simp only [Int.toNat_natCast, Int.reduceToNat] at hr33
  exact ⟨Chg.refl _ _, hr33⟩
 ·intro aD5 wD5 haD5 hCD5 hrD5
  obtain ⟨r0, r1, r2, r3, r4, r5, r6, r7, r8, -⟩ := hrD5
  replace hr := hr.ext hCD5
  replace hN20 := hN20.ext hCD5
  replace hE := hE.ext hCD5
  refine XD.start haD5 ?_
  refine XD.pure r0 ?_
  refine Y.move (by rfl) ?_
  refine XD.pure r1 ?_
  refine Y.gtr (by rfl) (by rfl) ?_
  refine XD.pure r2 ?_
  refine Y.move (by rfl) ?_
  refine XD.pure r3 ?_
  refine Y.move (by rfl) ?_
  refine XD.pure r4 ?_
  refine Y.move (by rfl) ?_
  refine XD.imp r5 ?_
  rintro _ rfl
  refine XD.pure r6 ?_
  refine Y.gtr (by rfl) (by rfl) ?_
  refine XD.pure r7 ?_
  refine Y.pickF (by rfl) ya (by rfl) ?_
  refine XD.pure r8 ?_
  refine Y.move (by rfl) ?_
  refine XD.wantT rfl rfl (by rfl) ya ?_
  apply XD.stepP rfl
  intro w3
  refine Y.move (by rfl) ?_
  exact ⟨rfl, rfl⟩
 ·intro aD5 wD5 haD5 hCD5 hrD5
  obtain ⟨r0, r1, r2, r3, r4, r5, r6, r7, r8, r13, -⟩ := hrD5
  replace hr := hr.ext hCD5
  replace hN20 := hN20.ext hCD5
  replace hE := hE.ext hCD5
  refine XD.start haD5 ?_
  refine XD.pure r0 ?_
  refine Y.move (by rfl) ?_
  refine XD.pure r1 ?_
  refine Y.gtr (by rfl) (by rfl) ?_
  refine XD.pure r2 ?_
  refine Y.move (by rfl) ?_
  refine XD.pure r3 ?_
  refine Y.move (by rfl) ?_
  refine XD.pure r4 ?_
  refine Y.move (by rfl) ?_
  refine XD.imp r5 ?_
  rintro _ rfl
  refine XD.pure r6 ?_
  refine Y.gtr (by rfl) (by rfl) ?_
  refine XD.pure r7 ?_
  refine Y.pickF (by rfl) ya (by rfl) ?_
  refine XD.pure r8 ?_
  refine Y.move (by rfl) ?_
  refine XD.pure r13 ?_
  refine Y.move (by rfl) ?_
  refine XD.wantT rfl rfl (by rfl) ya ?_
  refine XD.stepI ?_
  refine Y.sliceToB st39 (by rfl) hr (by rfl) (by first | rfl | exact bnd_nat) (by omega) ?_
  intro v35 hr35
  try simp only [Int.toNat_natCast, Int.reduceToNat] at hr35
  exact ⟨Chg.refl _ _, hr35⟩
 ·intro aD5 wD5 haD5 hCD5 hrD5
  obtain ⟨r0, r1, r2, r3, r4, r5, r6, r7, r8, r13, r14, -⟩ := hrD5
  replace hr := hr.ext hCD5
  replace hN20 := hN20.ext hCD5
  replace hE := hE.ext hCD5
  refine XD.start haD5 ?_
  refine XD.pure r0 ?_
  refine Y.move (by rfl) ?_
  refine XD.pure r1 ?_
  refine Y.gtr (by rfl) (by rfl) ?_
  refine XD.pure r2 ?_
  refine Y.move (by rfl) ?_
  refine XD.pure r3 ?_
  refine Y.move (by rfl) ?_
  refine XD.pure r4 ?_
  refine Y.move (by rfl) ?_
  refine XD.imp r5 ?_
  rintro _ rfl
  refine XD.pure r6 ?_
  refine Y.gtr (by rfl) (by rfl) ?_
  refine XD.pure r7 ?_
  refine Y.pickF (by rfl) ya (by rfl) ?_
  refine XD.pure r8 ?_
  refine Y.move (by rfl) ?_
  refine XD.pure r13 ?_
  refine Y.move (by rfl) ?_
  refine XD.imp r14 ?_
  rintro v35 hr35
  refine XD.wantT rfl rfl (by rfl) ya ?_
  refine XD.stepI ?_
  refine Y.call (by rfl) ok82 (fsum_ok _ _ _ _ hr35) ?_
  rintro v36 w36 hN36
  exact ⟨hN36.1, hN36.bs.any⟩
 ·intro aD5 wD5 haD5 hCD5 hrD5
  obtain ⟨r0, r1, r2, r3, r4, r5, r6, r7, r8, -⟩ := hrD5
  replace hr := hr.ext hCD5
  replace hN20 := hN20.ext hCD5
  replace hE := hE.ext hCD5
  refine XD.start haD5 ?_
  refine XD.pure r0 ?_
  refine Y.move (by rfl) ?_
  refine XD.pure r1 ?_
  refine Y.gtr (by rfl) (by rfl) ?_
  refine XD.pure r2 ?_
  refine Y.move (by rfl) ?_
  refine XD.pure r3 ?_
  refine Y.move (by rfl) ?_
  refine XD.pure r4 ?_
  refine Y.move (by rfl) ?_
  refine XD.imp r5 ?_
  rintro _ rfl
  refine XD.pure r6 ?_
  refine Y.gtr (by rfl) (by rfl) ?_
  refine XD.pure r7 ?_
  refine Y.pickF (by rfl) ya (by rfl) ?_
  refine XD.pure r8 ?_
  refine Y.move (by rfl) ?_
  refine XD.wantT rfl rfl (by rfl) ya ?_
  apply XD.stepP rfl
  intro w3
  refine Y.move (by rfl) ?_
  exact ⟨rfl, rfl⟩
 ·intro aD5 wD5 haD5 hCD5 hrD5
  obtain ⟨r0, r1, r2, r3, r4, r5, r6, r7, r8, -⟩ := hrD5
  replace hr := hr.ext hCD5
  replace hN20 := hN20.ext hCD5
  replace hE := hE.ext hCD5
  refine XD.start haD5 ?_
  refine XD.pure r0 ?_
  refine Y.move (by rfl) ?_
  refine XD.pure r1 ?_
  refine Y.gtr (by rfl) (by rfl) ?_
  refine XD.pure r2 ?_
  refine Y.move (by rfl) ?_
  refine XD.pure r3 ?_
  refine Y.move (by rfl) ?_
  refine XD.pure r4 ?_
  refine Y.move (by rfl) ?_
  refine XD.imp r5 ?_
  rintro _ rfl
  refine XD.pure r6 ?_
  refine Y.gtr (by rfl) (by rfl) ?_
  refine XD.pure r7 ?_
  refine Y.pickF (by rfl) ya (by rfl) ?_
  refine XD.pure r8 ?_
  refine Y.move (by rfl) ?_
  refine XD.wantT rfl rfl (by rfl) ya ?_
  apply XD.stepP rfl
  intro w3
  refine Y.move (by rfl) ?_
  exact ⟨rfl, rfl⟩
 ·intro aD5 wD5 haD5 hCD5 hrD5
  obtain ⟨r0, r1, r2, r3, r4, r5, r6, r7, r8, r16, r17, -⟩ := hrD5
  replace hr := hr.ext hCD5
  replace hN20 := hN20.ext hCD5
  replace hE := hE.ext hCD5
  refine XD.start haD5 ?_
  refine XD.pure r0 ?_
  refine Y.move (by rfl) ?_
  refine XD.pure r1 ?_
  refine Y.gtr (by rfl) (by rfl) ?_
  refine XD.pure r2 ?_
  refine Y.move (by rfl) ?_
  refine XD.pure r3 ?_
  refine Y.move (by rfl) ?_
  refine XD.pure r4 ?_
  refine Y.move (by rfl) ?_
  refine XD.imp r5 ?_
  rintro _ rfl
  refine XD.pure r6 ?_
  refine Y.gtr (by rfl) (by rfl) ?_
  refine XD.pure r7 ?_
  refine Y.pickF (by rfl) ya (by rfl) ?_
  refine XD.pure r8 ?_
  refine Y.move (by rfl) ?_
  refine XD.pure r16 ?_
  refine Y.move (by rfl) ?_
  refine XD.pure r17 ?_
  refine Y.move (by rfl) ?_
  refine XD.wantT rfl rfl (by rfl) ya ?_
  refine XD.stepI ?_
  refine Y.sliceToB st39 (by rfl) hN20.bs (by rfl) (by first | rfl | exact bnd_nat) (by omega) ?_
  intro v39 hr39
  try simp only [Int.toNat_natCast, Int.reduceToNat] at hr39
  exact ⟨Chg.refl _ _, hr39.any⟩
 ·intro aD5 wD5 haD5 hCD5 hrD5
  obtain ⟨r0, r1, r2, r3, r4, r5, r6, r7, r8, r13, r14, r15, r16, r17, r18, -⟩ := hrD5
  replace hr := hr.ext hCD5
  replace hN20 := hN20.ext hCD5
  replace hE := hE.ext hCD5
  refine XD.start haD5 ?_
  refine XD.pure r0 ?_
  refine Y.move (by rfl) ?_
  refine XD.pure r1 ?_
  refine Y.gtr (by rfl) (by rfl) ?_
  refine XD.pure r2 ?_
  refine Y.move (by rfl) ?_
  refine XD.pure r3 ?_
  refine Y.move (by rfl) ?_
  refine XD.pure r4 ?_
  refine Y.move (by rfl) ?_
  refine XD.imp r5 ?_
  rintro _ rfl
  refine XD.pure r6 ?_
  refine Y.gtr (by rfl) (by rfl) ?_
  refine XD.pure r7 ?_
  refine Y.pickF (by rfl) ya (by rfl) ?_
  refine XD.pure r8 ?_
  refine Y.move (by rfl) ?_
  refine XD.pure r13 ?_
  refine Y.move (by rfl) ?_
  refine XD.imp r14 ?_
  rintro v35 hr35
  refine XD.imp r15 ?_
  rintro v36 hr36
  refine XD.pure r16 ?_
  refine Y.move (by rfl) ?_
  refine XD.pure r17 ?_
  refine Y.move (by rfl) ?_
  refine XD.imp r18 ?_
  rintro v39 hr39
  refine XD.wantT rfl rfl (by rfl) ya ?_
  refine XD.stepI ?_
  refine Y.call (by rfl) ok82 (fsum_ok _ _ _ _ hr39) ?_
  rintro v40 w40 hN40
  exact ⟨hN40.1, hN40.bs.any⟩
 ·intro aD5 wD5 haD5 hCD5 hrD5
  obtain ⟨r0, r1, r2, r3, r4, r5, r6, r7, r8, r11, r12, r13, r14, r15, r16, r17, r18, r19, -⟩ := hrD5
  replace hr := hr.ext hCD5
  replace hN20 := hN20.ext hCD5
  replace hE := hE.ext hCD5
  refine XD.start haD5 ?_
  refine XD.pure r0 ?_
  refine Y.move (by rfl) ?_
  refine XD.pure r1 ?_
  refine Y.gtr (by rfl) (by rfl) ?_
  refine XD.pure r2 ?_
  refine Y.move (by rfl) ?_
  refine XD.pure r3 ?_
  refine Y.move (by rfl) ?_
  refine XD.pure r4 ?_
  refine Y.move (by rfl) ?_
  refine XD.imp r5 ?_
  rintro _ rfl
  refine XD.pure r6 ?_
  refine Y.gtr (by rfl) (by rfl) ?_
  refine XD.pure r7 ?_
  refine Y.pickF (by rfl) ya (by rfl) ?_
  refine XD.pure r8 ?_
  refine Y.move (by rfl) ?_
  refine XD.pure r11 ?_
  refine Y.move (by rfl) ?_
  refine XD.imp r12 ?_
  rintro v33 hr33
  refine XD.pure r13 ?_
  refine Y.move (by rfl) ?_
  refine XD.imp r14 ?_
  rintro v35 hr35
  refine XD.imp r15 ?_
  rintro v36 hr36
  refine XD.pure r16 ?_
  refine Y.move (by rfl) ?_
  refine XD.pure r17 ?_
  refine Y.move (by rfl) ?_
  refine XD.imp r18 ?_
  rintro v39 hr39
  refine XD.imp r19 ?_
  rintro v40 hr40
  refine XD.wantT rfl rfl (by rfl) ya ?_
  refine XD.stepI ?_
  refine Y.buildSlice st37 (by rfl) (by rfl) (by omega) (by simp [hr33.oneC, hr36.oneC, hr40.oneC]) ?_
  intro v41 w41 hN41
  exact ⟨hN41.1, _, hN41.row.any, (hr33.ext hN41.1).any, (hr36.ext hN41.1).any, (hr40.ext hN41.1).any, trivial⟩
 ·intro aD5 wD5 haD5 hCD5 hrD5
  obtain ⟨r0, r1, r2, r3, r4, r5, r6, r7, r8, r11, r12, r13, r14, r15, r16, r17, r18, r19, r20, -⟩ := hrD5
  replace hr := hr.ext hCD5
  replace hN20 := hN20.ext hCD5
  replace hE := hE.ext hCD5
  refine XD.start haD5 ?_
  refine XD.pure r0 ?_
  refine Y.move (by rfl) ?_
  refine XD.pure r1 ?_
  refine Y.gtr (by rfl) (by rfl) ?_
  refine XD.pure r2 ?_
  refine Y.move (by rfl) ?_
  refine XD.pure r3 ?_
  refine Y.move (by rfl) ?_
  refine XD.pure r4 ?_
  refine Y.move (by rfl) ?_
  refine XD.imp r5 ?_
  rintro _ rfl
  refine XD.pure r6 ?_
  refine Y.gtr (by rfl) (by rfl) ?_
  refine XD.pure r7 ?_
  refine Y.pickF (by rfl) ya (by rfl) ?_
  refine XD.pure r8 ?_
  refine Y.move (by rfl) ?_
  refine XD.pure r11 ?_
  refine Y.move (by rfl) ?_
  refine XD.imp r12 ?_
  rintro v33 hr33
  refine XD.pure r13 ?_
  refine Y.move (by rfl) ?_
  refine XD.imp r14 ?_
  rintro v35 hr35
  refine XD.imp r15 ?_
  rintro v36 hr36
  refine XD.pure r16 ?_
  refine Y.move (by rfl) ?_
  refine XD.pure r17 ?_
  refine Y.move (by rfl) ?_
  refine XD.imp r18 ?_
  rintro v39 hr39
  refine XD.imp r19 ?_
  rintro v40 hr40
  refine XD.imp r20 ?_
  rintro v41 hr41
  refine XD.wantT rfl rfl (by rfl) ya ?_
  refine XD.stepI ?_
  refine Y.call (by rfl) ok81 (concat_ok _ _ _ _ hr41 (by simp [sumB_length]; omega)) ?_
  rintro v42 w42 hN42
  exact ⟨hN42.1, (hN42.bs.any).cast (by simp) (by simp)⟩
 intro aD5 wD5 haD5 hCD5 hrD5
 obtain ⟨r0, r1, r2, r3, r4, r5, r6, r7, r8, r9, r10, r11, r12, r13, r14, r15, r16, r17, r18, r19, r20, r21, -⟩ := hrD5
 replace hr := hr.ext hCD5
 replace hN20 := hN20.ext hCD5
 replace hE := hE.ext hCD5
 refine XD.start haD5 ?_
 refine XD.pure r0 ?_
 refine Y.move (by rfl) ?_
 refine XD.pure r1 ?_
 refine Y.gtr (by rfl) (by rfl) ?_
 refine XD.pure r2 ?_
 refine Y.move (by rfl) ?_
 refine XD.pure r3 ?_
 refine Y.move (by rfl) ?_
 refine XD.pure r4 ?_
 refine Y.move (by rfl) ?_
 refine XD.imp r5 ?_
 rintro _ rfl
 refine XD.pure r6 ?_
 refine Y.gtr (by rfl) (by rfl) ?_
 refine XD.pure r7 ?_
 refine Y.pickF (by rfl) ya (by rfl) ?_
 refine XD.pure r8 ?_
 refine Y.move (by rfl) ?_
 refine XD.pure r9 ?_
 refine Y.move (by rfl) ?_
 refine XD.imp r10 ?_
 rintro v31 hr31
 refine XD.pure r11 ?_
 refine Y.move (by rfl) ?_
 refine XD.imp r12 ?_
 rintro v33 hr33
 refine XD.pure r13 ?_
 refine Y.move (by rfl) ?_
 refine XD.imp r14 ?_
 rintro v35 hr35
 refine XD.imp r15 ?_
 rintro v36 hr36
 refine XD.pure r16 ?_
 refine Y.move (by rfl) ?_
 refine XD.pure r17 ?_
 refine Y.move (by rfl) ?_
 refine XD.imp r18 ?_
 rintro v39 hr39
 refine XD.imp r19 ?_
 rintro v40 hr40
 refine XD.imp r20 ?_
 rintro v41 hr41
 refine XD.imp r21 ?_
 rintro v42 hr42
 refine XD.fin haD5 ?_
 show XL _ _ _ _ (List.cons _ _) _ _
 refine XL.gt rfl rfl ya rfl ?_
 refine Y.call (by rfl) ok75 (equalB_ok _ _ _ _ _ _ _ hr31 hr42) ?_
 rintro _ w43 ⟨rfl, hE43⟩
 replace hr := hr.ext hE43
 replace hN20 := hN20.ext hE43
 replace hE := hE.ext hE43
 refine XL.gt rfl rfl ya rfl ?_
 refine Y.not (by rfl) ?_
 refine XL.s rfl ?_
 refine Y.pickF (by rfl) ya (by rfl) ?_
 refine XL.nil ?_
 refine QN.next ?_
 refine XC.condF rfl (show (!headOK l) = false from by rw [h3]; rfl) ?_
 have hB : Bs (Since w) w43 v20 (l.drop 12) := hN20.bs.sinceOf hN14.1.size
 refine XC.skip ?_
 refine QN.next ?_
 refine XC.seq ?_
 apply XC.drop [2, 6, 7, 9, 10, 11, 12, 13, 14, 15, 16, 17, 18, 19, 20, 21, 22, 23, 24, 25, 26, 27, 28, 29, 30, 31, 32, 33, 34, 35, 36, 37, 38, 39, 40, 41, 42, 43, 44, 45, 46, 47, 48, 49, 50, 51, 52]
 ·repeat (first | apply DropTo.nil | apply DropTo.skip rfl | apply DropTo.keep rfl)
 refine XC.drawL 8 [[], [], [], [0, 1, 2], [], [], [4, 5], [0, 1, 2, 3], [0, 1, 2, 3, 4, 5, 6, 7], [0, 1, 2, 3, 4, 5, 6, 7, 8]] _ (Chg NoB) (Steady.chg NoB) [] [(3, (fun v w' => Bs (Since w) w' v ((l.drop 12).take (numOf (l.take 4))))), (6, (fun v w' => Bs (Since w) w' v ((l.drop 12).drop (numOf (l.take 4)))))] [0, 1, 2, 3, 4, 5, 6, 7] fol (by kernel_rfl) (by rfl) (by rfl) ⟨(fun v w1 w2 hE h => h.ext hE), (fun v w1 w2 hE h => h.ext hE), trivial⟩ ⟨?_, ?_, ?_, ?_, ?_, ?_, ?_, ?_, trivial⟩ ?_
 ·intro aD7 wD7 haD7 hCD7 hrD7
  refine ⟨rfl, ?_⟩
  refine XD.start haD7 ?_
  apply XD.stepP rfl
  intro w3
  refine Y.move (by rfl) ?_
  exact ⟨rfl, rfl⟩
 ·intro aD7 wD7 haD7 hCD7 hrD7
  refine ⟨rfl, ?_⟩
  refine XD.start haD7 ?_
  apply XD.stepP rfl
  intro w3
  refine Y.move (by rfl) ?_
  exact ⟨rfl, rfl⟩
 ·intro aD7 wD7 haD7 hCD7 hrD7
  refine ⟨rfl, ?_⟩
  refine XD.start haD7 ?_
  apply XD.stepP rfl
  intro w3
  refine Y.move (by rfl) ?_
  exact ⟨rfl, rfl⟩
 ·intro aD7 wD7 haD7 hCD7 hrD7
  obtain ⟨r0, r1, r2, -⟩ := hrD7
  replace hr := hr.ext hCD7
  replace hN20 := hN20.ext hCD7
  replace hE := hE.ext hCD7
  replace hB := hB.ext hCD7
  refine ⟨rfl, ?_⟩
  refine XD.start haD7 ?_
  refine XD.pure r0 ?_
  refine Y.move (by rfl) ?_
  refine XD.pure r1 ?_
  refine Y.move (by rfl) ?_
  refine XD.pure r2 ?_
  refine Y.move (by rfl) ?_
  refine XD.stepI ?_
  refine Y.slice3B st39 (by rfl) hB (by rfl) (by rfl) (by first | rfl | exact bnd_nat) (by omega) ?_
  intro v49 hr49; exact ⟨Chg.refl _ _, hr49⟩
 ·intro aD7 wD7 haD7 hCD7 hrD7
  refine ⟨rfl, ?_⟩
  refine XD.start haD7 ?_
  apply XD.stepP rfl
  intro w3
  refine Y.move (by rfl) ?_
  exact ⟨rfl, rfl⟩
 ·intro aD7 wD7 haD7 hCD7 hrD7
  refine ⟨rfl, ?_⟩
  refine XD.start haD7 ?_
  apply XD.stepP rfl
  intro w3
  refine Y.move (by rfl) ?_
  exact ⟨rfl, rfl⟩
 ·intro aD7 wD7 haD7 hCD7 hrD7
  obtain ⟨r4, r5, -⟩ := hrD7
  replace hr := hr.ext hCD7
  replace hN20 := hN20.ext hCD7
  replace hE := hE.ext hCD7
  replace hB := hB.ext hCD7
  refine ⟨rfl, ?_⟩
  refine XD.start haD7 ?_
  refine XD.pure r4 ?_
  refine Y.move (by rfl) ?_
  refine XD.pure r5 ?_
  refine Y.move (by rfl) ?_
  refine XD.stepI ?_
  refine Y.sliceFromB st39 (by rfl) hB (by rfl) (by first | rfl | exact bnd_nat) (by omega) ?_
  intro v52 hr52
  try simp only [Int.toNat_natCast, Int.reduceToNat] at hr52
  exact ⟨Chg.refl _ _, hr52⟩
 ·intro aD7 wD7 haD7 hCD7 hrD7
  obtain ⟨r0, r1, r2, r3, -⟩ := hrD7
  replace hr := hr.ext hCD7
  replace hN20 := hN20.ext hCD7
  replace hE := hE.ext hCD7
  replace hB := hB.ext hCD7
  refine ⟨rfl, ?_⟩
  refine XD.start haD7 ?_
  refine XD.pure r0 ?_
  refine Y.move (by rfl) ?_
  refine XD.pure r1 ?_
  refine Y.move (by rfl) ?_
  refine XD.pure r2 ?_
  refine Y.move (by rfl) ?_
  refine XD.imp r3 ?_
  rintro v49 hr49
  apply XD.stepP rfl
  intro w3
  refine Y.assign (by rfl) ?_
  exact ⟨rfl, rfl⟩
 intro aD7 wD7 haD7 hCD7 hrD7
 obtain ⟨r0, r1, r2, r3, r4, r5, r6, r7, -⟩ := hrD7
 replace hr := hr.ext hCD7
 replace hN20 := hN20.ext hCD7
 replace hE := hE.ext hCD7
 replace hB := hB.ext hCD7
 refine XD.start haD7 ?_
 refine XD.pure r0 ?_
 refine Y.move (by rfl) ?_
 refine XD.pure r1 ?_
 refine Y.move (by rfl) ?_
 refine XD.pure r2 ?_
 refine Y.move (by rfl) ?_
 refine XD.imp r3 ?_
 rintro v49 hr49
 refine XD.pure r4 ?_
 refine Y.move (by rfl) ?_
 refine XD.pure r5 ?_
 refine Y.move (by rfl) ?_
 refine XD.imp r6 ?_
 rintro v52 hr52
 refine XD.pure r7 ?_
 refine Y.assign (by rfl) ?_
 refine XD.fin haD7 ?_
 show XL _ _ _ _ (List.cons _ _) _ _
 refine XL.s rfl ?_
 refine Y.assign (by rfl) ?_
 refine XL.s rfl ?_
 refine Y.assign (by rfl) ?_
 refine XL.nil ?_
 refine QN.next ?_
 refine XC.ret ?_
 refine QN.doneN (fn := Tryz.f72) (R := R) (.inl rfl) rfl rfl ?_
 refine hR _ _ ?_
 exact ⟨_, _, rfl, hE, hr49, hr52⟩
end Go.Proofs.YtchammpamigonaaGreatX
end
section
set_option linter.unusedVariables false
set_option linter.unusedSimpArgs false
set_option maxRecDepth 10000
set_option maxHeartbeats 4000000
namespace Go.Proofs.YtchammpamigonaaGreatX
open Go Go.RowKit Go.Proofs
theorem fcut_none (S : Nat → Prop) (u : Value) (l : List UInt8) (w : World) (hr : Bs S w u l) (hn : l.length ≤ 140737488355328) (h : cutF l = none) : Rets Tryz.prog 72 #[u] w fun v w' => v = .tuple #[.slice none 0 0, .slice none 0 0, .bool false] ∧ Ext w w' := by
 unfold cutF at h
 split at h
 ·exact fcut_short S u l w hr hn (by omega)
 ·split at h
  ·exact fcut_long S u l w hr hn (by omega) (by omega)
  ·split at h
   ·exact fcut_less S u l w hr hn (by omega) (by omega) (by omega)
   ·split at h
    ·cases h
    ·rename_i hh
     exact fcut_bad S u l w hr hn (by omega) (by omega) (by omega) (by simpa using hh)
theorem fcut_some (S : Nat → Prop) (u : Value) (l : List UInt8) (w : World) (hr : Bs S w u l) (hn : l.length ≤ 140737488355328) (d r : List UInt8) (h : cutF l = some (d, r)) : Rets Tryz.prog 72 #[u] w fun v w' => ∃ a b, v = .tuple #[a, b, .bool true] ∧ Ext w w' ∧ Bs (Since w) w' a d ∧ Bs (Since w) w' b r := by
 unfold cutF at h
 split at h
 ·cases h
 ·split at h
  ·cases h
  ·split at h
   ·cases h
   ·split at h
    ·rename_i hh
     cases h
     exact fcut_ok S u l w hr hn (by omega) (by omega) (by omega) hh
    ·cases h
theorem cutF_le {l d r : List UInt8} (h : cutF l = some (d, r)) : d.length ≤ l.length ∧ r.length ≤ l.length := by
 unfold cutF at h
 split at h
 ·cases h
 ·split at h
  ·cases h
  ·split at h
   ·cases h
   ·split at h
    ·cases h
     simp
     omega
    ·cases h
theorem shard_a (S : Nat → Prop) (u : Value) (i : Nat) (l : List UInt8) (w : World) (hr : Bs S w u l) (hn : l.length ≤ 140737488355328) (hi : i ≤ 1000) (h : cutF l = none) :
  Rets Tryz.prog 45 #[.int .i64 i, u] w fun v w' => v = .slice none 0 0 ∧ Ext w w' := by
 refine Rets.enter (args := [.int .i64 i, u]) (n := 57) Tryz.func45 rfl rfl rfl ?_
 intro R hR
 show XC _ _ _ _ [(0, .int .i64 i), (1, u)] _
 refine XC.seq ?_
 refine XC.region ?_
 show XL _ _ _ _ (List.cons _ _) _ _
 refine XL.s rfl ?_
 refine Y.assign (by rfl) ?_
 refine XL.nil ?_
 refine QN.next ?_
 refine XC.seq ?_
 refine XC.region ?_
 show XL _ _ _ _ (List.cons _ _) _ _
 refine XL.s rfl ?_
 refine Y.move (by rfl) ?_
 refine XL.s rfl ?_
 refine Y.call (by rfl) ok72 (fcut_none _ _ _ _ hr hn h) ?_
 rintro v16 w16 ⟨rfl, hE16⟩
 refine XL.s rfl ?_
 refine Y.move (by rfl) ?_
 refine XL.s rfl ?_
 refine Y.extract (by rfl) (by rfl) ?_
 refine XL.s rfl ?_
 refine Y.extract (by rfl) (by rfl) ?_
 refine XL.s rfl ?_
 refine Y.extract (by rfl) (by rfl) ?_
 refine XL.s rfl ?_
 refine Y.assign (by rfl) ?_
 refine XL.s rfl ?_
 refine Y.assign (by rfl) ?_
 refine XL.s rfl ?_
 refine Y.assign (by rfl) ?_
 refine XL.nil ?_
 refine QN.next ?_
 refine XC.seq ?_
 refine XC.region ?_
 show XL _ _ _ _ (List.cons _ _) _ _
 refine XL.s rfl ?_
 refine Y.move (by rfl) ?_
 refine XL.s rfl ?_
 refine Y.call (by rfl) ok73 (cutNum_no _ _ [] _ (Row.nil AnyB _) (by decide)) ?_
 rintro v22 w22 ⟨rfl, hE22⟩
 refine XL.s rfl ?_
 refine Y.move (by rfl) ?_
 refine XL.s rfl ?_
 refine Y.extract (by rfl) (by rfl) ?_
 refine XL.s rfl ?_
 refine Y.extract (by rfl) (by rfl) ?_
 refine XL.s rfl ?_
 refine Y.extract (by rfl) (by rfl) ?_
 refine XL.s rfl ?_
 refine Y.assign (by rfl) ?_
 refine XL.s rfl ?_
 refine Y.assign (by rfl) ?_
 refine XL.s rfl ?_
 refine Y.assign (by rfl) ?_
 refine XL.nil ?_
 refine QN.next ?_
 refine XC.seq ?_
 refine XC.region ?_
 show XL _ _ _ _ (List.cons _ _) _ _
 refine XL.s rfl ?_
 refine Y.move (by rfl) ?_
 refine XL.s rfl ?_
 refine Y.call (by rfl) ok74 (cutText_short _ _ [] _ (Row.nil AnyB _) (by decide)) ?_
 rintro v28 w28 ⟨rfl, hE28⟩
 refine XL.s rfl ?_
 refine Y.move (by rfl) ?_
 refine XL.s rfl ?_
 refine Y.extract (by rfl) (by rfl) ?_
 refine XL.s rfl ?_
 refine Y.extract (by rfl) (by rfl) ?_
 refine XL.s rfl ?_
 refine Y.extract (by rfl) (by rfl) ?_
 refine XL.s rfl ?_
 refine Y.assign (by rfl) ?_
 refine XL.s rfl ?_
 refine Y.assign (by rfl) ?_
 refine XL.s rfl ?_
 refine Y.assign (by rfl) ?_
 refine XL.nil ?_
 refine QN.next ?_
 refine XC.seq ?_
 refine XC.seq ?_
 refine XC.region ?_
 show XL _ _ _ _ (List.cons _ _) _ _
 refine XL.s rfl ?_
 refine Y.move (by rfl) ?_
 refine XL.s rfl ?_
 refine Y.not (by rfl) ?_
 refine XL.s rfl ?_
 refine Y.move (by rfl) ?_
 refine XL.gf rfl rfl rfl rfl ?_
 refine XL.gf rfl rfl rfl rfl ?_
 refine XL.s rfl ?_
 refine Y.pickT (by rfl) rfl (by rfl) ?_
 refine XL.s rfl ?_
 refine Y.move (by rfl) ?_
 refine XL.gf rfl rfl rfl rfl ?_
 refine XL.gf rfl rfl rfl rfl ?_
 refine XL.s rfl ?_
 refine Y.pickT (by rfl) rfl (by rfl) ?_
 refine XL.s rfl ?_
 refine Y.move (by rfl) ?_
 refine XL.gf rfl rfl rfl rfl ?_
 refine XL.gf rfl rfl rfl rfl ?_
 refine XL.gf rfl rfl rfl rfl ?_
 refine XL.gf rfl rfl rfl rfl ?_
 refine XL.gf rfl rfl rfl rfl ?_
 refine XL.gf rfl rfl rfl rfl ?_
 refine XL.s rfl ?_
 refine Y.pickT (by rfl) rfl (by rfl) ?_
 refine XL.s rfl ?_
 refine Y.move (by rfl) ?_
 refine XL.gf rfl rfl rfl rfl ?_
 refine XL.gf rfl rfl rfl rfl ?_
 refine XL.gf rfl rfl rfl rfl ?_
 refine XL.s rfl ?_
 refine Y.pickT (by rfl) rfl (by rfl) ?_
 refine XL.nil ?_
 refine QN.next ?_
 refine XC.condT rfl rfl ?_
 refine XC.seq ?_
 refine XC.region ?_
 show XL _ _ _ _ (List.cons _ _) _ _
 refine XL.s rfl ?_
 refine Y.assign (by rfl) ?_
 refine XL.nil ?_
 refine QN.next ?_
 refine XC.ret ?_
 refine QN.done1 (fn := Tryz.f45) (R := R) (.inl rfl) rfl rfl ?_
 refine hR _ _ ?_
 exact ⟨rfl, (hE16.trans hE22).trans hE28⟩
theorem shard_b (S : Nat → Prop) (u : Value) (i : Nat) (l : List UInt8) (w : World) (hr : Bs S w u l) (hn : l.length ≤ 140737488355328) (hi : i ≤ 1000) (d r : List UInt8) (h : cutF l = some (d, r)) (h1 : d.length < 4) :
  Rets Tryz.prog 45 #[.int .i64 i, u] w fun v w' => v = .slice none 0 0 ∧ Ext w w' := by
 refine Rets.enter (args := [.int .i64 i, u]) (n := 57) Tryz.func45 rfl rfl rfl ?_
 intro R hR
 show XC _ _ _ _ [(0, .int .i64 i), (1, u)] _
 have hle := cutF_le h
 refine XC.seq ?_
 refine XC.region ?_
 show XL _ _ _ _ (List.cons _ _) _ _
 refine XL.s rfl ?_
 refine Y.assign (by rfl) ?_
 refine XL.nil ?_
 refine QN.next ?_
 refine XC.seq ?_
 refine XC.region ?_
 show XL _ _ _ _ (List.cons _ _) _ _
 refine XL.s rfl ?_
 refine Y.move (by rfl) ?_
 refine XL.s rfl ?_
 refine Y.call (by rfl) ok72 (fcut_some _ _ _ _ hr hn d r h) ?_
 rintro v16 w16 ⟨a16, b16, rfl, hE16, ha, hb⟩
 refine XL.s rfl ?_
 refine Y.move (by rfl) ?_
 refine XL.s rfl ?_
 refine Y.extract (by rfl) (by rfl) ?_
 refine XL.s rfl ?_
 refine Y.extract (by rfl) (by rfl) ?_
 refine XL.s rfl ?_
 refine Y.extract (by rfl) (by rfl) ?_
 refine XL.s rfl ?_
 refine Y.assign (by rfl) ?_
 refine XL.s rfl ?_
 refine Y.assign (by rfl) ?_
 refine XL.s rfl ?_
 refine Y.assign (by rfl) ?_
 refine XL.nil ?_
 refine QN.next ?_
 refine XC.seq ?_
 refine XC.region ?_
 show XL _ _ _ _ (List.cons _ _) _ _
 refine XL.s rfl ?_
 refine Y.move (by rfl) ?_
 refine XL.s rfl ?_
 refine Y.call (by rfl) ok73 (cutNum_no _ _ d _ ha h1) ?_
 rintro v22 w22 ⟨rfl, hE22⟩
 refine XL.s rfl ?_
 refine Y.move (by rfl) ?_
 refine XL.s rfl ?_
 refine Y.extract (by rfl) (by rfl) ?_
 refine XL.s rfl ?_
 refine Y.extract (by rfl) (by rfl) ?_
 refine XL.s rfl ?_
 refine Y.extract (by rfl) (by rfl) ?_
 refine XL.s rfl ?_
 refine Y.assign (by rfl) ?_
 refine XL.s rfl ?_
 refine Y.assign (by rfl) ?_
 refine XL.s rfl ?_
 refine Y.assign (by rfl) ?_
 refine XL.nil ?_
 refine QN.next ?_
 refine XC.seq ?_
 refine XC.region ?_
 show XL _ _ _ _ (List.cons _ _) _ _
 refine XL.s rfl ?_
 refine Y.move (by rfl) ?_
 refine XL.s rfl ?_
 refine Y.call (by rfl) ok74 (cutText_short _ _ [] _ (Row.nil AnyB _) (by decide)) ?_
 rintro v28 w28 ⟨rfl, hE28⟩
 refine XL.s rfl ?_
 refine Y.move (by rfl) ?_
 refine XL.s rfl ?_
 refine Y.extract (by rfl) (by rfl) ?_
 refine XL.s rfl ?_
 refine Y.extract (by rfl) (by rfl) ?_
 refine XL.s rfl ?_
 refine Y.extract (by rfl) (by rfl) ?_
 refine XL.s rfl ?_
 refine Y.assign (by rfl) ?_
 refine XL.s rfl ?_
 refine Y.assign (by rfl) ?_
 refine XL.s rfl ?_
 refine Y.assign (by rfl) ?_
 refine XL.nil ?_
 refine QN.next ?_
 refine XC.seq ?_
 refine XC.seq ?_
 refine XC.region ?_
 show XL _ _ _ _ (List.cons _ _) _ _
 refine XL.s rfl ?_
 refine Y.move (by rfl) ?_
 refine XL.s rfl ?_
 refine Y.not (by rfl) ?_
 refine XL.s rfl ?_
 refine Y.move (by rfl) ?_
 refine XL.gt rfl rfl rfl rfl ?_
 refine Y.move (by rfl) ?_
 refine XL.gt rfl rfl rfl rfl ?_
 refine Y.not (by rfl) ?_
 refine XL.s rfl ?_
 refine Y.pickF (by rfl) rfl (by rfl) ?_
 refine XL.s rfl ?_
 refine Y.move (by rfl) ?_
 refine XL.gf rfl rfl rfl rfl ?_
 refine XL.gf rfl rfl rfl rfl ?_
 refine XL.s rfl ?_
 refine Y.pickT (by rfl) rfl (by rfl) ?_
 refine XL.s rfl ?_
 refine Y.move (by rfl) ?_
 refine XL.gf rfl rfl rfl rfl ?_
 refine XL.gf rfl rfl rfl rfl ?_
 refine XL.gf rfl rfl rfl rfl ?_
 refine XL.gf rfl rfl rfl rfl ?_
 refine XL.gf rfl rfl rfl rfl ?_
 refine XL.gf rfl rfl rfl rfl ?_
 refine XL.s rfl ?_
 refine Y.pickT (by rfl) rfl (by rfl) ?_
 refine XL.s rfl ?_
 refine Y.move (by rfl) ?_
 refine XL.gf rfl rfl rfl rfl ?_
 refine XL.gf rfl rfl rfl rfl ?_
 refine XL.gf rfl rfl rfl rfl ?_
 refine XL.s rfl ?_
 refine Y.pickT (by rfl) rfl (by rfl) ?_
 refine XL.nil ?_
 refine QN.next ?_
 refine XC.condT rfl rfl ?_
 refine XC.seq ?_
 refine XC.region ?_
 show XL _ _ _ _ (List.cons _ _) _ _
 refine XL.s rfl ?_
 refine Y.assign (by rfl) ?_
 refine XL.nil ?_
 refine QN.next ?_
 refine XC.ret ?_
 refine QN.done1 (fn := Tryz.f45) (R := R) (.inl rfl) rfl rfl ?_
 refine hR _ _ ?_
 exact ⟨rfl, (hE16.trans hE22).trans hE28⟩
theorem shard_c (S : Nat → Prop) (u : Value) (i : Nat) (l : List UInt8) (w : World) (hr : Bs S w u l) (hn : l.length ≤ 140737488355328) (hi : i ≤ 1000) (d r : List UInt8) (h : cutF l = some (d, r)) (h1 : 4 ≤ d.length) (h2 : (d.drop 4).length < 4) :
  Rets Tryz.prog 45 #[.int .i64 i, u] w fun v w' => v = .slice none 0 0 ∧ Ext w w' := by
 refine Rets.enter (args := [.int .i64 i, u]) (n := 57) Tryz.func45 rfl rfl rfl ?_
 intro R hR
 show XC _ _ _ _ [(0, .int .i64 i), (1, u)] _
 have hle := cutF_le h
 refine XC.seq ?_
 refine XC.region ?_
 show XL _ _ _ _ (List.cons _ _) _ _
 refine XL.s rfl ?_
 refine Y.assign (by rfl) ?_
 refine XL.nil ?_
 refine QN.next ?_
 refine XC.seq ?_
 refine XC.region ?_
 show XL _ _ _ _ (List.cons _ _) _ _
 refine XL.s rfl ?_
 refine Y.move (by rfl) ?_
 refine XL.s rfl ?_
 refine Y.call (by rfl) ok72 (fcut_some _ _ _ _ hr hn d r h) ?_
 rintro v16 w16 ⟨a16, b16, rfl, hE16, ha, hb⟩
 refine XL.s rfl ?_
 refine Y.move (by rfl) ?_
 refine XL.s rfl ?_
 refine Y.extract (by rfl) (by rfl) ?_
 refine XL.s rfl ?_
 refine Y.extract (by rfl) (by rfl) ?_
 refine XL.s rfl ?_
 refine Y.extract (by rfl) (by rfl) ?_
 refine XL.s rfl ?_
 refine Y.assign (by rfl) ?_
 refine XL.s rfl ?_
 refine Y.assign (by rfl) ?_
 refine XL.s rfl ?_
 refine Y.assign (by rfl) ?_
 refine XL.nil ?_
 refine QN.next ?_
 refine XC.seq ?_
 refine XC.region ?_
 show XL _ _ _ _ (List.cons _ _) _ _
 refine XL.s rfl ?_
 refine Y.move (by rfl) ?_
 refine XL.s rfl ?_
 refine Y.call (by rfl) ok73 (cutNum_yes _ _ d _ ha h1 (by omega)) ?_
 rintro v22 w22 ⟨u22, rfl, hN22⟩
 refine XL.s rfl ?_
 refine Y.move (by rfl) ?_
 refine XL.s rfl ?_
 refine Y.extract (by rfl) (by rfl) ?_
 refine XL.s rfl ?_
 refine Y.extract (by rfl) (by rfl) ?_
 refine XL.s rfl ?_
 refine Y.extract (by rfl) (by rfl) ?_
 refine XL.s rfl ?_
 refine Y.assign (by rfl) ?_
 refine XL.s rfl ?_
 refine Y.assign (by rfl) ?_
 refine XL.s rfl ?_
 refine Y.assign (by rfl) ?_
 refine XL.nil ?_
 refine QN.next ?_
 refine XC.seq ?_
 refine XC.region ?_
 show XL _ _ _ _ (List.cons _ _) _ _
 refine XL.s rfl ?_
 refine Y.move (by rfl) ?_
 refine XL.s rfl ?_
 refine Y.call (by rfl) ok74 (cutText_short _ _ (d.drop 4) _ hN22.bs h2) ?_
 rintro v28 w28 ⟨rfl, hE28⟩
 refine XL.s rfl ?_
 refine Y.move (by rfl) ?_
 refine XL.s rfl ?_
 refine Y.extract (by rfl) (by rfl) ?_
 refine XL.s rfl ?_
 refine Y.extract (by rfl) (by rfl) ?_
 refine XL.s rfl ?_
 refine Y.extract (by rfl) (by rfl) ?_
 refine XL.s rfl ?_
 refine Y.assign (by rfl) ?_
 refine XL.s rfl ?_
 refine Y.assign (by rfl) ?_
 refine XL.s rfl ?_
 refine Y.assign (by rfl) ?_
 refine XL.nil ?_
 refine QN.next ?_
 refine XC.seq ?_
 refine XC.seq ?_
 refine XC.region ?_
 show XL _ _ _ _ (List.cons _ _) _ _
 refine XL.s rfl ?_
 refine Y.move (by rfl) ?_
 refine XL.s rfl ?_
 refine Y.not (by rfl) ?_
 refine XL.s rfl ?_
 refine Y.move (by rfl) ?_
 refine XL.gt rfl rfl rfl rfl ?_
 refine Y.move (by rfl) ?_
 refine XL.gt rfl rfl rfl rfl ?_
 refine Y.not (by rfl) ?_
 refine XL.s rfl ?_
 refine Y.pickF (by rfl) rfl (by rfl) ?_
 refine XL.s rfl ?_
 refine Y.move (by rfl) ?_
 refine XL.gt rfl rfl rfl rfl ?_
 refine Y.move (by rfl) ?_
 refine XL.gt rfl rfl rfl rfl ?_
 refine Y.not (by rfl) ?_
 refine XL.s rfl ?_
 refine Y.pickF (by rfl) rfl (by rfl) ?_
 refine XL.s rfl ?_
 refine Y.move (by rfl) ?_
 refine XL.gf rfl rfl rfl rfl ?_
 refine XL.gf rfl rfl rfl rfl ?_
 refine XL.gf rfl rfl rfl rfl ?_
 refine XL.gf rfl rfl rfl rfl ?_
 refine XL.gf rfl rfl rfl rfl ?_
 refine XL.gf rfl rfl rfl rfl ?_
 refine XL.s rfl ?_
 refine Y.pickT (by rfl) rfl (by rfl) ?_
 refine XL.s rfl ?_
 refine Y.move (by rfl) ?_
 refine XL.gf rfl rfl rfl rfl ?_
 refine XL.gf rfl rfl rfl rfl ?_
 refine XL.gf rfl rfl rfl rfl ?_
 refine XL.s rfl ?_
 refine Y.pickT (by rfl) rfl (by rfl) ?_
 refine XL.nil ?_
 refine QN.next ?_
 refine XC.condT rfl rfl ?_
 refine XC.seq ?_
 refine XC.region ?_
 show XL _ _ _ _ (List.cons _ _) _ _
 refine XL.s rfl ?_
 refine Y.assign (by rfl) ?_
 refine XL.nil ?_
 refine QN.next ?_
 refine XC.ret ?_
 refine QN.done1 (fn := Tryz.f45) (R := R) (.inl rfl) rfl rfl ?_
 refine hR _ _ ?_
 exact ⟨rfl, (hE16.trans hN22.1).trans hE28⟩
theorem shard_d (S : Nat → Prop) (u : Value) (i : Nat) (l : List UInt8) (w : World) (hr : Bs S w u l) (hn : l.length ≤ 140737488355328) (hi : i ≤ 1000) (d r : List UInt8) (h : cutF l = some (d, r)) (h1 : 4 ≤ d.length) (h2 : 4 ≤ (d.drop 4).length) (h3 : ((d.drop 4).drop 4).length < numOf ((d.drop 4).take 4)) :
  Rets Tryz.prog 45 #[.int .i64 i, u] w fun v w' => v = .slice none 0 0 ∧ Ext w w' := by
 refine Rets.enter (args := [.int .i64 i, u]) (n := 57) Tryz.func45 rfl rfl rfl ?_
 intro R hR
 show XC _ _ _ _ [(0, .int .i64 i), (1, u)] _
 have hle := cutF_le h
 refine XC.seq ?_
 refine XC.region ?_
 show XL _ _ _ _ (List.cons _ _) _ _
 refine XL.s rfl ?_
 refine Y.assign (by rfl) ?_
 refine XL.nil ?_
 refine QN.next ?_
 refine XC.seq ?_
 refine XC.region ?_
 show XL _ _ _ _ (List.cons _ _) _ _
 refine XL.s rfl ?_
 refine Y.move (by rfl) ?_
 refine XL.s rfl ?_
 refine Y.call (by rfl) ok72 (fcut_some _ _ _ _ hr hn d r h) ?_
 rintro v16 w16 ⟨a16, b16, rfl, hE16, ha, hb⟩
 have hdl : (d.drop 4).length ≤ d.length := by simp
 refine XL.s rfl ?_
 refine Y.move (by rfl) ?_
 refine XL.s rfl ?_
 refine Y.extract (by rfl) (by rfl) ?_
 refine XL.s rfl ?_
 refine Y.extract (by rfl) (by rfl) ?_
 refine XL.s rfl ?_
 refine Y.extract (by rfl) (by rfl) ?_
 refine XL.s rfl ?_
 refine Y.assign (by rfl) ?_
 refine XL.s rfl ?_
 refine Y.assign (by rfl) ?_
 refine XL.s rfl ?_
 refine Y.assign (by rfl) ?_
 refine XL.nil ?_
 refine QN.next ?_
 refine XC.seq ?_
 refine XC.region ?_
 show XL _ _ _ _ (List.cons _ _) _ _
 refine XL.s rfl ?_
 refine Y.move (by rfl) ?_
 refine XL.s rfl ?_
 refine Y.call (by rfl) ok73 (cutNum_yes _ _ d _ ha h1 (by omega)) ?_
 rintro v22 w22 ⟨u22, rfl, hN22⟩
 refine XL.s rfl ?_
 refine Y.move (by rfl) ?_
 refine XL.s rfl ?_
 refine Y.extract (by rfl) (by rfl) ?_
 refine XL.s rfl ?_
 refine Y.extract (by rfl) (by rfl) ?_
 refine XL.s rfl ?_
 refine Y.extract (by rfl) (by rfl) ?_
 refine XL.s rfl ?_
 refine Y.assign (by rfl) ?_
 refine XL.s rfl ?_
 refine Y.assign (by rfl) ?_
 refine XL.s rfl ?_
 refine Y.assign (by rfl) ?_
 refine XL.nil ?_
 refine QN.next ?_
 refine XC.seq ?_
 refine XC.region ?_
 show XL _ _ _ _ (List.cons _ _) _ _
 refine XL.s rfl ?_
 refine Y.move (by rfl) ?_
 refine XL.s rfl ?_
 refine Y.call (by rfl) ok74 (cutText_no _ _ (d.drop 4) _ hN22.bs h2 (by omega) h3) ?_
 rintro v28 w28 ⟨rfl, hE28⟩
 refine XL.s rfl ?_
 refine Y.move (by rfl) ?_
 refine XL.s rfl ?_
 refine Y.extract (by rfl) (by rfl) ?_
 refine XL.s rfl ?_
 refine Y.extract (by rfl) (by rfl) ?_
 refine XL.s rfl ?_
 refine Y.extract (by rfl) (by rfl) ?_
 refine XL.s rfl ?_
 refine Y.assign (by rfl) ?_
 refine XL.s rfl ?_
 refine Y.assign (by rfl) ?_
 refine XL.s rfl ?_
 refine Y.assign (by rfl) ?_
 refine XL.nil ?_
 refine QN.next ?_
 refine XC.seq ?_
 refine XC.seq ?_
 refine XC.region ?_
 show XL _ _ _ _ (List.cons _ _) _ _
 refine XL.s rfl ?_
 refine Y.move (by rfl) ?_
 refine XL.s rfl ?_
 refine Y.not (by rfl) ?_
 refine XL.s rfl ?_
 refine Y.move (by rfl) ?_
 refine XL.gt rfl rfl rfl rfl ?_
 refine Y.move (by rfl) ?_
 refine XL.gt rfl rfl rfl rfl ?_
 refine Y.not (by rfl) ?_
 refine XL.s rfl ?_
 refine Y.pickF (by rfl) rfl (by rfl) ?_
 refine XL.s rfl ?_
 refine Y.move (by rfl) ?_
 refine XL.gt rfl rfl rfl rfl ?_
 refine Y.move (by rfl) ?_
 refine XL.gt rfl rfl rfl rfl ?_
 refine Y.not (by rfl) ?_
 refine XL.s rfl ?_
 refine Y.pickF (by rfl) rfl (by rfl) ?_
 refine XL.s rfl ?_
 refine Y.move (by rfl) ?_
 refine XL.gf rfl rfl rfl rfl ?_
 refine XL.gf rfl rfl rfl rfl ?_
 refine XL.gf rfl rfl rfl rfl ?_
 refine XL.gf rfl rfl rfl rfl ?_
 refine XL.gf rfl rfl rfl rfl ?_
 refine XL.gf rfl rfl rfl rfl ?_
 refine XL.s rfl ?_
 refine Y.pickT (by rfl) rfl (by rfl) ?_
 refine XL.s rfl ?_
 refine Y.move (by rfl) ?_
 refine XL.gf rfl rfl rfl rfl ?_
 refine XL.gf rfl rfl rfl rfl ?_
 refine XL.gf rfl rfl rfl rfl ?_
 refine XL.s rfl ?_
 refine Y.pickT (by rfl) rfl (by rfl) ?_
 refine XL.nil ?_
 refine QN.next ?_
 refine XC.condT rfl rfl ?_
 refine XC.seq ?_
 refine XC.region ?_
 show XL _ _ _ _ (List.cons _ _) _ _
 refine XL.s rfl ?_
 refine Y.assign (by rfl) ?_
 refine XL.nil ?_
 refine QN.next ?_
 refine XC.ret ?_
 refine QN.done1 (fn := Tryz.f45) (R := R) (.inl rfl) rfl rfl ?_
 refine hR _ _ ?_
 exact ⟨rfl, (hE16.trans hN22.1).trans hE28⟩
theorem shard_e (S : Nat → Prop) (u : Value) (i : Nat) (l : List UInt8) (w : World) (hr : Bs S w u l) (hn : l.length ≤ 140737488355328) (hi : i ≤ 1000) (d r : List UInt8) (h : cutF l = some (d, r)) (h1 : 4 ≤ d.length) (h2 : 4 ≤ (d.drop 4).length) (h3 : numOf ((d.drop 4).take 4) ≤ ((d.drop 4).drop 4).length) (h4 : 0 < r.length + (((d.drop 4).drop 4).drop (numOf ((d.drop 4).take 4))).length) :
  Rets Tryz.prog 45 #[.int .i64 i, u] w fun v w' => v = .slice none 0 0 ∧ Ext w w' := by
 refine Rets.enter (args := [.int .i64 i, u]) (n := 57) Tryz.func45 rfl rfl rfl ?_
 intro R hR
 show XC _ _ _ _ [(0, .int .i64 i), (1, u)] _
 have hle := cutF_le h
 refine XC.seq ?_
 refine XC.region ?_
 show XL _ _ _ _ (List.cons _ _) _ _
 refine XL.s rfl ?_
 refine Y.assign (by rfl) ?_
 refine XL.nil ?_
 refine QN.next ?_
 refine XC.seq ?_
 refine XC.region ?_
 show XL _ _ _ _ (List.cons _ _) _ _
 refine XL.s rfl ?_
 refine Y.move (by rfl) ?_
 refine XL.s rfl ?_
 refine Y.call (by rfl) ok72 (fcut_some _ _ _ _ hr hn d r h) ?_
 rintro v16 w16 ⟨a16, b16, rfl, hE16, ha, hb⟩
 have hdl : (d.drop 4).length ≤ d.length := by simp
 have hdl2 : (((d.drop 4).drop 4).drop (numOf ((d.drop 4).take 4))).length ≤ d.length := by first | (simp; done) | (simp; omega)
 refine XL.s rfl ?_
 refine Y.move (by rfl) ?_
 refine XL.s rfl ?_
 refine Y.extract (by rfl) (by rfl) ?_
 refine XL.s rfl ?_
 refine Y.extract (by rfl) (by rfl) ?_
 refine XL.s rfl ?_
 refine Y.extract (by rfl) (by rfl) ?_
 refine XL.s rfl ?_
 refine Y.assign (by rfl) ?_
 refine XL.s rfl ?_
 refine Y.assign (by rfl) ?_
 refine XL.s rfl ?_
 refine Y.assign (by rfl) ?_
 refine XL.nil ?_
 refine QN.next ?_
 refine XC.seq ?_
 refine XC.region ?_
 show XL _ _ _ _ (List.cons _ _) _ _
 refine XL.s rfl ?_
 refine Y.move (by rfl) ?_
 refine XL.s rfl ?_
 refine Y.call (by rfl) ok73 (cutNum_yes _ _ d _ ha h1 (by omega)) ?_
 rintro v22 w22 ⟨u22, rfl, hN22⟩
 refine XL.s rfl ?_
 refine Y.move (by rfl) ?_
 refine XL.s rfl ?_
 refine Y.extract (by rfl) (by rfl) ?_
 refine XL.s rfl ?_
 refine Y.extract (by rfl) (by rfl) ?_
 refine XL.s rfl ?_
 refine Y.extract (by rfl) (by rfl) ?_
 refine XL.s rfl ?_
 refine Y.assign (by rfl) ?_
 refine XL.s rfl ?_
 refine Y.assign (by rfl) ?_
 refine XL.s rfl ?_
 refine Y.assign (by rfl) ?_
 refine XL.nil ?_
 refine QN.next ?_
 refine XC.seq ?_
 refine XC.region ?_
 show XL _ _ _ _ (List.cons _ _) _ _
 refine XL.s rfl ?_
 refine Y.move (by rfl) ?_
 refine XL.s rfl ?_
 refine Y.call (by rfl) ok74 (cutText_yes _ _ (d.drop 4) _ hN22.bs h2 (by omega) h3) ?_
 rintro v28 w28 ⟨u28, rfl, hE28, ht28⟩
 refine XL.s rfl ?_
 refine Y.move (by rfl) ?_
 refine XL.s rfl ?_
 refine Y.extract (by rfl) (by rfl) ?_
 refine XL.s rfl ?_
 refine Y.extract (by rfl) (by rfl) ?_
 refine XL.s rfl ?_
 refine Y.extract (by rfl) (by rfl) ?_
 refine XL.s rfl ?_
 refine Y.assign (by rfl) ?_
 refine XL.s rfl ?_
 refine Y.assign (by rfl) ?_
 refine XL.s rfl ?_
 refine Y.assign (by rfl) ?_
 refine XL.nil ?_
 refine QN.next ?_
 refine XC.seq ?_
 refine XC.seq ?_
 refine XC.region ?_
 show XL _ _ _ _ (List.cons _ _) _ _
 refine XL.s rfl ?_
 refine Y.move (by rfl) ?_
 refine XL.s rfl ?_
 refine Y.not (by rfl) ?_
 refine XL.s rfl ?_
 refine Y.move (by rfl) ?_
 refine XL.gt rfl rfl rfl rfl ?_
 refine Y.move (by rfl) ?_
 refine XL.gt rfl rfl rfl rfl ?_
 refine Y.not (by rfl) ?_
 refine XL.s rfl ?_
 refine Y.pickF (by rfl) rfl (by rfl) ?_
 refine XL.s rfl ?_
 refine Y.move (by rfl) ?_
 refine XL.gt rfl rfl rfl rfl ?_
 refine Y.move (by rfl) ?_
 refine XL.gt rfl rfl rfl rfl ?_
 refine Y.not (by rfl) ?_
 refine XL.s rfl ?_
 refine Y.pickF (by rfl) rfl (by rfl) ?_
 refine XL.s rfl ?_
 refine Y.move (by rfl) ?_
 refine XL.gt rfl rfl rfl rfl ?_
 refine Y.move (by rfl) ?_
 refine XL.gt rfl rfl rfl rfl ?_
 refine Y.len Tryz.underlying39 (by rfl) ((hb.ext hN22.1).ext hE28) ?_
 refine XL.gt rfl rfl rfl rfl ?_
 refine Y.move (by rfl) ?_
 refine XL.gt rfl rfl rfl rfl ?_
 refine Y.len Tryz.underlying39 (by rfl) ht28 ?_
 refine XL.gt rfl rfl rfl rfl ?_
 refine Y.add (by rfl) (by rfl) (wrap64 (by omega) (by omega)) ?_
 refine XL.gt rfl rfl rfl rfl ?_
 refine Y.gtr (by rfl) (by rfl) ?_
 refine XL.s rfl ?_
 refine Y.pickF (by rfl) rfl (by rfl) ?_
 refine XL.s rfl ?_
 refine Y.move (by rfl) ?_
 refine XL.gf rfl rfl ya rfl ?_
 refine XL.gf rfl rfl ya rfl ?_
 refine XL.gf rfl rfl ya rfl ?_
 refine XL.s rfl ?_
 refine Y.pickT (by rfl) ya (by rfl) ?_
 refine XL.nil ?_
 refine QN.next ?_
 refine XC.condT rfl rfl ?_
 refine XC.seq ?_
 refine XC.region ?_
 show XL _ _ _ _ (List.cons _ _) _ _
 refine XL.s rfl ?_
 refine Y.assign (by rfl) ?_
 refine XL.nil ?_
 refine QN.next ?_
 refine XC.ret ?_
 refine QN.done1 (fn := Tryz.f45) (R := R) (.inl rfl) rfl rfl ?_
 refine hR _ _ ?_
 exact ⟨rfl, (hE16.trans hN22.1).trans hE28⟩
theorem shard_f (S : Nat → Prop) (u : Value) (i : Nat) (l : List UInt8) (w : World) (hr : Bs S w u l) (hn : l.length ≤ 140737488355328) (hi : i ≤ 1000) (d r : List UInt8) (h : cutF l = some (d, r)) (h1 : 4 ≤ d.length) (h2 : 4 ≤ (d.drop 4).length) (h3 : numOf ((d.drop 4).take 4) ≤ ((d.drop 4).drop 4).length) (h4 : ¬ 0 < r.length + (((d.drop 4).drop 4).drop (numOf ((d.drop 4).take 4))).length) (h5 : numOf (d.take 4) ≠ i) :
  Rets Tryz.prog 45 #[.int .i64 i, u] w fun v w' => v = .slice none 0 0 ∧ Ext w w' := by
 refine Rets.enter (args := [.int .i64 i, u]) (n := 57) Tryz.func45 rfl rfl rfl ?_
 intro R hR
 show XC _ _ _ _ [(0, .int .i64 i), (1, u)] _
 have hle := cutF_le h
 refine XC.seq ?_
 refine XC.region ?_
 show XL _ _ _ _ (List.cons _ _) _ _
 refine XL.s rfl ?_
 refine Y.assign (by rfl) ?_
 refine XL.nil ?_
 refine QN.next ?_
 refine XC.seq ?_
 refine XC.region ?_
 show XL _ _ _ _ (List.cons _ _) _ _
 refine XL.s rfl ?_
 refine Y.move (by rfl) ?_
 refine XL.s rfl ?_
 refine Y.call (by rfl) ok72 (fcut_some _ _ _ _ hr hn d r h) ?_
 rintro v16 w16 ⟨a16, b16, rfl, hE16, ha, hb⟩
 have hdl : (d.drop 4).length ≤ d.length := by simp
 have hdl2 : (((d.drop 4).drop 4).drop (numOf ((d.drop 4).take 4))).length ≤ d.length := by first | (simp; done) | (simp; omega)
 refine XL.s rfl ?_
 refine Y.move (by rfl) ?_
 refine XL.s rfl ?_
 refine Y.extract (by rfl) (by rfl) ?_
 refine XL.s rfl ?_
 refine Y.extract (by rfl) (by rfl) ?_
 refine XL.s rfl ?_
 refine Y.extract (by rfl) (by rfl) ?_
 refine XL.s rfl ?_
 refine Y.assign (by rfl) ?_
 refine XL.s rfl ?_
 refine Y.assign (by rfl) ?_
 refine XL.s rfl ?_
 refine Y.assign (by rfl) ?_
 refine XL.nil ?_
 refine QN.next ?_
 refine XC.seq ?_
 refine XC.region ?_
 show XL _ _ _ _ (List.cons _ _) _ _
 refine XL.s rfl ?_
 refine Y.move (by rfl) ?_
 refine XL.s rfl ?_
 refine Y.call (by rfl) ok73 (cutNum_yes _ _ d _ ha h1 (by omega)) ?_
 rintro v22 w22 ⟨u22, rfl, hN22⟩
 refine XL.s rfl ?_
 refine Y.move (by rfl) ?_
 refine XL.s rfl ?_
 refine Y.extract (by rfl) (by rfl) ?_
 refine XL.s rfl ?_
 refine Y.extract (by rfl) (by rfl) ?_
 refine XL.s rfl ?_
 refine Y.extract (by rfl) (by rfl) ?_
 refine XL.s rfl ?_
 refine Y.assign (by rfl) ?_
 refine XL.s rfl ?_
 refine Y.assign (by rfl) ?_
 refine XL.s rfl ?_
 refine Y.assign (by rfl) ?_
 refine XL.nil ?_
 refine QN.next ?_
 refine XC.seq ?_
 refine XC.region ?_
 show XL _ _ _ _ (List.cons _ _) _ _
 refine XL.s rfl ?_
 refine Y.move (by rfl) ?_
 refine XL.s rfl ?_
 refine Y.call (by rfl) ok74 (cutText_yes _ _ (d.drop 4) _ hN22.bs h2 (by omega) h3) ?_
 rintro v28 w28 ⟨u28, rfl, hE28, ht28⟩
 refine XL.s rfl ?_
 refine Y.move (by rfl) ?_
 refine XL.s rfl ?_
 refine Y.extract (by rfl) (by rfl) ?_
 refine XL.s rfl ?_
 refine Y.extract (by rfl) (by rfl) ?_
 refine XL.s rfl ?_
 refine Y.extract (by rfl) (by rfl) ?_
 refine XL.s rfl ?_
 refine Y.assign (by rfl) ?_
 refine XL.s rfl ?_
 refine Y.assign (by rfl) ?_
 refine XL.s rfl ?_
 refine Y.assign (by rfl) ?_
 refine XL.nil ?_
 refine QN.next ?_
 refine XC.seq ?_
 refine XC.seq ?_
 refine XC.region ?_
 show XL _ _ _ _ (List.cons _ _) _ _
 refine XL.s rfl ?_
 refine Y.move (by rfl) ?_
 refine XL.s rfl ?_
 refine Y.not (by rfl) ?_
 refine XL.s rfl ?_
 refine Y.move (by rfl) ?_
 refine XL.gt rfl rfl rfl rfl ?_
 refine Y.move (by rfl) ?_
 refine XL.gt rfl rfl rfl rfl ?_
 refine Y.not (by rfl) ?_
 refine XL.s rfl ?_
 refine Y.pickF (by rfl) rfl (by rfl) ?_
 refine XL.s rfl ?_
 refine Y.move (by rfl) ?_
 refine XL.gt rfl rfl rfl rfl ?_
 refine Y.move (by rfl) ?_
 refine XL.gt rfl rfl rfl rfl ?_
 refine Y.not (by rfl) ?_
 refine XL.s rfl ?_
 refine Y.pickF (by rfl) rfl (by rfl) ?_
 refine XL.s rfl ?_
 refine Y.move (by rfl) ?_
 refine XL.gt rfl rfl rfl rfl ?_
 refine Y.move (by rfl) ?_
 refine XL.gt rfl rfl rfl rfl ?_
 refine Y.len Tryz.underlying39 (by rfl) ((hb.ext hN22.1).ext hE28) ?_
 refine XL.gt rfl rfl rfl rfl ?_
 refine Y.move (by rfl) ?_
 refine XL.gt rfl rfl rfl rfl ?_
 refine Y.len Tryz.underlying39 (by rfl) ht28 ?_
 refine XL.gt rfl rfl rfl rfl ?_
 refine Y.add (by rfl) (by rfl) (wrap64 (by omega) (by omega)) ?_
 refine XL.gt rfl rfl rfl rfl ?_
 refine Y.gtr (by rfl) (by rfl) ?_
 refine XL.s rfl ?_
 refine Y.pickF (by rfl) rfl (by rfl) ?_
 refine XL.s rfl ?_
 refine Y.move (by rfl) ?_
 refine XL.gt rfl rfl ya rfl ?_
 refine Y.move (by rfl) ?_
 refine XL.gt rfl rfl ya rfl ?_
 refine Y.move (by rfl) ?_
 refine XL.gt rfl rfl ya rfl ?_
 refine Y.neq (by rfl) (by rfl) ?_
 refine XL.s rfl ?_
 refine Y.pickF (by rfl) ya (by rfl) ?_
 refine XL.nil ?_
 refine QN.next ?_
 refine XC.condT rfl ya ?_
 refine XC.seq ?_
 refine XC.region ?_
 show XL _ _ _ _ (List.cons _ _) _ _
 refine XL.s rfl ?_
 refine Y.assign (by rfl) ?_
 refine XL.nil ?_
 refine QN.next ?_
 refine XC.ret ?_
 refine QN.done1 (fn := Tryz.f45) (R := R) (.inl rfl) rfl rfl ?_
 refine hR _ _ ?_
 exact ⟨rfl, (hE16.trans hN22.1).trans hE28⟩
theorem shard_g (S : Nat → Prop) (u : Value) (i : Nat) (l : List UInt8) (w : World) (hr : Bs S w u l) (hn : l.length ≤ 140737488355328) (hi : i ≤ 1000) (d r : List UInt8) (h : cutF l = some (d, r)) (h1 : 4 ≤ d.length) (h2 : 4 ≤ (d.drop 4).length) (h3 : numOf ((d.drop 4).take 4) ≤ ((d.drop 4).drop 4).length) (h4 : ¬ 0 < r.length + (((d.drop 4).drop 4).drop (numOf ((d.drop 4).take 4))).length) (h5 : numOf (d.take 4) = i) :
  Rets Tryz.prog 45 #[.int .i64 i, u] w fun v w' => NewO w w' 5 1 v (((d.drop 4).drop 4).take (numOf ((d.drop 4).take 4))).length (bytesV (((d.drop 4).drop 4).take (numOf ((d.drop 4).take 4)))) := by
 refine Rets.enter (args := [.int .i64 i, u]) (n := 57) Tryz.func45 rfl rfl rfl ?_
 intro R hR
 show XC _ _ _ _ [(0, .int .i64 i), (1, u)] _
 have hle := cutF_le h
 refine XC.seq ?_
 refine XC.region ?_
 show XL _ _ _ _ (List.cons _ _) _ _
 refine XL.s rfl ?_
 refine Y.assign (by rfl) ?_
 refine XL.nil ?_
 refine QN.next ?_
 refine XC.seq ?_
 refine XC.region ?_
 show XL _ _ _ _ (List.cons _ _) _ _
 refine XL.s rfl ?_
 refine Y.move (by rfl) ?_
 refine XL.s rfl ?_
 refine Y.call (by rfl) ok72 (fcut_some _ _ _ _ hr hn d r h) ?_
 rintro v16 w16 ⟨a16, b16, rfl, hE16, ha, hb⟩
 have hdl : (d.drop 4).length ≤ d.length := by simp
 have hdl2 : (((d.drop 4).drop 4).drop (numOf ((d.drop 4).take 4))).length ≤ d.length := by first | (simp; done) | (simp; omega)
 refine XL.s rfl ?_
 refine Y.move (by rfl) ?_
 refine XL.s rfl ?_
 refine Y.extract (by rfl) (by rfl) ?_
 refine XL.s rfl ?_
 refine Y.extract (by rfl) (by rfl) ?_
 refine XL.s rfl ?_
 refine Y.extract (by rfl) (by rfl) ?_
 refine XL.s rfl ?_
 refine Y.assign (by rfl) ?_
 refine XL.s rfl ?_
 refine Y.assign (by rfl) ?_
 refine XL.s rfl ?_
 refine Y.assign (by rfl) ?_
 refine XL.nil ?_
 refine QN.next ?_
 refine XC.seq ?_
 refine XC.region ?_
 show XL _ _ _ _ (List.cons _ _) _ _
 refine XL.s rfl ?_
 refine Y.move (by rfl) ?_
 refine XL.s rfl ?_
 refine Y.call (by rfl) ok73 (cutNum_yes _ _ d _ ha h1 (by omega)) ?_
 rintro v22 w22 ⟨u22, rfl, hN22⟩
 refine XL.s rfl ?_
 refine Y.move (by rfl) ?_
 refine XL.s rfl ?_
 refine Y.extract (by rfl) (by rfl) ?_
 refine XL.s rfl ?_
 refine Y.extract (by rfl) (by rfl) ?_
 refine XL.s rfl ?_
 refine Y.extract (by rfl) (by rfl) ?_
 refine XL.s rfl ?_
 refine Y.assign (by rfl) ?_
 refine XL.s rfl ?_
 refine Y.assign (by rfl) ?_
 refine XL.s rfl ?_
 refine Y.assign (by rfl) ?_
 refine XL.nil ?_
 refine QN.next ?_
 refine XC.seq ?_
 refine XC.region ?_
 show XL _ _ _ _ (List.cons _ _) _ _
 refine XL.s rfl ?_
 refine Y.move (by rfl) ?_
 refine XL.s rfl ?_
 refine Y.call (by rfl) ok74 (cutText_yes _ _ (d.drop 4) _ hN22.bs h2 (by omega) h3) ?_
 rintro v28 w28 ⟨u28, rfl, hE28, ht28⟩
 refine XL.s rfl ?_
 refine Y.move (by rfl) ?_
 refine XL.s rfl ?_
 refine Y.extract (by rfl) (by rfl) ?_
 refine XL.s rfl ?_
 refine Y.extract (by rfl) (by rfl) ?_
 refine XL.s rfl ?_
 refine Y.extract (by rfl) (by rfl) ?_
 refine XL.s rfl ?_
 refine Y.assign (by rfl) ?_
 refine XL.s rfl ?_
 refine Y.assign (by rfl) ?_
 refine XL.s rfl ?_
 refine Y.assign (by rfl) ?_
 refine XL.nil ?_
 refine QN.next ?_
 refine XC.seq ?_
 refine XC.seq ?_
 refine XC.region ?_
 show XL _ _ _ _ (List.cons _ _) _ _
 refine XL.s rfl ?_
 refine Y.move (by rfl) ?_
 refine XL.s rfl ?_
 refine Y.not (by rfl) ?_
 refine XL.s rfl ?_
 refine Y.move (by rfl) ?_
 refine XL.gt rfl rfl rfl rfl ?_
 refine Y.move (by rfl) ?_
 refine XL.gt rfl rfl rfl rfl ?_
 refine Y.not (by rfl) ?_
 refine XL.s rfl ?_
 refine Y.pickF (by rfl) rfl (by rfl) ?_
 refine XL.s rfl ?_
 refine Y.move (by rfl) ?_
 refine XL.gt rfl rfl rfl rfl ?_
 refine Y.move (by rfl) ?_
 refine XL.gt rfl rfl rfl rfl ?_
 refine Y.not (by rfl) ?_
 refine XL.s rfl ?_
 refine Y.pickF (by rfl) rfl (by rfl) ?_
 refine XL.s rfl ?_
 refine Y.move (by rfl) ?_
 refine XL.gt rfl rfl rfl rfl ?_
 refine Y.move (by rfl) ?_
 refine XL.gt rfl rfl rfl rfl ?_
 refine Y.len Tryz.underlying39 (by rfl) ((hb.ext hN22.1).ext hE28) ?_
 refine XL.gt rfl rfl rfl rfl ?_
 refine Y.move (by rfl) ?_
 refine XL.gt rfl rfl rfl rfl ?_
 refine Y.len Tryz.underlying39 (by rfl) ht28 ?_
 refine XL.gt rfl rfl rfl rfl ?_
 refine Y.add (by rfl) (by rfl) (wrap64 (by omega) (by omega)) ?_
 refine XL.gt rfl rfl rfl rfl ?_
 refine Y.gtr (by rfl) (by rfl) ?_
 refine XL.s rfl ?_
 refine Y.pickF (by rfl) rfl (by rfl) ?_
 refine XL.s rfl ?_
 refine Y.move (by rfl) ?_
 refine XL.gt rfl rfl ya rfl ?_
 refine Y.move (by rfl) ?_
 refine XL.gt rfl rfl ya rfl ?_
 refine Y.move (by rfl) ?_
 refine XL.gt rfl rfl ya rfl ?_
 refine Y.neq (by rfl) (by rfl) ?_
 refine XL.s rfl ?_
 refine Y.pickF (by rfl) ya (by rfl) ?_
 refine XL.nil ?_
 refine QN.next ?_
 refine XC.condF rfl ya ?_
 refine XC.skip ?_
 refine QN.next ?_
 refine XC.seq ?_
 refine XC.region ?_
 show XL _ _ _ _ (List.cons _ _) _ _
 refine XL.s rfl ?_
 refine Y.move (by rfl) ?_
 refine XL.s rfl ?_
 refine Y.toBytes st39 Tryz.underlying9 Tryz.underlying5 (by rfl) (by simp; omega) ?_
 intro v56 w56 hN56
 refine XL.s rfl ?_
 refine Y.assign (by rfl) ?_
 refine XL.nil ?_
 refine QN.next ?_
 refine XC.ret ?_
 refine QN.done1 (fn := Tryz.f45) (R := R) (.inl rfl) rfl rfl ?_
 refine hR _ _ ?_
 exact hN56.older ((hE16.trans hN22.1).trans hE28)
theorem shard_ok (S : Nat → Prop) (u : Value) (i : Nat) (l : List UInt8) (w : World) (hr : Bs S w u l) (hn : l.length ≤ 140737488355328) (hi : i ≤ 1000) : Rets Tryz.prog 45 #[.int .i64 i, u] w fun v w' => Ext w w' ∧ Bs (Since w) w' v (shardP i l) := by
 have nil : ∀ {x : List UInt8}, shardP i l = [] → (Rets Tryz.prog 45 #[.int .i64 i, u] w fun v w' => v = .slice none 0 0 ∧ Ext w w') → Rets Tryz.prog 45 #[.int .i64 i, u] w fun v w' => Ext w w' ∧ Bs (Since w) w' v (shardP i l) :=
  fun he hc => hc.mono fun v w' ⟨hv, hE⟩ => ⟨hE, by rw [hv, he]; exact Row.nil _ _⟩
 cases h : cutF l with
 | none => exact nil (x := []) (by rw [shardP, h]) (shard_a S u i l w hr hn hi h)
 | some p =>
  obtain ⟨d, r⟩ := p
  have hs : shardP i l = shardD i d r := by rw [shardP, h]
  by_cases h1 : d.length < 4
  ·exact nil (x := []) (by rw [hs, shardD, if_pos h1]) (shard_b S u i l w hr hn hi d r h h1)
  by_cases h2 : (d.drop 4).length < 4
  ·exact nil (x := []) (by rw [hs, shardD, if_neg h1, if_pos h2]) (shard_c S u i l w hr hn hi d r h (by omega) h2)
  by_cases h3 : ((d.drop 4).drop 4).length < numOf ((d.drop 4).take 4)
  ·exact nil (x := []) (by rw [hs, shardD, if_neg h1, if_neg h2, if_pos h3]) (shard_d S u i l w hr hn hi d r h (by omega) (by omega) h3)
  by_cases h4 : 0 < r.length + (((d.drop 4).drop 4).drop (numOf ((d.drop 4).take 4))).length
  ·exact nil (x := []) (by rw [hs, shardD, if_neg h1, if_neg h2, if_neg h3, if_pos h4]) (shard_e S u i l w hr hn hi d r h (by omega) (by omega) (by omega) h4)
  by_cases h5 : numOf (d.take 4) = i
  ·exact (shard_g S u i l w hr hn hi d r h (by omega) (by omega) (by omega) h4 h5).mono fun v w' hN => ⟨hN.1, by rw [hs, shardD, if_neg h1, if_neg h2, if_neg h3, if_neg h4, if_neg (fun e => e h5)]; exact hN.row⟩
  ·exact nil (x := []) (by rw [hs, shardD, if_neg h1, if_neg h2, if_neg h3, if_neg h4, if_pos h5]) (shard_f S u i l w hr hn hi d r h (by omega) (by omega) (by omega) h4 h5)
theorem file_ok (S : Nat → Prop) (u : Value) (i : Nat) (l : List UInt8) (w : World) (hr : Bs S w u l) (hi : i ≤ 1000) (hl : l.length ≤ 60000) :
  Rets Tryz.prog 32 #[.int .i64 i, u] w fun v w' => NewB 5 w w' v (fileB i l) := by
 refine Rets.enter (args := [.int .i64 i, u]) (n := 12) Tryz.func32 rfl rfl rfl ?_
 intro R hR
 show XC _ _ _ _ [(0, .int .i64 i), (1, u)] _
 refine XC.seq ?_
 refine XC.region ?_
 show XL _ _ _ _ (List.cons _ _) _ _
 refine XL.s rfl ?_
 refine Y.assign (by rfl) ?_
 refine XL.nil ?_
 refine QN.next ?_
 refine XC.seq ?_
 apply XC.drop [5, 6, 7, 8, 9, 10, 11]
 ·repeat (first | apply DropTo.nil | apply DropTo.skip rfl | apply DropTo.keep rfl)
 refine XC.drawL 4 [[], [0], [], [2], [0, 1, 2, 3], [0, 1, 2, 3, 4], [0, 1, 2, 3, 4, 5], [0, 1, 2, 3, 4, 5, 6]] _ (Chg NoB) (Steady.chg NoB) [] [(1, (fun v w' => NewB 5 w w' v (numB i))), (3, (fun v _ => v = strV l))] [0, 1, 2, 3] fol (by kernel_rfl) (by rfl) (by rfl) ⟨(fun v w1 w2 hE h => h.ext hE), (fun _ _ _ _ h => h), trivial⟩ ⟨?_, ?_, ?_, ?_, trivial⟩ ?_
 ·intro aD1 wD1 haD1 hCD1 hrD1
  refine ⟨rfl, ?_⟩
  refine XD.start haD1 ?_
  apply XD.stepP rfl
  intro w3
  refine Y.move (by rfl) ?_
  exact ⟨rfl, rfl⟩
 ·intro aD1 wD1 haD1 hCD1 hrD1
  obtain ⟨r0, -⟩ := hrD1
  replace hr := hr.ext hCD1
  refine ⟨rfl, ?_⟩
  refine XD.start haD1 ?_
  refine XD.pure r0 ?_
  refine Y.move (by rfl) ?_
  refine XD.stepI ?_
  refine Y.call (by rfl) ok52 (num_ok i (by omega) _) ?_
  rintro v6 w6 hN6
  exact ⟨hN6.1, hN6.older hCD1⟩
 ·intro aD1 wD1 haD1 hCD1 hrD1
  refine ⟨rfl, ?_⟩
  refine XD.start haD1 ?_
  apply XD.stepP rfl
  intro w3
  refine Y.move (by rfl) ?_
  exact ⟨rfl, rfl⟩
 ·intro aD1 wD1 haD1 hCD1 hrD1
  obtain ⟨r2, -⟩ := hrD1
  replace hr := hr.ext hCD1
  refine ⟨rfl, ?_⟩
  refine XD.start haD1 ?_
  refine XD.pure r2 ?_
  refine Y.move (by rfl) ?_
  refine XD.stepI ?_
  refine Y.toText Tryz.underlying39 Tryz.underlying9 Tryz.underlying5 (by rfl) hr rfl ?_
  exact ⟨Chg.refl _ _, rfl⟩
 intro aD1 wD1 haD1 hCD1 hrD1
 obtain ⟨r0, r1, r2, r3, -⟩ := hrD1
 replace hr := hr.ext hCD1
 refine XD.start haD1 ?_
 refine XD.pure r0 ?_
 refine Y.move (by rfl) ?_
 refine XD.imp r1 ?_
 rintro v6 hN6
 refine XD.pure r2 ?_
 refine Y.move (by rfl) ?_
 refine XD.imp r3 ?_
 rintro _ rfl
 refine XD.fin haD1 ?_
 show XL _ _ _ _ (List.cons _ _) _ _
 refine XL.s rfl ?_
 refine Y.call (by rfl) ok53 (text_ok l (by omega) _) ?_
 rintro v9 w9 hN9
 replace hN6 := hN6.ext hN9.1
 have hnl := numB_length i
 have htl := textB_length l
 refine XL.s rfl ?_
 refine Y.appendN st39 Tryz.underlying39 (by rfl) (by rfl) hN6 hN9.row (by simp [bytesV]) (by omega) (by omega) ?_
 intro v10 w10 hN10 hC10
 have hB10 : NewB 5 w w10 v10 (numB i ++ textB l) := hN10.cast (by simp) (by simp [bytesV])
 refine XL.s rfl ?_
 refine Y.call (by rfl) ok51 (fput_ok _ _ (numB i ++ textB l) _ hB10.bs (by simp; omega)) ?_
 rintro v11 w11 hN11
 refine XL.s rfl ?_
 refine Y.assign (by rfl) ?_
 refine XL.nil ?_
 refine QN.next ?_
 refine XC.ret ?_
 refine QN.done1 (fn := Tryz.f32) (R := R) (.inl rfl) rfl rfl ?_
 refine hR _ _ ?_
 exact hN11.older hB10.1
end Go.Proofs.YtchammpamigonaaGreatX
end
section
set_option linter.unusedVariables false
set_option linter.unusedSimpArgs false
set_option maxRecDepth 10000
set_option maxHeartbeats 4000000
namespace Go.Proofs.YtchammpamigonaaGreatX
open Go Go.RowKit Go.Proofs
theorem chunk_ok (u : Value) (n : Nat) (hn : 0 < n) (w : World) (hu : u.cells = #[u]) :
  Rets Tryz.prog 80 #[u, .int .i64 n] w fun v w' => ∃ b c, v = .func (.func 98) #[] #[.pointer (some ⟨b, 0, none⟩), .pointer (some ⟨c, 0, none⟩)] ∧ HB w' b (.cells #[u] 39 (0, 0)) ∧ HB w' c (.cells #[.int .i64 n] 3 (0, 0)) ∧ b = w.heap.size ∧ c = w.heap.size + 1 ∧ w'.heap.size = w.heap.size + 2 ∧ Ext w w' := by
 refine Rets.enter (args := [u, .int .i64 n]) (n := 9) Tryz.func80 rfl rfl rfl ?_
 intro R hR
 show XC _ _ _ _ [(0, u), (1, .int .i64 n)] _
 refine XC.seq ?_
 refine XC.region ?_
 show XL _ _ _ _ (List.cons _ _) _ _
 refine XL.s rfl ?_
 refine Y.box (by rfl) ?_
 intro b2 w2 hb2 hz2 hE2
 refine XL.s rfl ?_
 refine Y.box (by rfl) ?_
 intro b3 w3 hb3 hz3 hE3
 have hbb : HB w3 b2 (.cells #[u] 39 (0, 0)) := by rw [← hu]; exact (show HB w2 b2 _ from hb2).ext hE3
 refine XL.s rfl ?_
 refine Y.assign (by rfl) ?_
 refine XL.nil ?_
 refine QN.next ?_
 refine XC.seq ?_
 refine XC.seq ?_
 refine XC.region ?_
 show XL _ _ _ _ (List.cons _ _) _ _
 refine XL.s rfl ?_
 refine Y.load one3 (by rfl) (one0 (x := .int .i64 n) hb3) ?_
 refine XL.s rfl ?_
 refine Y.lss (by rfl) (by rfl) ?_
 refine XL.nil ?_
 refine QN.next ?_
 refine XC.condF rfl ya ?_
 refine XC.skip ?_
 refine QN.next ?_
 refine XC.seq ?_
 refine XC.region ?_
 show XL _ _ _ _ (List.cons _ _) _ _
 refine XL.s rfl ?_
 refine Y.makeFunc (by rfl) (by rfl) ?_
 refine XL.s rfl ?_
 refine Y.assign (by rfl) ?_
 refine XL.nil ?_
 refine QN.next ?_
 refine XC.ret ?_
 refine QN.done1 (fn := Tryz.f80) (R := R) (.inl rfl) rfl rfl ?_
 refine hR _ _ ?_
 exact ⟨b2, b3, rfl, hbb, hb3, hz2.1, by omega, by omega, hE2.trans hE3⟩
theorem chunk1_ok (l b c N k : Nat) (S : Nat → Prop) (u : Value) (dat : List UInt8) (J : Nat → World → Prop) (w : World) (hb : HB w b (.cells #[u] 39 (0, 0))) (hc : HB w c (.cells #[.int .i64 N] 3 (0, 0))) (hr : Bs S w u dat) (hL : dat.length = k * N) (hN : 0 < N) (hn : dat.length ≤ 1000000)
  (h0 : J 0 w) (hJ : ∀ j w1 w2, J j w1 → Ext w1 w2 → J j w2)
  (hrd : ∀ j v w1, j < k → J j w1 → Bs S w1 v ((dat.drop (j * N)).take N) → YieldsTo Tryz.prog l [v] w1 (fun w2 => J (j + 1) w2 ∧ Chg (fun x => x ≠ b ∧ x ≠ c ∧ ¬ S x) w1 w2)) :
  Rets Tryz.prog 98 #[.func (.yield l) #[] #[], .pointer (some ⟨b, 0, none⟩), .pointer (some ⟨c, 0, none⟩)] w fun v w' => J k w' := by
 refine Rets.enter (args := [.func (.yield l) #[] #[], .pointer (some ⟨b, 0, none⟩), .pointer (some ⟨c, 0, none⟩)]) (n := 31) Tryz.func98 rfl rfl rfl ?_
 intro R hR
 show XC _ _ _ _ [(0, .func (.yield l) #[] #[]), (1, .pointer (some ⟨b, 0, none⟩)), (2, .pointer (some ⟨c, 0, none⟩))] _
 refine XC.seq ?_
 refine XC.region ?_
 show XL _ _ _ _ (List.cons _ _) _ _
 refine XL.s rfl ?_
 refine Y.assign (by rfl) ?_
 refine XL.nil ?_
 refine QN.next ?_
 refine XC.block ?_
 refine XC.loop (α := Nat) (fun j => [(0, .func (.yield l) #[] #[]), (1, .pointer (some ⟨b, 0, none⟩)), (2, .pointer (some ⟨c, 0, none⟩)), (4, .int .i64 ((j * N : Nat) : Int))]) (fun j wr => j ≤ k ∧ J j wr ∧ HB wr b (.cells #[u] 39 (0, 0)) ∧ HB wr c (.cells #[.int .i64 N] 3 (0, 0)) ∧ Bs S wr u dat) (fun j => k - j) (0) ?_ ?_ ?_
 ·exact ⟨rfl, rfl, rfl, by rw [Nat.zero_mul]; rfl, trivial⟩
 ·exact ⟨by omega, h0, hb, hc, hr⟩
 ·rintro j wr hI
  obtain ⟨hj, hJj, hb, hc, hr⟩ := hI
  refine XC.seq ?_
  refine XC.seq ?_
  refine XC.region ?_
  show XL _ _ _ _ (List.cons _ _) _ _
  refine XL.s rfl ?_
  refine Y.move (by rfl) ?_
  refine XL.s rfl ?_
  refine Y.load one39 (by rfl) (one0 hb) ?_
  refine XL.s rfl ?_
  refine Y.len Tryz.underlying39 (by rfl) hr ?_
  refine XL.s rfl ?_
  refine Y.lss (by rfl) (by rfl) ?_
  refine XL.nil ?_
  refine QN.next ?_
  refine XC.condS rfl ?_ ?_
  ·intro hx
   try simp only [decide_eq_true_eq, decide_eq_false_iff_not, Bool.not_eq_true', Bool.not_eq_false', Bool.not_eq_eq_eq_not, Bool.not_true, Bool.not_false, Bool.or_eq_true, Bool.and_eq_true, Bool.or_eq_false_iff] at hx
   have hjk : j < k := by rcases Nat.lt_or_ge j k with h | h; exact h; (have := Nat.mul_le_mul_right N h; omega)
   have hjN : j * N + N ≤ dat.length := by have := Nat.mul_le_mul_right N (show j + 1 ≤ k from hjk); rw [Nat.succ_mul] at this; omega
   refine XC.skip ?_
   refine QN.next ?_
   refine XC.seq ?_
   refine XC.block ?_
   refine XC.seq ?_
   apply XC.drop [6, 7, 8, 9, 10, 11, 12, 13, 14, 15, 16, 17, 18, 19, 20, 21, 22, 23, 24, 25, 26, 27, 28, 29, 30]
   ·repeat (first | apply DropTo.nil | apply DropTo.skip rfl | apply DropTo.keep rfl)
   refine XC.drawL 5 [[], [], [], [1, 2], [1, 2, 3], [0, 1, 2, 3, 4], [0, 1, 2, 3, 4, 5]] _ (Chg NoB) (Steady.chg NoB) [] [(0, (fun v _ => v = .int .i64 (N : Nat))), (1, (fun v _ => v = u)), (3, (fun v w' => Bs S w' v (dat.drop (j * N)))), (4, (fun v _ => v = .int .i64 ((dat.drop (j * N)).length : Nat)))] [0, 1, 2, 3, 4] fol (by kernel_rfl) (by rfl) (by rfl) ⟨(fun _ _ _ _ h => h), (fun _ _ _ _ h => h), (fun v w1 w2 hE h => h.ext hE), (fun _ _ _ _ h => h), trivial⟩ ⟨?_, ?_, ?_, ?_, ?_, trivial⟩ ?_
   ·intro aD3 wD3 haD3 hCD3 hrD3
    replace hb := hb.ext hCD3
    replace hc := hc.ext hCD3
    replace hr := hr.ext hCD3
    refine ⟨rfl, ?_⟩
    refine XD.start haD3 ?_
    refine XD.stepI ?_
    refine Y.load one3 (by rfl) (one0 hc) ?_
    exact ⟨Chg.refl _ _, rfl⟩
   ·intro aD3 wD3 haD3 hCD3 hrD3
    replace hb := hb.ext hCD3
    replace hc := hc.ext hCD3
    replace hr := hr.ext hCD3
    refine ⟨rfl, ?_⟩
    refine XD.start haD3 ?_
    refine XD.stepI ?_
    refine Y.load one39 (by rfl) (one0 hb) ?_
    exact ⟨Chg.refl _ _, rfl⟩
   ·intro aD3 wD3 haD3 hCD3 hrD3
    refine ⟨rfl, ?_⟩
    refine XD.start haD3 ?_
    apply XD.stepP rfl
    intro w3
    refine Y.move (by rfl) ?_
    exact ⟨rfl, rfl⟩
   ·intro aD3 wD3 haD3 hCD3 hrD3
    obtain ⟨r1, r2, -⟩ := hrD3
    replace hb := hb.ext hCD3
    replace hc := hc.ext hCD3
    replace hr := hr.ext hCD3
    refine ⟨rfl, ?_⟩
    refine XD.start haD3 ?_
    refine XD.imp r1 ?_
    rintro _ rfl
    refine XD.pure r2 ?_
    refine Y.move (by rfl) ?_
    refine XD.stepI ?_
    refine Y.sliceFromB st39 (by rfl) hr (by rfl) (by first | rfl | exact bnd_nat) (by omega) ?_
    intro v16 hr16
    try simp only [Int.toNat_natCast, Int.reduceToNat] at hr16
    exact ⟨Chg.refl _ _, hr16⟩
   ·intro aD3 wD3 haD3 hCD3 hrD3
    obtain ⟨r1, r2, r3, -⟩ := hrD3
    replace hb := hb.ext hCD3
    replace hc := hc.ext hCD3
    replace hr := hr.ext hCD3
    refine ⟨rfl, ?_⟩
    refine XD.start haD3 ?_
    refine XD.imp r1 ?_
    rintro _ rfl
    refine XD.pure r2 ?_
    refine Y.move (by rfl) ?_
    refine XD.imp r3 ?_
    rintro v16 hV16
    refine XD.stepI ?_
    refine Y.len Tryz.underlying39 (by rfl) hV16 ?_
    exact ⟨Chg.refl _ _, rfl⟩
   intro aD3 wD3 haD3 hCD3 hrD3
   obtain ⟨r0, r1, r2, r3, r4, -⟩ := hrD3
   replace hb := hb.ext hCD3
   replace hc := hc.ext hCD3
   replace hr := hr.ext hCD3
   refine XD.start haD3 ?_
   refine XD.imp r0 ?_
   rintro _ rfl
   refine XD.imp r1 ?_
   rintro _ rfl
   refine XD.pure r2 ?_
   refine Y.move (by rfl) ?_
   refine XD.imp r3 ?_
   rintro v16 hV16
   refine XD.imp r4 ?_
   rintro _ rfl
   refine XD.fin haD3 ?_
   show XL _ _ _ _ (List.cons _ _) _ _
   refine XL.s rfl ?_
   refine Y.minA (by rfl) (by rfl) (by rw [List.length_drop]; omega) ?_
   refine XL.s rfl ?_
   refine Y.assign (by rfl) ?_
   refine XL.nil ?_
   refine QN.next ?_
   refine XC.seq ?_
   refine XC.region ?_
   show XL _ _ _ _ (List.cons _ _) _ _
   refine XL.s rfl ?_
   refine Y.move (by rfl) ?_
   refine XL.s rfl ?_
   refine Y.load one39 (by rfl) (one0 hb) ?_
   refine XL.s rfl ?_
   refine Y.move (by rfl) ?_
   refine XL.s rfl ?_
   refine Y.move (by rfl) ?_
   refine XL.s rfl ?_
   refine Y.move (by rfl) ?_
   refine XL.s rfl ?_
   refine Y.add (by rfl) (by rfl) (show IntKind.i64.wrap (((j * N : Nat) : Int) + ((N : Nat) : Int)) = ((j * N + N : Nat) : Int) from by rw [wrap64 (by omega) (by omega)]; omega) ?_
   refine XL.s rfl ?_
   refine Y.move (by rfl) ?_
   refine XL.s rfl ?_
   refine Y.move (by rfl) ?_
   refine XL.s rfl ?_
   refine Y.add (by rfl) (by rfl) (show IntKind.i64.wrap (((j * N : Nat) : Int) + ((N : Nat) : Int)) = ((j * N + N : Nat) : Int) from by rw [wrap64 (by omega) (by omega)]; omega) ?_
   refine XL.s rfl ?_
   refine Y.slice3M st39 (by rfl) hr (by rfl) (by rfl) (by rfl) bnd_nat bnd_nat ⟨by omega, hjN⟩ ?_
   intro v28 hr28
   have hr28 : Bs S wD3 v28 ((dat.drop (j * N)).take N) := hr28.cast (by rw [show j * N + N - j * N = N by omega]) (by rw [show j * N + N - j * N = N by omega])
   refine XL.s rfl ?_
   refine Y.yield (by rfl) (by rfl) (hrd j v28 _ hjk (hJ _ _ _ hJj hCD3) hr28) ?_
   rintro w29 ⟨hj29, hC29⟩
   refine XL.s rfl ?_
   refine Y.not (by rfl) ?_
   refine XL.nil ?_
   refine QN.next ?_
   refine XC.condF rfl rfl ?_
   have hc29 := hc.chg hC29 (fun h => h.2.1 rfl)
   refine XC.skip ?_
   refine QN.blk ?_
   refine QN.next ?_
   refine XC.region ?_
   show XL _ _ _ _ (List.cons _ _) _ _
   refine XL.s rfl ?_
   refine Y.move (by rfl) ?_
   refine XL.s rfl ?_
   refine Y.load one3 (by rfl) (one0 hc29) ?_
   refine XL.s rfl ?_
   refine Y.add (by rfl) (by rfl) (show IntKind.i64.wrap (((j * N : Nat) : Int) + ((N : Nat) : Int)) = (((j + 1) * N : Nat) : Int) from by rw [wrap64 (by omega) (by omega), Nat.succ_mul]; omega) ?_
   refine XL.s rfl ?_
   refine Y.assign (by rfl) ?_
   refine XL.nil ?_
   refine QN.again (j + 1) ?_ ?_ ?_
   ·exact ⟨rfl, rfl, rfl, rfl, trivial⟩
   ·exact ⟨by omega, hj29, hb.chg hC29 (fun h => h.1 rfl), hc29, hr.chg hC29 (fun x _ hx h => h.2.2 hx)⟩
   ·first | omega | (simp only []; omega) | (simp; omega)
  ·intro hx
   try simp only [decide_eq_true_eq, decide_eq_false_iff_not, Bool.not_eq_true', Bool.not_eq_false', Bool.not_eq_eq_eq_not, Bool.not_true, Bool.not_false, Bool.or_eq_true, Bool.and_eq_true, Bool.or_eq_false_iff] at hx
   have hjk : j = k := by rcases Nat.lt_or_ge j k with h | h; (have := Nat.mul_lt_mul_of_pos_right h hN; omega); omega
   subst hjk
   refine XC.exit ?_
   refine QN.thenE ?_
   refine QN.thenE ?_
   refine QN.hit ?_
   refine QN.done0 (fn := Tryz.f98) (R := R) (.inr rfl) rfl rfl ?_
   refine hR _ _ ?_
   exact hJj
theorem pieces_ok (k : Nat) (l : List UInt8) (w : World) (hk : 0 < k) (hk2 : k ≤ 7) (hl : l.length ≤ 60000) :
  Rets Tryz.prog 50 #[.int .i64 k, strV l] w fun v w' => Rows AnyB w' v (piecesP k l) ∧ Ext w w' := by
 refine Rets.enterM (args := [.int .i64 k, strV l]) (n := 31) Tryz.func50 rfl rfl rfl ?_
 intro R hR
 show XC _ _ _ _ [(0, .int .i64 k), (1, strV l)] _
 have htl := textB_length l
 refine XC.seq ?_
 refine XC.region ?_
 show XL _ _ _ _ (List.cons _ _) _ _
 refine XL.s rfl ?_
 refine Y.assign (by rfl) ?_
 refine XL.nil ?_
 refine QN.next ?_
 refine XC.seq ?_
 refine XC.region ?_
 show XL _ _ _ _ (List.cons _ _) _ _
 refine XL.s rfl ?_
 refine Y.move (by rfl) ?_
 refine XL.s rfl ?_
 refine Y.call (by rfl) ok53 (text_ok l (by omega) _) ?_
 rintro v9 w9 hN9
 have hpn := padN_lt (textB l).length hk
 refine XL.s rfl ?_
 refine Y.assign (by rfl) ?_
 refine XL.nil ?_
 refine QN.next ?_
 refine XC.seq ?_
 refine XC.block ?_
 refine XC.loop (α := Nat × Value) (fun (j, a) => [(0, .int .i64 (k : Nat)), (5, a)]) (fun (j, a) wr => j ≤ padN k (textB l).length ∧ New w wr 5 1 a ((textB l).length + j) (bytesV (textB l ++ List.replicate j 0))) (fun (j, a) => padN k (textB l).length - j) ((0, v9)) ?_ ?_ ?_
 ·exact ⟨rfl, rfl, trivial⟩
 ·exact ⟨by omega, hN9.cast rfl (by simp)⟩
 ·rintro ⟨j, a⟩ wr hI
  obtain ⟨hj, hN⟩ := hI
  refine XC.seq ?_
  refine XC.seq ?_
  refine XC.region ?_
  show XL _ _ _ _ (List.cons _ _) _ _
  refine XL.s rfl ?_
  refine Y.move (by rfl) ?_
  refine XL.s rfl ?_
  first | refine Y.lenV Tryz.underlying39 (by rfl) ?_ | refine Y.len Tryz.underlying39 (by rfl) (by first | assumption | exact Apd.row (by assumption) | exact New.row (by assumption)) ?_
  refine XL.s rfl ?_
  refine Y.move (by rfl) ?_
  refine XL.s rfl ?_
  refine Y.rem (by rfl) (by rfl) (by omega) (tmodN ((textB l).length + j) k) ?_
  refine XL.s rfl ?_
  refine Y.neq (by rfl) (by rfl) ?_
  refine XL.nil ?_
  refine QN.next ?_
  refine XC.condS rfl ?_ ?_
  ·intro hx
   try simp only [decide_eq_true_eq, decide_eq_false_iff_not, Bool.not_eq_true', Bool.not_eq_false', Bool.not_eq_eq_eq_not, Bool.not_true, Bool.not_false, Bool.or_eq_true, Bool.and_eq_true, Bool.or_eq_false_iff] at hx
   have hj2 : j < padN k (textB l).length := Nat.lt_of_le_of_ne hj (fun e => hx (by rw [e, padN_mod _ hk]; rfl))
   refine XC.skip ?_
   refine QN.next ?_
   refine XC.block ?_
   refine XC.region ?_
   show XL _ _ _ _ (List.cons _ _) _ _
   refine XL.s rfl ?_
   refine Y.move (by rfl) ?_
   refine XL.s rfl ?_
   refine Y.buildSlice st39 (by rfl) (by rfl) (by omega) (by simp [Value.oneCell', byteV, strV]) ?_
   intro v16 w16 hN16
   replace hN := hN.ext hN16.1
   refine XL.s rfl ?_
   refine Y.appendN st39 Tryz.underlying39 (by rfl) (by rfl) hN hN16.row (by simp) (by omega) (by omega) ?_
   intro v17 w17 hN17 hC17
   refine XL.s rfl ?_
   refine Y.assign (by rfl) ?_
   refine XL.nil ?_
   refine QN.blk ?_
   refine QN.again ((j + 1, v17)) ?_ ?_ ?_
   ·exact ⟨rfl, rfl, trivial⟩
   ·exact ⟨by omega, hN17.cast (by omega) (by rw [List.replicate_succ', ← List.append_assoc]; exact (bytesV_append _ [0]).symm)⟩
   ·first | omega | (simp only []; omega) | (simp; omega)
  ·intro hx
   try simp only [decide_eq_true_eq, decide_eq_false_iff_not, Bool.not_eq_true', Bool.not_eq_false', Bool.not_eq_eq_eq_not, Bool.not_true, Bool.not_false, Bool.or_eq_true, Bool.and_eq_true, Bool.or_eq_false_iff] at hx
   have hjp := padN_stop hk hj (by omega)
   subst hjp
   have hP : NewB 5 w wr a (padB k l) := hN.cast (padB_length k l).symm rfl
   have hPl := padB_le l hk
   have hpl := padB_length k l
   have hql := pieceN_le l hk
   have hqp := pieceN_pos l hk
   have hqm := pieceN_mul l hk
   rename World => w3
   refine XC.exit ?_
   refine QN.thenE ?_
   refine QN.thenE ?_
   refine QN.hit ?_
   refine QN.next ?_
   refine XC.seq ?_
   refine XC.region ?_
   show XL _ _ _ _ (List.cons _ _) _ _
   refine XL.s rfl ?_
   refine Y.alloc zt37 ?_
   intro b6 w6 hb6 hz6 hE6
   have hb6 : HB w6 b6 (.cells #[.slice none 0 0] 37 (0, 0)) := hb6
   refine XL.nil ?_
   refine QN.next ?_
   refine XC.seq ?_
   refine XC.seq ?_
   refine XC.region ?_
   show XL _ _ _ _ (List.cons _ _) _ _
   refine XL.s rfl ?_
   refine Y.move (by rfl) ?_
   refine XL.s rfl ?_
   refine Y.move (by rfl) ?_
   refine XL.s rfl ?_
   refine Y.len Tryz.underlying39 (by rfl) (hP.bs.ext hE6) ?_
   refine XL.s rfl ?_
   refine Y.move (by rfl) ?_
   refine XL.s rfl ?_
   refine Y.quo (by rfl) (by rfl) (by omega) (show IntKind.i64.wrap _ = ((pieceN k l : Nat) : Int) from by rw [pieceN, hpl]; exact quo64 _ k (by omega)) ?_
   have hac : a.cells = #[a] := by obtain ⟨q, cp, rfl⟩ := hP.row.val; rfl
   refine XL.s rfl ?_
   refine Y.call (by rfl) ok80 (chunk_ok a (pieceN k l) hqp _ hac) ?_
   rintro v23 w23 ⟨b, c, rfl, hb23, hc23, hbz, hcz, hz23, hE23⟩
   have hP23 : Bs (· < w3.heap.size) w23 a (padB k l) := (hP.bs.old.ext hE6).ext hE23
   refine XL.nil ?_
   refine QN.next ?_
   refine XC.block ?_
   refine XC.rangeFunc (by rfl) ok98 ?_
   intro ℓ D w1 hD hℓ hz1 hE1 hL1
   refine Rets.mono (chunk1_ok ℓ b c (pieceN k l) k (· < w3.heap.size) a (padB k l) (fun i W => ∃ u, HB W b6 (.cells #[u] 37 (0, 0)) ∧ OMat 39 5 (btw w1.heap.size W.heap.size) W u ((List.range i).map (pieceP k l)) ∧ LoopS _ _ _ _ _ ℓ D .ready W ∧ Ext w W ∧ w1.heap.size ≤ W.heap.size) w1 (hb23.ext hE1) (hc23.ext hE1) (hP23.ext hE1) (by rw [hqm]) hqp (by omega) ⟨_, (hb6.ext hE23).ext hE1, OMat.nil _ _ _ _, hL1, (((hP.1.trans hE6).trans hE23).trans hE1), Nat.le_refl _⟩ (fun i W1 W2 ⟨u, k1, k2, k4, k5, k6⟩ hE => ⟨u, k1.ext hE, (k2.ext hE).wider, k4.ext hE, k5.trans hE, by have := hE.size; omega⟩) ?_) ?_
   ·rintro i q W1 hik ⟨u, k1, k2, k4, k5, k6⟩ hq 
    have hz1e := hE1.size
    have hlw : ℓ < W1.heap.size ∧ D < W1.heap.size := by obtain ⟨_, _, x, y, _⟩ := k4; exact ⟨x.lt, y.lt⟩
    refine YieldsTo.of k4 rfl rfl ?_
    show XC _ _ _ _ (List.cons (24, _) _) _
    refine XC.region ?_
    show XL _ _ _ _ (List.cons _ _) _ _
    refine XL.s rfl ?_
    refine Y.assign (by rfl) ?_
    refine XL.nil ?_
    refine QN.begun k4 ?_
    intro wb hCb hzb hLb
    have hb6b := k1.chg hCb (by omega)
    have hqb := hq.chg hCb (fun x _ hx e => by omega)
    have k2b := k2.chg hCb (fun x hx e => by have := hx.1; omega)
    have hpc := pieceP_length l hk hik
    refine XC.block ?_
    apply XC.drop [8, 9, 10, 11, 12, 13, 14, 15, 16, 17, 18, 19, 20, 21, 22, 25, 26, 27, 28, 29, 30]
    ·repeat (first | apply DropTo.nil | apply DropTo.skip rfl | apply DropTo.keep rfl)
    refine XC.drawL 4 [[], [], [1], [1, 2], [0, 1, 2, 3], [0, 1, 2, 3, 4]] _ (Chg NoB) (Steady.chg NoB) [] [(0, (fun v _ => v = u)), (2, (fun v w' => ∃ g0, Own (· = g0) w' 5 1 v (pieceP k l i).length (bytesV (pieceP k l i)) ∧ wb.heap.size ≤ g0 ∧ g0 < w'.heap.size)), (3, (fun v w' => ∃ q g0, Row (fun x => wb.heap.size ≤ x) w' v 1 [q] ∧ Own (· = g0) w' 5 1 q (pieceP k l i).length (bytesV (pieceP k l i)) ∧ wb.heap.size ≤ g0 ∧ g0 < w'.heap.size))] [0, 1, 2, 3] fol (by kernel_rfl) (by rfl) (by rfl) ⟨(fun _ _ _ _ h => h), (fun v w1 w2 hE ⟨g0, h1, h2, h3⟩ => ⟨g0, h1.ext hE, h2, Nat.lt_of_lt_of_le h3 hE.size⟩), (fun v w1 w2 hE ⟨q, g0, h0, h1, h2, h3⟩ => ⟨q, g0, h0.ext hE, h1.ext hE, h2, Nat.lt_of_lt_of_le h3 hE.size⟩), trivial⟩ ⟨?_, ?_, ?_, ?_, trivial⟩ ?_
    ·intro aD7 wD7 haD7 hCD7 hrD7
     replace hb6b := hb6b.ext hCD7
     replace hqb := hqb.ext hCD7
     replace k2b := k2b.ext hCD7
     refine ⟨rfl, ?_⟩
     refine XD.start haD7 ?_
     refine XD.stepI ?_
     refine Y.load one37 (by rfl) (one0 hb6b) ?_
     exact ⟨Chg.refl _ _, rfl⟩
    ·intro aD7 wD7 haD7 hCD7 hrD7
     refine ⟨rfl, ?_⟩
     refine XD.start haD7 ?_
     apply XD.stepP rfl
     intro w3
     refine Y.move (by rfl) ?_
     exact ⟨rfl, rfl⟩
    ·intro aD7 wD7 haD7 hCD7 hrD7
     obtain ⟨r1, -⟩ := hrD7
     replace hb6b := hb6b.ext hCD7
     replace hqb := hqb.ext hCD7
     replace k2b := k2b.ext hCD7
     refine ⟨rfl, ?_⟩
     refine XD.start haD7 ?_
     refine XD.pure r1 ?_
     refine Y.move (by rfl) ?_
     refine XD.stepI ?_
     refine Y.call (by rfl) ok37 (cloneO_ok _ _ _ _ _ hqb (by simp [bytesV]) (by show (pieceP k l i).length ≤ _; omega) (by show 0 < (pieceP k l i).length; omega)) ?_
     rintro v27 w27 hN27
     obtain ⟨g0, _, hgS, hgl, hg0⟩ := hN27.2.at; exact ⟨hN27.1, g0, hg0, Nat.le_trans hCD7.size hgS, hgl⟩
    ·intro aD7 wD7 haD7 hCD7 hrD7
     obtain ⟨r1, r2, -⟩ := hrD7
     replace hb6b := hb6b.ext hCD7
     replace hqb := hqb.ext hCD7
     replace k2b := k2b.ext hCD7
     refine ⟨rfl, ?_⟩
     refine XD.start haD7 ?_
     refine XD.pure r1 ?_
     refine Y.move (by rfl) ?_
     refine XD.imp r2 ?_
     rintro v27 ⟨g27, hV27, hg27, hg27'⟩
     refine XD.stepI ?_
     refine Y.buildSlice st37 (by rfl) (by rfl) (by omega) (by simp [hV27.row.oneC]) ?_
     intro v28 w28 hN28
     exact ⟨hN28.1, v27, g27, hN28.row.mono (fun x hx hs => Nat.le_trans hCD7.size hs), hV27.ext hN28.1, hg27, Nat.lt_of_lt_of_le hg27' hN28.1.size⟩
    intro aD7 wD7 haD7 hCD7 hrD7
    obtain ⟨r0, r1, r2, r3, -⟩ := hrD7
    replace hb6b := hb6b.ext hCD7
    replace hqb := hqb.ext hCD7
    replace k2b := k2b.ext hCD7
    refine XD.start haD7 ?_
    refine XD.imp r0 ?_
    rintro _ rfl
    refine XD.pure r1 ?_
    refine Y.move (by rfl) ?_
    refine XD.imp r2 ?_
    rintro v27 ⟨g27, hV27, hg27, hg27'⟩
    refine XD.imp r3 ?_
    rintro v28 ⟨q28, g28, hR28, hg0, hg28, hg28'⟩
    refine XD.fin haD7 ?_
    show XL _ _ _ _ (List.cons _ _) _ _
    refine XL.s rfl ?_
    refine Y.appendRow st37 Tryz.underlying37 (by rfl) (by rfl) k2b hR28 hg0 (fun h => by have := h.2; omega) (by simp; omega) (by simp; omega) ?_
    intro v29 w29 hM29 hC29
    have hzD := hCD7.size
    have hz29 := hC29.size
    have hb629 := hb6b.chg hC29 (fun h => by have := h.1; omega)
    refine XL.o ?_
    refine Y.storeB one37 (by rfl) (by rfl) hM29.rows.row1 hb629 (by simp) (nofr0 _) ?_
    intro w30 hb30 hC30 hz30 _
    have hb30 : HB w30 b6 (.cells #[v29] 37 (0, 0)) := hb30
    refine XL.nil ?_
    refine QN.blk ?_
    refine QN.rounded (((hLb.ext hCD7).chg hC29 (fun h => by have := h.1; omega) (fun h => by have := h.1; omega)).chg hC30 (by omega) (by omega)) ?_
    intro we hCe hze hLe
    have hM30 := (hM29.grow (by omega) (by omega)).chg hC30 (fun x hx e => by have := hx.1; omega)
    have hCall : Chg (fun x => x = ℓ ∨ x = b6 ∨ w1.heap.size ≤ x) W1 we := ((((hCb.mono (S' := fun x => x = ℓ ∨ x = b6 ∨ w1.heap.size ≤ x) (fun _ _ h => .inl h)).ext hCD7).trans hC29 (fun _ h => h) (fun _ _ h => .inr (.inr h.1))).trans hC30 (fun _ h => h) (fun _ _ h => .inr (.inl h))).trans hCe (fun _ h => h) (fun _ _ h => .inl h)
    have hs1 := hP.1.size
    have hs2 := hE6.size
    have hs3 := hE23.size
    exact ⟨⟨v29, hb30.chg hCe (by omega), ((hM30.chg hCe (fun x hx e => by have := hx.1; omega)).wider).cast (range_map_succ _ _).symm, hLe, k5.chgNew hCall (fun x hx => by rcases hx with h | h | h <;> omega), by have := hCall.size; omega⟩, hCall.mono fun x _ hx => by rcases hx with h | h | h <;> exact ⟨by omega, by omega, by omega⟩⟩
   ·rintro v W ⟨u, k1, k2, k4, k5, k6⟩ 
    refine ⟨k4, ?_⟩
    intro w3 hC3 hz3 hD3
    have hs1 := hP.1.size
    have hs2 := hE6.size
    have hs3 := hE23.size
    have hE1z := hE1.size
    refine QN.blk ?_
    refine QN.next ?_
    refine XC.seq ?_
    refine XC.region ?_
    show XL _ _ _ _ (List.cons _ _) _ _
    refine XL.s rfl ?_
    refine Y.load one37 (by rfl) (one0 (k1.chg hC3 (by omega))) ?_
    refine XL.s rfl ?_
    refine Y.assign (by rfl) ?_
    refine XL.nil ?_
    refine QN.next ?_
    refine XC.ret ?_
    refine QN.doneM (fn := Tryz.f50) (R := R) (.inl rfl) rfl rfl rfl hD3 ?_
    intro wf hCf hzf
    refine hR _ _ ?_
    exact ⟨(((k2.chg hC3 (fun x hx e => by have := hx.1; omega)).chg hCf (fun x hx e => by have := hx.1; omega)).cast (piecesP_range k l)).rows.any, (k5.chgNew hC3 (fun x hx => by omega)).chgNew hCf (fun x hx => by omega)⟩
end Go.Proofs.YtchammpamigonaaGreatX
end
section
set_option linter.unusedVariables false
set_option linter.unusedSimpArgs false
set_option maxRecDepth 10000
set_option maxHeartbeats 4000000
namespace Go.Proofs.YtchammpamigonaaGreatX
open Go Go.RowKit Go.Proofs
theorem cright_ok (K F : Int) (w : World) (hK : in64 K) (hF : in64 F) :
  Rets Tryz.prog 26 #[shapeV K F] w fun v w' => v = .bool (decide (okShape K F)) ∧ Ext w w' := by
 refine Rets.enter (args := [shapeV K F]) (n := 30) Tryz.func26 rfl rfl rfl ?_
 intro R hR
 show XC _ _ _ _ [(0, shapeV K F)] _
 refine XC.seq ?_
 refine XC.region ?_
 show XL _ _ _ _ (List.cons _ _) _ _
 refine XL.s rfl ?_
 refine Y.box (by rfl) ?_
 intro b1 w1 hb1 hz1 hE1
 have hs0 := shape0 (K := K) (F := F) hb1
 have hs1 := shape1 (K := K) (F := F) hb1
 obtain ⟨hK1, hK2⟩ := hK
 obtain ⟨hF1, hF2⟩ := hF
 refine XL.s rfl ?_
 refine Y.assign (by rfl) ?_
 refine XL.nil ?_
 refine QN.next ?_
 refine XC.seq ?_
 refine XC.region ?_
 show XL _ _ _ _ (List.cons _ _) _ _
 refine XL.s rfl ?_
 refine Y.fieldAddr fld23_0 (by rfl) ?_
 refine XL.s rfl ?_
 refine Y.load one3 (by rfl) (by assumption) ?_
 refine XL.s rfl ?_
 refine Y.geq (by rfl) (by rfl) ?_
 refine XL.s rfl ?_
 refine Y.move (by rfl) ?_
 refine XL.splitAt (t := 6) rfl ?_ ?_
 ·intro h1
  have h1' := h1
  try simp only [decide_eq_true_eq, decide_eq_false_iff_not, Bool.not_eq_true', Bool.not_eq_false', Bool.not_eq_eq_eq_not, Bool.not_true, Bool.not_false] at h1'
  refine XL.gt rfl rfl h1 rfl ?_
  refine Y.fieldAddr fld23_0 (by rfl) ?_
  refine XL.gt rfl rfl h1 rfl ?_
  refine Y.load one3 (by rfl) (by assumption) ?_
  refine XL.gt rfl rfl h1 rfl ?_
  refine Y.leq (by rfl) (by rfl) ?_
  refine XL.s rfl ?_
  refine Y.pickT (by rfl) h1 (by rfl) ?_
  refine XL.s rfl ?_
  refine Y.move (by rfl) ?_
  refine XL.splitAt (t := 11) rfl ?_ ?_
  ·intro h2
   have h2' := h2
   try simp only [decide_eq_true_eq, decide_eq_false_iff_not, Bool.not_eq_true', Bool.not_eq_false', Bool.not_eq_eq_eq_not, Bool.not_true, Bool.not_false] at h2'
   refine XL.gt rfl rfl h2 rfl ?_
   refine Y.fieldAddr fld23_1 (by rfl) ?_
   refine XL.gt rfl rfl h2 rfl ?_
   refine Y.load one3 (by rfl) (by assumption) ?_
   refine XL.gt rfl rfl h2 rfl ?_
   refine Y.geq (by rfl) (by rfl) ?_
   refine XL.s rfl ?_
   refine Y.pickT (by rfl) h2 (by rfl) ?_
   refine XL.s rfl ?_
   refine Y.move (by rfl) ?_
   refine XL.splitAt (t := 16) rfl ?_ ?_
   ·intro h3
    have h3' := h3
    try simp only [decide_eq_true_eq, decide_eq_false_iff_not, Bool.not_eq_true', Bool.not_eq_false', Bool.not_eq_eq_eq_not, Bool.not_true, Bool.not_false] at h3'
    refine XL.gt rfl rfl h3 rfl ?_
    refine Y.fieldAddr fld23_1 (by rfl) ?_
    refine XL.gt rfl rfl h3 rfl ?_
    refine Y.load one3 (by rfl) (by assumption) ?_
    refine XL.gt rfl rfl h3 rfl ?_
    refine Y.leq (by rfl) (by rfl) ?_
    refine XL.s rfl ?_
    refine Y.pickT (by rfl) h3 (by rfl) ?_
    refine XL.s rfl ?_
    refine Y.move (by rfl) ?_
    refine XL.splitAt (t := 21) rfl ?_ ?_
    ·intro h4
     have h4' := h4
     try simp only [decide_eq_true_eq, decide_eq_false_iff_not, Bool.not_eq_true', Bool.not_eq_false', Bool.not_eq_eq_eq_not, Bool.not_true, Bool.not_false] at h4'
     refine XL.gt rfl rfl h4 rfl ?_
     refine Y.fieldAddr fld23_0 (by rfl) ?_
     refine XL.gt rfl rfl h4 rfl ?_
     refine Y.load one3 (by rfl) (by assumption) ?_
     refine XL.gt rfl rfl h4 rfl ?_
     refine Y.fieldAddr fld23_1 (by rfl) ?_
     refine XL.gt rfl rfl h4 rfl ?_
     refine Y.load one3 (by rfl) (by assumption) ?_
     refine XL.gt rfl rfl h4 rfl ?_
     refine Y.mul (by rfl) (by rfl) (wrap64 (by omega) (by omega)) ?_
     refine XL.gt rfl rfl h4 rfl ?_
     refine Y.add (by rfl) (by rfl) (wrap64 (by omega) (by omega)) ?_
     refine XL.gt rfl rfl h4 rfl ?_
     refine Y.leq (by rfl) (by rfl) ?_
     refine XL.s rfl ?_
     refine Y.pickT (by rfl) h4 (by rfl) ?_
     refine XL.s rfl ?_
     refine Y.assign (by rfl) ?_
     refine XL.nil ?_
     refine QN.next ?_
     refine XC.ret ?_
     refine QN.done1 (fn := Tryz.f26) (R := R) (.inl rfl) rfl rfl ?_
     refine hR _ _ ?_
     exact ⟨congrArg Value.bool (decide_eq_decide.2 ⟨fun h => ⟨by omega, by omega, by omega⟩, fun h => by have := h.2.2; omega⟩), hE1⟩
    ·intro h4
     have h4' := h4
     try simp only [decide_eq_true_eq, decide_eq_false_iff_not, Bool.not_eq_true', Bool.not_eq_false', Bool.not_eq_eq_eq_not, Bool.not_true, Bool.not_false] at h4'
     refine XL.gf rfl rfl h4 rfl ?_
     refine XL.gf rfl rfl h4 rfl ?_
     refine XL.gf rfl rfl h4 rfl ?_
     refine XL.gf rfl rfl h4 rfl ?_
     refine XL.gf rfl rfl h4 rfl ?_
     refine XL.gf rfl rfl h4 rfl ?_
     refine XL.gf rfl rfl h4 rfl ?_
     refine XL.s rfl ?_
     refine Y.pickF (by rfl) h4 (by rfl) ?_
     refine XL.s rfl ?_
     refine Y.assign (by rfl) ?_
     refine XL.nil ?_
     refine QN.next ?_
     refine XC.ret ?_
     refine QN.done1 (fn := Tryz.f26) (R := R) (.inl rfl) rfl rfl ?_
     refine hR _ _ ?_
     exact ⟨by rw [decide_eq_false (fun h : okShape K F => by have := h.1; have := h.2.1; have := h.2.2; omega)], hE1⟩
   ·intro h3
    have h3' := h3
    try simp only [decide_eq_true_eq, decide_eq_false_iff_not, Bool.not_eq_true', Bool.not_eq_false', Bool.not_eq_eq_eq_not, Bool.not_true, Bool.not_false] at h3'
    refine XL.gf rfl rfl h3 rfl ?_
    refine XL.gf rfl rfl h3 rfl ?_
    refine XL.gf rfl rfl h3 rfl ?_
    refine XL.s rfl ?_
    refine Y.pickF (by rfl) h3 (by rfl) ?_
    refine XL.s rfl ?_
    refine Y.move (by rfl) ?_
    refine XL.gf rfl rfl rfl rfl ?_
    refine XL.gf rfl rfl rfl rfl ?_
    refine XL.gf rfl rfl rfl rfl ?_
    refine XL.gf rfl rfl rfl rfl ?_
    refine XL.gf rfl rfl rfl rfl ?_
    refine XL.gf rfl rfl rfl rfl ?_
    refine XL.gf rfl rfl rfl rfl ?_
    refine XL.s rfl ?_
    refine Y.pickF (by rfl) rfl (by rfl) ?_
    refine XL.s rfl ?_
    refine Y.assign (by rfl) ?_
    refine XL.nil ?_
    refine QN.next ?_
    refine XC.ret ?_
    refine QN.done1 (fn := Tryz.f26) (R := R) (.inl rfl) rfl rfl ?_
    refine hR _ _ ?_
    exact ⟨by rw [decide_eq_false (fun h : okShape K F => by have := h.1; have := h.2.1; have := h.2.2; omega)], hE1⟩
  ·intro h2
   have h2' := h2
   try simp only [decide_eq_true_eq, decide_eq_false_iff_not, Bool.not_eq_true', Bool.not_eq_false', Bool.not_eq_eq_eq_not, Bool.not_true, Bool.not_false] at h2'
   refine XL.gf rfl rfl h2 rfl ?_
   refine XL.gf rfl rfl h2 rfl ?_
   refine XL.gf rfl rfl h2 rfl ?_
   refine XL.s rfl ?_
   refine Y.pickF (by rfl) h2 (by rfl) ?_
   refine XL.s rfl ?_
   refine Y.move (by rfl) ?_
   refine XL.gf rfl rfl rfl rfl ?_
   refine XL.gf rfl rfl rfl rfl ?_
   refine XL.gf rfl rfl rfl rfl ?_
   refine XL.s rfl ?_
   refine Y.pickF (by rfl) rfl (by rfl) ?_
   refine XL.s rfl ?_
   refine Y.move (by rfl) ?_
   refine XL.gf rfl rfl rfl rfl ?_
   refine XL.gf rfl rfl rfl rfl ?_
   refine XL.gf rfl rfl rfl rfl ?_
   refine XL.gf rfl rfl rfl rfl ?_
   refine XL.gf rfl rfl rfl rfl ?_
   refine XL.gf rfl rfl rfl rfl ?_
   refine XL.gf rfl rfl rfl rfl ?_
   refine XL.s rfl ?_
   refine Y.pickF (by rfl) rfl (by rfl) ?_
   refine XL.s rfl ?_
   refine Y.assign (by rfl) ?_
   refine XL.nil ?_
   refine QN.next ?_
   refine XC.ret ?_
   refine QN.done1 (fn := Tryz.f26) (R := R) (.inl rfl) rfl rfl ?_
   refine hR _ _ ?_
   exact ⟨by rw [decide_eq_false (fun h : okShape K F => by have := h.1; have := h.2.1; have := h.2.2; omega)], hE1⟩
 ·intro h1
  have h1' := h1
  try simp only [decide_eq_true_eq, decide_eq_false_iff_not, Bool.not_eq_true', Bool.not_eq_false', Bool.not_eq_eq_eq_not, Bool.not_true, Bool.not_false] at h1'
  refine XL.gf rfl rfl h1 rfl ?_
  refine XL.gf rfl rfl h1 rfl ?_
  refine XL.gf rfl rfl h1 rfl ?_
  refine XL.s rfl ?_
  refine Y.pickF (by rfl) h1 (by rfl) ?_
  refine XL.s rfl ?_
  refine Y.move (by rfl) ?_
  refine XL.gf rfl rfl rfl rfl ?_
  refine XL.gf rfl rfl rfl rfl ?_
  refine XL.gf rfl rfl rfl rfl ?_
  refine XL.s rfl ?_
  refine Y.pickF (by rfl) rfl (by rfl) ?_
  refine XL.s rfl ?_
  refine Y.move (by rfl) ?_
  refine XL.gf rfl rfl rfl rfl ?_
  refine XL.gf rfl rfl rfl rfl ?_
  refine XL.gf rfl rfl rfl rfl ?_
  refine XL.s rfl ?_
  refine Y.pickF (by rfl) rfl (by rfl) ?_
  refine XL.s rfl ?_
  refine Y.move (by rfl) ?_
  refine XL.gf rfl rfl rfl rfl ?_
  refine XL.gf rfl rfl rfl rfl ?_
  refine XL.gf rfl rfl rfl rfl ?_
  refine XL.gf rfl rfl rfl rfl ?_
  refine XL.gf rfl rfl rfl rfl ?_
  refine XL.gf rfl rfl rfl rfl ?_
  refine XL.gf rfl rfl rfl rfl ?_
  refine XL.s rfl ?_
  refine Y.pickF (by rfl) rfl (by rfl) ?_
  refine XL.s rfl ?_
  refine Y.assign (by rfl) ?_
  refine XL.nil ?_
  refine QN.next ?_
  refine XC.ret ?_
  refine QN.done1 (fn := Tryz.f26) (R := R) (.inl rfl) rfl rfl ?_
  refine hR _ _ ?_
  exact ⟨by rw [decide_eq_false (fun h : okShape K F => by have := h.1; have := h.2.1; have := h.2.2; omega)], hE1⟩
theorem cn_ok (K F : Int) (w : World) (hK : in64 K) (hF : in64 F) (hs : okShape K F) :
  Rets Tryz.prog 9 #[shapeV K F] w fun v w' => v = .int .i64 (K + 2 * F) ∧ Ext w w' := by
 refine Rets.enter (args := [shapeV K F]) (n := 12) Tryz.func9 rfl rfl rfl ?_
 intro R hR
 show XC _ _ _ _ [(0, shapeV K F)] _
 refine XC.seq ?_
 refine XC.region ?_
 show XL _ _ _ _ (List.cons _ _) _ _
 refine XL.s rfl ?_
 refine Y.box (by rfl) ?_
 intro b1 w1 hb1 hz1 hE1
 have hs0 := shape0 (K := K) (F := F) hb1
 have hs1 := shape1 (K := K) (F := F) hb1
 refine XL.s rfl ?_
 refine Y.assign (by rfl) ?_
 refine XL.nil ?_
 refine QN.next ?_
 refine XC.seq ?_
 refine XC.seq ?_
 refine XC.region ?_
 show XL _ _ _ _ (List.cons _ _) _ _
 refine XL.s rfl ?_
 refine Y.loadA agg23 (by rfl) (cs := [.int .i64 K, .int .i64 F]) rfl (shapeA (K := K) (F := F) hb1) ?_
 refine XL.s rfl ?_
 refine Y.call (by rfl) ok26 (cright_ok K F _ hK hF) ?_
 rintro v4 w4 ⟨rfl, hE4⟩
 replace hs0 := hE4.cell hs0
 replace hs1 := hE4.cell hs1
 obtain ⟨h1, h2, h3⟩ := id hs
 refine XL.s rfl ?_
 refine Y.not (by rfl) ?_
 refine XL.nil ?_
 refine QN.next ?_
 refine XC.condF rfl (by rw [decide_eq_true hs]; rfl) ?_
 refine XC.skip ?_
 refine QN.next ?_
 refine XC.seq ?_
 refine XC.region ?_
 show XL _ _ _ _ (List.cons _ _) _ _
 refine XL.s rfl ?_
 refine Y.fieldAddr fld23_0 (by rfl) ?_
 refine XL.s rfl ?_
 refine Y.load one3 (by rfl) (by assumption) ?_
 refine XL.s rfl ?_
 refine Y.fieldAddr fld23_1 (by rfl) ?_
 refine XL.s rfl ?_
 refine Y.load one3 (by rfl) (by assumption) ?_
 refine XL.s rfl ?_
 refine Y.mul (by rfl) (by rfl) (wrap64 (by omega) (by omega)) ?_
 refine XL.s rfl ?_
 refine Y.add (by rfl) (by rfl) (wrap64 (by omega) (by omega)) ?_
 refine XL.s rfl ?_
 refine Y.assign (by rfl) ?_
 refine XL.nil ?_
 refine QN.next ?_
 refine XC.ret ?_
 refine QN.done1 (fn := Tryz.f9) (R := R) (.inl rfl) rfl rfl ?_
 refine hR _ _ ?_
 exact ⟨by rw [Int.add_comm], hE1.trans hE4⟩
theorem rn_ok (K F : Int) (w : World) (hK : in64 K) (hF : in64 F) (hs : okShape K F) :
  Rets Tryz.prog 64 #[shapeV K F] w fun v w' => v = .int .i64 (K + 2 * F) ∧ Ext w w' := by
 refine Rets.enter (args := [shapeV K F]) (n := 11) Tryz.func64 rfl rfl rfl ?_
 intro R hR
 show XC _ _ _ _ [(0, shapeV K F)] _
 refine XC.seq ?_
 refine XC.region ?_
 show XL _ _ _ _ (List.cons _ _) _ _
 refine XL.s rfl ?_
 refine Y.box (by rfl) ?_
 intro b1 w1 hb1 hz1 hE1
 have hs0 := shape0 (K := K) (F := F) hb1
 have hs1 := shape1 (K := K) (F := F) hb1
 obtain ⟨h1, h2, h3⟩ := hs
 refine XL.s rfl ?_
 refine Y.assign (by rfl) ?_
 refine XL.nil ?_
 refine QN.next ?_
 refine XC.seq ?_
 refine XC.region ?_
 show XL _ _ _ _ (List.cons _ _) _ _
 refine XL.s rfl ?_
 refine Y.fieldAddr fld23_0 (by rfl) ?_
 refine XL.s rfl ?_
 refine Y.load one3 (by rfl) (by assumption) ?_
 refine XL.s rfl ?_
 refine Y.fieldAddr fld23_1 (by rfl) ?_
 refine XL.s rfl ?_
 refine Y.load one3 (by rfl) (by assumption) ?_
 refine XL.s rfl ?_
 refine Y.add (by rfl) (by rfl) (wrap64 (by omega) (by omega)) ?_
 refine XL.s rfl ?_
 refine Y.fieldAddr fld23_1 (by rfl) ?_
 refine XL.s rfl ?_
 refine Y.load one3 (by rfl) (by assumption) ?_
 refine XL.s rfl ?_
 refine Y.add (by rfl) (by rfl) (wrap64 (by omega) (by omega)) ?_
 refine XL.s rfl ?_
 refine Y.assign (by rfl) ?_
 refine XL.nil ?_
 refine QN.next ?_
 refine XC.ret ?_
 refine QN.done1 (fn := Tryz.f64) (R := R) (.inl rfl) rfl rfl ?_
 refine hR _ _ ?_
 exact ⟨congrArg _ (by omega), hE1⟩
end Go.Proofs.YtchammpamigonaaGreatX
end
