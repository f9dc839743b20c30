/- For every shape, two texts and seven spoils shardloglaw25.ScrubApart returns true and leaves what it was handed as it was; no condition. Part 5 of 6: joined by a program of this repo out of texts of its own. -/
import Derived.Test.YtchammpamigonaaGreatApart4
set_option linter.unusedVariables false
set_option linter.unusedSimpArgs false
section
set_option linter.unusedVariables false
set_option linter.unusedSimpArgs false
set_option maxRecDepth 10000
set_option maxHeartbeats 4000000
namespace Go.Proofs.YtchammpamigonaaGreatX
open Go Go.RowKit Go.Proofs
theorem rcoding_ok (K N : Nat) (w : World) (hK : 0 < K) (hK2 : K ≤ 255) (hN2 : N ≤ 255) :
  Rets Tryz.prog 63 #[.int .i64 K, .int .i64 N] w fun v w' => OMat 39 5 (btw w.heap.size w'.heap.size) w' v (rcod K N) ∧ Ext w w' := by
 refine Rets.enter (args := [.int .i64 K, .int .i64 N]) (n := 40) Tryz.func63 rfl rfl rfl ?_
 intro R hR
 show XC _ _ _ _ [(0, .int .i64 K), (1, .int .i64 N)] _
 refine XC.seq ?_
 refine XC.region ?_
 show XL _ _ _ _ (List.cons _ _) _ _
 refine XL.s rfl ?_
 refine Y.assign (by rfl) ?_
 refine XL.nil ?_
 refine QN.next ?_
 refine XC.seq ?_
 refine XC.region ?_
 show XL _ _ _ _ (List.cons _ _) _ _
 refine XL.s rfl ?_
 refine Y.assign (by rfl) ?_
 refine XL.nil ?_
 refine QN.next ?_
 refine XC.seq ?_
 refine XC.seq ?_
 refine XC.region ?_
 show XL _ _ _ _ (List.cons _ _) _ _
 refine XL.s rfl ?_
 refine Y.assign (by rfl) ?_
 refine XL.nil ?_
 refine QN.next ?_
 refine XC.block ?_
 refine XC.loop (α := Nat × Value) (fun (i, a) => [(0, .int .i64 (K : Nat)), (1, .int .i64 (N : Nat)), (5, a), (6, .int .i64 i)]) (fun (i, a) wr => i ≤ N ∧ Ext w wr ∧ OMat 39 5 (btw w.heap.size wr.heap.size) wr a (rcod K i)) (fun (i, a) => N - i) ((0, .slice none 0 0)) ?_ ?_ ?_
 ·exact ⟨rfl, rfl, rfl, rfl, trivial⟩
 ·exact ⟨by omega, Chg.refl _ _, OMat.nil _ _ _ _⟩
 ·rintro ⟨i, a⟩ wr hI
  obtain ⟨hi, hE, hM⟩ := hI
  refine XC.seq ?_
  refine XC.seq ?_
  refine XC.region ?_
  show XL _ _ _ _ (List.cons _ _) _ _
  refine XL.s rfl ?_
  refine Y.move (by rfl) ?_
  refine XL.s rfl ?_
  refine Y.move (by rfl) ?_
  refine XL.s rfl ?_
  refine Y.lss (by rfl) (by rfl) ?_
  refine XL.nil ?_
  refine QN.next ?_
  refine XC.condS rfl ?_ ?_
  ·intro hc
   try simp only [decide_eq_true_eq, decide_eq_false_iff_not, Bool.not_eq_true', Bool.not_eq_false', Bool.not_eq_eq_eq_not, Bool.not_true, Bool.not_false, Bool.or_eq_true, Bool.and_eq_true, Bool.or_eq_false_iff] at hc
   rename World => w0
   refine XC.skip ?_
   refine QN.next ?_
   refine XC.seq ?_
   refine XC.block ?_
   refine XC.seq ?_
   refine XC.region ?_
   show XL _ _ _ _ (List.cons _ _) _ _
   refine XL.s rfl ?_
   refine Y.assign (by rfl) ?_
   refine XL.nil ?_
   refine QN.next ?_
   refine XC.seq ?_
   refine XC.seq ?_
   refine XC.region ?_
   show XL _ _ _ _ (List.cons _ _) _ _
   refine XL.s rfl ?_
   refine Y.assign (by rfl) ?_
   refine XL.nil ?_
   refine QN.next ?_
   refine XC.block ?_
   refine XC.loop (α := Nat × Value) (fun (j, r) => [(0, .int .i64 (K : Nat)), (1, .int .i64 (N : Nat)), (5, a), (6, .int .i64 i), (7, r), (8, .int .i64 j)]) (fun (j, r) wr => j ≤ K ∧ New w0 wr 5 1 r j (bytesV ((List.range j).map (rcodE K i))) ∧ (0 < j → NewO w0 wr 5 1 r j (bytesV ((List.range j).map (rcodE K i))))) (fun (j, r) => K - j) ((0, .slice none 0 0)) ?_ ?_ ?_
   ·exact ⟨rfl, rfl, rfl, rfl, rfl, rfl, trivial⟩
   ·exact ⟨by omega, New.nil _ _ _, fun h => absurd h (by omega)⟩
   ·rintro ⟨j, r⟩ wr hI
    obtain ⟨hj, hN, hO⟩ := hI
    refine XC.seq ?_
    refine XC.seq ?_
    refine XC.region ?_
    show XL _ _ _ _ (List.cons _ _) _ _
    refine XL.s rfl ?_
    refine Y.move (by rfl) ?_
    refine XL.s rfl ?_
    refine Y.move (by rfl) ?_
    refine XL.s rfl ?_
    refine Y.lss (by rfl) (by rfl) ?_
    refine XL.nil ?_
    refine QN.next ?_
    refine XC.condS rfl ?_ ?_
    ·intro hd
     try simp only [decide_eq_true_eq, decide_eq_false_iff_not, Bool.not_eq_true', Bool.not_eq_false', Bool.not_eq_eq_eq_not, Bool.not_true, Bool.not_false, Bool.or_eq_true, Bool.and_eq_true, Bool.or_eq_false_iff] at hd
     refine XC.skip ?_
     refine QN.next ?_
     refine XC.seq ?_
     refine XC.block ?_
     refine XC.seq ?_
     refine XC.region ?_
     show XL _ _ _ _ (List.cons _ _) _ _
     refine XL.s rfl ?_
     refine Y.assign (by rfl) ?_
     refine XL.nil ?_
     refine QN.next ?_
     refine XC.seq ?_
     refine XC.seq ?_
     refine XC.region ?_
     show XL _ _ _ _ (List.cons _ _) _ _
     refine XL.s rfl ?_
     refine Y.move (by rfl) ?_
     refine XL.s rfl ?_
     refine Y.move (by rfl) ?_
     refine XL.s rfl ?_
     refine Y.eql (by rfl) (by rfl) ?_
     refine XL.nil ?_
     refine QN.next ?_
     refine XC.condS rfl ?_ ?_
     ·intro hx
      try simp only [decide_eq_true_eq, decide_eq_false_iff_not, Bool.not_eq_true', Bool.not_eq_false', Bool.not_eq_eq_eq_not, Bool.not_true, Bool.not_false, Bool.or_eq_true, Bool.and_eq_true, Bool.or_eq_false_iff] at hx
      refine XC.region ?_
      show XL _ _ _ _ (List.cons _ _) _ _
      refine XL.s rfl ?_
      refine Y.assign (by rfl) ?_
      refine XL.nil ?_
      refine QN.next ?_
      refine XC.seq ?_
      refine XC.seq ?_
      refine XC.region ?_
      show XL _ _ _ _ (List.cons _ _) _ _
      refine XL.s rfl ?_
      refine Y.move (by rfl) ?_
      refine XL.s rfl ?_
      refine Y.move (by rfl) ?_
      refine XL.s rfl ?_
      refine Y.geq (by rfl) (by rfl) ?_
      refine XL.nil ?_
      refine QN.next ?_
      refine XC.condF rfl ya ?_
      have hee : rcodE K i j = 1 := by rw [rcodE, if_neg (by omega), if_pos (by omega)]
      refine XC.skip ?_
      refine QN.next ?_
      refine XC.region ?_
      show XL _ _ _ _ (List.cons _ _) _ _
      refine XL.s rfl ?_
      refine Y.move (by rfl) ?_
      refine XL.s rfl ?_
      refine Y.move (by rfl) ?_
      refine XL.s rfl ?_
      refine Y.buildSlice st39 (by rfl) (by rfl) (by omega) (by simp [Value.oneCell', byteV, strV]) ?_
      intro v33 w33 hN33
      replace hN := hN.ext hN33.1
      refine XL.s rfl ?_
      refine Y.appendO st39 Tryz.underlying39 (by rfl) (by rfl) hN hN33.row (by omega) (by simp) (by omega) (by omega) ?_
      intro v34 w34 hO34 hC34
      refine XL.s rfl ?_
      refine Y.assign (by rfl) ?_
      refine XL.nil ?_
      refine QN.blk ?_
      refine QN.next ?_
      refine XC.region ?_
      show XL _ _ _ _ (List.cons _ _) _ _
      refine XL.s rfl ?_
      refine Y.move (by rfl) ?_
      refine XL.s rfl ?_
      refine Y.add (by rfl) (by rfl) (wrap64 (by omega) (by omega)) ?_
      refine XL.s rfl ?_
      refine Y.assign (by rfl) ?_
      refine XL.nil ?_
      refine QN.again ((j + 1, v34)) ?_ ?_ ?_
      ·exact ⟨rfl, rfl, rfl, rfl, rfl, rfl, trivial⟩
      ·exact ⟨by omega, hO34.new.cast rfl (by first | (rw [bytes_range_succ, hee]; done) | (rw [bytes_range_succ, hee]; rfl)), fun _ => hO34.cast rfl (by first | (rw [bytes_range_succ, hee]; done) | (rw [bytes_range_succ, hee]; rfl))⟩
      ·first | omega | (simp only []; omega) | (simp; omega)
     ·intro hx
      try simp only [decide_eq_true_eq, decide_eq_false_iff_not, Bool.not_eq_true', Bool.not_eq_false', Bool.not_eq_eq_eq_not, Bool.not_true, Bool.not_false, Bool.or_eq_true, Bool.and_eq_true, Bool.or_eq_false_iff] at hx
      refine XC.skip ?_
      refine QN.next ?_
      refine XC.seq ?_
      refine XC.seq ?_
      refine XC.region ?_
      show XL _ _ _ _ (List.cons _ _) _ _
      refine XL.s rfl ?_
      refine Y.move (by rfl) ?_
      refine XL.s rfl ?_
      refine Y.move (by rfl) ?_
      refine XL.s rfl ?_
      refine Y.geq (by rfl) (by rfl) ?_
      refine XL.nil ?_
      refine QN.next ?_
      refine XC.condS rfl ?_ ?_
      ·intro hy
       try simp only [decide_eq_true_eq, decide_eq_false_iff_not, Bool.not_eq_true', Bool.not_eq_false', Bool.not_eq_eq_eq_not, Bool.not_true, Bool.not_false, Bool.or_eq_true, Bool.and_eq_true, Bool.or_eq_false_iff] at hy
       refine XC.region ?_
       show XL _ _ _ _ (List.cons _ _) _ _
       refine XL.s rfl ?_
       refine Y.move (by rfl) ?_
       refine XL.s rfl ?_
       refine Y.move (by rfl) ?_
       refine XL.s rfl ?_
       refine Y.xor (by rfl) (by rfl) (xor64 i j (by omega) (by omega)) ?_
       refine XL.s rfl ?_
       refine Y.convI Tryz.underlying3 Tryz.underlying5 (by rfl) (byte_of _) ?_
       refine XL.s rfl ?_
       refine Y.call (by rfl) ok91 (rinv_ok (UInt8.ofNat (i ^^^ j)) _) ?_
       rintro v30 w30 ⟨rfl, hE30⟩
       replace hN := hN.ext hE30
       have hee : rcodE K i j = pinv (UInt8.ofNat (i ^^^ j)) := by rw [rcodE, if_pos (by omega)]
       refine XL.s rfl ?_
       refine Y.assign (by rfl) ?_
       refine XL.nil ?_
       refine QN.next ?_
       refine XC.region ?_
       show XL _ _ _ _ (List.cons _ _) _ _
       refine XL.s rfl ?_
       refine Y.move (by rfl) ?_
       refine XL.s rfl ?_
       refine Y.move (by rfl) ?_
       refine XL.s rfl ?_
       refine Y.buildSlice st39 (by rfl) (by rfl) (by omega) (by simp [Value.oneCell', byteV, strV]) ?_
       intro v33 w33 hN33
       replace hN := hN.ext hN33.1
       refine XL.s rfl ?_
       refine Y.appendO st39 Tryz.underlying39 (by rfl) (by rfl) hN hN33.row (by omega) (by simp) (by omega) (by omega) ?_
       intro v34 w34 hO34 hC34
       refine XL.s rfl ?_
       refine Y.assign (by rfl) ?_
       refine XL.nil ?_
       refine QN.blk ?_
       refine QN.next ?_
       refine XC.region ?_
       show XL _ _ _ _ (List.cons _ _) _ _
       refine XL.s rfl ?_
       refine Y.move (by rfl) ?_
       refine XL.s rfl ?_
       refine Y.add (by rfl) (by rfl) (wrap64 (by omega) (by omega)) ?_
       refine XL.s rfl ?_
       refine Y.assign (by rfl) ?_
       refine XL.nil ?_
       refine QN.again ((j + 1, v34)) ?_ ?_ ?_
       ·exact ⟨rfl, rfl, rfl, rfl, rfl, rfl, trivial⟩
       ·exact ⟨by omega, hO34.new.cast rfl (by first | (rw [bytes_range_succ, hee]; done) | (rw [bytes_range_succ, hee]; rfl)), fun _ => hO34.cast rfl (by first | (rw [bytes_range_succ, hee]; done) | (rw [bytes_range_succ, hee]; rfl))⟩
       ·first | omega | (simp only []; omega) | (simp; omega)
      ·intro hy
       try simp only [decide_eq_true_eq, decide_eq_false_iff_not, Bool.not_eq_true', Bool.not_eq_false', Bool.not_eq_eq_eq_not, Bool.not_true, Bool.not_false, Bool.or_eq_true, Bool.and_eq_true, Bool.or_eq_false_iff] at hy
       have hee : rcodE K i j = 0 := by rw [rcodE, if_neg (by omega), if_neg (by omega)]
       refine XC.skip ?_
       refine QN.next ?_
       refine XC.region ?_
       show XL _ _ _ _ (List.cons _ _) _ _
       refine XL.s rfl ?_
       refine Y.move (by rfl) ?_
       refine XL.s rfl ?_
       refine Y.move (by rfl) ?_
       refine XL.s rfl ?_
       refine Y.buildSlice st39 (by rfl) (by rfl) (by omega) (by simp [Value.oneCell', byteV, strV]) ?_
       intro v33 w33 hN33
       replace hN := hN.ext hN33.1
       refine XL.s rfl ?_
       refine Y.appendO st39 Tryz.underlying39 (by rfl) (by rfl) hN hN33.row (by omega) (by simp) (by omega) (by omega) ?_
       intro v34 w34 hO34 hC34
       refine XL.s rfl ?_
       refine Y.assign (by rfl) ?_
       refine XL.nil ?_
       refine QN.blk ?_
       refine QN.next ?_
       refine XC.region ?_
       show XL _ _ _ _ (List.cons _ _) _ _
       refine XL.s rfl ?_
       refine Y.move (by rfl) ?_
       refine XL.s rfl ?_
       refine Y.add (by rfl) (by rfl) (wrap64 (by omega) (by omega)) ?_
       refine XL.s rfl ?_
       refine Y.assign (by rfl) ?_
       refine XL.nil ?_
       refine QN.again ((j + 1, v34)) ?_ ?_ ?_
       ·exact ⟨rfl, rfl, rfl, rfl, rfl, rfl, trivial⟩
       ·exact ⟨by omega, hO34.new.cast rfl (by first | (rw [bytes_range_succ, hee]; done) | (rw [bytes_range_succ, hee]; rfl)), fun _ => hO34.cast rfl (by first | (rw [bytes_range_succ, hee]; done) | (rw [bytes_range_succ, hee]; rfl))⟩
       ·first | omega | (simp only []; omega) | (simp; omega)
    ·intro hd
     try simp only [decide_eq_true_eq, decide_eq_false_iff_not, Bool.not_eq_true', Bool.not_eq_false', Bool.not_eq_eq_eq_not, Bool.not_true, Bool.not_false, Bool.or_eq_true, Bool.and_eq_true, Bool.or_eq_false_iff] at hd
     obtain rfl : j = K := by omega
     obtain ⟨g0, -, hgS, hgl, hg0⟩ := (hO hK).2.at
     simp only [Since] at hgS
     have hg0 := hg0.cast (rcodR_length j i).symm rfl
     have hzz := hE.size
     replace hM := hM.ext hN.1
     replace hE := hE.trans hN.1
     refine XC.exit ?_
     refine QN.thenE ?_
     refine QN.thenE ?_
     refine QN.hit ?_
     refine QN.next ?_
     refine XC.region ?_
     show XL _ _ _ _ (List.cons _ _) _ _
     refine XL.s rfl ?_
     refine Y.move (by rfl) ?_
     refine XL.s rfl ?_
     refine Y.move (by rfl) ?_
     refine XL.s rfl ?_
     refine Y.buildSlice st37 (by rfl) (by rfl) (by omega) (by intro q hq; simp at hq; subst hq; exact hg0.row.oneC) ?_
     intro v37 w37 hN37
     replace hg0 := hg0.ext hN37.1
     replace hM := hM.ext hN37.1
     replace hE := hE.trans hN37.1
     refine XL.s rfl ?_
     refine Y.appendRow st37 Tryz.underlying37 (by rfl) (by rfl) hM hN37.row hg0 (fun h => by have := h.2; omega) (by simp [rcod_length]; omega) (by simp [rcod_length]; omega) ?_
     intro v38 w38 hM38 hC38
     have hz38 := hE.size
     replace hM := hM38.grow (by omega) hz38
     replace hE := hE.chgNew hC38 (fun x hx => hx.1)
     refine XL.s rfl ?_
     refine Y.assign (by rfl) ?_
     refine XL.nil ?_
     refine QN.blk ?_
     refine QN.next ?_
     refine XC.region ?_
     show XL _ _ _ _ (List.cons _ _) _ _
     refine XL.s rfl ?_
     refine Y.move (by rfl) ?_
     refine XL.s rfl ?_
     refine Y.add (by rfl) (by rfl) (wrap64 (by omega) (by omega)) ?_
     refine XL.s rfl ?_
     refine Y.assign (by rfl) ?_
     refine XL.nil ?_
     refine QN.again ((i + 1, v38)) ?_ ?_ ?_
     ·exact ⟨rfl, rfl, rfl, rfl, trivial⟩
     ·exact ⟨by omega, hE, hM.cast (rcod_succ _ _).symm⟩
     ·first | omega | (simp only []; omega) | (simp; omega)
  ·intro hc
   try simp only [decide_eq_true_eq, decide_eq_false_iff_not, Bool.not_eq_true', Bool.not_eq_false', Bool.not_eq_eq_eq_not, Bool.not_true, Bool.not_false, Bool.or_eq_true, Bool.and_eq_true, Bool.or_eq_false_iff] at hc
   obtain rfl : i = N := by omega
   refine XC.exit ?_
   refine QN.thenE ?_
   refine QN.thenE ?_
   refine QN.hit ?_
   refine QN.next ?_
   refine XC.seq ?_
   refine XC.region ?_
   show XL _ _ _ _ (List.cons _ _) _ _
   refine XL.s rfl ?_
   refine Y.move (by rfl) ?_
   refine XL.s rfl ?_
   refine Y.assign (by rfl) ?_
   refine XL.nil ?_
   refine QN.next ?_
   refine XC.ret ?_
   refine QN.done1 (fn := Tryz.f63) (R := R) (.inl rfl) rfl rfl ?_
   refine hR _ _ ?_
   exact ⟨hM, hE⟩
theorem rmmul_ok (S S' : Nat → Prop) (u x : Value) (A B : List (List UInt8)) (n : Nat) (w : World) (hr : Rows S w u A) (hi : Rows S' w x B) (hA : ∀ l ∈ A, l.length = B.length) (hB : ∀ l ∈ B, l.length = n) (h0 : 0 < n) (hn : n ≤ 1000000) (hA0 : 0 < A.length) (hB0 : 0 < B.length) (hAl : A.length ≤ 1000000) (hBl : B.length ≤ 1000000) :
  Rets Tryz.prog 62 #[u, x] w fun v w' => OMat 39 5 (btw w.heap.size w'.heap.size) w' v (rmul A B) ∧ Ext w w' := by
 refine Rets.enter (args := [u, x]) (n := 64) Tryz.func62 rfl rfl rfl ?_
 intro R hR
 show XC _ _ _ _ [(0, u), (1, x)] _
 obtain ⟨cu, capu, rfl⟩ := hr.val
 obtain ⟨cx, capx, rfl⟩ := hi.val
 obtain ⟨vs, hvs, hvl, hqs⟩ := hr.get
 obtain ⟨ys, hys, hyl, hy⟩ := hi.get
 obtain ⟨q, hq, hb⟩ := hqs 0 hA0
 obtain ⟨y0, hy0, hb0⟩ := hy 0 hB0
 have hb0n := hB _ (List.getElem_mem hB0)
 have hBh := headD_len B n hB hB0
 refine XC.seq ?_
 refine XC.region ?_
 show XL _ _ _ _ (List.cons _ _) _ _
 refine XL.s rfl ?_
 refine Y.assign (by rfl) ?_
 refine XL.nil ?_
 refine QN.next ?_
 refine XC.seq ?_
 refine XC.seq ?_
 refine XC.region ?_
 show XL _ _ _ _ (List.cons _ _) _ _
 refine XL.s rfl ?_
 refine Y.move (by rfl) ?_
 refine XL.s rfl ?_
 refine Y.indexR st37 (by rfl) (by rfl) hvs ⟨by omega, by omega⟩ (by exact hq) ?_
 intro b12 o12 hs12 hc12
 refine XL.s rfl ?_
 refine Y.load one39 (by rfl) (by assumption) ?_
 refine XL.s rfl ?_
 refine Y.len Tryz.underlying39 (by rfl) hb ?_
 refine XL.s rfl ?_
 refine Y.move (by rfl) ?_
 refine XL.s rfl ?_
 first | refine Y.lenV Tryz.underlying37 (by rfl) ?_ | refine Y.len Tryz.underlying37 (by rfl) (by first | assumption | exact Apd.row (by assumption) | exact New.row (by assumption)) ?_
 refine XL.s rfl ?_
 refine Y.neq (by rfl) (by rfl) ?_
 refine XL.nil ?_
 refine QN.next ?_
 refine XC.condF rfl (by rw [hA _ (List.getElem_mem hA0)]; simp) ?_
 refine XC.skip ?_
 refine QN.next ?_
 refine XC.seq ?_
 refine XC.region ?_
 show XL _ _ _ _ (List.cons _ _) _ _
 refine XL.s rfl ?_
 refine Y.assign (by rfl) ?_
 refine XL.nil ?_
 refine QN.next ?_
 refine XC.seq ?_
 refine XC.seq ?_
 refine XC.region ?_
 show XL _ _ _ _ (List.cons _ _) _ _
 refine XL.s rfl ?_
 refine Y.assign (by rfl) ?_
 refine XL.nil ?_
 refine QN.next ?_
 refine XC.block ?_
 refine XC.loop (α := Nat × Value) (fun (i, a) => [(0, .slice cu A.length capu), (1, .slice cx B.length capx), (5, a), (6, .int .i64 i)]) (fun (i, a) wr => i ≤ A.length ∧ Ext w wr ∧ OMat 39 5 (btw w.heap.size wr.heap.size) wr a (rmul (A.take i) B)) (fun (i, a) => A.length - i) ((0, .slice none 0 0)) ?_ ?_ ?_
 ·exact ⟨rfl, rfl, rfl, rfl, trivial⟩
 ·exact ⟨by omega, Chg.refl _ _, OMat.nil _ _ _ _⟩
 ·rintro ⟨i, a⟩ wr hI
  obtain ⟨hi', hE, hM⟩ := hI
  refine XC.seq ?_
  refine XC.seq ?_
  refine XC.region ?_
  show XL _ _ _ _ (List.cons _ _) _ _
  refine XL.s rfl ?_
  refine Y.move (by rfl) ?_
  refine XL.s rfl ?_
  refine Y.move (by rfl) ?_
  refine XL.s rfl ?_
  first | refine Y.lenV Tryz.underlying37 (by rfl) ?_ | refine Y.len Tryz.underlying37 (by rfl) (by first | assumption | exact Apd.row (by assumption) | exact New.row (by assumption)) ?_
  refine XL.s rfl ?_
  refine Y.lss (by rfl) (by rfl) ?_
  refine XL.nil ?_
  refine QN.next ?_
  refine XC.condS rfl ?_ ?_
  ·intro hc
   try simp only [decide_eq_true_eq, decide_eq_false_iff_not, Bool.not_eq_true', Bool.not_eq_false', Bool.not_eq_eq_eq_not, Bool.not_true, Bool.not_false, Bool.or_eq_true, Bool.and_eq_true, Bool.or_eq_false_iff] at hc
   have hiA : i < A.length := by omega
   obtain ⟨q, hq, hb⟩ := hqs i hiA
   have hrl := hA _ (List.getElem_mem hiA)
   rename World => w0
   refine XC.skip ?_
   refine QN.next ?_
   refine XC.seq ?_
   refine XC.block ?_
   refine XC.seq ?_
   refine XC.region ?_
   show XL _ _ _ _ (List.cons _ _) _ _
   refine XL.s rfl ?_
   refine Y.assign (by rfl) ?_
   refine XL.nil ?_
   refine QN.next ?_
   refine XC.seq ?_
   refine XC.seq ?_
   refine XC.region ?_
   show XL _ _ _ _ (List.cons _ _) _ _
   refine XL.s rfl ?_
   refine Y.assign (by rfl) ?_
   refine XL.nil ?_
   refine QN.next ?_
   refine XC.block ?_
   refine XC.loop (α := Nat × Value) (fun (j, r) => [(0, .slice cu A.length capu), (1, .slice cx B.length capx), (5, a), (6, .int .i64 i), (7, r), (8, .int .i64 j)]) (fun (j, r) wr => j ≤ n ∧ New w0 wr 5 1 r j (bytesV ((List.range j).map (fun j => dotK A[i] B j B.length))) ∧ (0 < j → NewO w0 wr 5 1 r j (bytesV ((List.range j).map (fun j => dotK A[i] B j B.length))))) (fun (j, r) => n - j) ((0, .slice none 0 0)) ?_ ?_ ?_
   ·exact ⟨rfl, rfl, rfl, rfl, rfl, rfl, trivial⟩
   ·exact ⟨by omega, New.nil _ _ _, fun h => absurd h (by omega)⟩
   ·rintro ⟨j, r⟩ wr hI
    obtain ⟨hj, hN, hO⟩ := hI
    have hEn := hE.trans hN.1
    refine XC.seq ?_
    refine XC.seq ?_
    refine XC.region ?_
    show XL _ _ _ _ (List.cons _ _) _ _
    refine XL.s rfl ?_
    refine Y.move (by rfl) ?_
    refine XL.s rfl ?_
    refine Y.move (by rfl) ?_
    refine XL.s rfl ?_
    refine Y.indexR st37 (by rfl) (by rfl) (hys.ext hEn) ⟨by omega, by omega⟩ (by exact hy0) ?_
    intro b26 o26 hs26 hc26
    refine XL.s rfl ?_
    refine Y.load one39 (by rfl) (by assumption) ?_
    refine XL.s rfl ?_
    refine Y.len Tryz.underlying39 (by rfl) ((hb0.ext hEn).cast hb0n rfl) ?_
    refine XL.s rfl ?_
    refine Y.lss (by rfl) (by rfl) ?_
    refine XL.nil ?_
    refine QN.next ?_
    refine XC.condS rfl ?_ ?_
    ·intro hd
     try simp only [decide_eq_true_eq, decide_eq_false_iff_not, Bool.not_eq_true', Bool.not_eq_false', Bool.not_eq_eq_eq_not, Bool.not_true, Bool.not_false, Bool.or_eq_true, Bool.and_eq_true, Bool.or_eq_false_iff] at hd
     rename World => w1
     refine XC.skip ?_
     refine QN.next ?_
     refine XC.seq ?_
     refine XC.block ?_
     refine XC.seq ?_
     refine XC.region ?_
     show XL _ _ _ _ (List.cons _ _) _ _
     refine XL.s rfl ?_
     refine Y.assign (by rfl) ?_
     refine XL.nil ?_
     refine QN.next ?_
     refine XC.seq ?_
     refine XC.seq ?_
     refine XC.region ?_
     show XL _ _ _ _ (List.cons _ _) _ _
     refine XL.s rfl ?_
     refine Y.assign (by rfl) ?_
     refine XL.nil ?_
     refine QN.next ?_
     refine XC.block ?_
     refine XC.loop (α := Nat) (fun k => [(0, .slice cu A.length capu), (1, .slice cx B.length capx), (5, a), (6, .int .i64 i), (7, r), (8, .int .i64 j), (9, byteV (dotK A[i] B j k)), (10, .int .i64 k)]) (fun k wr => k ≤ B.length ∧ Ext w1 wr) (fun k => B.length - k) (0) ?_ ?_ ?_
     ·exact ⟨rfl, rfl, rfl, rfl, rfl, rfl, rfl, rfl, trivial⟩
     ·exact ⟨by omega, Chg.refl _ _⟩
     ·rintro k wr hI
      obtain ⟨hk, hE1⟩ := hI
      refine XC.seq ?_
      refine XC.seq ?_
      refine XC.region ?_
      show XL _ _ _ _ (List.cons _ _) _ _
      refine XL.s rfl ?_
      refine Y.move (by rfl) ?_
      refine XL.s rfl ?_
      refine Y.move (by rfl) ?_
      refine XL.s rfl ?_
      first | refine Y.lenV Tryz.underlying37 (by rfl) ?_ | refine Y.len Tryz.underlying37 (by rfl) (by first | assumption | exact Apd.row (by assumption) | exact New.row (by assumption)) ?_
      refine XL.s rfl ?_
      refine Y.lss (by rfl) (by rfl) ?_
      refine XL.nil ?_
      refine QN.next ?_
      refine XC.condS rfl ?_ ?_
      ·intro hf
       try simp only [decide_eq_true_eq, decide_eq_false_iff_not, Bool.not_eq_true', Bool.not_eq_false', Bool.not_eq_eq_eq_not, Bool.not_true, Bool.not_false, Bool.or_eq_true, Bool.and_eq_true, Bool.or_eq_false_iff] at hf
       have hkB : k < B.length := by omega
       have hkA : k < A[i].length := by omega
       obtain ⟨y, hyy, hyb⟩ := hy k hkB
       have hyn := hB _ (List.getElem_mem hkB)
       have hEk := hEn.trans hE1
       have hvk := hvs.ext hEk
       have hbk := hb.ext hEk
       have hysk := hys.ext hEk
       have hybk := hyb.ext hEk
       have hjn : j < B[k].length := by omega
       have hdot : dotK A[i] B j (k + 1) = dotK A[i] B j k ^^^ pmul A[i][k] B[k][j] := by simp [dotK, List.getD_eq_getElem?_getD, hkA, hkB, hjn]
       refine XC.skip ?_
       refine QN.next ?_
       refine XC.seq ?_
       refine XC.block ?_
       apply XC.drop [11, 12, 13, 14, 15, 16, 17, 18, 19, 20, 21, 22, 23, 24, 25, 26, 27, 28, 29, 30, 31, 32, 33, 34, 35, 36, 37, 38, 39, 40, 41, 42, 43, 44, 45, 46, 47, 48, 49, 50, 51, 52, 53, 54, 55, 56, 57, 58, 59, 60, 61, 62, 63]
       ·repeat (first | apply DropTo.nil | apply DropTo.skip rfl | apply DropTo.keep rfl)
       refine XC.drawL 16 [[], [], [], [1, 2], [1, 2, 3], [], [1, 2, 3, 4, 5], [1, 2, 3, 4, 5, 6], [], [], [8, 9], [8, 9, 10], [], [8, 9, 10, 11, 12], [8, 9, 10, 11, 12, 13], [1, 2, 3, 4, 5, 6, 7, 8, 9, 10, 11, 12, 13, 14], [0, 1, 2, 3, 4, 5, 6, 7, 8, 9, 10, 11, 12, 13, 14, 15], [0, 1, 2, 3, 4, 5, 6, 7, 8, 9, 10, 11, 12, 13, 14, 15, 16]] _ (Chg NoB) (Steady.chg NoB) [] [(3, (fun v w' => ∃ b o, v = .pointer (some ⟨b, o, none⟩) ∧ w'.cell? ⟨b, o, none⟩ = some (q))), (4, (fun v _ => v = q)), (6, (fun v w' => ∃ b o, v = .pointer (some ⟨b, o, none⟩) ∧ w'.cell? ⟨b, o, none⟩ = some (byteV A[i][k]))), (7, (fun v _ => v = byteV A[i][k])), (10, (fun v w' => ∃ b o, v = .pointer (some ⟨b, o, none⟩) ∧ w'.cell? ⟨b, o, none⟩ = some (y))), (11, (fun v _ => v = y)), (13, (fun v w' => ∃ b o, v = .pointer (some ⟨b, o, none⟩) ∧ w'.cell? ⟨b, o, none⟩ = some (byteV B[k][j]))), (14, (fun v _ => v = byteV B[k][j])), (15, (fun v _ => v = byteV (pmul A[i][k] B[k][j])))] [0, 1, 2, 3, 4, 5, 6, 7, 8, 9, 10, 11, 12, 13, 14, 15] fol (by kernel_rfl) (by rfl) (by rfl) ⟨(fun v w1 w2 hE ⟨b, o, hv, hc⟩ => ⟨b, o, hv, hE.cell hc⟩), (fun _ _ _ _ h => h), (fun v w1 w2 hE ⟨b, o, hv, hc⟩ => ⟨b, o, hv, hE.cell hc⟩), (fun _ _ _ _ h => h), (fun v w1 w2 hE ⟨b, o, hv, hc⟩ => ⟨b, o, hv, hE.cell hc⟩), (fun _ _ _ _ h => h), (fun v w1 w2 hE ⟨b, o, hv, hc⟩ => ⟨b, o, hv, hE.cell hc⟩), (fun _ _ _ _ h => h), (fun _ _ _ _ h => h), trivial⟩ ⟨?_, ?_, ?_, ?_, ?_, ?_, ?_, ?_, ?_, ?_, ?_, ?_, ?_, ?_, ?_, ?_, trivial⟩ ?_
       ·intro aD15 wD15 haD15 hCD15 hrD15
        refine ⟨rfl, ?_⟩
        refine XD.start haD15 ?_
        apply XD.stepP rfl
        intro w3
        refine Y.move (by rfl) ?_
        exact ⟨rfl, rfl⟩
       ·intro aD15 wD15 haD15 hCD15 hrD15
        refine ⟨rfl, ?_⟩
        refine XD.start haD15 ?_
        apply XD.stepP rfl
        intro w3
        refine Y.move (by rfl) ?_
        exact ⟨rfl, rfl⟩
       ·intro aD15 wD15 haD15 hCD15 hrD15
        refine ⟨rfl, ?_⟩
        refine XD.start haD15 ?_
        apply XD.stepP rfl
        intro w3
        refine Y.move (by rfl) ?_
        exact ⟨rfl, rfl⟩
       ·intro aD15 wD15 haD15 hCD15 hrD15
        obtain ⟨r1, r2, -⟩ := hrD15
        replace hvk := hvk.ext hCD15
        replace hbk := hbk.ext hCD15
        replace hysk := hysk.ext hCD15
        replace hybk := hybk.ext hCD15
        refine ⟨rfl, ?_⟩
        refine XD.start haD15 ?_
        refine XD.pure r1 ?_
        refine Y.move (by rfl) ?_
        refine XD.pure r2 ?_
        refine Y.move (by rfl) ?_
        refine XD.stepI ?_
        refine Y.indexR st37 (by rfl) (by rfl) hvk ⟨by omega, by omega⟩ (by rw [Int.toNat_natCast]; exact hq) ?_
        intro b41 o41 hs41 hc41
        exact ⟨Chg.refl _ _, _, _, rfl, hc41⟩
       ·intro aD15 wD15 haD15 hCD15 hrD15
        obtain ⟨r1, r2, r3, -⟩ := hrD15
        replace hvk := hvk.ext hCD15
        replace hbk := hbk.ext hCD15
        replace hysk := hysk.ext hCD15
        replace hybk := hybk.ext hCD15
        refine ⟨rfl, ?_⟩
        refine XD.start haD15 ?_
        refine XD.pure r1 ?_
        refine Y.move (by rfl) ?_
        refine XD.pure r2 ?_
        refine Y.move (by rfl) ?_
        refine XD.imp r3 ?_
        rintro _ ⟨b41, o41, rfl, hc41⟩
        refine XD.stepI ?_
        refine Y.load one39 (by rfl) (by assumption) ?_
        exact ⟨Chg.refl _ _, rfl⟩
       ·intro aD15 wD15 haD15 hCD15 hrD15
        refine ⟨rfl, ?_⟩
        refine XD.start haD15 ?_
        apply XD.stepP rfl
        intro w3
        refine Y.move (by rfl) ?_
        exact ⟨rfl, rfl⟩
       ·intro aD15 wD15 haD15 hCD15 hrD15
        obtain ⟨r1, r2, r3, r4, r5, -⟩ := hrD15
        replace hvk := hvk.ext hCD15
        replace hbk := hbk.ext hCD15
        replace hysk := hysk.ext hCD15
        replace hybk := hybk.ext hCD15
        refine ⟨rfl, ?_⟩
        refine XD.start haD15 ?_
        refine XD.pure r1 ?_
        refine Y.move (by rfl) ?_
        refine XD.pure r2 ?_
        refine Y.move (by rfl) ?_
        refine XD.imp r3 ?_
        rintro _ ⟨b41, o41, rfl, hc41⟩
        refine XD.imp r4 ?_
        rintro _ rfl
        refine XD.pure r5 ?_
        refine Y.move (by rfl) ?_
        refine XD.stepI ?_
        refine Y.indexR st39 (by rfl) (by rfl) hbk ⟨by omega, by omega⟩ (by rw [Int.toNat_natCast]; exact bytesV_get _ _ hkA) ?_
        intro b44 o44 hs44 hc44
        exact ⟨Chg.refl _ _, _, _, rfl, hc44⟩
       ·intro aD15 wD15 haD15 hCD15 hrD15
        obtain ⟨r1, r2, r3, r4, r5, r6, -⟩ := hrD15
        replace hvk := hvk.ext hCD15
        replace hbk := hbk.ext hCD15
        replace hysk := hysk.ext hCD15
        replace hybk := hybk.ext hCD15
        refine ⟨rfl, ?_⟩
        refine XD.start haD15 ?_
        refine XD.pure r1 ?_
        refine Y.move (by rfl) ?_
        refine XD.pure r2 ?_
        refine Y.move (by rfl) ?_
        refine XD.imp r3 ?_
        rintro _ ⟨b41, o41, rfl, hc41⟩
        refine XD.imp r4 ?_
        rintro _ rfl
        refine XD.pure r5 ?_
        refine Y.move (by rfl) ?_
        refine XD.imp r6 ?_
        rintro _ ⟨b44, o44, rfl, hc44⟩
        refine XD.stepI ?_
        refine Y.load one5 (by rfl) (by assumption) ?_
        exact ⟨Chg.refl _ _, rfl⟩
       ·intro aD15 wD15 haD15 hCD15 hrD15
        refine ⟨rfl, ?_⟩
        refine XD.start haD15 ?_
        apply XD.stepP rfl
        intro w3
        refine Y.move (by rfl) ?_
        exact ⟨rfl, rfl⟩
       ·intro aD15 wD15 haD15 hCD15 hrD15
        refine ⟨rfl, ?_⟩
        refine XD.start haD15 ?_
        apply XD.stepP rfl
        intro w3
        refine Y.move (by rfl) ?_
        exact ⟨rfl, rfl⟩
       ·intro aD15 wD15 haD15 hCD15 hrD15
        obtain ⟨r8, r9, -⟩ := hrD15
        replace hvk := hvk.ext hCD15
        replace hbk := hbk.ext hCD15
        replace hysk := hysk.ext hCD15
        replace hybk := hybk.ext hCD15
        refine ⟨rfl, ?_⟩
        refine XD.start haD15 ?_
        refine XD.pure r8 ?_
        refine Y.move (by rfl) ?_
        refine XD.pure r9 ?_
        refine Y.move (by rfl) ?_
        refine XD.stepI ?_
        refine Y.indexR st37 (by rfl) (by rfl) hysk ⟨by omega, by omega⟩ (by rw [Int.toNat_natCast]; exact hyy) ?_
        intro b48 o48 hs48 hc48
        exact ⟨Chg.refl _ _, _, _, rfl, hc48⟩
       ·intro aD15 wD15 haD15 hCD15 hrD15
        obtain ⟨r8, r9, r10, -⟩ := hrD15
        replace hvk := hvk.ext hCD15
        replace hbk := hbk.ext hCD15
        replace hysk := hysk.ext hCD15
        replace hybk := hybk.ext hCD15
        refine ⟨rfl, ?_⟩
        refine XD.start haD15 ?_
        refine XD.pure r8 ?_
        refine Y.move (by rfl) ?_
        refine XD.pure r9 ?_
        refine Y.move (by rfl) ?_
        refine XD.imp r10 ?_
        rintro _ ⟨b48, o48, rfl, hc48⟩
        refine XD.stepI ?_
        refine Y.load one39 (by rfl) (by assumption) ?_
        exact ⟨Chg.refl _ _, rfl⟩
       ·intro aD15 wD15 haD15 hCD15 hrD15
        refine ⟨rfl, ?_⟩
        refine XD.start haD15 ?_
        apply XD.stepP rfl
        intro w3
        refine Y.move (by rfl) ?_
        exact ⟨rfl, rfl⟩
       ·intro aD15 wD15 haD15 hCD15 hrD15
        obtain ⟨r8, r9, r10, r11, r12, -⟩ := hrD15
        replace hvk := hvk.ext hCD15
        replace hbk := hbk.ext hCD15
        replace hysk := hysk.ext hCD15
        replace hybk := hybk.ext hCD15
        refine ⟨rfl, ?_⟩
        refine XD.start haD15 ?_
        refine XD.pure r8 ?_
        refine Y.move (by rfl) ?_
        refine XD.pure r9 ?_
        refine Y.move (by rfl) ?_
        refine XD.imp r10 ?_
        rintro _ ⟨b48, o48, rfl, hc48⟩
        refine XD.imp r11 ?_
        rintro _ rfl
        refine XD.pure r12 ?_
        refine Y.move (by rfl) ?_
        refine XD.stepI ?_
        refine Y.indexR st39 (by rfl) (by rfl) hybk ⟨by omega, by omega⟩ (by rw [Int.toNat_natCast]; exact bytesV_get _ _ hjn) ?_
        intro b51 o51 hs51 hc51
        exact ⟨Chg.refl _ _, _, _, rfl, hc51⟩
       ·intro aD15 wD15 haD15 hCD15 hrD15
        obtain ⟨r8, r9, r10, r11, r12, r13, -⟩ := hrD15
        replace hvk := hvk.ext hCD15
        replace hbk := hbk.ext hCD15
        replace hysk := hysk.ext hCD15
        replace hybk := hybk.ext hCD15
        refine ⟨rfl, ?_⟩
        refine XD.start haD15 ?_
        refine XD.pure r8 ?_
        refine Y.move (by rfl) ?_
        refine XD.pure r9 ?_
        refine Y.move (by rfl) ?_
        refine XD.imp r10 ?_
        rintro _ ⟨b48, o48, rfl, hc48⟩
        refine XD.imp r11 ?_
        rintro _ rfl
        refine XD.pure r12 ?_
        refine Y.move (by rfl) ?_
        refine XD.imp r13 ?_
        rintro _ ⟨b51, o51, rfl, hc51⟩
        refine XD.stepI ?_
        refine Y.load one5 (by rfl) (by assumption) ?_
        exact ⟨Chg.refl _ _, rfl⟩
       ·intro aD15 wD15 haD15 hCD15 hrD15
        obtain ⟨r1, r2, r3, r4, r5, r6, r7, r8, r9, r10, r11, r12, r13, r14, -⟩ := hrD15
        replace hvk := hvk.ext hCD15
        replace hbk := hbk.ext hCD15
        replace hysk := hysk.ext hCD15
        replace hybk := hybk.ext hCD15
        refine ⟨rfl, ?_⟩
        refine XD.start haD15 ?_
        refine XD.pure r1 ?_
        refine Y.move (by rfl) ?_
        refine XD.pure r2 ?_
        refine Y.move (by rfl) ?_
        refine XD.imp r3 ?_
        rintro _ ⟨b41, o41, rfl, hc41⟩
        refine XD.imp r4 ?_
        rintro _ rfl
        refine XD.pure r5 ?_
        refine Y.move (by rfl) ?_
        refine XD.imp r6 ?_
        rintro _ ⟨b44, o44, rfl, hc44⟩
        refine XD.imp r7 ?_
        rintro _ rfl
        refine XD.pure r8 ?_
        refine Y.move (by rfl) ?_
        refine XD.pure r9 ?_
        refine Y.move (by rfl) ?_
        refine XD.imp r10 ?_
        rintro _ ⟨b48, o48, rfl, hc48⟩
        refine XD.imp r11 ?_
        rintro _ rfl
        refine XD.pure r12 ?_
        refine Y.move (by rfl) ?_
        refine XD.imp r13 ?_
        rintro _ ⟨b51, o51, rfl, hc51⟩
        refine XD.imp r14 ?_
        rintro _ rfl
        refine XD.stepI ?_
        refine Y.call (by rfl) ok90 (rmul_ok _ _ _) ?_
        rintro v53 w53 ⟨rfl, hE53⟩
        exact ⟨hE53, rfl⟩
       intro aD15 wD15 haD15 hCD15 hrD15
       obtain ⟨r0, r1, r2, r3, r4, r5, r6, r7, r8, r9, r10, r11, r12, r13, r14, r15, -⟩ := hrD15
       replace hvk := hvk.ext hCD15
       replace hbk := hbk.ext hCD15
       replace hysk := hysk.ext hCD15
       replace hybk := hybk.ext hCD15
       refine XD.start haD15 ?_
       refine XD.pure r0 ?_
       refine Y.move (by rfl) ?_
       refine XD.pure r1 ?_
       refine Y.move (by rfl) ?_
       refine XD.pure r2 ?_
       refine Y.move (by rfl) ?_
       refine XD.imp r3 ?_
       rintro _ ⟨b41, o41, rfl, hc41⟩
       refine XD.imp r4 ?_
       rintro _ rfl
       refine XD.pure r5 ?_
       refine Y.move (by rfl) ?_
       refine XD.imp r6 ?_
       rintro _ ⟨b44, o44, rfl, hc44⟩
       refine XD.imp r7 ?_
       rintro _ rfl
       refine XD.pure r8 ?_
       refine Y.move (by rfl) ?_
       refine XD.pure r9 ?_
       refine Y.move (by rfl) ?_
       refine XD.imp r10 ?_
       rintro _ ⟨b48, o48, rfl, hc48⟩
       refine XD.imp r11 ?_
       rintro _ rfl
       refine XD.pure r12 ?_
       refine Y.move (by rfl) ?_
       refine XD.imp r13 ?_
       rintro _ ⟨b51, o51, rfl, hc51⟩
       refine XD.imp r14 ?_
       rintro _ rfl
       refine XD.imp r15 ?_
       rintro _ rfl
       refine XD.fin haD15 ?_
       show XL _ _ _ _ (List.cons _ _) _ _
       refine XL.s rfl ?_
       refine Y.xor (by rfl) (by rfl) (xor8 (dotK A[i] B j k) (pmul A[i][k] B[k][j])) ?_
       refine XL.s rfl ?_
       refine Y.assign (by rfl) ?_
       refine XL.nil ?_
       refine QN.blk ?_
       refine QN.next ?_
       refine XC.region ?_
       show XL _ _ _ _ (List.cons _ _) _ _
       refine XL.s rfl ?_
       refine Y.move (by rfl) ?_
       refine XL.s rfl ?_
       refine Y.add (by rfl) (by rfl) (wrap64 (by omega) (by omega)) ?_
       refine XL.s rfl ?_
       refine Y.assign (by rfl) ?_
       refine XL.nil ?_
       refine QN.again (k + 1) ?_ ?_ ?_
       ·exact ⟨rfl, rfl, rfl, rfl, rfl, rfl, by rw [hdot]; rfl, rfl, trivial⟩
       ·exact ⟨by omega, hE1.trans hCD15⟩
       ·first | omega | (simp only []; omega) | (simp; omega)
      ·intro hf
       try simp only [decide_eq_true_eq, decide_eq_false_iff_not, Bool.not_eq_true', Bool.not_eq_false', Bool.not_eq_eq_eq_not, Bool.not_true, Bool.not_false, Bool.or_eq_true, Bool.and_eq_true, Bool.or_eq_false_iff] at hf
       obtain rfl : k = B.length := by omega
       replace hN := hN.ext hE1
       refine XC.exit ?_
       refine QN.thenE ?_
       refine QN.thenE ?_
       refine QN.hit ?_
       refine QN.next ?_
       refine XC.region ?_
       show XL _ _ _ _ (List.cons _ _) _ _
       refine XL.s rfl ?_
       refine Y.move (by rfl) ?_
       refine XL.s rfl ?_
       refine Y.move (by rfl) ?_
       refine XL.s rfl ?_
       refine Y.buildSlice st39 (by rfl) (by rfl) (by omega) (by simp [Value.oneCell', byteV, strV]) ?_
       intro v57 w57 hN57
       replace hN := hN.ext hN57.1
       refine XL.s rfl ?_
       refine Y.appendO st39 Tryz.underlying39 (by rfl) (by rfl) hN hN57.row (by omega) (by simp) (by omega) (by omega) ?_
       intro v58 w58 hO58 hC58
       refine XL.s rfl ?_
       refine Y.assign (by rfl) ?_
       refine XL.nil ?_
       refine QN.blk ?_
       refine QN.next ?_
       refine XC.region ?_
       show XL _ _ _ _ (List.cons _ _) _ _
       refine XL.s rfl ?_
       refine Y.move (by rfl) ?_
       refine XL.s rfl ?_
       refine Y.add (by rfl) (by rfl) (wrap64 (by omega) (by omega)) ?_
       refine XL.s rfl ?_
       refine Y.assign (by rfl) ?_
       refine XL.nil ?_
       refine QN.again ((j + 1, v58)) ?_ ?_ ?_
       ·exact ⟨rfl, rfl, rfl, rfl, rfl, rfl, trivial⟩
       ·exact ⟨by omega, hO58.new.cast rfl (by rw [bytes_range_succ]), fun _ => hO58.cast rfl (by rw [bytes_range_succ])⟩
       ·first | omega | (simp only []; omega) | (simp; omega)
    ·intro hd
     try simp only [decide_eq_true_eq, decide_eq_false_iff_not, Bool.not_eq_true', Bool.not_eq_false', Bool.not_eq_eq_eq_not, Bool.not_true, Bool.not_false, Bool.or_eq_true, Bool.and_eq_true, Bool.or_eq_false_iff] at hd
     obtain rfl : j = n := by omega
     obtain ⟨g0, -, hgS, hgl, hg0⟩ := (hO h0).2.at
     simp only [Since] at hgS
     have hg0 := hg0.cast (show j = ((List.range j).map (fun j => dotK A[i] B j B.length)).length by simp) rfl
     have hzz := hE.size
     replace hM := hM.ext hN.1
     replace hE := hE.trans hN.1
     refine XC.exit ?_
     refine QN.thenE ?_
     refine QN.thenE ?_
     refine QN.hit ?_
     refine QN.next ?_
     refine XC.region ?_
     show XL _ _ _ _ (List.cons _ _) _ _
     refine XL.s rfl ?_
     refine Y.move (by rfl) ?_
     refine XL.s rfl ?_
     refine Y.move (by rfl) ?_
     refine XL.s rfl ?_
     refine Y.buildSlice st37 (by rfl) (by rfl) (by omega) (by intro q hq; simp at hq; subst hq; exact hg0.row.oneC) ?_
     intro v61 w61 hN61
     replace hg0 := hg0.ext hN61.1
     replace hM := hM.ext hN61.1
     replace hE := hE.trans hN61.1
     refine XL.s rfl ?_
     refine Y.appendRow st37 Tryz.underlying37 (by rfl) (by rfl) hM hN61.row hg0 (fun h => by have := h.2; omega) (by rw [rmul_length, List.length_take]; omega) (by rw [rmul_length, List.length_take]; omega) ?_
     intro v62 w62 hM62 hC62
     have hz62 := hE.size
     replace hM := hM62.grow (by omega) hz62
     replace hE := hE.chgNew hC62 (fun x hx => hx.1)
     refine XL.s rfl ?_
     refine Y.assign (by rfl) ?_
     refine XL.nil ?_
     refine QN.blk ?_
     refine QN.next ?_
     refine XC.region ?_
     show XL _ _ _ _ (List.cons _ _) _ _
     refine XL.s rfl ?_
     refine Y.move (by rfl) ?_
     refine XL.s rfl ?_
     refine Y.add (by rfl) (by rfl) (wrap64 (by omega) (by omega)) ?_
     refine XL.s rfl ?_
     refine Y.assign (by rfl) ?_
     refine XL.nil ?_
     refine QN.again ((i + 1, v62)) ?_ ?_ ?_
     ·exact ⟨rfl, rfl, rfl, rfl, trivial⟩
     ·exact ⟨by omega, hE, hM.cast (by rw [rmul_succ _ _ _ hiA, hBh])⟩
     ·first | omega | (simp only []; omega) | (simp; omega)
  ·intro hc
   try simp only [decide_eq_true_eq, decide_eq_false_iff_not, Bool.not_eq_true', Bool.not_eq_false', Bool.not_eq_eq_eq_not, Bool.not_true, Bool.not_false, Bool.or_eq_true, Bool.and_eq_true, Bool.or_eq_false_iff] at hc
   obtain rfl : i = A.length := by omega
   rw [List.take_length] at hM
   refine XC.exit ?_
   refine QN.thenE ?_
   refine QN.thenE ?_
   refine QN.hit ?_
   refine QN.next ?_
   refine XC.seq ?_
   refine XC.region ?_
   show XL _ _ _ _ (List.cons _ _) _ _
   refine XL.s rfl ?_
   refine Y.move (by rfl) ?_
   refine XL.s rfl ?_
   refine Y.assign (by rfl) ?_
   refine XL.nil ?_
   refine QN.next ?_
   refine XC.ret ?_
   refine QN.done1 (fn := Tryz.f62) (R := R) (.inl rfl) rfl rfl ?_
   refine hR _ _ ?_
   exact ⟨hM, hE⟩
end Go.Proofs.YtchammpamigonaaGreatX
end
section
set_option linter.unusedVariables false
set_option linter.unusedSimpArgs false
set_option maxRecDepth 10000
set_option maxHeartbeats 4000000
namespace Go.Proofs.YtchammpamigonaaGreatX
open Go Go.RowKit Go.Proofs
theorem snew_ok (k F : Nat) (w : World) (hk : 1 ≤ k) (hF : k + 2 * F ≤ 7) (Sd : Nat → Prop) (u : Value) (n : Nat) (dvs : List Value) (hr : Row Sd w u n dvs) (hdl : dvs.length = n) (hn : n = k + 2 * F) (Fd : Nat → Nat → Prop) (most : Nat) (ms : Nat → Fm) (U c : Nat) (hd : ∀ i d, dvs[i]? = some d → DiskA 79 82 5 (Fd i) w d most (ms i) U c) (hm : most ≤ 65536) (hU : U ≤ 1000000) :
  Rets Tryz.prog 10 #[shapeV k F, u] w fun v w' => ∃ tv, v = .tuple #[tv, .int .i64 0] ∧ StoreA 66 79 82 5 (btw w.heap.size w'.heap.size) w' tv k F n most ms (fun _ => U) (fun _ => c) ∧ Ext w w' := by
 refine Rets.enter (args := [shapeV k F, u]) (n := 41) Tryz.func10 rfl rfl rfl ?_
 intro R hR
 show XC _ _ _ _ [(0, shapeV k F), (1, u)] _
 refine XC.seq ?_
 refine XC.region ?_
 show XL _ _ _ _ (List.cons _ _) _ _
 refine XL.s rfl ?_
 refine Y.box (by rfl) ?_
 intro b2 w2 hb2 hz2 hE2
 have hsh : HB w2 b2 (.cells (Value.cells (shapeV (k : Int) (F : Int))) 23 (0, 0)) := hb2
 have hok : okShape (k : Int) (F : Int) := ⟨by omega, by omega, by omega⟩
 have hik : in64 (k : Int) := ⟨by omega, by omega⟩
 have hiF : in64 (F : Int) := ⟨by omega, by omega⟩
 refine XL.s rfl ?_
 refine Y.assign (by rfl) ?_
 refine XL.s rfl ?_
 refine Y.assign (by rfl) ?_
 refine XL.nil ?_
 refine QN.next ?_
 refine XC.seq ?_
 refine XC.seq ?_
 refine XC.region ?_
 show XL _ _ _ _ (List.cons _ _) _ _
 refine XL.s rfl ?_
 refine Y.loadA agg23 (by rfl) rfl (shapeA hsh) ?_
 refine XL.s rfl ?_
 refine Y.call (by rfl) ok26 (cright_ok (k : Int) (F : Int) _ hik hiF) ?_
 rintro v10 w10 ⟨rfl, hE10⟩
 refine XL.s rfl ?_
 refine Y.not (by rfl) ?_
 refine XL.s rfl ?_
 refine Y.move (by rfl) ?_
 refine XL.gt rfl rfl (by rw [decide_eq_true hok]; rfl) rfl ?_
 refine Y.move (by rfl) ?_
 refine XL.gt rfl rfl (by rw [decide_eq_true hok]; rfl) rfl ?_
 refine Y.len Tryz.underlying31 (by rfl) (hr.ext (hE2.trans hE10)) ?_
 refine XL.gt rfl rfl (by rw [decide_eq_true hok]; rfl) rfl ?_
 refine Y.loadA agg23 (by rfl) rfl (shapeA (hsh.ext hE10)) ?_
 refine XL.gt rfl rfl (by rw [decide_eq_true hok]; rfl) rfl ?_
 refine Y.call (by rfl) ok9 (cn_ok (k : Int) (F : Int) _ hik hiF hok) ?_
 rintro v16 w16 ⟨rfl, hE16⟩
 refine XL.gt rfl rfl (by rw [decide_eq_true hok]; rfl) rfl ?_
 refine Y.neq (by rfl) (by rfl) ?_
 refine XL.s rfl ?_
 refine Y.pickF (by rfl) (by rw [decide_eq_true hok]; rfl) (by rfl) ?_
 refine XL.nil ?_
 refine QN.next ?_
 refine XC.condF rfl (by simp; omega) ?_
 have hE0 := (hE2.trans hE10).trans hE16
 refine XC.skip ?_
 refine QN.next ?_
 refine XC.seq ?_
 refine XC.region ?_
 show XL _ _ _ _ (List.cons _ _) _ _
 refine XL.s rfl ?_
 refine Y.loadA agg23 (by rfl) rfl (shapeA ((hsh.ext hE10).ext hE16)) ?_
 refine XL.s rfl ?_
 refine Y.build (by rfl) (v := .agg #[.int .i64 (k : Int), .int .i64 (F : Int), .slice none 0 0]) (fun _ => by kernel_rfl) ?_
 refine XL.s rfl ?_
 refine Y.box (by rfl) ?_
 intro b21 w21 hb21 hz21 hE21
 have hcell0 : HB w21 b21 (.cells #[.int .i64 (k : Int), .int .i64 (F : Int), .slice none 0 0] 66 (0, 0)) := hb21
 have hEt := hE0.trans hE21
 have hzt := hEt.size
 have hz0 := hE0.size
 refine XL.s rfl ?_
 refine Y.assign (by rfl) ?_
 refine XL.nil ?_
 refine QN.next ?_
 refine XC.seq ?_
 refine XC.seq ?_
 refine XC.region ?_
 show XL _ _ _ _ (List.cons _ _) _ _
 refine XL.s rfl ?_
 refine Y.move (by rfl) ?_
 refine XL.s rfl ?_
 refine Y.len Tryz.underlying31 (by rfl) (hr.ext hEt) ?_
 obtain ⟨cu, capu, rfl⟩ := hr.val
 refine XL.s rfl ?_
 refine Y.move (by rfl) ?_
 refine XL.nil ?_
 refine QN.next ?_
 refine XC.block ?_
 refine XC.loop (α := Nat × Value) (fun (i, av) => [(6, .pointer (some ⟨b21, 0, none⟩)), (22, .slice cu n capu), (23, .int .i64 (n : Nat)), (24, .int .i64 i)]) (fun (i, av) wr => i ≤ n ∧ HB wr b21 (.cells #[.int .i64 (k : Int), .int .i64 (F : Int), av] 66 (0, 0)) ∧ NewI 41 79 82 5 w.heap.size wr b21 most ms U c i av ∧ Ext w wr) (fun (i, av) => n - i) ((0, .slice none 0 0)) ?_ ?_ ?_
 ·exact ⟨rfl, rfl, rfl, rfl, trivial⟩
 ·exact ⟨by omega, hcell0, ⟨NoB, [], fun _ _ => False, Apd.nil _ _ _ _, fun j d h => by simp at h, fun _ _ _ _ h => h.elim, fun _ _ h => h.elim, fun _ h => h.elim⟩, hEt⟩
 ·rintro ⟨i, av⟩ wr hI
  obtain ⟨hi, hcell, hN, hE⟩ := hI
  refine XC.seq ?_
  refine XC.region ?_
  show XL _ _ _ _ (List.cons _ _) _ _
  refine XL.s rfl ?_
  refine Y.lss (by rfl) (by rfl) ?_
  refine XL.nil ?_
  refine QN.next ?_
  refine XC.seq ?_
  refine XC.condS rfl ?_ ?_
  ·intro hc
   try simp only [decide_eq_true_eq, decide_eq_false_iff_not, Bool.not_eq_true', Bool.not_eq_false', Bool.not_eq_eq_eq_not, Bool.not_true, Bool.not_false, Bool.or_eq_true, Bool.and_eq_true, Bool.or_eq_false_iff] at hc
   have hi' : i < n := by omega
   obtain ⟨So, us, Fs, h1, h2, h3, h4, h5⟩ := hN
   have hdi : dvs[i]? = some dvs[i] := by simp [show i < dvs.length by omega]
   have hDi := (hd i _ hdi).ext hE
   refine XC.skip ?_
   refine QN.next ?_
   refine XC.seq ?_
   refine XC.block ?_
   refine XC.seq ?_
   refine XC.region ?_
   show XL _ _ _ _ (List.cons _ _) _ _
   refine XL.s rfl ?_
   refine Y.indexR st31 (by rfl) (by rfl) (hr.ext hE) ⟨by omega, by omega⟩ (by rw [Int.toNat_natCast]; exact hdi) ?_
   intro b26 o26 hs26 hc26
   rename World => wq
   have hzq := hE.size
   have hSo : ∀ b, So b → b < wq.heap.size := fun b hb => (h5 b hb).2.2
   refine XL.s rfl ?_
   refine Y.load one41 (by rfl) (by assumption) ?_
   refine XL.s rfl ?_
   refine Y.assign (by rfl) ?_
   refine XL.nil ?_
   refine QN.next ?_
   apply XC.drop [9, 10, 11, 12, 13, 14, 15, 16, 17, 18, 19, 20, 21, 25, 26, 27, 28, 29, 30, 31, 32, 33, 34, 35, 36, 37, 38, 39, 40]
   ·repeat (first | apply DropTo.nil | apply DropTo.skip rfl | apply DropTo.keep rfl)
   refine XC.draw2L 9 [[], [], [1], [1, 2], [1, 2, 3], [], [5], [5, 6], [1, 2, 3, 4, 5, 6, 7], [0, 1, 2, 3, 4, 5, 6, 7, 8], [0, 1, 2, 3, 4, 5, 6, 7, 8, 9], [0, 1, 2, 3, 4, 5, 6, 7, 8, 9, 10]] _ 8 [1, 2, 3, 4, 5, 6, 7, 8] ((fun b => So b)) [] [(4, (fun _ => (fun v _ => v = av))), (6, (fun _ => (fun v w' => DiskA 79 82 5 (fun b => wq.heap.size ≤ b ∧ b < w'.heap.size) w' v most (ms i) U c))), (7, (fun _ => (fun v w' => ∃ q, Row (fun b => wq.heap.size ≤ b) w' v 1 [q] ∧ DiskA 79 82 5 (fun b => wq.heap.size ≤ b ∧ b < w'.heap.size) w' q most (ms i) U c))), (8, (fun _ => (fun v w' => ∃ q So' Fi, Apd So' w' 41 1 v (i + 1) (us ++ [q]) ∧ DiskA 79 82 5 Fi w' q most (ms i) U c ∧ (∀ b, Fi b → wq.heap.size ≤ b ∧ b < w'.heap.size ∧ ¬ So' b) ∧ (∀ b, So' b → (So b ∨ wq.heap.size ≤ b) ∧ b < w'.heap.size))))] [0, 1, 2, 3, 4, 5, 6, 7, 8] fol (by kernel_rfl) (by rfl) (by rfl) (by rfl) ⟨(fun _ => (fun _ _ _ _ h => h)), (fun _ => (fun v w1 w2 hE h => (h.chg hE (fun b hb hs => by have := hSo b hs; have := hb.1; omega)).mono fun b hb => ⟨hb.1, Nat.lt_of_lt_of_le hb.2 hE.size⟩)), (fun _ => (fun v w1 w2 hE ⟨q, ha, h⟩ => ⟨q, ha.chg hE (fun b _ hb hs => by have := hSo b hs; omega), (h.chg hE (fun b hb hs => by have := hSo b hs; have := hb.1; omega)).mono fun b hb => ⟨hb.1, Nat.lt_of_lt_of_le hb.2 hE.size⟩⟩)), (fun _ => (fun v w1 w2 hE ⟨q, So', Fi, a1, a2, a3, a4⟩ => ⟨q, So', Fi, a1.ext hE, a2.ext hE, fun b hb => ⟨(a3 b hb).1, Nat.lt_of_lt_of_le (a3 b hb).2.1 hE.size, (a3 b hb).2.2⟩, fun b hb => ⟨(a4 b hb).1, Nat.lt_of_lt_of_le (a4 b hb).2 hE.size⟩⟩)), trivial⟩ ⟨(fun _ _ _ _ _ h => h), (fun _ _ _ _ _ h => h), (fun _ _ _ _ _ h => h), (fun _ _ _ _ _ h => h), trivial⟩ ⟨?_, ?_, ?_, ?_, ?_, ?_, ?_, ?_, ?_, trivial⟩ ?_
   ·intro aD7 wD7 haD7 hCD7 hrD7
    replace hCD7 : Chg _ _ wD7 := hCD7
    refine ⟨rfl, ?_⟩
    refine XD.start haD7 ?_
    apply XD.stepP rfl
    intro w3
    refine Y.move (by rfl) ?_
    exact ⟨rfl, rfl⟩
   ·intro aD7 wD7 haD7 hCD7 hrD7
    replace hCD7 : Ext _ wD7 := hCD7
    refine ⟨rfl, ?_⟩
    refine XD.start haD7 ?_
    apply XD.stepP rfl
    intro w3
    refine Y.move (by rfl) ?_
    exact ⟨rfl, rfl⟩
   ·intro aD7 wD7 haD7 hCD7 hrD7
    obtain ⟨r1, -⟩ := hrD7
    replace hCD7 : Ext _ wD7 := hCD7
    refine ⟨rfl, ?_⟩
    refine XD.start haD7 ?_
    refine XD.pure r1 ?_
    refine Y.move (by rfl) ?_
    apply XD.stepP rfl
    intro w3
    refine Y.nilCheck (by rfl) ?_
    exact ⟨rfl, rfl⟩
   ·intro aD7 wD7 haD7 hCD7 hrD7
    obtain ⟨r1, r2, -⟩ := hrD7
    replace hCD7 : Ext _ wD7 := hCD7
    refine ⟨rfl, ?_⟩
    refine XD.start haD7 ?_
    refine XD.pure r1 ?_
    refine Y.move (by rfl) ?_
    refine XD.pure r2 ?_
    refine Y.nilCheck (by rfl) ?_
    apply XD.stepP rfl
    intro w3
    refine Y.fieldAddr fld66_1 (by rfl) ?_
    exact ⟨rfl, rfl⟩
   ·intro aD7 wD7 haD7 hCD7 hrD7
    obtain ⟨r1, r2, r3, -⟩ := hrD7
    replace hCD7 : Ext _ wD7 := hCD7
    replace hcell := hcell.ext hCD7
    replace hDi := hDi.ext hCD7
    replace h1 := h1.ext hCD7
    refine ⟨rfl, ?_⟩
    refine XD.start haD7 ?_
    refine XD.pure r1 ?_
    refine Y.move (by rfl) ?_
    refine XD.pure r2 ?_
    refine Y.nilCheck (by rfl) ?_
    refine XD.pure r3 ?_
    refine Y.fieldAddr fld66_1 (by rfl) ?_
    refine XD.stepI ?_
    refine Y.load one31 (by rfl) (three2 hcell) ?_
    exact ⟨Chg.refl _ _, rfl⟩
   ·intro aD7 wD7 haD7 hCD7 hrD7
    replace hCD7 : Ext _ wD7 := hCD7
    refine ⟨rfl, ?_⟩
    refine XD.start haD7 ?_
    apply XD.stepP rfl
    intro w3
    refine Y.move (by rfl) ?_
    exact ⟨rfl, rfl⟩
   ·intro aD7 wD7 haD7 hCD7 hrD7
    obtain ⟨r5, -⟩ := hrD7
    replace hCD7 : Ext _ wD7 := hCD7
    replace hcell := hcell.ext hCD7
    replace hDi := hDi.ext hCD7
    replace h1 := h1.ext hCD7
    refine ⟨rfl, ?_⟩
    refine XD.start haD7 ?_
    refine XD.pure r5 ?_
    refine Y.move (by rfl) ?_
    refine XD.stepI ?_
    refine Y.call (by rfl) ok27 (copyA _ _ _ _ _ _ _ hDi hm hU) ?_
    rintro v34 w34 ⟨hV34, hE34⟩
    exact ⟨hE34, hV34.mono fun b hb => ⟨Nat.le_trans hCD7.size hb.1, hb.2⟩⟩
   ·intro aD7 wD7 haD7 hCD7 hrD7
    obtain ⟨r5, r6, -⟩ := hrD7
    replace hCD7 : Ext _ wD7 := hCD7
    replace hcell := hcell.ext hCD7
    replace hDi := hDi.ext hCD7
    replace h1 := h1.ext hCD7
    refine ⟨rfl, ?_⟩
    refine XD.start haD7 ?_
    refine XD.pure r5 ?_
    refine Y.move (by rfl) ?_
    refine XD.imp r6 ?_
    rintro v34 hV34
    refine XD.stepI ?_
    refine Y.buildSlice st31 (by rfl) (by rfl) (by omega) (by intro q hq; simp at hq; subst hq; obtain ⟨fs, hB, _⟩ := hV34; exact hB.val) ?_
    intro v35 w35 hN35
    exact ⟨hN35.1, v34, hN35.row.mono (fun b hb hs => Nat.le_trans hCD7.size hs), (hV34.ext hN35.1).mono fun b hb => ⟨hb.1, Nat.lt_of_lt_of_le hb.2 hN35.1.size⟩⟩
   ·intro aD7 wD7 haD7 hCD7 hrD7
    obtain ⟨r1, r2, r3, r4, r5, r6, r7, -⟩ := hrD7
    replace hCD7 : Ext _ wD7 := hCD7
    replace hcell := hcell.ext hCD7
    replace hDi := hDi.ext hCD7
    replace h1 := h1.ext hCD7
    refine ⟨rfl, ?_⟩
    refine XD.start haD7 ?_
    refine XD.pure r1 ?_
    refine Y.move (by rfl) ?_
    refine XD.pure r2 ?_
    refine Y.nilCheck (by rfl) ?_
    refine XD.pure r3 ?_
    refine Y.fieldAddr fld66_1 (by rfl) ?_
    refine XD.imp r4 ?_
    rintro _ rfl
    refine XD.pure r5 ?_
    refine Y.move (by rfl) ?_
    refine XD.imp r6 ?_
    rintro v34 hV34
    refine XD.imp r7 ?_
    rintro v35 ⟨q35, hR35, hQ35⟩
    refine XD.stepI ?_
    refine Y.appendG st31 Tryz.underlying31 (by rfl) (by rfl) h1 hR35 rfl (by omega) (by omega) ?_
    intro v36 w36 hA36 hO36 hC36; have hz36 := hC36.size; have hzD := hCD7.size; exact ⟨hC36, q35, fun b => Grow So wD7 w36 b ∧ b < w36.heap.size, fun b => wq.heap.size ≤ b ∧ b < wD7.heap.size, hA36.mono (fun b hb h => ⟨h, hb⟩), hQ35.chg hC36 (fun b hb hs => by have := hSo b hs; have := hb.1; omega), fun b hb => ⟨hb.1, by have := hb.2; omega, fun h => by rcases h.1 with h | h; (have := hSo b h; have := hb.1; omega); (have := h.1; have := hb.2; omega)⟩, fun b hb => ⟨hb.1.imp_right fun h => by have := h.1; omega, hb.2⟩⟩
   intro aD7 wD7 haD7 hCD7 hrD7
   obtain ⟨r0, r1, r2, r3, r4, r5, r6, r7, r8, -⟩ := hrD7
   refine XD.start haD7 ?_
   refine XD.pure r0 ?_
   refine Y.move (by rfl) ?_
   refine XD.pure r1 ?_
   refine Y.move (by rfl) ?_
   refine XD.pure r2 ?_
   refine Y.nilCheck (by rfl) ?_
   refine XD.pure r3 ?_
   refine Y.fieldAddr fld66_1 (by rfl) ?_
   refine XD.imp r4 ?_
   rintro _ rfl
   refine XD.pure r5 ?_
   refine Y.move (by rfl) ?_
   refine XD.imp r6 ?_
   rintro v34 hV34
   refine XD.imp r7 ?_
   rintro v35 ⟨q35, hR35, hQ35⟩
   refine XD.imp r8 ?_
   rintro v36 ⟨q36, So', Fi, hA36, hQ36, hF36, hS36⟩
   refine XD.fin haD7 ?_
   have hcD := hcell.chg hCD7 (fun h => (h5 _ h).1 rfl)
   show XL _ _ _ _ (List.cons _ _) _ _
   refine XL.s rfl ?_
   refine Y.nilCheck (by rfl) ?_
   refine XL.s rfl ?_
   refine Y.fieldAddr fld66_1 (by rfl) ?_
   refine XL.o ?_
   refine Y.storeB one31 (by rfl) (by rfl) hA36.row.oneC hcD (by simp) (nofr0 _) ?_
   intro w37 hb37 hC37 hz37 _
   have hb37 : HB w37 b21 (.cells #[.int .i64 (k : Int), .int .i64 (F : Int), v36] 66 (0, 0)) := hb37
   have htb := hcell.lt
   have hzD := hCD7.size
   have hCC : Chg (fun b => So b ∨ b = b21) wq w37 := hCD7.trans hC37 (fun _ h => .inl h) (fun _ _ h => .inr h)
   have hne : ∀ b, So' b → ¬ b = b21 := fun b hb e => by rcases (hS36 b hb).1 with h | h; exact (h5 b h).1 e; omega
   have hl1 := h1.1
   have hNn := NewI.snoc h2 h3 h4 h5 (by omega) htb (by omega) hCC (hA36.chg hC37 (fun b _ hb => hne b hb)) (hQ36.chg hC37 (fun b hb e => by have := (hF36 b hb).1; omega)) (fun b hb => ⟨(hF36 b hb).1, by have := (hF36 b hb).2.1; omega, (hF36 b hb).2.2⟩) (fun b hb => ⟨(hS36 b hb).1, by have := (hS36 b hb).2; omega⟩)
   refine XL.nil ?_
   refine QN.blk ?_
   refine QN.next ?_
   refine XC.region ?_
   show XL _ _ _ _ (List.cons _ _) _ _
   refine XL.s rfl ?_
   refine Y.add (by rfl) (by rfl) (wrap64 (by omega) (by omega)) ?_
   refine XL.s rfl ?_
   refine Y.move (by rfl) ?_
   refine XL.nil ?_
   refine QN.again ((i + 1, v36)) ?_ ?_ ?_
   ·exact ⟨rfl, rfl, rfl, rfl, trivial⟩
   ·exact ⟨by omega, hb37, hNn, hE.chgNew hCC (fun x hx => by rcases hx with h | h; exact (h5 x h).2.1; omega)⟩
   ·first | omega | (simp only []; omega) | (simp; omega)
  ·intro hc
   try simp only [decide_eq_true_eq, decide_eq_false_iff_not, Bool.not_eq_true', Bool.not_eq_false', Bool.not_eq_eq_eq_not, Bool.not_true, Bool.not_false, Bool.or_eq_true, Bool.and_eq_true, Bool.or_eq_false_iff] at hc
   have hin : i = n := by omega
   subst hin
   refine XC.exit ?_
   refine QN.thenE ?_
   refine QN.thenE ?_
   refine QN.hit ?_
   refine QN.next ?_
   refine XC.seq ?_
   refine XC.region ?_
   show XL _ _ _ _ (List.cons _ _) _ _
   refine XL.s rfl ?_
   refine Y.move (by rfl) ?_
   refine XL.s rfl ?_
   refine Y.assign (by rfl) ?_
   refine XL.s rfl ?_
   refine Y.assign (by rfl) ?_
   refine XL.nil ?_
   refine QN.next ?_
   refine XC.ret ?_
   refine QN.doneN (fn := Tryz.f10) (R := R) (.inl rfl) rfl rfl ?_
   refine hR _ _ ?_
   exact ⟨_, rfl, hN.stx hcell (by omega), hE⟩
theorem sdisk_ok (G : Nat → Prop) (tv : Value) (K F n most : Nat) (ms : Nat → Fm) (U c : Nat → Nat) (w : World) (hS : StoreA 66 79 82 5 G w tv K F n most ms U c) (hm : most ≤ 65536) (hU : ∀ i, i < n → U i ≤ 65536) (hn : n ≤ 7) (i : Nat) (hi : i < n) :
  Rets Tryz.prog 16 #[tv, .int .i64 i] w fun v w' => DiskA 79 82 5 (btw w.heap.size w'.heap.size) w' v most (ms i) (U i) (c i) ∧ Ext w w' := by
 refine Rets.enter (args := [tv, .int .i64 i]) (n := 24) Tryz.func16 rfl rfl rfl ?_
 intro R hR
 show XC _ _ _ _ [(0, tv), (1, .int .i64 i)] _
 obtain ⟨tb, av, dvs, Fr, rfl, hX⟩ := id hS
 obtain ⟨qa, capa, rfl⟩ := hX.row.val
 refine XC.seq ?_
 refine XC.region ?_
 show XL _ _ _ _ (List.cons _ _) _ _
 refine XL.s rfl ?_
 refine Y.assign (by rfl) ?_
 refine XL.nil ?_
 refine QN.next ?_
 refine XC.seq ?_
 refine XC.seq ?_
 refine XC.region ?_
 show XL _ _ _ _ (List.cons _ _) _ _
 refine XL.s rfl ?_
 refine Y.move (by rfl) ?_
 refine XL.s rfl ?_
 refine Y.lss (by rfl) (by rfl) ?_
 refine XL.s rfl ?_
 refine Y.move (by rfl) ?_
 refine XL.gt rfl rfl ya rfl ?_
 refine Y.move (by rfl) ?_
 refine XL.gt rfl rfl ya rfl ?_
 refine Y.move (by rfl) ?_
 refine XL.gt rfl rfl ya rfl ?_
 refine Y.nilCheck (by rfl) ?_
 refine XL.gt rfl rfl ya rfl ?_
 refine Y.fieldAddr fld66_1 (by rfl) ?_
 refine XL.gt rfl rfl ya rfl ?_
 refine Y.load one31 (by rfl) (three2 hX.cell) ?_
 refine XL.gt rfl rfl ya rfl ?_
 refine Y.len Tryz.underlying31 (by rfl) hX.row ?_
 refine XL.gt rfl rfl ya rfl ?_
 refine Y.geq (by rfl) (by rfl) ?_
 refine XL.s rfl ?_
 refine Y.pickF (by rfl) ya (by rfl) ?_
 refine XL.nil ?_
 refine QN.next ?_
 refine XC.condF rfl ya ?_
 obtain ⟨d, Fi, hd, hD, -, -⟩ := hX.get hi
 refine XC.skip ?_
 refine QN.next ?_
 refine XC.seq ?_
 refine XC.region ?_
 show XL _ _ _ _ (List.cons _ _) _ _
 refine XL.s rfl ?_
 refine Y.move (by rfl) ?_
 refine XL.s rfl ?_
 refine Y.nilCheck (by rfl) ?_
 refine XL.s rfl ?_
 refine Y.fieldAddr fld66_1 (by rfl) ?_
 refine XL.s rfl ?_
 refine Y.load one31 (by rfl) (three2 hX.cell) ?_
 refine XL.s rfl ?_
 refine Y.move (by rfl) ?_
 refine XL.s rfl ?_
 refine Y.indexR st31 (by rfl) (by rfl) hX.row ⟨by omega, by omega⟩ (by rw [Int.toNat_natCast]; exact hd) ?_
 intro b21 o21 hs21 hc21
 refine XL.s rfl ?_
 refine Y.load one41 (by rfl) (by assumption) ?_
 refine XL.s rfl ?_
 refine Y.call (by rfl) ok27 (copyA _ _ _ _ _ _ _ hD hm (by have := hU i hi; omega)) ?_
 rintro v23 w23 ⟨hD23, hE23⟩
 refine XL.s rfl ?_
 refine Y.assign (by rfl) ?_
 refine XL.nil ?_
 refine QN.next ?_
 refine XC.ret ?_
 refine QN.done1 (fn := Tryz.f16) (R := R) (.inl rfl) rfl rfl ?_
 refine hR _ _ ?_
 exact ⟨hD23, hE23⟩
theorem sdisk_no (G : Nat → Prop) (tv : Value) (K F n most : Nat) (ms : Nat → Fm) (U c : Nat → Nat) (w : World) (hS : StoreA 66 79 82 5 G w tv K F n most ms U c) (hm : most ≤ 65536) (hU : ∀ i, i < n → U i ≤ 65536) (hn : n ≤ 7) :
  Rets Tryz.prog 16 #[tv, .int .i64 n] w fun v w' => v = .pointer none ∧ Ext w w' := by
 refine Rets.enter (args := [tv, .int .i64 n]) (n := 24) Tryz.func16 rfl rfl rfl ?_
 intro R hR
 show XC _ _ _ _ [(0, tv), (1, .int .i64 n)] _
 obtain ⟨tb, av, dvs, Fr, rfl, hX⟩ := id hS
 obtain ⟨qa, capa, rfl⟩ := hX.row.val
 refine XC.seq ?_
 refine XC.region ?_
 show XL _ _ _ _ (List.cons _ _) _ _
 refine XL.s rfl ?_
 refine Y.assign (by rfl) ?_
 refine XL.nil ?_
 refine QN.next ?_
 refine XC.seq ?_
 refine XC.seq ?_
 refine XC.region ?_
 show XL _ _ _ _ (List.cons _ _) _ _
 refine XL.s rfl ?_
 refine Y.move (by rfl) ?_
 refine XL.s rfl ?_
 refine Y.lss (by rfl) (by rfl) ?_
 refine XL.s rfl ?_
 refine Y.move (by rfl) ?_
 refine XL.gt rfl rfl ya rfl ?_
 refine Y.move (by rfl) ?_
 refine XL.gt rfl rfl ya rfl ?_
 refine Y.move (by rfl) ?_
 refine XL.gt rfl rfl ya rfl ?_
 refine Y.nilCheck (by rfl) ?_
 refine XL.gt rfl rfl ya rfl ?_
 refine Y.fieldAddr fld66_1 (by rfl) ?_
 refine XL.gt rfl rfl ya rfl ?_
 refine Y.load one31 (by rfl) (three2 hX.cell) ?_
 refine XL.gt rfl rfl ya rfl ?_
 refine Y.len Tryz.underlying31 (by rfl) hX.row ?_
 refine XL.gt rfl rfl ya rfl ?_
 refine Y.geq (by rfl) (by rfl) ?_
 refine XL.s rfl ?_
 refine Y.pickF (by rfl) ya (by rfl) ?_
 refine XL.nil ?_
 refine QN.next ?_
 refine XC.condT rfl ya ?_
 refine XC.seq ?_
 refine XC.region ?_
 show XL _ _ _ _ (List.cons _ _) _ _
 refine XL.s rfl ?_
 refine Y.assign (by rfl) ?_
 refine XL.nil ?_
 refine QN.next ?_
 refine XC.ret ?_
 refine QN.done1 (fn := Tryz.f16) (R := R) (.inl rfl) rfl rfl ?_
 refine hR _ _ ?_
 exact ⟨rfl, Chg.refl _ _⟩
theorem sput_ok (G : Nat → Prop) (tv : Value) (K F n most : Nat) (ms : Nat → Fm) (U c : Nat → Nat) (w : World) (hS : StoreA 66 79 82 5 G w tv K F n most ms U c) (hm : most ≤ 65536) (hU : ∀ i, i < n → U i ≤ 65536) (hn : n ≤ 7) (nm l : List UInt8) (hk : 1 ≤ K) (hKF : K + 2 * F ≤ 7) (hnm : 1 ≤ nm.length ∧ nm.length ≤ 16) (hl : l.length ≤ 512) (hnn : n = K + 2 * F) (hf : ∀ i, i < n → U i + (20 + pieceN K l) ≤ most) (ht : ∀ i, i < n → ms i [116, 46] = none) (hGb : ∀ b, G b → b < w.heap.size) :
  Rets Tryz.prog 13 #[tv, strV nm, strV l] w fun v w' => v = .int .i64 0 ∧ Chg G w w' ∧ StoreA 66 79 82 5 (Grow G w w') w' tv K F n most (fun i => upd (ms i) ([98, 46] ++ nm) (some (fileB i ((encP K n l).getD i []), 20 + pieceN K l))) (fun i => U i + (20 + pieceN K l)) (fun i => c i + 1) := by
 refine Rets.enter (args := [tv, strV nm, strV l]) (n := 51) Tryz.func13 rfl rfl rfl ?_
 intro R hR
 show XC _ _ _ _ [(0, tv), (1, strV nm), (2, strV l)] _
 obtain ⟨tb, av, dvs, Fr, rfl, hX⟩ := id hS
 obtain ⟨qa, capa, rfl⟩ := hX.row.val
 refine XC.seq ?_
 refine XC.region ?_
 show XL _ _ _ _ (List.cons _ _) _ _
 refine XL.s rfl ?_
 refine Y.assign (by rfl) ?_
 refine XL.nil ?_
 refine QN.next ?_
 refine XC.seq ?_
 refine XC.seq ?_
 refine XC.region ?_
 show XL _ _ _ _ (List.cons _ _) _ _
 refine XL.s rfl ?_
 refine Y.move (by rfl) ?_
 refine XL.s rfl ?_
 refine Y.call (by rfl) ok29 (snamed_ok nm _ (by omega)) ?_
 rintro v13 w13 ⟨rfl, rfl⟩
 refine XL.s rfl ?_
 refine Y.not (by rfl) ?_
 refine XL.nil ?_
 refine QN.next ?_
 refine XC.condF rfl (by rw [decide_eq_true hnm]; rfl) ?_
 refine XC.skip ?_
 refine QN.next ?_
 refine XC.seq ?_
 refine XC.region ?_
 show XL _ _ _ _ (List.cons _ _) _ _
 refine XL.s rfl ?_
 refine Y.move (by rfl) ?_
 refine XL.s rfl ?_
 refine Y.nilCheck (by rfl) ?_
 refine XL.s rfl ?_
 refine Y.fieldAddr fld66_0 (by rfl) ?_
 refine XL.s rfl ?_
 refine Y.loadA agg23 (by rfl) rfl (three01 hX.cell) ?_
 refine XL.s rfl ?_
 refine Y.move (by rfl) ?_
 refine XL.s rfl ?_
 refine Y.call (by rfl) ok30 (enc_ok K F l _ hk hKF hl) ?_
 rintro v21 w21 ⟨e21, rfl, hM21, hE21⟩
 refine XL.s rfl ?_
 refine Y.move (by rfl) ?_
 refine XL.s rfl ?_
 refine Y.extract (by rfl) (by rfl) ?_
 refine XL.s rfl ?_
 refine Y.extract (by rfl) (by rfl) ?_
 refine XL.s rfl ?_
 refine Y.assign (by rfl) ?_
 refine XL.s rfl ?_
 refine Y.assign (by rfl) ?_
 refine XL.nil ?_
 refine QN.next ?_
 refine XC.seq ?_
 refine XC.seq ?_
 refine XC.region ?_
 show XL _ _ _ _ (List.cons _ _) _ _
 refine XL.s rfl ?_
 refine Y.move (by rfl) ?_
 refine XL.s rfl ?_
 refine Y.neq (by rfl) (by rfl) ?_
 refine XL.nil ?_
 refine QN.next ?_
 refine XC.condF rfl rfl ?_
 have hX21 := hX.ext hE21
 have hel := encP_len K F l
 have hpl := padB_le l hk
 have hql := pieceN_le l hk
 have her : ∀ i (hi : i < (encP K (K + 2 * F) l).length), ((encP K (K + 2 * F) l)[i]).length = pieceN K l := fun i hi => encP_row K F l hk _ (List.getElem_mem hi)
 refine XC.skip ?_
 refine QN.next ?_
 refine XC.seq ?_
 refine XC.seq ?_
 refine XC.region ?_
 show XL _ _ _ _ (List.cons _ _) _ _
 refine XL.s rfl ?_
 refine Y.move (by rfl) ?_
 refine XL.s rfl ?_
 refine Y.nilCheck (by rfl) ?_
 refine XL.s rfl ?_
 refine Y.fieldAddr fld66_1 (by rfl) ?_
 refine XL.s rfl ?_
 refine Y.load one31 (by rfl) (three2 hX21.cell) ?_
 refine XL.s rfl ?_
 refine Y.len Tryz.underlying31 (by rfl) hX21.row ?_
 obtain ⟨qe, cape, rfl⟩ := hM21.rows.val
 have hbt : [98, 46] ++ nm ≠ [116, 46] := by simp
 have hz21 := hE21.size
 refine XL.s rfl ?_
 refine Y.move (by rfl) ?_
 refine XL.nil ?_
 refine QN.next ?_
 refine XC.block ?_
 refine XC.loop (α := Nat) (fun i => [(0, .pointer (some ⟨tb, 0, none⟩)), (1, strV nm), (7, .slice qe (encP K (K + 2 * F) l).length cape), (30, .slice qa n capa), (31, .int .i64 (n : Nat)), (32, .int .i64 i)]) (fun i wr => i ≤ n ∧ Chg G w21 wr ∧ StX 66 79 82 5 (Grow G w21 wr) wr tb (.slice qa n capa) dvs Fr K F n most (fun j => if j < i then upd (ms j) ([98, 46] ++ nm) (some (fileB j ((encP K n l).getD j []), 20 + pieceN K l)) else ms j) (fun j => if j < i then U j + (20 + pieceN K l) else U j) (fun j => if j < i then c j + 1 else c j)) (fun i => n - i) (0) ?_ ?_ ?_
 ·exact ⟨rfl, rfl, rfl, rfl, rfl, rfl, trivial⟩
 ·exact ⟨by omega, Chg.refl _ _, (((hX21.wider (fun b _ h => .inl h)).more (fun j _ => ⟨by simp, by simp⟩)).cast (fun j _ => by simp))⟩
 ·rintro i wr hI
  obtain ⟨hi, hC, hXi⟩ := hI
  have hMi := hM21.rows.chg hC (fun b _ hb hg => by have := hGb b hg; have := hb.1; omega)
  have hzi := hC.size
  refine XC.seq ?_
  refine XC.region ?_
  show XL _ _ _ _ (List.cons _ _) _ _
  refine XL.s rfl ?_
  refine Y.lss (by rfl) (by rfl) ?_
  refine XL.nil ?_
  refine QN.next ?_
  refine XC.seq ?_
  refine XC.condS rfl ?_ ?_
  ·intro hc
   try simp only [decide_eq_true_eq, decide_eq_false_iff_not, Bool.not_eq_true', Bool.not_eq_false', Bool.not_eq_eq_eq_not, Bool.not_true, Bool.not_false, Bool.or_eq_true, Bool.and_eq_true, Bool.or_eq_false_iff] at hc
   have hi' : i < n := by omega
   obtain ⟨d, Fi, hd, hD, hFi, hset⟩ := hXi.get hi'
   refine XC.skip ?_
   refine QN.next ?_
   refine XC.seq ?_
   refine XC.block ?_
   refine XC.seq ?_
   refine XC.region ?_
   show XL _ _ _ _ (List.cons _ _) _ _
   refine XL.s rfl ?_
   refine Y.move (by rfl) ?_
   refine XL.s rfl ?_
   refine Y.indexR st31 (by rfl) (by rfl) hXi.row ⟨by omega, by omega⟩ (by rw [Int.toNat_natCast]; exact hd) ?_
   intro b35 o35 hs35 hc35
   refine XL.s rfl ?_
   refine Y.load one41 (by rfl) (by assumption) ?_
   refine XL.s rfl ?_
   refine Y.assign (by rfl) ?_
   refine XL.s rfl ?_
   refine Y.assign (by rfl) ?_
   refine XL.nil ?_
   refine QN.next ?_
   refine XC.seq ?_
   refine XC.region ?_
   show XL _ _ _ _ (List.cons _ _) _ _
   refine XL.s rfl ?_
   refine Y.move (by rfl) ?_
   refine XL.s rfl ?_
   refine Y.move (by rfl) ?_
   refine XL.s rfl ?_
   refine Y.addS (by rfl) (by rfl) (by simp; omega) ?_
   obtain ⟨vs, hvs, hvl, hqs⟩ := hMi.get
   obtain ⟨q, hq, hb⟩ := hqs i (by omega)
   have hrl := her i (by omega)
   refine XL.s rfl ?_
   refine Y.move (by rfl) ?_
   refine XL.s rfl ?_
   refine Y.move (by rfl) ?_
   refine XL.s rfl ?_
   refine Y.move (by rfl) ?_
   refine XL.s rfl ?_
   refine Y.indexR st37 (by rfl) (by rfl) hvs ⟨by omega, by omega⟩ (by rw [Int.toNat_natCast]; exact hq) ?_
   intro b43 o43 hs43 hc43
   refine XL.s rfl ?_
   refine Y.load one39 (by rfl) (by assumption) ?_
   refine XL.s rfl ?_
   refine Y.call (by rfl) ok32 (file_ok _ _ i ((encP K (K + 2 * F) l)[i]) _ hb (by omega) (by omega)) ?_
   rintro v45 w45 hN45
   have hfl := fileB_length i ((encP K (K + 2 * F) l)[i])
   have hsdd : ∀ b, Since wr b → ¬ Fi b := fun b hb hf => by have := (hFi b hf).2.2.2; simp only [Since] at hb; omega
   have hms : (if i < i then upd (ms i) ([98, 46] ++ nm) (some (fileB i ((encP K n l).getD i []), 20 + pieceN K l)) else ms i) = ms i := if_neg (by omega)
   simp only [hms, if_neg (Nat.lt_irrefl i)] at hD
   have hge : (encP K n l).getD i [] = (encP K (K + 2 * F) l)[i]'(by omega) := by
    have h0 : (encP K (K + 2 * F) l).getD i [] = (encP K (K + 2 * F) l)[i]'(by omega) := by simp [List.getD_eq_getElem?_getD, show i < (encP K (K + 2 * F) l).length by omega]
    rw [← h0, ← hnn]
   refine XL.s rfl ?_
   refine Y.call (by rfl) ok31 (write_ok _ _ _ _ _ _ ([98, 46] ++ nm) _ _ _ _ (hD.ext hN45.1) hN45.bs (by omega) hsdd (by have := hf i hi'; omega) ⟨by simp, by simp; omega⟩ (ht i hi') hbt) ?_
   rintro v46 w46 ⟨rfl, hC46, hD46⟩
   refine XL.s rfl ?_
   refine Y.assign (by rfl) ?_
   refine XL.nil ?_
   refine QN.next ?_
   refine XC.seq ?_
   refine XC.region ?_
   show XL _ _ _ _ (List.cons _ _) _ _
   refine XL.s rfl ?_
   refine Y.move (by rfl) ?_
   refine XL.s rfl ?_
   refine Y.neq (by rfl) (by rfl) ?_
   refine XL.nil ?_
   refine QN.next ?_
   refine XC.condF rfl rfl ?_
   have hz45 := hN45.1.size
   have hz46 := hC46.size
   have hXn := hset (btw wr.heap.size w46.heap.size) w46 _ _ _ (fun b hb => hb.1) (Ext.then hN45.1 hC46) (hD46.mono fun b hb => by rcases hb with h | h; exact .inl h; exact .inr ⟨by have := h.1; omega, h.2⟩)
   have hXn := hXn.wider (G' := Grow G w21 w46) (fun b _ hb => by rcases hb with (h | h) | h; exact .inl h; exact .inr ⟨h.1, by have := h.2; omega⟩; exact .inr ⟨by have := h.1; omega, h.2⟩)
   refine XC.skip ?_
   refine QN.blk ?_
   refine QN.next ?_
   refine XC.region ?_
   show XL _ _ _ _ (List.cons _ _) _ _
   refine XL.s rfl ?_
   refine Y.add (by rfl) (by rfl) (wrap64 (by omega) (by omega)) ?_
   refine XL.s rfl ?_
   refine Y.move (by rfl) ?_
   refine XL.nil ?_
   refine QN.again (i + 1) ?_ ?_ ?_
   ·exact ⟨rfl, rfl, rfl, rfl, rfl, rfl, trivial⟩
   ·refine ⟨by omega, hC.trans (Ext.then hN45.1 hC46) (fun _ h => h) (fun x hx h => by rcases (hFi x h).2.2.1 with h | h; exact h; (have := h.1; omega)), (hXn.more (fun j _ => ?_)).cast (fun j _ => ?_)⟩
    ·by_cases e : j = i
     ·subst e; simp; omega
     ·by_cases e2 : j < i
      ·simp [e, e2, show j < i + 1 by omega]
      ·simp [e, e2, show ¬ j < i + 1 by omega]
    ·by_cases e : j = i
     ·subst e; simp only [if_true, if_pos (Nat.lt_succ_self j)]; rw [hge, hfl, hrl]
     ·by_cases e2 : j < i
      ·simp only [if_neg e, if_pos e2, if_pos (show j < i + 1 by omega)]
      ·simp only [if_neg e, if_neg e2, if_neg (show ¬ j < i + 1 by omega)]
   ·first | omega | (simp only []; omega) | (simp; omega)
  ·intro hc
   try simp only [decide_eq_true_eq, decide_eq_false_iff_not, Bool.not_eq_true', Bool.not_eq_false', Bool.not_eq_eq_eq_not, Bool.not_true, Bool.not_false, Bool.or_eq_true, Bool.and_eq_true, Bool.or_eq_false_iff] at hc
   have hin : i = n := by omega
   subst hin
   have hXe := (hXi.more (U' := fun j => U j + (20 + pieceN K l)) (c' := fun j => c j + 1) (fun j hj => by simp [hj])).cast (ms' := fun j => upd (ms j) ([98, 46] ++ nm) (some (fileB j ((encP K i l).getD j []), 20 + pieceN K l))) (fun j hj => by simp [hj])
   refine XC.exit ?_
   refine QN.thenE ?_
   refine QN.thenE ?_
   refine QN.hit ?_
   refine QN.next ?_
   refine XC.seq ?_
   refine XC.region ?_
   show XL _ _ _ _ (List.cons _ _) _ _
   refine XL.s rfl ?_
   refine Y.assign (by rfl) ?_
   refine XL.nil ?_
   refine QN.next ?_
   refine XC.ret ?_
   refine QN.done1 (fn := Tryz.f13) (R := R) (.inl rfl) rfl rfl ?_
   refine hR _ _ ?_
   exact ⟨rfl, Ext.then hE21 hC, tb, _, dvs, Fr, rfl, hXe.wider (fun b _ hb => by rcases hb with h | h; exact .inl h; exact .inr ⟨by have := h.1; omega, h.2⟩)⟩
end Go.Proofs.YtchammpamigonaaGreatX
end
section
set_option linter.unusedVariables false
set_option linter.unusedSimpArgs false
set_option maxRecDepth 10000
set_option maxHeartbeats 4000000
namespace Go.Proofs.YtchammpamigonaaGreatX
open Go Go.RowKit Go.Proofs
theorem rput_ok (S : Nat → Prop) (u : Value) (l : List UInt8) (w : World) (hr : Bs S w u l) (hl : l.length ≤ 65535) (h0 : 0 < l.length) :
  Rets Tryz.prog 65 #[u] w fun v w' => NewO w w' 5 1 v (frameB l).length (bytesV (frameB l)) := by
 refine Rets.enter (args := [u]) (n := 25) Tryz.func65 rfl rfl rfl ?_
 intro R hR
 show XC _ _ _ _ [(0, u)] _
 replace hr := hr.old
 have hnl := numB_length l.length
 refine XC.seq ?_
 refine XC.region ?_
 show XL _ _ _ _ (List.cons _ _) _ _
 refine XL.s rfl ?_
 refine Y.assign (by rfl) ?_
 refine XL.nil ?_
 refine QN.next ?_
 refine XC.seq ?_
 refine XC.region ?_
 show XL _ _ _ _ (List.cons _ _) _ _
 refine XL.s rfl ?_
 refine Y.move (by rfl) ?_
 refine XL.s rfl ?_
 refine Y.len Tryz.underlying39 (by rfl) hr ?_
 refine XL.s rfl ?_
 refine Y.call (by rfl) ok66 (rnum_ok l.length (by omega) _) ?_
 rintro v7 w7 hN7
 have h7 := hN7.bs.old
 have hr7 := hr.ext hN7.1
 have hz7 := hN7.1.size
 refine XL.s rfl ?_
 refine Y.assign (by rfl) ?_
 refine XL.nil ?_
 refine QN.next ?_
 refine XC.seq ?_
 refine XC.region ?_
 show XL _ _ _ _ (List.cons _ _) _ _
 refine XL.s rfl ?_
 refine Y.buildSlice st39 (by rfl) (by rfl) (by omega) (by simp [Value.oneCell', byteV, strV]) ?_
 intro v8 w8 hN8
 refine XL.s rfl ?_
 refine Y.move (by rfl) ?_
 refine XL.s rfl ?_
 refine Y.appendN st39 Tryz.underlying39 (by rfl) (by rfl) hN8 (h7.ext hN8.1) (by simp [bytesV]) (by omega) (by omega) ?_
 intro v10 w10 hN10 hC10
 have h10 := Row.keep hC10 (h7.ext hN8.1) (fun b h => h)
 have hr10 := Row.keep hC10 (hr7.ext hN8.1) (fun b h => Nat.lt_of_lt_of_le h hz7)
 refine XL.s rfl ?_
 refine Y.move (by rfl) ?_
 refine XL.s rfl ?_
 refine Y.call (by rfl) ok92 (rsum_ok _ _ (numB l.length) _ h10) ?_
 rintro v12 w12 ⟨rfl, hE12⟩
 have hlt := (crc (numB l.length)).isLt
 refine XL.s rfl ?_
 refine Y.convI Tryz.underlying131 Tryz.underlying3 (by rfl) (wrap64 (by omega) (by omega)) ?_
 refine XL.s rfl ?_
 refine Y.call (by rfl) ok66 (rnum_ok (crc (numB l.length)).toNat (by omega) _) ?_
 rintro v14 w14 hN14
 have hnl2 := numB_length (crc (numB l.length)).toNat
 replace hN10 := (hN10.ext hE12).ext hN14.1
 replace hr10 := (hr10.ext hE12).ext hN14.1
 refine XL.s rfl ?_
 refine Y.appendN st39 Tryz.underlying39 (by rfl) (by rfl) hN10 hN14.row (by simp [bytesV]) (by omega) (by omega) ?_
 intro v15 w15 hN15 hC15
 have hr15 := Row.keep hC15 hr10 (fun b h => Nat.lt_of_lt_of_le h hz7)
 refine XL.s rfl ?_
 refine Y.assign (by rfl) ?_
 refine XL.nil ?_
 refine QN.next ?_
 refine XC.seq ?_
 refine XC.region ?_
 show XL _ _ _ _ (List.cons _ _) _ _
 refine XL.s rfl ?_
 refine Y.move (by rfl) ?_
 refine XL.s rfl ?_
 refine Y.move (by rfl) ?_
 refine XL.s rfl ?_
 refine Y.call (by rfl) ok92 (rsum_ok _ _ l _ hr15) ?_
 rintro v18 w18 ⟨rfl, hE18⟩
 have hlt2 := (crc l).isLt
 refine XL.s rfl ?_
 refine Y.convI Tryz.underlying131 Tryz.underlying3 (by rfl) (wrap64 (by omega) (by omega)) ?_
 refine XL.s rfl ?_
 refine Y.call (by rfl) ok66 (rnum_ok (crc l).toNat (by omega) _) ?_
 rintro v20 w20 hN20
 have hnl3 := numB_length (crc l).toNat
 replace hN15 := (hN15.ext hE18).ext hN20.1
 replace hr15 := (hr15.ext hE18).ext hN20.1
 refine XL.s rfl ?_
 refine Y.appendN st39 Tryz.underlying39 (by rfl) (by rfl) hN15 hN20.row (by simp [bytesV]) (by omega) (by omega) ?_
 intro v21 w21 hN21 hC21
 have hr21 := Row.keep hC21 hr15 (fun b h => Nat.lt_of_lt_of_le h hz7)
 refine XL.s rfl ?_
 refine Y.assign (by rfl) ?_
 refine XL.nil ?_
 refine QN.next ?_
 refine XC.seq ?_
 refine XC.region ?_
 show XL _ _ _ _ (List.cons _ _) _ _
 refine XL.s rfl ?_
 refine Y.move (by rfl) ?_
 refine XL.s rfl ?_
 refine Y.move (by rfl) ?_
 refine XL.s rfl ?_
 refine Y.appendO st39 Tryz.underlying39 (by rfl) (by rfl) hN21 hr21 h0 (by simp [bytesV]) (by omega) (by omega) ?_
 intro v24 w24 hO24 hC24
 refine XL.s rfl ?_
 refine Y.assign (by rfl) ?_
 refine XL.nil ?_
 refine QN.next ?_
 refine XC.ret ?_
 refine QN.done1 (fn := Tryz.f65) (R := R) (.inl rfl) rfl rfl ?_
 refine hR _ _ ?_
 exact (hO24.older hN7.1).cast (by simp [frameB, sumB]; omega) (by simp [frameB, sumB, bytesV])
theorem rfile_ok (S : Nat → Prop) (u : Value) (i : Nat) (l : List UInt8) (w : World) (hr : Bs S w u l) (hi : i ≤ 1000) (hl : l.length ≤ 60000) :
  Rets Tryz.prog 36 #[.int .i64 i, u] w fun v w' => NewO w w' 5 1 v (fileB i l).length (bytesV (fileB i l)) := by
 refine Rets.enter (args := [.int .i64 i, u]) (n := 12) Tryz.func36 rfl rfl rfl ?_
 intro R hR
 show XC _ _ _ _ [(0, .int .i64 i), (1, u)] _
 refine XC.seq ?_
 refine XC.region ?_
 show XL _ _ _ _ (List.cons _ _) _ _
 refine XL.s rfl ?_
 refine Y.assign (by rfl) ?_
 refine XL.nil ?_
 refine QN.next ?_
 refine XC.seq ?_
 apply XC.drop [5, 6, 7, 8, 9, 10, 11]
 ·repeat (first | apply DropTo.nil | apply DropTo.skip rfl | apply DropTo.keep rfl)
 refine XC.drawL 4 [[], [0], [], [2], [0, 1, 2, 3], [0, 1, 2, 3, 4], [0, 1, 2, 3, 4, 5], [0, 1, 2, 3, 4, 5, 6]] _ (Chg NoB) (Steady.chg NoB) [] [(1, (fun v w' => NewB 5 w w' v (numB i))), (3, (fun v _ => v = strV l))] [0, 1, 2, 3] fol (by kernel_rfl) (by rfl) (by rfl) ⟨(fun v w1 w2 hE h => h.ext hE), (fun _ _ _ _ h => h), trivial⟩ ⟨?_, ?_, ?_, ?_, trivial⟩ ?_
 ·intro aD1 wD1 haD1 hCD1 hrD1
  refine ⟨rfl, ?_⟩
  refine XD.start haD1 ?_
  apply XD.stepP rfl
  intro w3
  refine Y.move (by rfl) ?_
  exact ⟨rfl, rfl⟩
 ·intro aD1 wD1 haD1 hCD1 hrD1
  obtain ⟨r0, -⟩ := hrD1
  replace hr := hr.ext hCD1
  refine ⟨rfl, ?_⟩
  refine XD.start haD1 ?_
  refine XD.pure r0 ?_
  refine Y.move (by rfl) ?_
  refine XD.stepI ?_
  refine Y.call (by rfl) ok66 (rnum_ok i (by omega) _) ?_
  rintro v6 w6 hN6
  exact ⟨hN6.1, hN6.older hCD1⟩
 ·intro aD1 wD1 haD1 hCD1 hrD1
  refine ⟨rfl, ?_⟩
  refine XD.start haD1 ?_
  apply XD.stepP rfl
  intro w3
  refine Y.move (by rfl) ?_
  exact ⟨rfl, rfl⟩
 ·intro aD1 wD1 haD1 hCD1 hrD1
  obtain ⟨r2, -⟩ := hrD1
  replace hr := hr.ext hCD1
  refine ⟨rfl, ?_⟩
  refine XD.start haD1 ?_
  refine XD.pure r2 ?_
  refine Y.move (by rfl) ?_
  refine XD.stepI ?_
  refine Y.toText Tryz.underlying39 Tryz.underlying9 Tryz.underlying5 (by rfl) hr rfl ?_
  exact ⟨Chg.refl _ _, rfl⟩
 intro aD1 wD1 haD1 hCD1 hrD1
 obtain ⟨r0, r1, r2, r3, -⟩ := hrD1
 replace hr := hr.ext hCD1
 refine XD.start haD1 ?_
 refine XD.pure r0 ?_
 refine Y.move (by rfl) ?_
 refine XD.imp r1 ?_
 rintro v6 hN6
 refine XD.pure r2 ?_
 refine Y.move (by rfl) ?_
 refine XD.imp r3 ?_
 rintro _ rfl
 refine XD.fin haD1 ?_
 show XL _ _ _ _ (List.cons _ _) _ _
 refine XL.s rfl ?_
 refine Y.call (by rfl) ok61 (rtext_ok l (by omega) _) ?_
 rintro v9 w9 hN9
 replace hN6 := hN6.ext hN9.1
 have hnl := numB_length i
 have htl := textB_length l
 refine XL.s rfl ?_
 refine Y.appendN st39 Tryz.underlying39 (by rfl) (by rfl) hN6 hN9.row (by simp [bytesV]) (by omega) (by omega) ?_
 intro v10 w10 hN10 hC10
 have hB10 : NewB 5 w w10 v10 (numB i ++ textB l) := hN10.cast (by simp) (by simp [bytesV])
 refine XL.s rfl ?_
 refine Y.call (by rfl) ok65 (rput_ok _ _ (numB i ++ textB l) _ hB10.bs (by simp; omega) (by simp; omega)) ?_
 rintro v11 w11 hN11
 refine XL.s rfl ?_
 refine Y.assign (by rfl) ?_
 refine XL.nil ?_
 refine QN.next ?_
 refine XC.ret ?_
 refine QN.done1 (fn := Tryz.f36) (R := R) (.inl rfl) rfl rfl ?_
 refine hR _ _ ?_
 exact hN11.older hB10.1
theorem renc_ok (k F : Nat) (l : List UInt8) (w : World) (hk : 1 ≤ k) (hF : k + 2 * F ≤ 7) (hl : l.length ≤ 60000) :
  Rets Tryz.prog 35 #[shapeV k F, strV l] w fun v w' => Rows AnyB w' v (encR k (k + 2 * F) l) ∧ Ext w w' := by
 refine Rets.enter (args := [shapeV k F, strV l]) (n := 50) Tryz.func35 rfl rfl rfl ?_
 intro R hR
 show XC _ _ _ _ [(0, shapeV k F), (1, strV l)] _
 refine XC.seq ?_
 refine XC.region ?_
 show XL _ _ _ _ (List.cons _ _) _ _
 refine XL.s rfl ?_
 refine Y.box (by rfl) ?_
 intro b2 w2 hb2 hz2 hE2
 have hsh : HB w2 b2 (.cells (Value.cells (shapeV (k : Int) (F : Int))) 23 (0, 0)) := hb2
 have htl := textB_length l
 refine XL.s rfl ?_
 refine Y.assign (by rfl) ?_
 refine XL.nil ?_
 refine QN.next ?_
 refine XC.seq ?_
 refine XC.region ?_
 show XL _ _ _ _ (List.cons _ _) _ _
 refine XL.s rfl ?_
 refine Y.move (by rfl) ?_
 refine XL.s rfl ?_
 refine Y.call (by rfl) ok61 (rtext_ok l (by omega) _) ?_
 rintro v10 w10 hN10
 have hpn := padN_lt (textB l).length hk
 refine XL.s rfl ?_
 refine Y.assign (by rfl) ?_
 refine XL.nil ?_
 refine QN.next ?_
 refine XC.seq ?_
 refine XC.block ?_
 refine XC.loop (α := Nat × Value) (fun (j, a) => [(2, .pointer (some ⟨b2, 0, none⟩)), (5, a)]) (fun (j, a) wr => j ≤ padN k (textB l).length ∧ New w2 wr 5 1 a ((textB l).length + j) (bytesV (textB l ++ List.replicate j 0))) (fun (j, a) => padN k (textB l).length - j) ((0, v10)) ?_ ?_ ?_
 ·exact ⟨rfl, rfl, trivial⟩
 ·exact ⟨by omega, hN10.cast rfl (by simp)⟩
 ·rintro ⟨j, a⟩ wr hI
  obtain ⟨hj, hN⟩ := hI
  refine XC.seq ?_
  refine XC.seq ?_
  refine XC.region ?_
  show XL _ _ _ _ (List.cons _ _) _ _
  refine XL.s rfl ?_
  refine Y.move (by rfl) ?_
  refine XL.s rfl ?_
  first | refine Y.lenV Tryz.underlying39 (by rfl) ?_ | refine Y.len Tryz.underlying39 (by rfl) (by first | assumption | exact Apd.row (by assumption) | exact New.row (by assumption)) ?_
  refine XL.s rfl ?_
  refine Y.fieldAddr fld23_0 (by rfl) ?_
  refine XL.s rfl ?_
  refine Y.load one3 (by rfl) (shape0 (hsh.ext hN.1)) ?_
  refine XL.s rfl ?_
  refine Y.rem (by rfl) (by rfl) (by omega) (tmodN ((textB l).length + j) k) ?_
  refine XL.s rfl ?_
  refine Y.neq (by rfl) (by rfl) ?_
  refine XL.nil ?_
  refine QN.next ?_
  refine XC.condS rfl ?_ ?_
  ·intro hx
   try simp only [decide_eq_true_eq, decide_eq_false_iff_not, Bool.not_eq_true', Bool.not_eq_false', Bool.not_eq_eq_eq_not, Bool.not_true, Bool.not_false, Bool.or_eq_true, Bool.and_eq_true, Bool.or_eq_false_iff] at hx
   have hj2 : j < padN k (textB l).length := Nat.lt_of_le_of_ne hj (fun e => hx (by rw [e, padN_mod _ hk]; rfl))
   refine XC.skip ?_
   refine QN.next ?_
   refine XC.block ?_
   refine XC.region ?_
   show XL _ _ _ _ (List.cons _ _) _ _
   refine XL.s rfl ?_
   refine Y.move (by rfl) ?_
   refine XL.s rfl ?_
   refine Y.buildSlice st39 (by rfl) (by rfl) (by omega) (by simp [Value.oneCell', byteV, strV]) ?_
   intro v18 w18 hN18
   replace hN := hN.ext hN18.1
   refine XL.s rfl ?_
   refine Y.appendN st39 Tryz.underlying39 (by rfl) (by rfl) hN hN18.row (by simp) (by omega) (by omega) ?_
   intro v19 w19 hN19 hC19
   refine XL.s rfl ?_
   refine Y.assign (by rfl) ?_
   refine XL.nil ?_
   refine QN.blk ?_
   refine QN.again ((j + 1, v19)) ?_ ?_ ?_
   ·exact ⟨rfl, rfl, trivial⟩
   ·exact ⟨by omega, hN19.cast (by omega) (by rw [List.replicate_succ', ← List.append_assoc]; exact (bytesV_append _ [0]).symm)⟩
   ·first | omega | (simp only []; omega) | (simp; omega)
  ·intro hx
   try simp only [decide_eq_true_eq, decide_eq_false_iff_not, Bool.not_eq_true', Bool.not_eq_false', Bool.not_eq_eq_eq_not, Bool.not_true, Bool.not_false, Bool.or_eq_true, Bool.and_eq_true, Bool.or_eq_false_iff] at hx
   have hjp := padN_stop hk hj (by omega)
   subst hjp
   have hP : NewB 5 w2 wr a (padB k l) := hN.cast (padB_length k l).symm rfl
   have hPl := padB_le l hk
   have hpl := padB_length k l
   have hql := pieceN_le l hk
   refine XC.exit ?_
   refine QN.thenE ?_
   refine QN.thenE ?_
   refine QN.hit ?_
   refine QN.next ?_
   refine XC.seq ?_
   refine XC.region ?_
   show XL _ _ _ _ (List.cons _ _) _ _
   refine XL.s rfl ?_
   refine Y.move (by rfl) ?_
   refine XL.s rfl ?_
   first | refine Y.lenV Tryz.underlying39 (by rfl) ?_ | refine Y.len Tryz.underlying39 (by rfl) (by first | assumption | exact Apd.row (by assumption) | exact New.row (by assumption)) ?_
   refine XL.s rfl ?_
   refine Y.fieldAddr fld23_0 (by rfl) ?_
   refine XL.s rfl ?_
   refine Y.load one3 (by rfl) (shape0 (hsh.ext hN.1)) ?_
   refine XL.s rfl ?_
   refine Y.quo (by rfl) (by rfl) (by omega) (show IntKind.i64.wrap _ = ((pieceN k l : Nat) : Int) from by rw [pieceN, hpl]; exact quo64 _ k (by omega)) ?_
   rename World => w3
   have hP3 := hP.bs.old
   refine XL.s rfl ?_
   refine Y.assign (by rfl) ?_
   refine XL.nil ?_
   refine QN.next ?_
   refine XC.seq ?_
   refine XC.region ?_
   show XL _ _ _ _ (List.cons _ _) _ _
   refine XL.s rfl ?_
   refine Y.assign (by rfl) ?_
   refine XL.nil ?_
   refine QN.next ?_
   refine XC.seq ?_
   refine XC.seq ?_
   refine XC.region ?_
   show XL _ _ _ _ (List.cons _ _) _ _
   refine XL.s rfl ?_
   refine Y.assign (by rfl) ?_
   refine XL.nil ?_
   refine QN.next ?_
   refine XC.block ?_
   refine XC.loop (α := Nat × Value) (fun (i, m) => [(2, .pointer (some ⟨b2, 0, none⟩)), (5, a), (6, .int .i64 (pieceN k l : Nat)), (7, m), (8, .int .i64 i)]) (fun (i, m) wr => i ≤ k ∧ ∃ us, New w3 wr 39 1 m i us ∧ RowsAll (· < w3.heap.size) wr us ((List.range i).map (pieceP k l))) (fun (i, m) => k - i) ((0, .slice none 0 0)) ?_ ?_ ?_
   ·exact ⟨rfl, rfl, rfl, rfl, rfl, trivial⟩
   ·exact ⟨by omega, [], New.nil _ _ _, trivial⟩
   ·rintro ⟨i, m⟩ wr hI
    obtain ⟨hi, us, hM, hR2⟩ := hI
    refine XC.seq ?_
    refine XC.seq ?_
    refine XC.region ?_
    show XL _ _ _ _ (List.cons _ _) _ _
    refine XL.s rfl ?_
    refine Y.move (by rfl) ?_
    refine XL.s rfl ?_
    refine Y.fieldAddr fld23_0 (by rfl) ?_
    refine XL.s rfl ?_
    refine Y.load one3 (by rfl) (shape0 ((hsh.ext hN.1).ext hM.1)) ?_
    refine XL.s rfl ?_
    refine Y.lss (by rfl) (by rfl) ?_
    refine XL.nil ?_
    refine QN.next ?_
    refine XC.condS rfl ?_ ?_
    ·intro hc
     try simp only [decide_eq_true_eq, decide_eq_false_iff_not, Bool.not_eq_true', Bool.not_eq_false', Bool.not_eq_eq_eq_not, Bool.not_true, Bool.not_false, Bool.or_eq_true, Bool.and_eq_true, Bool.or_eq_false_iff] at hc
     have hik : i < k := by omega
     have hen := piece_end l hk hik
     have hst : i * pieceN k l ≤ (i + 1) * pieceN k l := Nat.mul_le_mul_right _ (by omega)
     refine XC.skip ?_
     refine QN.next ?_
     refine XC.seq ?_
     refine XC.block ?_
     refine XC.region ?_
     show XL _ _ _ _ (List.cons _ _) _ _
     refine XL.s rfl ?_
     refine Y.move (by rfl) ?_
     refine XL.s rfl ?_
     refine Y.move (by rfl) ?_
     refine XL.s rfl ?_
     refine Y.move (by rfl) ?_
     refine XL.s rfl ?_
     refine Y.move (by rfl) ?_
     refine XL.s rfl ?_
     refine Y.mul (by rfl) (by rfl) (mul64 i (pieceN k l) (by omega)) ?_
     refine XL.s rfl ?_
     refine Y.move (by rfl) ?_
     refine XL.s rfl ?_
     refine Y.add (by rfl) (by rfl) (wrap64 (by omega) (by omega)) ?_
     refine XL.s rfl ?_
     refine Y.move (by rfl) ?_
     refine XL.s rfl ?_
     refine Y.mul (by rfl) (by rfl) (mul64 (i + 1) (pieceN k l) (by omega)) ?_
     refine XL.s rfl ?_
     refine Y.sliceMidB st39 (by rfl) (hP3.ext hM.1) (by rfl) (by rfl) bnd_nat bnd_nat ⟨hst, hen⟩ ?_
     intro v40 hr40
     replace hr40 := hr40.cast (pieceP_cut_len l) (congrArg bytesV (pieceP_cut l))
     refine XL.s rfl ?_
     refine Y.buildSlice st37 (by rfl) (by rfl) (by omega) (by intro q hq; simp at hq; subst hq; exact hr40.oneC) ?_
     intro v41 w41 hN41
     replace hM := hM.ext hN41.1
     refine XL.s rfl ?_
     refine Y.appendN st37 Tryz.underlying37 (by rfl) (by rfl) hM hN41.row (by simp) (by omega) (by omega) ?_
     intro v42 w42 hN42 hC42
     refine XL.s rfl ?_
     refine Y.assign (by rfl) ?_
     refine XL.nil ?_
     refine QN.blk ?_
     refine QN.next ?_
     refine XC.region ?_
     show XL _ _ _ _ (List.cons _ _) _ _
     refine XL.s rfl ?_
     refine Y.move (by rfl) ?_
     refine XL.s rfl ?_
     refine Y.add (by rfl) (by rfl) (wrap64 (by omega) (by omega)) ?_
     refine XL.s rfl ?_
     refine Y.assign (by rfl) ?_
     refine XL.nil ?_
     refine QN.again ((i + 1, v42)) ?_ ?_ ?_
     ·exact ⟨rfl, rfl, rfl, rfl, rfl, trivial⟩
     ·exact ⟨by omega, _, hN42, by rw [range_map_succ]; exact RowsAll.append (show RowsAll (· < w3.heap.size) w42 [v40] [pieceP k l i] from ⟨Row.keep hC42 (hr40.ext hN41.1) (fun b h => h), trivial⟩) (RowsAll.keep hC42 (fun b h => h) (hR2.ext hN41.1))⟩
     ·first | omega | (simp only []; omega) | (simp; omega)
    ·intro hc
     try simp only [decide_eq_true_eq, decide_eq_false_iff_not, Bool.not_eq_true', Bool.not_eq_false', Bool.not_eq_eq_eq_not, Bool.not_true, Bool.not_false, Bool.or_eq_true, Bool.and_eq_true, Bool.or_eq_false_iff] at hc
     obtain rfl : i = k := by omega
     have hRows : Rows AnyB wr m (piecesP i l) := ⟨us, by rw [piecesP_length]; exact hM.row.any, hR2.imp fun _ _ h => h.any⟩
     have hEw := (hN.1.trans hM.1)
     have hsh2 := hsh.ext hEw
     refine XC.exit ?_
     refine QN.thenE ?_
     refine QN.thenE ?_
     refine QN.hit ?_
     refine QN.next ?_
     refine XC.seq ?_
     apply XC.drop [9, 10, 11, 12, 13, 14, 15, 16, 17, 18, 19, 20, 21, 22, 23, 24, 25, 26, 27, 28, 29, 30, 31, 32, 33, 34, 35, 36, 37, 38, 39, 40, 41, 42, 43, 44, 45, 46, 47, 48, 49]
     ·repeat (first | apply DropTo.nil | apply DropTo.skip rfl | apply DropTo.keep rfl)
     refine XC.drawL 6 [[], [0], [], [2], [0, 1, 2, 3], [], [0, 1, 2, 3, 4, 5], [0, 1, 2, 3, 4, 5, 6]] _ (Chg NoB) (Steady.chg NoB) [] [(1, (fun v _ => v = .int .i64 (i : Nat))), (2, (fun v _ => v = shapeV (i : Int) (F : Int))), (3, (fun v _ => v = .int .i64 ((i + 2 * F : Nat) : Int))), (4, (fun v w' => Rows AnyB w' v (rcod i (i + 2 * F))))] [0, 1, 2, 3, 4, 5] fol (by kernel_rfl) (by rfl) (by rfl) ⟨(fun _ _ _ _ h => h), (fun _ _ _ _ h => h), (fun _ _ _ _ h => h), (fun v w1 w2 hE h => h.ext hE), trivial⟩ ⟨?_, ?_, ?_, ?_, ?_, ?_, trivial⟩ ?_
     ·intro aD10 wD10 haD10 hCD10 hrD10
      refine ⟨rfl, ?_⟩
      refine XD.start haD10 ?_
      apply XD.stepP rfl
      intro w3
      refine Y.fieldAddr fld23_0 (by rfl) ?_
      exact ⟨rfl, rfl⟩
     ·intro aD10 wD10 haD10 hCD10 hrD10
      obtain ⟨r0, -⟩ := hrD10
      replace hRows := hRows.ext hCD10
      replace hsh2 := hsh2.ext hCD10
      refine ⟨rfl, ?_⟩
      refine XD.start haD10 ?_
      refine XD.pure r0 ?_
      refine Y.fieldAddr fld23_0 (by rfl) ?_
      refine XD.stepI ?_
      refine Y.load one3 (by rfl) (shape0 hsh2) ?_
      exact ⟨Chg.refl _ _, rfl⟩
     ·intro aD10 wD10 haD10 hCD10 hrD10
      replace hRows := hRows.ext hCD10
      replace hsh2 := hsh2.ext hCD10
      refine ⟨rfl, ?_⟩
      refine XD.start haD10 ?_
      refine XD.stepI ?_
      refine Y.loadA agg23 (by rfl) (cs := [.int .i64 (i : Int), .int .i64 (F : Int)]) rfl (shapeA hsh2) ?_
      exact ⟨Chg.refl _ _, rfl⟩
     ·intro aD10 wD10 haD10 hCD10 hrD10
      obtain ⟨r2, -⟩ := hrD10
      replace hRows := hRows.ext hCD10
      replace hsh2 := hsh2.ext hCD10
      refine ⟨rfl, ?_⟩
      refine XD.start haD10 ?_
      refine XD.imp r2 ?_
      rintro _ rfl
      refine XD.stepI ?_
      refine Y.call (by rfl) ok64 (rn_ok (i : Int) (F : Int) _ ⟨by omega, by omega⟩ ⟨by omega, by omega⟩ ⟨by omega, by omega, by omega⟩) ?_
      rintro v46 w46 ⟨rfl, hE46⟩
      exact ⟨hE46, congrArg _ (by omega)⟩
     ·intro aD10 wD10 haD10 hCD10 hrD10
      obtain ⟨r0, r1, r2, r3, -⟩ := hrD10
      replace hRows := hRows.ext hCD10
      replace hsh2 := hsh2.ext hCD10
      refine ⟨rfl, ?_⟩
      refine XD.start haD10 ?_
      refine XD.pure r0 ?_
      refine Y.fieldAddr fld23_0 (by rfl) ?_
      refine XD.imp r1 ?_
      rintro _ rfl
      refine XD.imp r2 ?_
      rintro _ rfl
      refine XD.imp r3 ?_
      rintro _ rfl
      refine XD.stepI ?_
      refine Y.call (by rfl) ok63 (rcoding_ok i (i + 2 * F) _ (by omega) (by omega) (by omega)) ?_
      rintro v47 w47 ⟨hM47, hE47⟩
      exact ⟨hE47, hM47.rows.any⟩
     ·intro aD10 wD10 haD10 hCD10 hrD10
      refine ⟨rfl, ?_⟩
      refine XD.start haD10 ?_
      apply XD.stepP rfl
      intro w3
      refine Y.move (by rfl) ?_
      exact ⟨rfl, rfl⟩
     intro aD10 wD10 haD10 hCD10 hrD10
     obtain ⟨r0, r1, r2, r3, r4, r5, -⟩ := hrD10
     replace hRows := hRows.ext hCD10
     replace hsh2 := hsh2.ext hCD10
     refine XD.start haD10 ?_
     refine XD.pure r0 ?_
     refine Y.fieldAddr fld23_0 (by rfl) ?_
     refine XD.imp r1 ?_
     rintro _ rfl
     refine XD.imp r2 ?_
     rintro _ rfl
     refine XD.imp r3 ?_
     rintro _ rfl
     refine XD.imp r4 ?_
     rintro v47 hr47
     refine XD.pure r5 ?_
     refine Y.move (by rfl) ?_
     refine XD.fin haD10 ?_
     show XL _ _ _ _ (List.cons _ _) _ _
     refine XL.s rfl ?_
     refine Y.call (by rfl) ok62 (rmmul_ok _ _ _ _ (rcod i (i + 2 * F)) (piecesP i l) (pieceN i l) _ hr47 hRows (fun r hr => by rw [piecesP_length]; simp only [rcod, List.mem_map] at hr; obtain ⟨z, -, rfl⟩ := hr; exact rcodR_length i z) (piecesP_all l hk) (pieceN_pos l hk) (by omega) (by rw [rcod_length]; omega) (by rw [piecesP_length]; omega) (by rw [rcod_length]; omega) (by rw [piecesP_length]; omega)) ?_
     rintro v49 w49 ⟨hM49, hE49⟩
     refine XL.s rfl ?_
     refine Y.assign (by rfl) ?_
     refine XL.nil ?_
     refine QN.next ?_
     refine XC.ret ?_
     refine QN.done1 (fn := Tryz.f35) (R := R) (.inl rfl) rfl rfl ?_
     refine hR _ _ ?_
     exact ⟨hM49.rows.any, ((hE2.trans hEw).trans hCD10).trans hE49⟩
theorem rfiles_ok (k F : Nat) (l : List UInt8) (w : World) (hk : 1 ≤ k) (hF : k + 2 * F ≤ 7) (hl : l.length ≤ 2000) :
  Rets Tryz.prog 15 #[shapeV k F, strV l] w fun v w' => OMat 39 5 (btw w.heap.size w'.heap.size) w' v (filesP (encR k (k + 2 * F) l)) ∧ Ext w w' := by
 refine Rets.enter (args := [shapeV k F, strV l]) (n := 27) Tryz.func15 rfl rfl rfl ?_
 intro R hR
 show XC _ _ _ _ [(0, shapeV k F), (1, strV l)] _
 refine XC.seq ?_
 refine XC.region ?_
 show XL _ _ _ _ (List.cons _ _) _ _
 refine XL.s rfl ?_
 refine Y.box (by rfl) ?_
 intro b2 w2 hb2 hz2 hE2
 refine XL.s rfl ?_
 refine Y.assign (by rfl) ?_
 refine XL.nil ?_
 refine QN.next ?_
 refine XC.seq ?_
 refine XC.region ?_
 show XL _ _ _ _ (List.cons _ _) _ _
 refine XL.s rfl ?_
 refine Y.loadA agg23 (by rfl) (cs := [.int .i64 (k : Int), .int .i64 (F : Int)]) rfl (shapeA (K := k) (F := F) hb2) ?_
 refine XL.s rfl ?_
 refine Y.move (by rfl) ?_
 refine XL.s rfl ?_
 refine Y.call (by rfl) ok35 (renc_ok k F l _ hk hF (by omega)) ?_
 rintro v10 w10 ⟨hR10, hE10⟩
 have hel := encR_length k (k + 2 * F) l
 have hea := encR_all (n := k + 2 * F) l hk
 have hpl := padB_le l hk
 have hql := pieceN_le l hk
 obtain ⟨cu, capu, rfl⟩ := hR10.val
 obtain ⟨vs, hvs, hvl, hqs⟩ := hR10.get
 have hE0 := hE2.trans hE10
 refine XL.s rfl ?_
 refine Y.assign (by rfl) ?_
 refine XL.nil ?_
 refine QN.next ?_
 refine XC.seq ?_
 refine XC.region ?_
 show XL _ _ _ _ (List.cons _ _) _ _
 refine XL.s rfl ?_
 refine Y.assign (by rfl) ?_
 refine XL.nil ?_
 refine QN.next ?_
 refine XC.seq ?_
 refine XC.seq ?_
 refine XC.region ?_
 show XL _ _ _ _ (List.cons _ _) _ _
 refine XL.s rfl ?_
 refine Y.assign (by rfl) ?_
 refine XL.nil ?_
 refine QN.next ?_
 refine XC.block ?_
 refine XC.loop (α := Nat × Value) (fun (i, a) => [(5, .slice cu (encR k (k + 2 * F) l).length capu), (6, a), (7, .int .i64 i)]) (fun (i, a) wr => i ≤ (encR k (k + 2 * F) l).length ∧ Ext w10 wr ∧ OMat 39 5 (btw w10.heap.size wr.heap.size) wr a (filesP ((encR k (k + 2 * F) l).take i))) (fun (i, a) => (encR k (k + 2 * F) l).length - i) ((0, .slice none 0 0)) ?_ ?_ ?_
 ·exact ⟨rfl, rfl, rfl, trivial⟩
 ·exact ⟨by omega, Chg.refl _ _, OMat.nil _ _ _ _⟩
 ·rintro ⟨i, a⟩ wr hI
  obtain ⟨hi, hE, hM⟩ := hI
  refine XC.seq ?_
  refine XC.seq ?_
  refine XC.region ?_
  show XL _ _ _ _ (List.cons _ _) _ _
  refine XL.s rfl ?_
  refine Y.move (by rfl) ?_
  refine XL.s rfl ?_
  refine Y.move (by rfl) ?_
  refine XL.s rfl ?_
  first | refine Y.lenV Tryz.underlying37 (by rfl) ?_ | refine Y.len Tryz.underlying37 (by rfl) (by first | assumption | exact Apd.row (by assumption) | exact New.row (by assumption)) ?_
  refine XL.s rfl ?_
  refine Y.lss (by rfl) (by rfl) ?_
  refine XL.nil ?_
  refine QN.next ?_
  refine XC.condS rfl ?_ ?_
  ·intro hc
   try simp only [decide_eq_true_eq, decide_eq_false_iff_not, Bool.not_eq_true', Bool.not_eq_false', Bool.not_eq_eq_eq_not, Bool.not_true, Bool.not_false, Bool.or_eq_true, Bool.and_eq_true, Bool.or_eq_false_iff] at hc
   have hi' : i < (encR k (k + 2 * F) l).length := by omega
   obtain ⟨q, hq, hb⟩ := hqs i hi'
   have hll := hea _ (List.getElem_mem hi')
   refine XC.skip ?_
   refine QN.next ?_
   refine XC.seq ?_
   refine XC.block ?_
   refine XC.region ?_
   show XL _ _ _ _ (List.cons _ _) _ _
   refine XL.s rfl ?_
   refine Y.move (by rfl) ?_
   refine XL.s rfl ?_
   refine Y.move (by rfl) ?_
   refine XL.s rfl ?_
   refine Y.move (by rfl) ?_
   refine XL.s rfl ?_
   refine Y.move (by rfl) ?_
   refine XL.s rfl ?_
   refine Y.indexR st37 (by rfl) (by rfl) (hvs.ext hE) ⟨by omega, by omega⟩ (by rw [Int.toNat_natCast]; exact hq) ?_
   intro b21 o21 hs21 hc21
   refine XL.s rfl ?_
   refine Y.load one39 (by rfl) (by assumption) ?_
   refine XL.s rfl ?_
   refine Y.call (by rfl) ok36 (rfile_ok _ _ i _ _ (hb.ext hE) (by omega) (by omega)) ?_
   rintro v23 w23 hO23
   obtain ⟨g0, -, hgS, hgl, hg0⟩ := hO23.2.at
   simp only [Since] at hgS
   have hzz := hE.size
   replace hM := hM.ext hO23.1
   replace hE := hE.trans hO23.1
   refine XL.s rfl ?_
   refine Y.buildSlice st37 (by rfl) (by rfl) (by omega) (by intro q hq; simp at hq; subst hq; exact hg0.row.oneC) ?_
   intro v24 w24 hN24
   replace hg0 := hg0.ext hN24.1
   replace hM := hM.ext hN24.1
   replace hE := hE.trans hN24.1
   refine XL.s rfl ?_
   refine Y.appendRow st37 Tryz.underlying37 (by rfl) (by rfl) hM hN24.row hg0 (fun h => by have := h.2; omega) (by rw [filesP_length, List.length_take]; omega) (by rw [filesP_length, List.length_take]; omega) ?_
   intro v25 w25 hM25 hC25
   have hz25 := hE.size
   replace hM := hM25.grow (by omega) hz25
   replace hE := hE.chgNew hC25 (fun x hx => hx.1)
   refine XL.s rfl ?_
   refine Y.assign (by rfl) ?_
   refine XL.nil ?_
   refine QN.blk ?_
   refine QN.next ?_
   refine XC.region ?_
   show XL _ _ _ _ (List.cons _ _) _ _
   refine XL.s rfl ?_
   refine Y.move (by rfl) ?_
   refine XL.s rfl ?_
   refine Y.add (by rfl) (by rfl) (wrap64 (by omega) (by omega)) ?_
   refine XL.s rfl ?_
   refine Y.assign (by rfl) ?_
   refine XL.nil ?_
   refine QN.again ((i + 1, v25)) ?_ ?_ ?_
   ·exact ⟨rfl, rfl, rfl, trivial⟩
   ·exact ⟨by omega, hE, hM.cast (filesP_take _ _ hi').symm⟩
   ·first | omega | (simp only []; omega) | (simp; omega)
  ·intro hc
   try simp only [decide_eq_true_eq, decide_eq_false_iff_not, Bool.not_eq_true', Bool.not_eq_false', Bool.not_eq_eq_eq_not, Bool.not_true, Bool.not_false, Bool.or_eq_true, Bool.and_eq_true, Bool.or_eq_false_iff] at hc
   obtain rfl : i = (encR k (k + 2 * F) l).length := by omega
   rw [List.take_length] at hM
   refine XC.exit ?_
   refine QN.thenE ?_
   refine QN.thenE ?_
   refine QN.hit ?_
   refine QN.next ?_
   refine XC.seq ?_
   refine XC.region ?_
   show XL _ _ _ _ (List.cons _ _) _ _
   refine XL.s rfl ?_
   refine Y.move (by rfl) ?_
   refine XL.s rfl ?_
   refine Y.assign (by rfl) ?_
   refine XL.nil ?_
   refine QN.next ?_
   refine XC.ret ?_
   refine QN.done1 (fn := Tryz.f15) (R := R) (.inl rfl) rfl rfl ?_
   refine hR _ _ ?_
   exact ⟨hM.mono fun b _ hb => ⟨Nat.le_trans hE0.size hb.1, hb.2⟩, hE0.trans hE⟩
end Go.Proofs.YtchammpamigonaaGreatX
end
section
set_option linter.unusedVariables false
set_option linter.unusedSimpArgs false
set_option maxRecDepth 10000
set_option maxHeartbeats 4000000
namespace Go.Proofs.YtchammpamigonaaGreatX
open Go Go.RowKit Go.Proofs
theorem shape_ok (a b : UInt8) (w : World) :
  Rets Tryz.prog 19 #[byteV a, byteV b] w fun v w' => ∃ k F : Nat, 1 ≤ k ∧ k + 2 * F ≤ 7 ∧ v = shapeV k F ∧ Ext w w' := by
 refine Rets.enter (args := [byteV a, byteV b]) (n := 18) Tryz.func19 rfl rfl rfl ?_
 intro R hR
 show XC _ _ _ _ [(0, byteV a), (1, byteV b)] _
 have ha := a.toNat_lt
 have hb := b.toNat_lt
 refine XC.seq ?_
 refine XC.region ?_
 show XL _ _ _ _ (List.cons _ _) _ _
 refine XL.s rfl ?_
 refine Y.alloc zt23 ?_
 intro b4 w4 hb4 hz4 hE4
 refine XL.nil ?_
 refine QN.next ?_
 refine XC.seq ?_
 refine XC.region ?_
 show XL _ _ _ _ (List.cons _ _) _ _
 refine XL.s rfl ?_
 refine Y.move (by rfl) ?_
 refine XL.s rfl ?_
 refine Y.rem (by rfl) (by rfl) (by omega) (tmodN b.toNat 4) ?_
 refine XL.s rfl ?_
 refine Y.convI Tryz.underlying5 Tryz.underlying3 (by rfl) (wrap64 (by omega) (by omega)) ?_
 refine XL.s rfl ?_
 refine Y.assign (by rfl) ?_
 refine XL.nil ?_
 refine QN.next ?_
 refine XC.seq ?_
 refine XC.region ?_
 show XL _ _ _ _ (List.cons _ _) _ _
 refine XL.s rfl ?_
 refine Y.move (by rfl) ?_
 refine XL.s rfl ?_
 refine Y.convI Tryz.underlying5 Tryz.underlying3 (by rfl) (wrap64 (by omega) (by omega)) ?_
 refine XL.s rfl ?_
 refine Y.move (by rfl) ?_
 refine XL.s rfl ?_
 refine Y.mul (by rfl) (by rfl) (show IntKind.i64.wrap (2 * ((b.toNat % 4 : Nat) : Int)) = ((2 * (b.toNat % 4) : Nat) : Int) from by rw [wrap64 (by omega) (by omega)]; omega) ?_
 refine XL.s rfl ?_
 refine Y.sub (by rfl) (by rfl) (show IntKind.i64.wrap (7 - ((2 * (b.toNat % 4) : Nat) : Int)) = ((7 - 2 * (b.toNat % 4) : Nat) : Int) from by rw [wrap64 (by omega) (by omega)]; omega) ?_
 refine XL.s rfl ?_
 refine Y.rem (by rfl) (by rfl) (by omega) (tmodN a.toNat (7 - 2 * (b.toNat % 4))) ?_
 refine XL.s rfl ?_
 refine Y.add (by rfl) (by rfl) (show IntKind.i64.wrap (1 + ((a.toNat % (7 - 2 * (b.toNat % 4)) : Nat) : Int)) = ((1 + a.toNat % (7 - 2 * (b.toNat % 4)) : Nat) : Int) from by have := Nat.mod_lt a.toNat (show 0 < 7 - 2 * (b.toNat % 4) by omega); rw [wrap64 (by omega) (by omega)]; omega) ?_
 refine XL.s rfl ?_
 refine Y.move (by rfl) ?_
 refine XL.s rfl ?_
 refine Y.build (by rfl) (v := .agg #[.int .i64 ((1 + a.toNat % (7 - 2 * (b.toNat % 4)) : Nat) : Int), .int .i64 ((b.toNat % 4 : Nat) : Int)]) (fun _ => by kernel_rfl) ?_
 refine XL.o ?_
 refine Y.storeA agg23 (by rfl) (by rfl) hb4 rfl rfl (by intro c hc; simp at hc; rcases hc with rfl | rfl <;> rfl) ?_
 intro w5 hb5 hC5 hz5
 have hlt := Nat.mod_lt a.toNat (show 0 < 7 - 2 * (b.toNat % 4) by omega)
 refine XL.nil ?_
 refine QN.next ?_
 refine XC.ret ?_
 refine QN.doneC (fn := Tryz.f19) (R := R) (.inl rfl) rfl rfl rfl agg23 rfl (fun j u hu => cell_arr hb5 (by rw [Nat.zero_add]; exact hu)) ?_
 refine hR _ _ ?_
 exact ⟨1 + a.toNat % (7 - 2 * (b.toNat % 4)), b.toNat % 4, by omega, by omega, rfl, hE4.chgNew hC5 (fun x hx => by omega)⟩
theorem disks_ok (n cap : Nat) (w : World) (hn : n ≤ 1000) :
  Rets Tryz.prog 11 #[.int .i64 n, .int .i64 cap] w fun v w' => DRow 41 79 82 5 w.heap.size w' (min cap 65536) (fun _ => fun _ => none) 0 0 n v ∧ Ext w w' := by
 refine Rets.enter (args := [.int .i64 n, .int .i64 cap]) (n := 22) Tryz.func11 rfl rfl rfl ?_
 intro R hR
 show XC _ _ _ _ [(0, .int .i64 n), (1, .int .i64 cap)] _
 refine XC.seq ?_
 refine XC.region ?_
 show XL _ _ _ _ (List.cons _ _) _ _
 refine XL.s rfl ?_
 refine Y.assign (by rfl) ?_
 refine XL.nil ?_
 refine QN.next ?_
 refine XC.seq ?_
 refine XC.region ?_
 show XL _ _ _ _ (List.cons _ _) _ _
 refine XL.s rfl ?_
 refine Y.assign (by rfl) ?_
 refine XL.nil ?_
 refine QN.next ?_
 refine XC.seq ?_
 refine XC.seq ?_
 refine XC.region ?_
 show XL _ _ _ _ (List.cons _ _) _ _
 refine XL.s rfl ?_
 refine Y.assign (by rfl) ?_
 refine XL.nil ?_
 refine QN.next ?_
 refine XC.block ?_
 refine XC.loop (α := Nat × Value) (fun (i, a) => [(0, .int .i64 (n : Nat)), (1, .int .i64 (cap : Nat)), (5, a), (6, .int .i64 i)]) (fun (i, a) wr => i ≤ n ∧ DRow 41 79 82 5 w.heap.size wr (min cap 65536) (fun _ => fun _ => none) 0 0 i a ∧ Ext w wr) (fun (i, a) => n - i) ((0, .slice none 0 0)) ?_ ?_ ?_
 ·exact ⟨rfl, rfl, rfl, rfl, trivial⟩
 ·exact ⟨by omega, DRow.nil, Chg.refl _ _⟩
 ·rintro ⟨i, a⟩ wr hI
  obtain ⟨hi, hDR, hE⟩ := hI
  refine XC.seq ?_
  refine XC.seq ?_
  refine XC.region ?_
  show XL _ _ _ _ (List.cons _ _) _ _
  refine XL.s rfl ?_
  refine Y.move (by rfl) ?_
  refine XL.s rfl ?_
  refine Y.move (by rfl) ?_
  refine XL.s rfl ?_
  refine Y.lss (by rfl) (by rfl) ?_
  refine XL.nil ?_
  refine QN.next ?_
  refine XC.condS rfl ?_ ?_
  ·intro hc
   try simp only [decide_eq_true_eq, decide_eq_false_iff_not, Bool.not_eq_true', Bool.not_eq_false', Bool.not_eq_eq_eq_not, Bool.not_true, Bool.not_false, Bool.or_eq_true, Bool.and_eq_true, Bool.or_eq_false_iff] at hc
   have hi' : i < n := by omega
   refine XC.skip ?_
   refine QN.next ?_
   refine XC.seq ?_
   refine XC.block ?_
   refine XC.seq ?_
   refine XC.region ?_
   show XL _ _ _ _ (List.cons _ _) _ _
   refine XL.s rfl ?_
   refine Y.move (by rfl) ?_
   refine XL.s rfl ?_
   refine Y.call (by rfl) ok28 (dnew_ok (cap : Int) _) ?_
   rintro v14 w14 ⟨most, hmo, hD14, hE14⟩
   have hmo' : most = min cap 65536 := by omega
   subst hmo'
   obtain ⟨db, r, Fs, es, rfl, -, -, -, -⟩ := id hD14
   refine XL.s rfl ?_
   refine Y.assign (by rfl) ?_
   refine XL.nil ?_
   refine QN.next ?_
   refine XC.seq ?_
   refine XC.region ?_
   show XL _ _ _ _ (List.cons _ _) _ _
   refine XL.s rfl ?_
   refine Y.move (by rfl) ?_
   refine XL.s rfl ?_
   refine Y.neqP Tryz.underlying41 (by rfl) (by rfl) ?_
   refine XL.nil ?_
   refine QN.next ?_
   refine XC.condT rfl ya ?_
   refine XC.region ?_
   show XL _ _ _ _ (List.cons _ _) _ _
   refine XL.s rfl ?_
   refine Y.move (by rfl) ?_
   refine XL.s rfl ?_
   refine Y.move (by rfl) ?_
   refine XL.s rfl ?_
   refine Y.buildSlice st31 (by rfl) (by rfl) (by omega) (by simp [Value.oneCell', byteV, strV]) ?_
   intro v19 w19 hN19
   have hzr := hE.size
   have hz14 := hE14.size
   have hz19 := hN19.1.size
   obtain ⟨So, dvs, Fd, h1, h2, h3, h4⟩ := hDR
   refine XL.s rfl ?_
   refine Y.appendG st31 Tryz.underlying31 (by rfl) (by rfl) ((h1.ext hE14).ext hN19.1) hN19.row rfl (by omega) (by omega) ?_
   intro v20 w20 hA20 hO20 hC20
   have hn20 : DRow 41 79 82 5 w.heap.size w20 (min cap 65536) (fun _ => fun _ => none) 0 0 (i + 1) v20 := DRow.snoc (by have := h1.1; omega) (fun j d hd => ((h2 j d hd).ext hE14).ext hN19.1) (fun j b hb => ⟨(h3 j b hb).1, by have := (h3 j b hb).2; omega⟩) (fun b hb => ⟨(h4 b hb).1, by have := (h4 b hb).2; omega⟩) (by omega) hC20 hA20 ⟨[], hD14.ext hN19.1, likeNil 0 0⟩ (fun b hb => ⟨fun hs => by have := hb.1; have := (h4 b hs).2; omega, by have := hb.2; omega⟩)
   refine XL.s rfl ?_
   refine Y.assign (by rfl) ?_
   refine XL.nil ?_
   refine QN.blk ?_
   refine QN.next ?_
   refine XC.region ?_
   show XL _ _ _ _ (List.cons _ _) _ _
   refine XL.s rfl ?_
   refine Y.move (by rfl) ?_
   refine XL.s rfl ?_
   refine Y.add (by rfl) (by rfl) (wrap64 (by omega) (by omega)) ?_
   refine XL.s rfl ?_
   refine Y.assign (by rfl) ?_
   refine XL.nil ?_
   refine QN.again ((i + 1, v20)) ?_ ?_ ?_
   ·exact ⟨rfl, rfl, rfl, rfl, trivial⟩
   ·exact ⟨by omega, hn20, (hE.trans (hE14.trans hN19.1)).chgNew hC20 (fun x hx => (h4 x hx).1)⟩
   ·first | omega | (simp only []; omega) | (simp; omega)
  ·intro hc
   try simp only [decide_eq_true_eq, decide_eq_false_iff_not, Bool.not_eq_true', Bool.not_eq_false', Bool.not_eq_eq_eq_not, Bool.not_true, Bool.not_false, Bool.or_eq_true, Bool.and_eq_true, Bool.or_eq_false_iff] at hc
   have hin : i = n := by omega
   subst hin
   refine XC.exit ?_
   refine QN.thenE ?_
   refine QN.thenE ?_
   refine QN.hit ?_
   refine QN.next ?_
   refine XC.seq ?_
   refine XC.region ?_
   show XL _ _ _ _ (List.cons _ _) _ _
   refine XL.s rfl ?_
   refine Y.move (by rfl) ?_
   refine XL.s rfl ?_
   refine Y.assign (by rfl) ?_
   refine XL.nil ?_
   refine QN.next ?_
   refine XC.ret ?_
   refine QN.done1 (fn := Tryz.f11) (R := R) (.inl rfl) rfl rfl ?_
   refine hR _ _ ?_
   exact ⟨hDR, hE⟩
end Go.Proofs.YtchammpamigonaaGreatX
end
section
set_option linter.unusedVariables false
set_option linter.unusedSimpArgs false
set_option maxRecDepth 10000
set_option maxHeartbeats 4000000
namespace Go.Proofs.YtchammpamigonaaGreatX
open Go Go.RowKit Go.Proofs
theorem spoilt_ok (k F : Nat) (nm bl : List UInt8) (ss : List Sp) (w : World) (hk : 1 ≤ k) (hF : k + 2 * F ≤ 7) (hnm : 1 ≤ nm.length ∧ nm.length ≤ 16) (hbl : bl.length ≤ 512) (hss : ss.length = 7) :
  Rets Tryz.prog 20 #[shapeV k F, strV nm, strV bl, .agg (spCs ss).toArray] w fun v w' => ∃ a b, v = .tuple #[a, b] ∧ DRowB 41 79 82 5 4 w.heap.size w' 6000 (fun j => spM nm (fileB j ((encP k (k + 2 * F) bl).getD j [])) (ss.getD j ⟨0, 0, 0⟩)) 700 1 (k + 2 * F) a b ((ss.take (k + 2 * F)).map spG) ∧ Ext w w' := by
 refine Rets.enter (args := [shapeV k F, strV nm, strV bl, .agg (spCs ss).toArray]) (n := 111) Tryz.func20 rfl rfl rfl ?_
 intro R hR
 show XC _ _ _ _ [(0, shapeV k F), (1, strV nm), (2, strV bl), (3, .agg (spCs ss).toArray)] _
 refine XC.seq ?_
 refine XC.region ?_
 show XL _ _ _ _ (List.cons _ _) _ _
 refine XL.s rfl ?_
 refine Y.box (by rfl) ?_
 intro b4 w4 hb4 hz4 hE4
 have hsh : HB w4 b4 (.cells (Value.cells (shapeV (k : Int) (F : Int))) 23 (0, 0)) := hb4
 refine XL.s rfl ?_
 refine Y.box (by rfl) ?_
 intro b7 w7 hb7 hz7 hE7
 have hb7 : HB w7 b7 (.cells (spCs ss).toArray 48 (0, 0)) := hb7
 refine XL.s rfl ?_
 refine Y.assign (by rfl) ?_
 refine XL.s rfl ?_
 refine Y.assign (by rfl) ?_
 refine XL.nil ?_
 refine QN.next ?_
 refine XC.seq ?_
 refine XC.region ?_
 show XL _ _ _ _ (List.cons _ _) _ _
 refine XL.s rfl ?_
 refine Y.loadA agg23 (by rfl) rfl (shapeA (hsh.ext hE7)) ?_
 refine XL.s rfl ?_
 refine Y.move (by rfl) ?_
 refine XL.s rfl ?_
 refine Y.call (by rfl) ok15 (rfiles_ok k F bl _ hk hF (by omega)) ?_
 rintro v21 w21 ⟨hM21, hE21⟩
 rw [encR_eq k (k + 2 * F) bl (by omega) (by omega) (by omega)] at hM21
 obtain ⟨qf, capf, rfl⟩ := hM21.rows.val
 have hfl : (filesP (encP k (k + 2 * F) bl)).length = k + 2 * F := by rw [filesP_length, encP_len]
 have hE0 := (hE4.trans hE7).trans hE21
 have hpl := padB_le bl hk
 have hql := pieceN_le bl hk
 obtain ⟨fl, hfldef⟩ : ∃ fl : Nat → List UInt8, fl = fun j => fileB j ((encP k (k + 2 * F) bl).getD j []) := ⟨_, rfl⟩
 have hflen : ∀ j, j < k + 2 * F → (fl j).length = 20 + pieceN k bl := fun j hj => by rw [hfldef]; show (fileB j _).length = _; rw [fileB_length, Dim.row (m := k + 2 * F) (n := pieceN k bl) ⟨encP_len k F bl, encP_row k F bl hk⟩ hj]
 have hfget : ∀ j (hj : j < (filesP (encP k (k + 2 * F) bl)).length), (filesP (encP k (k + 2 * F) bl))[j] = fl j := fun j hj => by rw [hfldef]; simp [filesP, List.getD_eq_getElem?_getD, show j < (encP k (k + 2 * F) bl).length by rw [encP_len]; omega]
 have hz0 := hE0.size
 have hz21 := hE21.size
 have hz7 := hE7.size
 refine XL.s rfl ?_
 refine Y.assign (by rfl) ?_
 refine XL.nil ?_
 refine QN.next ?_
 refine XC.seq ?_
 refine XC.region ?_
 show XL _ _ _ _ (List.cons _ _) _ _
 refine XL.s rfl ?_
 refine Y.assign (by rfl) ?_
 refine XL.nil ?_
 refine QN.next ?_
 refine XC.seq ?_
 refine XC.region ?_
 show XL _ _ _ _ (List.cons _ _) _ _
 refine XL.s rfl ?_
 refine Y.assign (by rfl) ?_
 refine XL.nil ?_
 refine QN.next ?_
 refine XC.seq ?_
 refine XC.seq ?_
 refine XC.region ?_
 show XL _ _ _ _ (List.cons _ _) _ _
 refine XL.s rfl ?_
 refine Y.assign (by rfl) ?_
 refine XL.nil ?_
 refine QN.next ?_
 refine XC.block ?_
 refine XC.loop (α := Nat × Value × Value) (fun (i, a, b) => [(1, strV nm), (7, .pointer (some ⟨b7, 0, none⟩)), (10, .slice qf (filesP (encP k (k + 2 * F) bl)).length capf), (11, a), (12, b), (13, .int .i64 i)]) (fun (i, a, b) wr => i ≤ k + 2 * F ∧ DRowB 41 79 82 5 4 w21.heap.size wr 6000 (fun j => spM nm (fileB j ((encP k (k + 2 * F) bl).getD j [])) (ss.getD j ⟨0, 0, 0⟩)) 700 1 i a b ((ss.take i).map spG) ∧ Ext w21 wr) (fun (i, a, b) => k + 2 * F - i) ((0, .slice none 0 0, .slice none 0 0)) ?_ ?_ ?_
 ·exact ⟨rfl, rfl, rfl, rfl, rfl, rfl, trivial⟩
 ·exact ⟨by omega, DRowB.nil, Chg.refl _ _⟩
 ·rintro ⟨i, a, b⟩ wr hI
  obtain ⟨hi, hDR, hE⟩ := hI
  have hzr := hE.size
  refine XC.seq ?_
  refine XC.seq ?_
  refine XC.region ?_
  show XL _ _ _ _ (List.cons _ _) _ _
  refine XL.s rfl ?_
  refine Y.move (by rfl) ?_
  refine XL.s rfl ?_
  refine Y.move (by rfl) ?_
  refine XL.s rfl ?_
  refine Y.len Tryz.underlying37 (by rfl) (hM21.rows.ext hE).rowv ?_
  refine XL.s rfl ?_
  refine Y.lss (by rfl) (by rfl) ?_
  refine XL.nil ?_
  refine QN.next ?_
  refine XC.condS rfl ?_ ?_
  ·intro hc
   try simp only [decide_eq_true_eq, decide_eq_false_iff_not, Bool.not_eq_true', Bool.not_eq_false', Bool.not_eq_eq_eq_not, Bool.not_true, Bool.not_false, Bool.or_eq_true, Bool.and_eq_true, Bool.or_eq_false_iff] at hc
   have hi' : i < k + 2 * F := by omega
   obtain ⟨s, hsdef⟩ : ∃ s, ss[i]'(by omega) = s := ⟨_, rfl⟩
   have hsd : ss.getD i ⟨0, 0, 0⟩ = s := by rw [← hsdef]; simp [List.getD_eq_getElem?_getD, show i < ss.length by omega]
   have htk : ss.take (i + 1) = ss.take i ++ [s] := by rw [← hsdef]; exact List.take_succ_eq_append_getElem (by omega)
   have hms : spM nm (fileB i ((encP k (k + 2 * F) bl).getD i [])) (ss.getD i ⟨0, 0, 0⟩) = spM nm (fl i) s := by simp only [hsd, hfldef]
   have hfi := hflen i hi'
   have hfp : 0 < (fl i).length := by omega
   refine XC.skip ?_
   refine QN.next ?_
   refine XC.seq ?_
   refine XC.block ?_
   refine XC.seq ?_
   refine XC.region ?_
   show XL _ _ _ _ (List.cons _ _) _ _
   refine XL.s rfl ?_
   refine Y.call (by rfl) ok28 (dnew_ok 6000 _) ?_
   rintro v28 w28 ⟨most, hmo, hD28, hE28⟩
   obtain rfl : most = 6000 := by omega
   obtain ⟨db, r_, Fs_, es_, rfl, -, -, -, -⟩ := id hD28
   refine XL.s rfl ?_
   refine Y.assign (by rfl) ?_
   refine XL.nil ?_
   refine QN.next ?_
   refine XC.seq ?_
   refine XC.seq ?_
   refine XC.region ?_
   show XL _ _ _ _ (List.cons _ _) _ _
   refine XL.s rfl ?_
   refine Y.move (by rfl) ?_
   refine XL.s rfl ?_
   refine Y.eqlP Tryz.underlying41 (by rfl) (by rfl) ?_
   refine XL.nil ?_
   refine QN.next ?_
   refine XC.condF rfl ya ?_
   refine XC.skip ?_
   refine QN.next ?_
   refine XC.seq ?_
   refine XC.region ?_
   show XL _ _ _ _ (List.cons _ _) _ _
   refine XL.s rfl ?_
   refine Y.move (by rfl) ?_
   refine XL.s rfl ?_
   refine Y.addS (by rfl) (by rfl) (by simp; omega) ?_
   have hz28 := hE28.size
   obtain ⟨vs, hvs, hvl, hqs⟩ := ((hM21.ext hE).ext hE28).rows.get
   obtain ⟨q, hq, hbq⟩ := hqs i (by omega)
   rw [hfget] at hbq
   refine XL.s rfl ?_
   refine Y.assign (by rfl) ?_
   refine XL.nil ?_
   refine QN.next ?_
   refine XC.seq ?_
   refine XC.region ?_
   show XL _ _ _ _ (List.cons _ _) _ _
   refine XL.s rfl ?_
   refine Y.move (by rfl) ?_
   refine XL.s rfl ?_
   refine Y.move (by rfl) ?_
   refine XL.s rfl ?_
   refine Y.move (by rfl) ?_
   refine XL.s rfl ?_
   refine Y.move (by rfl) ?_
   refine XL.s rfl ?_
   refine Y.indexR st37 (by rfl) (by rfl) hvs ⟨by omega, by omega⟩ (by rw [Int.toNat_natCast]; exact hq) ?_
   intro b37 o37 hs37 hc37
   have hkl : 1 ≤ ([98, 46] ++ nm).length ∧ ([98, 46] ++ nm).length ≤ 24 := by simp; omega
   refine XL.s rfl ?_
   refine Y.load one39 (by rfl) (by assumption) ?_
   refine XL.s rfl ?_
   refine Y.call (by rfl) ok38 (dapp_new _ _ _ _ ([98, 46] ++ nm) _ _ (fl i) _ hD28 hbq (by simp [usedP]) (by omega) (by omega) hkl (by simp [usedP]; omega) rfl (fun b hb hf => by have := hb.2; have := hf.1; omega)) ?_
   rintro v39 w39 ⟨rfl, hC39, hD39⟩
   have hz39 := hC39.size
   have hd39 : upK ([98, 46] ++ nm) (⟨fl i, 0, decide (0 < (fl i).length)⟩ : FileS) [] = [([98, 46] ++ nm, ⟨fl i, 0, true⟩)] := by simp [upK, hfp]
   rw [hd39] at hD39
   refine XL.nil ?_
   refine QN.next ?_
   refine XC.seq ?_
   refine XC.region ?_
   show XL _ _ _ _ (List.cons _ _) _ _
   refine XL.s rfl ?_
   refine Y.move (by rfl) ?_
   refine XL.s rfl ?_
   refine Y.move (by rfl) ?_
   refine XL.s rfl ?_
   refine Y.call (by rfl) ok39 (dosync_yes _ _ _ _ ([98, 46] ++ nm) _ hD39 ⟨fl i, 0, true⟩ (keyLook _ _)) ?_
   rintro v42 w42 ⟨rfl, hC42, hD42⟩
   rw [keyEq] at hD42
   have hz42 := hC42.size
   obtain ⟨FN, hFNd⟩ : ∃ FN : Nat → Prop, FN = Grow (btw wr.heap.size w28.heap.size) w28 w39 := ⟨_, rfl⟩
   rw [← hFNd] at hC42 hD42
   have hFN : ∀ b, FN b → wr.heap.size ≤ b ∧ b < w42.heap.size := fun b hb => by rw [hFNd] at hb; rcases hb with h | h; (have := h.1; have := h.2; omega); (have := h.1; have := h.2; omega)
   have hEold : Chg (fun b => wr.heap.size ≤ b) wr w42 := (Ext.then hE28 (hC39.mono (S' := fun b => wr.heap.size ≤ b) fun _ _ h => h.1)).trans hC42 (fun _ h => h) (fun x _ h => (hFN x h).1)
   have hC42w : Chg (fun b => wr.heap.size ≤ b) wr w42 := hEold
   have hMr := hM21.ext hE
   have hsc : ∀ j u, (spC s)[j]? = some u → w42.cell? ⟨b7, 0 + i * 3 + j, none⟩ = some u := fun j u hu => by
    have hj : j < 3 := by have := (List.getElem?_eq_some_iff.1 hu).1; simpa [spC] using this
    have h7 := ((hb7.ext hE21).ext hE).chg hEold (fun h => by have := hb7.lt; omega)
    refine cell_arr (cs := spCs ss) h7 ?_
    rw [show 0 + i * 3 + j = 3 * i + j by omega, spCs_get ss i (by omega) j hj, hsdef]; exact hu
   obtain ⟨So, Sb, dvs, Fd, g1, g2, g3, g4, g5, g6⟩ := hDR
   refine XL.nil ?_
   refine QN.next ?_
   refine XC.seq ?_
   by_cases c1 : s.act.toNat % 5 = 1
   ·skip
    refine XC.region ?_
    show XL _ _ _ _ (List.cons _ _) _ _
    refine XL.s rfl ?_
    refine Y.move (by rfl) ?_
    refine XL.s rfl ?_
    refine Y.indexArr arr48 (by rfl) (by rfl) ⟨by omega, by omega⟩ ?_
    refine XL.s rfl ?_
    refine Y.loadA agg47 (by rfl) rfl (fun j u hu => hsc j u hu) ?_
    refine XL.s rfl ?_
    refine Y.alloc zt47 ?_
    intro b16 w16 hb16 hz16 hE16
    refine XL.o ?_
    refine Y.storeA agg47 (by rfl) (by rfl) hb16 rfl rfl (spC_one s) ?_
    intro wx hx hCx hzx
    have hEx := hE16.chgNew hCx (fun x hx => by omega)
    have hzEx := hEx.size
    have hD := hD42.ext hEx
    have hbx : ¬ FN b16 := fun h => by have := (hFN _ h).2; omega
    obtain ⟨vs2, hvs2, hvl2, hqs2⟩ := ((hMr.chg hC42w (fun b hb h => by have := hb.2; omega)).ext hEx).rows.get
    obtain ⟨q2, hq2, hbq2⟩ := hqs2 i (by omega)
    rw [hfget] at hbq2
    refine XL.nil ?_
    refine QN.next ?_
    refine XC.seq ?_
    refine XC.region ?_
    show XL _ _ _ _ (List.cons _ _) _ _
    refine XL.s rfl ?_
    refine Y.move (by rfl) ?_
    refine XL.s rfl ?_
    refine Y.move (by rfl) ?_
    refine XL.s rfl ?_
    refine Y.indexR st37 (by rfl) (by rfl) hvs2 ⟨by omega, by omega⟩ (by rw [Int.toNat_natCast]; exact hq2) ?_
    intro b48 o48 hs48 hc48
    refine XL.s rfl ?_
    refine Y.load one39 (by rfl) (by assumption) ?_
    refine XL.s rfl ?_
    refine Y.len Tryz.underlying39 (by rfl) hbq2 ?_
    refine XL.s rfl ?_
    refine Y.assign (by rfl) ?_
    refine XL.nil ?_
    refine QN.next ?_
    refine XC.seq ?_
    refine XC.region ?_
    show XL _ _ _ _ (List.cons _ _) _ _
    refine XL.s rfl ?_
    refine Y.fieldAddr fld47_0 (by rfl) ?_
    refine XL.s rfl ?_
    refine Y.load one5 (by rfl) (cell_arr (cs := spC s) hx rfl) ?_
    refine XL.s rfl ?_
    refine Y.rem (by rfl) (by rfl) (by omega) (tmodN s.act.toNat 5) ?_
    refine XL.s rfl ?_
    refine Y.eql (by rfl) (by rfl) ?_
    refine XL.s rfl ?_
    refine Y.assign (by rfl) ?_
    refine XL.nil ?_
    refine QN.next ?_
    refine XC.seq ?_
    refine XC.seq ?_
    refine XC.region ?_
    show XL _ _ _ _ (List.cons _ _) _ _
    refine XL.s rfl ?_
    refine Y.fieldAddr fld47_0 (by rfl) ?_
    refine XL.s rfl ?_
    refine Y.load one5 (by rfl) (cell_arr (cs := spC s) hx rfl) ?_
    refine XL.s rfl ?_
    refine Y.rem (by rfl) (by rfl) (by omega) (tmodN s.act.toNat 5) ?_
    refine XL.s rfl ?_
    refine Y.eql (by rfl) (by rfl) ?_
    refine XL.nil ?_
    refine QN.next ?_
    refine XC.condT rfl ya ?_
    refine XC.seq ?_
    apply XC.drop [19, 20, 21, 22, 23, 24, 25, 26, 27, 28, 29, 30, 31, 32, 33, 34, 35, 36, 37, 38, 39, 40, 41, 42, 43, 44, 45, 46, 47, 48, 49, 50, 51, 52, 53, 54, 55, 56, 57, 58, 59, 60, 61, 62, 63, 64, 65, 66, 67, 68, 69, 70, 71, 72, 73, 74, 75, 76, 77, 78, 79, 80, 81, 82, 83, 84, 85, 86, 87, 88, 89, 90, 91, 92, 93, 94, 95, 96, 97, 98, 99, 100, 101, 102, 103, 104, 105, 106, 107, 108, 109, 110]
    ·repeat (first | apply DropTo.nil | apply DropTo.skip rfl | apply DropTo.keep rfl)
    refine XC.drawL 9 [[], [], [], [2], [2, 3], [], [2, 3, 4, 5], [], [7], [0, 1, 2, 3, 4, 5, 6, 7, 8]] _ (Chg NoB) (Steady.chg NoB) [] [(3, (fun v _ => v = .int .u16 (s.at_.toNat : Int))), (8, (fun v _ => v = byteV s.turn))] [0, 1, 2, 3, 4, 5, 6, 7, 8] fol (by kernel_rfl) (by rfl) (by rfl) ⟨(fun _ _ _ _ h => h), (fun _ _ _ _ h => h), trivial⟩ ⟨?_, ?_, ?_, ?_, ?_, ?_, ?_, ?_, ?_, trivial⟩ ?_
    ·intro aD17 wD17 haD17 hCD17 hrD17
     refine ⟨rfl, ?_⟩
     refine XD.start haD17 ?_
     apply XD.stepP rfl
     intro w3
     refine Y.move (by rfl) ?_
     exact ⟨rfl, rfl⟩
    ·intro aD17 wD17 haD17 hCD17 hrD17
     refine ⟨rfl, ?_⟩
     refine XD.start haD17 ?_
     apply XD.stepP rfl
     intro w3
     refine Y.move (by rfl) ?_
     exact ⟨rfl, rfl⟩
    ·intro aD17 wD17 haD17 hCD17 hrD17
     refine ⟨rfl, ?_⟩
     refine XD.start haD17 ?_
     apply XD.stepP rfl
     intro w3
     refine Y.fieldAddr fld47_1 (by rfl) ?_
     exact ⟨rfl, rfl⟩
    ·intro aD17 wD17 haD17 hCD17 hrD17
     obtain ⟨r2, -⟩ := hrD17
     replace hx := hx.ext hCD17
     replace hD := hD.ext hCD17
     refine ⟨rfl, ?_⟩
     refine XD.start haD17 ?_
     refine XD.pure r2 ?_
     refine Y.fieldAddr fld47_1 (by rfl) ?_
     refine XD.stepI ?_
     refine Y.load one24 (by rfl) (cell_arr (cs := spC s) hx rfl) ?_
     exact ⟨Chg.refl _ _, rfl⟩
    ·intro aD17 wD17 haD17 hCD17 hrD17
     obtain ⟨r2, r3, -⟩ := hrD17
     replace hx := hx.ext hCD17
     replace hD := hD.ext hCD17
     refine ⟨rfl, ?_⟩
     refine XD.start haD17 ?_
     refine XD.pure r2 ?_
     refine Y.fieldAddr fld47_1 (by rfl) ?_
     refine XD.imp r3 ?_
     rintro _ rfl
     apply XD.stepP rfl
     intro w3
     refine Y.convI Tryz.underlying24 Tryz.underlying3 (by rfl) (wrap64 (by have := s.at_.toNat_lt; omega) (by have := s.at_.toNat_lt; omega)) ?_
     exact ⟨rfl, rfl⟩
    ·intro aD17 wD17 haD17 hCD17 hrD17
     refine ⟨rfl, ?_⟩
     refine XD.start haD17 ?_
     apply XD.stepP rfl
     intro w3
     refine Y.move (by rfl) ?_
     exact ⟨rfl, rfl⟩
    ·intro aD17 wD17 haD17 hCD17 hrD17
     obtain ⟨r2, r3, r4, r5, -⟩ := hrD17
     replace hx := hx.ext hCD17
     replace hD := hD.ext hCD17
     refine ⟨rfl, ?_⟩
     refine XD.start haD17 ?_
     refine XD.pure r2 ?_
     refine Y.fieldAddr fld47_1 (by rfl) ?_
     refine XD.imp r3 ?_
     rintro _ rfl
     refine XD.pure r4 ?_
     refine Y.convI Tryz.underlying24 Tryz.underlying3 (by rfl) (wrap64 (by have := s.at_.toNat_lt; omega) (by have := s.at_.toNat_lt; omega)) ?_
     refine XD.pure r5 ?_
     refine Y.move (by rfl) ?_
     apply XD.stepP rfl
     intro w3
     refine Y.rem (by rfl) (by rfl) (by omega) (tmodN s.at_.toNat (fl i).length) ?_
     exact ⟨rfl, rfl⟩
    ·intro aD17 wD17 haD17 hCD17 hrD17
     refine ⟨rfl, ?_⟩
     refine XD.start haD17 ?_
     apply XD.stepP rfl
     intro w3
     refine Y.fieldAddr fld47_2 (by rfl) ?_
     exact ⟨rfl, rfl⟩
    ·intro aD17 wD17 haD17 hCD17 hrD17
     obtain ⟨r7, -⟩ := hrD17
     replace hx := hx.ext hCD17
     replace hD := hD.ext hCD17
     refine ⟨rfl, ?_⟩
     refine XD.start haD17 ?_
     refine XD.pure r7 ?_
     refine Y.fieldAddr fld47_2 (by rfl) ?_
     refine XD.stepI ?_
     refine Y.load one5 (by rfl) (cell_arr (cs := spC s) hx rfl) ?_
     exact ⟨Chg.refl _ _, rfl⟩
    intro aD17 wD17 haD17 hCD17 hrD17
    obtain ⟨r0, r1, r2, r3, r4, r5, r6, r7, r8, -⟩ := hrD17
    replace hx := hx.ext hCD17
    replace hD := hD.ext hCD17
    refine XD.start haD17 ?_
    refine XD.pure r0 ?_
    refine Y.move (by rfl) ?_
    refine XD.pure r1 ?_
    refine Y.move (by rfl) ?_
    refine XD.pure r2 ?_
    refine Y.fieldAddr fld47_1 (by rfl) ?_
    refine XD.imp r3 ?_
    rintro _ rfl
    refine XD.pure r4 ?_
    refine Y.convI Tryz.underlying24 Tryz.underlying3 (by rfl) (wrap64 (by have := s.at_.toNat_lt; omega) (by have := s.at_.toNat_lt; omega)) ?_
    refine XD.pure r5 ?_
    refine Y.move (by rfl) ?_
    refine XD.pure r6 ?_
    refine Y.rem (by rfl) (by rfl) (by omega) (tmodN s.at_.toNat (fl i).length) ?_
    refine XD.pure r7 ?_
    refine Y.fieldAddr fld47_2 (by rfl) ?_
    refine XD.imp r8 ?_
    rintro _ rfl
    refine XD.fin haD17 ?_
    show XL _ _ _ _ (List.cons _ _) _ _
    refine XL.s rfl ?_
    refine Y.call (by rfl) ok40 (dturn_yes _ _ _ _ _ _ hD (s.at_.toNat % (fl i).length) s.turn ⟨fl i, (fl i).length, true⟩ (keyLook _ _) rfl (Nat.mod_lt _ hfp)) ?_
    rintro v68 w68 ⟨rfl, hC68, hD68⟩
    have hx := hx.chg hC68 hbx
    refine XL.nil ?_
    refine QN.next ?_
    refine XC.region ?_
    show XL _ _ _ _ (List.cons _ _) _ _
    refine XL.s rfl ?_
    refine Y.fieldAddr fld47_2 (by rfl) ?_
    refine XL.s rfl ?_
    refine Y.load one5 (by rfl) (cell_arr (cs := spC s) hx rfl) ?_
    have hzz := hC68.size
    refine XL.s rfl ?_
    refine Y.eql (by rfl) (by rfl) ?_
    refine XL.s rfl ?_
    refine Y.assign (by rfl) ?_
    refine XL.nil ?_
    refine QN.next ?_
    refine XC.seq ?_
    refine XC.seq ?_
    refine XC.region ?_
    show XL _ _ _ _ (List.cons _ _) _ _
    refine XL.s rfl ?_
    refine Y.fieldAddr fld47_0 (by rfl) ?_
    refine XL.s rfl ?_
    refine Y.load one5 (by rfl) (cell_arr (cs := spC s) hx rfl) ?_
    refine XL.s rfl ?_
    refine Y.rem (by rfl) (by rfl) (by omega) (tmodN s.act.toNat 5) ?_
    refine XL.s rfl ?_
    refine Y.eql (by rfl) (by rfl) ?_
    refine XL.nil ?_
    refine QN.next ?_
    refine XC.condF rfl ya ?_
    refine XC.skip ?_
    refine QN.next ?_
    refine XC.seq ?_
    refine XC.seq ?_
    refine XC.region ?_
    show XL _ _ _ _ (List.cons _ _) _ _
    refine XL.s rfl ?_
    refine Y.fieldAddr fld47_0 (by rfl) ?_
    refine XL.s rfl ?_
    refine Y.load one5 (by rfl) (cell_arr (cs := spC s) hx rfl) ?_
    refine XL.s rfl ?_
    refine Y.rem (by rfl) (by rfl) (by omega) (tmodN s.act.toNat 5) ?_
    refine XL.s rfl ?_
    refine Y.eql (by rfl) (by rfl) ?_
    refine XL.nil ?_
    refine QN.next ?_
    refine XC.condF rfl ya ?_
    refine XC.skip ?_
    refine QN.next ?_
    refine XC.seq ?_
    refine XC.seq ?_
    refine XC.region ?_
    show XL _ _ _ _ (List.cons _ _) _ _
    refine XL.s rfl ?_
    refine Y.fieldAddr fld47_0 (by rfl) ?_
    refine XL.s rfl ?_
    refine Y.load one5 (by rfl) (cell_arr (cs := spC s) hx rfl) ?_
    refine XL.s rfl ?_
    refine Y.rem (by rfl) (by rfl) (by omega) (tmodN s.act.toNat 5) ?_
    refine XL.s rfl ?_
    refine Y.eql (by rfl) (by rfl) ?_
    refine XL.nil ?_
    refine QN.next ?_
    refine XC.condF rfl ya ?_
    have hold : Chg (fun b => wr.heap.size ≤ b) wr w68 := ((hEold.ext hEx).ext hCD17).trans hC68 (fun _ h => h) (fun x _ h => (hFN x h).1)
    have hzn := hold.size
    have hDa : DiskA 79 82 5 (fun b => wr.heap.size ≤ b ∧ b < w68.heap.size) w68 (.pointer (some ⟨db, 0, none⟩)) 6000 (spM nm (fl i) s) 700 1 := ⟨_, (hD68.bnd).mono (fun b hb => ⟨by have := hFN b hb.1; omega, hb.2⟩), by rw [keyEq]; exact LikeD.castm ((likeOne _ _).mono (by simp; omega) (Nat.le_refl _)) (by funext x; simp only [spM, spF, if_pos c1])⟩
    refine XC.skip ?_
    refine QN.next ?_
    refine XC.seq ?_
    refine XC.region ?_
    show XL _ _ _ _ (List.cons _ _) _ _
    refine XL.s rfl ?_
    refine Y.move (by rfl) ?_
    refine XL.s rfl ?_
    refine Y.move (by rfl) ?_
    refine XL.s rfl ?_
    refine Y.buildSlice st31 (by rfl) (by rfl) (by omega) (by simp [Value.oneCell', byteV, strV]) ?_
    intro v103 w103 hN103
    have hz103 := hN103.1.size
    refine XL.s rfl ?_
    refine Y.appendG st31 Tryz.underlying31 (by rfl) (by rfl) ((g1.chg hold (fun b _ hb h => by have := (g4 b hb).2.1; omega)).ext hN103.1) hN103.row rfl (by omega) (by omega) ?_
    intro v104 w104 hA104 hO104 hC104
    refine XL.s rfl ?_
    refine Y.assign (by rfl) ?_
    refine XL.nil ?_
    refine QN.next ?_
    refine XC.region ?_
    show XL _ _ _ _ (List.cons _ _) _ _
    refine XL.s rfl ?_
    refine Y.move (by rfl) ?_
    refine XL.s rfl ?_
    refine Y.move (by rfl) ?_
    refine XL.s rfl ?_
    refine Y.buildSlice st51 (by rfl) (by rfl) (by omega) (by simp [Value.oneCell', byteV, strV]) ?_
    intro v107 w107 hN107
    have hz104 := hC104.size
    have hz107 := hN107.1.size
    refine XL.s rfl ?_
    refine Y.appendG st51 Tryz.underlying51 (by rfl) (by rfl) ((((g5.chg hold (fun b _ hb h => by have := (g6 b hb).2; omega)).ext hN103.1).chg hC104 (fun b _ hb hs => (g4 b hs).2.2 hb)).ext hN107.1) hN107.row rfl (by omega) (by omega) ?_
    intro v108 w108 hA108 hO108 hC108
    have hgood : decide ((s.turn.toNat : Int) = 0) = spG s := by simp only [spG]; rw [if_pos c1]; exact decide_eq_decide.2 ⟨fun h => byte_eq0 h, fun h => by rw [h]; rfl⟩
    rw [hgood] at hA108
    have hnew : DRowB 41 79 82 5 4 w21.heap.size w108 6000 (fun j => spM nm (fileB j ((encP k (k + 2 * F) bl).getD j [])) (ss.getD j ⟨0, 0, 0⟩)) 700 1 (i + 1) v104 v108 ((ss.take i).map spG ++ [spG s]) := DRowB.snoc (Fi := fun b => wr.heap.size ≤ b ∧ b < w68.heap.size) (by have := g1.1; omega) (fun j d hd => ((g2 j d hd).chg hold (fun b hb h => by have := (g3 j b hb).2.2; omega)).ext hN103.1) (fun j b hb => ⟨(g3 j b hb).1, (g3 j b hb).2.1, by have := (g3 j b hb).2.2; omega⟩) (fun b hb => ⟨(g4 b hb).1, by have := (g4 b hb).2.1; omega, (g4 b hb).2.2⟩) (fun b hb => ⟨(g6 b hb).1, by have := (g6 b hb).2; omega⟩) (by omega) hC104 hA104 ((hDa.ext hN103.1).cast hms.symm) (fun b hb => ⟨fun hs => by have := hb.1; have := (g4 b hs).2.1; omega, fun hs => by have := hb.1; have := (g6 b hs).2; omega, by have := hb.2; omega⟩) hN107.1 hC108 hA108
    have hE108 : Ext w21 w108 := ((((hE.chgNew hold (fun x hx => by omega)).trans hN103.1).chgNew hC104 (fun x hx => (g4 x hx).1)).trans hN107.1).chgNew hC108 (fun x hx => (g6 x hx).1)
    refine XL.s rfl ?_
    refine Y.assign (by rfl) ?_
    refine XL.nil ?_
    refine QN.blk ?_
    refine QN.next ?_
    refine XC.region ?_
    show XL _ _ _ _ (List.cons _ _) _ _
    refine XL.s rfl ?_
    refine Y.move (by rfl) ?_
    refine XL.s rfl ?_
    refine Y.add (by rfl) (by rfl) (wrap64 (by omega) (by omega)) ?_
    refine XL.s rfl ?_
    refine Y.assign (by rfl) ?_
    refine XL.nil ?_
    refine QN.again ((i + 1, v104, v108)) ?_ ?_ ?_
    ·exact ⟨rfl, rfl, rfl, rfl, rfl, rfl, trivial⟩
    ·exact ⟨by omega, by rw [htk, List.map_append]; exact hnew, hE108⟩
    ·first | omega | (simp only []; omega) | (simp; omega)
   ·skip
    by_cases c2 : s.act.toNat % 5 = 2
    ·skip
     refine XC.region ?_
     show XL _ _ _ _ (List.cons _ _) _ _
     refine XL.s rfl ?_
     refine Y.move (by rfl) ?_
     refine XL.s rfl ?_
     refine Y.indexArr arr48 (by rfl) (by rfl) ⟨by omega, by omega⟩ ?_
     refine XL.s rfl ?_
     refine Y.loadA agg47 (by rfl) rfl (fun j u hu => hsc j u hu) ?_
     refine XL.s rfl ?_
     refine Y.alloc zt47 ?_
     intro b16 w16 hb16 hz16 hE16
     refine XL.o ?_
     refine Y.storeA agg47 (by rfl) (by rfl) hb16 rfl rfl (spC_one s) ?_
     intro wx hx hCx hzx
     have hEx := hE16.chgNew hCx (fun x hx => by omega)
     have hzEx := hEx.size
     have hD := hD42.ext hEx
     have hbx : ¬ FN b16 := fun h => by have := (hFN _ h).2; omega
     obtain ⟨vs2, hvs2, hvl2, hqs2⟩ := ((hMr.chg hC42w (fun b hb h => by have := hb.2; omega)).ext hEx).rows.get
     obtain ⟨q2, hq2, hbq2⟩ := hqs2 i (by omega)
     rw [hfget] at hbq2
     refine XL.nil ?_
     refine QN.next ?_
     refine XC.seq ?_
     refine XC.region ?_
     show XL _ _ _ _ (List.cons _ _) _ _
     refine XL.s rfl ?_
     refine Y.move (by rfl) ?_
     refine XL.s rfl ?_
     refine Y.move (by rfl) ?_
     refine XL.s rfl ?_
     refine Y.indexR st37 (by rfl) (by rfl) hvs2 ⟨by omega, by omega⟩ (by rw [Int.toNat_natCast]; exact hq2) ?_
     intro b48 o48 hs48 hc48
     refine XL.s rfl ?_
     refine Y.load one39 (by rfl) (by assumption) ?_
     refine XL.s rfl ?_
     refine Y.len Tryz.underlying39 (by rfl) hbq2 ?_
     refine XL.s rfl ?_
     refine Y.assign (by rfl) ?_
     refine XL.nil ?_
     refine QN.next ?_
     refine XC.seq ?_
     refine XC.region ?_
     show XL _ _ _ _ (List.cons _ _) _ _
     refine XL.s rfl ?_
     refine Y.fieldAddr fld47_0 (by rfl) ?_
     refine XL.s rfl ?_
     refine Y.load one5 (by rfl) (cell_arr (cs := spC s) hx rfl) ?_
     refine XL.s rfl ?_
     refine Y.rem (by rfl) (by rfl) (by omega) (tmodN s.act.toNat 5) ?_
     refine XL.s rfl ?_
     refine Y.eql (by rfl) (by rfl) ?_
     refine XL.s rfl ?_
     refine Y.assign (by rfl) ?_
     refine XL.nil ?_
     refine QN.next ?_
     refine XC.seq ?_
     refine XC.seq ?_
     refine XC.region ?_
     show XL _ _ _ _ (List.cons _ _) _ _
     refine XL.s rfl ?_
     refine Y.fieldAddr fld47_0 (by rfl) ?_
     refine XL.s rfl ?_
     refine Y.load one5 (by rfl) (cell_arr (cs := spC s) hx rfl) ?_
     refine XL.s rfl ?_
     refine Y.rem (by rfl) (by rfl) (by omega) (tmodN s.act.toNat 5) ?_
     refine XL.s rfl ?_
     refine Y.eql (by rfl) (by rfl) ?_
     refine XL.nil ?_
     refine QN.next ?_
     refine XC.condF rfl ya ?_
     refine XC.skip ?_
     refine QN.next ?_
     refine XC.seq ?_
     refine XC.seq ?_
     refine XC.region ?_
     show XL _ _ _ _ (List.cons _ _) _ _
     refine XL.s rfl ?_
     refine Y.fieldAddr fld47_0 (by rfl) ?_
     refine XL.s rfl ?_
     refine Y.load one5 (by rfl) (cell_arr (cs := spC s) hx rfl) ?_
     refine XL.s rfl ?_
     refine Y.rem (by rfl) (by rfl) (by omega) (tmodN s.act.toNat 5) ?_
     refine XL.s rfl ?_
     refine Y.eql (by rfl) (by rfl) ?_
     refine XL.nil ?_
     refine QN.next ?_
     refine XC.condT rfl ya ?_
     refine XC.region ?_
     show XL _ _ _ _ (List.cons _ _) _ _
     refine XL.s rfl ?_
     refine Y.move (by rfl) ?_
     refine XL.s rfl ?_
     refine Y.move (by rfl) ?_
     refine XL.s rfl ?_
     refine Y.fieldAddr fld47_2 (by rfl) ?_
     refine XL.s rfl ?_
     refine Y.load one5 (by rfl) (cell_arr (cs := spC s) hx rfl) ?_
     refine XL.s rfl ?_
     refine Y.buildSlice st39 (by rfl) (by rfl) (by omega) (by simp [Value.oneCell', byteV, strV]) ?_
     intro v80 w80 hN80
     refine XL.s rfl ?_
     refine Y.call (by rfl) ok38 (dapp_old _ _ _ _ _ _ _ [s.turn] _ (hD.ext hN80.1) hN80.row (by simp [usedP]; omega) (by omega) (by simp) hkl (by simp [usedP]; omega) ⟨fl i, (fl i).length, true⟩ (keyLook _ _) (by show (fl i).length ≤ _; omega)) ?_
     rintro v81 w81 ⟨rfl, hC81, hD81⟩
     have hx := (hx.ext hN80.1).chg hC81 hbx
     have hz80 := hN80.1.size
     refine XL.nil ?_
     refine QN.next ?_
     refine XC.seq ?_
     refine XC.seq ?_
     refine XC.region ?_
     show XL _ _ _ _ (List.cons _ _) _ _
     refine XL.s rfl ?_
     refine Y.fieldAddr fld47_0 (by rfl) ?_
     refine XL.s rfl ?_
     refine Y.load one5 (by rfl) (cell_arr (cs := spC s) hx rfl) ?_
     refine XL.s rfl ?_
     refine Y.rem (by rfl) (by rfl) (by omega) (tmodN s.act.toNat 5) ?_
     refine XL.s rfl ?_
     refine Y.eql (by rfl) (by rfl) ?_
     refine XL.nil ?_
     refine QN.next ?_
     refine XC.condF rfl ya ?_
     refine XC.skip ?_
     refine QN.next ?_
     refine XC.seq ?_
     refine XC.seq ?_
     refine XC.region ?_
     show XL _ _ _ _ (List.cons _ _) _ _
     refine XL.s rfl ?_
     refine Y.fieldAddr fld47_0 (by rfl) ?_
     refine XL.s rfl ?_
     refine Y.load one5 (by rfl) (cell_arr (cs := spC s) hx rfl) ?_
     refine XL.s rfl ?_
     refine Y.rem (by rfl) (by rfl) (by omega) (tmodN s.act.toNat 5) ?_
     refine XL.s rfl ?_
     refine Y.eql (by rfl) (by rfl) ?_
     refine XL.nil ?_
     refine QN.next ?_
     refine XC.condF rfl ya ?_
     have hold : Chg (fun b => wr.heap.size ≤ b) wr w81 := ((hEold.ext hEx).ext hN80.1).trans hC81 (fun _ h => h) (fun x _ h => (hFN x h).1)
     have hzn := hold.size
     have hDa : DiskA 79 82 5 (fun b => wr.heap.size ≤ b ∧ b < w81.heap.size) w81 (.pointer (some ⟨db, 0, none⟩)) 6000 (spM nm (fl i) s) 700 1 := ⟨_, (hD81.bnd).mono (fun b hb => ⟨by rcases hb.1 with h | h; exact (hFN b h).1; (have := h.1; have := hEold.size; omega), hb.2⟩), by rw [keyEq]; exact LikeD.castm ((likeOne _ _).mono (by simp; omega) (Nat.le_refl _)) (by funext x; simp only [spM, spF, if_neg c1, if_pos c2])⟩
     refine XC.skip ?_
     refine QN.next ?_
     refine XC.seq ?_
     refine XC.region ?_
     show XL _ _ _ _ (List.cons _ _) _ _
     refine XL.s rfl ?_
     refine Y.move (by rfl) ?_
     refine XL.s rfl ?_
     refine Y.move (by rfl) ?_
     refine XL.s rfl ?_
     refine Y.buildSlice st31 (by rfl) (by rfl) (by omega) (by simp [Value.oneCell', byteV, strV]) ?_
     intro v103 w103 hN103
     have hz103 := hN103.1.size
     refine XL.s rfl ?_
     refine Y.appendG st31 Tryz.underlying31 (by rfl) (by rfl) ((g1.chg hold (fun b _ hb h => by have := (g4 b hb).2.1; omega)).ext hN103.1) hN103.row rfl (by omega) (by omega) ?_
     intro v104 w104 hA104 hO104 hC104
     refine XL.s rfl ?_
     refine Y.assign (by rfl) ?_
     refine XL.nil ?_
     refine QN.next ?_
     refine XC.region ?_
     show XL _ _ _ _ (List.cons _ _) _ _
     refine XL.s rfl ?_
     refine Y.move (by rfl) ?_
     refine XL.s rfl ?_
     refine Y.move (by rfl) ?_
     refine XL.s rfl ?_
     refine Y.buildSlice st51 (by rfl) (by rfl) (by omega) (by simp [Value.oneCell', byteV, strV]) ?_
     intro v107 w107 hN107
     have hz104 := hC104.size
     have hz107 := hN107.1.size
     refine XL.s rfl ?_
     refine Y.appendG st51 Tryz.underlying51 (by rfl) (by rfl) ((((g5.chg hold (fun b _ hb h => by have := (g6 b hb).2; omega)).ext hN103.1).chg hC104 (fun b _ hb hs => (g4 b hs).2.2 hb)).ext hN107.1) hN107.row rfl (by omega) (by omega) ?_
     intro v108 w108 hA108 hO108 hC108
     have hgood : decide (((s.act.toNat % 5 : Nat) : Int) = 0) = spG s := by simp only [spG]; rw [if_neg (by omega)]; exact decide_eq_decide.2 (by omega)
     rw [hgood] at hA108
     have hnew : DRowB 41 79 82 5 4 w21.heap.size w108 6000 (fun j => spM nm (fileB j ((encP k (k + 2 * F) bl).getD j [])) (ss.getD j ⟨0, 0, 0⟩)) 700 1 (i + 1) v104 v108 ((ss.take i).map spG ++ [spG s]) := DRowB.snoc (Fi := fun b => wr.heap.size ≤ b ∧ b < w81.heap.size) (by have := g1.1; omega) (fun j d hd => ((g2 j d hd).chg hold (fun b hb h => by have := (g3 j b hb).2.2; omega)).ext hN103.1) (fun j b hb => ⟨(g3 j b hb).1, (g3 j b hb).2.1, by have := (g3 j b hb).2.2; omega⟩) (fun b hb => ⟨(g4 b hb).1, by have := (g4 b hb).2.1; omega, (g4 b hb).2.2⟩) (fun b hb => ⟨(g6 b hb).1, by have := (g6 b hb).2; omega⟩) (by omega) hC104 hA104 ((hDa.ext hN103.1).cast hms.symm) (fun b hb => ⟨fun hs => by have := hb.1; have := (g4 b hs).2.1; omega, fun hs => by have := hb.1; have := (g6 b hs).2; omega, by have := hb.2; omega⟩) hN107.1 hC108 hA108
     have hE108 : Ext w21 w108 := ((((hE.chgNew hold (fun x hx => by omega)).trans hN103.1).chgNew hC104 (fun x hx => (g4 x hx).1)).trans hN107.1).chgNew hC108 (fun x hx => (g6 x hx).1)
     refine XL.s rfl ?_
     refine Y.assign (by rfl) ?_
     refine XL.nil ?_
     refine QN.blk ?_
     refine QN.next ?_
     refine XC.region ?_
     show XL _ _ _ _ (List.cons _ _) _ _
     refine XL.s rfl ?_
     refine Y.move (by rfl) ?_
     refine XL.s rfl ?_
     refine Y.add (by rfl) (by rfl) (wrap64 (by omega) (by omega)) ?_
     refine XL.s rfl ?_
     refine Y.assign (by rfl) ?_
     refine XL.nil ?_
     refine QN.again ((i + 1, v104, v108)) ?_ ?_ ?_
     ·exact ⟨rfl, rfl, rfl, rfl, rfl, rfl, trivial⟩
     ·exact ⟨by omega, by rw [htk, List.map_append]; exact hnew, hE108⟩
     ·first | omega | (simp only []; omega) | (simp; omega)
    ·skip
     by_cases c3 : s.act.toNat % 5 = 3
     ·skip
      refine XC.region ?_
      show XL _ _ _ _ (List.cons _ _) _ _
      refine XL.s rfl ?_
      refine Y.move (by rfl) ?_
      refine XL.s rfl ?_
      refine Y.indexArr arr48 (by rfl) (by rfl) ⟨by omega, by omega⟩ ?_
      refine XL.s rfl ?_
      refine Y.loadA agg47 (by rfl) rfl (fun j u hu => hsc j u hu) ?_
      refine XL.s rfl ?_
      refine Y.alloc zt47 ?_
      intro b16 w16 hb16 hz16 hE16
      refine XL.o ?_
      refine Y.storeA agg47 (by rfl) (by rfl) hb16 rfl rfl (spC_one s) ?_
      intro wx hx hCx hzx
      have hEx := hE16.chgNew hCx (fun x hx => by omega)
      have hzEx := hEx.size
      have hD := hD42.ext hEx
      have hbx : ¬ FN b16 := fun h => by have := (hFN _ h).2; omega
      obtain ⟨vs2, hvs2, hvl2, hqs2⟩ := ((hMr.chg hC42w (fun b hb h => by have := hb.2; omega)).ext hEx).rows.get
      obtain ⟨q2, hq2, hbq2⟩ := hqs2 i (by omega)
      rw [hfget] at hbq2
      refine XL.nil ?_
      refine QN.next ?_
      refine XC.seq ?_
      refine XC.region ?_
      show XL _ _ _ _ (List.cons _ _) _ _
      refine XL.s rfl ?_
      refine Y.move (by rfl) ?_
      refine XL.s rfl ?_
      refine Y.move (by rfl) ?_
      refine XL.s rfl ?_
      refine Y.indexR st37 (by rfl) (by rfl) hvs2 ⟨by omega, by omega⟩ (by rw [Int.toNat_natCast]; exact hq2) ?_
      intro b48 o48 hs48 hc48
      refine XL.s rfl ?_
      refine Y.load one39 (by rfl) (by assumption) ?_
      refine XL.s rfl ?_
      refine Y.len Tryz.underlying39 (by rfl) hbq2 ?_
      refine XL.s rfl ?_
      refine Y.assign (by rfl) ?_
      refine XL.nil ?_
      refine QN.next ?_
      refine XC.seq ?_
      refine XC.region ?_
      show XL _ _ _ _ (List.cons _ _) _ _
      refine XL.s rfl ?_
      refine Y.fieldAddr fld47_0 (by rfl) ?_
      refine XL.s rfl ?_
      refine Y.load one5 (by rfl) (cell_arr (cs := spC s) hx rfl) ?_
      refine XL.s rfl ?_
      refine Y.rem (by rfl) (by rfl) (by omega) (tmodN s.act.toNat 5) ?_
      refine XL.s rfl ?_
      refine Y.eql (by rfl) (by rfl) ?_
      refine XL.s rfl ?_
      refine Y.assign (by rfl) ?_
      refine XL.nil ?_
      refine QN.next ?_
      refine XC.seq ?_
      refine XC.seq ?_
      refine XC.region ?_
      show XL _ _ _ _ (List.cons _ _) _ _
      refine XL.s rfl ?_
      refine Y.fieldAddr fld47_0 (by rfl) ?_
      refine XL.s rfl ?_
      refine Y.load one5 (by rfl) (cell_arr (cs := spC s) hx rfl) ?_
      refine XL.s rfl ?_
      refine Y.rem (by rfl) (by rfl) (by omega) (tmodN s.act.toNat 5) ?_
      refine XL.s rfl ?_
      refine Y.eql (by rfl) (by rfl) ?_
      refine XL.nil ?_
      refine QN.next ?_
      refine XC.condF rfl ya ?_
      refine XC.skip ?_
      refine QN.next ?_
      refine XC.seq ?_
      refine XC.seq ?_
      refine XC.region ?_
      show XL _ _ _ _ (List.cons _ _) _ _
      refine XL.s rfl ?_
      refine Y.fieldAddr fld47_0 (by rfl) ?_
      refine XL.s rfl ?_
      refine Y.load one5 (by rfl) (cell_arr (cs := spC s) hx rfl) ?_
      refine XL.s rfl ?_
      refine Y.rem (by rfl) (by rfl) (by omega) (tmodN s.act.toNat 5) ?_
      refine XL.s rfl ?_
      refine Y.eql (by rfl) (by rfl) ?_
      refine XL.nil ?_
      refine QN.next ?_
      refine XC.condF rfl ya ?_
      refine XC.skip ?_
      refine QN.next ?_
      refine XC.seq ?_
      refine XC.seq ?_
      refine XC.region ?_
      show XL _ _ _ _ (List.cons _ _) _ _
      refine XL.s rfl ?_
      refine Y.fieldAddr fld47_0 (by rfl) ?_
      refine XL.s rfl ?_
      refine Y.load one5 (by rfl) (cell_arr (cs := spC s) hx rfl) ?_
      refine XL.s rfl ?_
      refine Y.rem (by rfl) (by rfl) (by omega) (tmodN s.act.toNat 5) ?_
      refine XL.s rfl ?_
      refine Y.eql (by rfl) (by rfl) ?_
      refine XL.nil ?_
      refine QN.next ?_
      refine XC.condT rfl ya ?_
      refine XC.region ?_
      show XL _ _ _ _ (List.cons _ _) _ _
      refine XL.s rfl ?_
      refine Y.move (by rfl) ?_
      refine XL.s rfl ?_
      refine Y.move (by rfl) ?_
      refine XL.s rfl ?_
      refine Y.fieldAddr fld47_1 (by rfl) ?_
      refine XL.s rfl ?_
      refine Y.load one24 (by rfl) (cell_arr (cs := spC s) hx rfl) ?_
      refine XL.s rfl ?_
      refine Y.convI Tryz.underlying24 Tryz.underlying3 (by rfl) (wrap64 (by have := s.at_.toNat_lt; omega) (by have := s.at_.toNat_lt; omega)) ?_
      refine XL.s rfl ?_
      refine Y.move (by rfl) ?_
      refine XL.s rfl ?_
      refine Y.rem (by rfl) (by rfl) (by omega) (tmodN s.at_.toNat (fl i).length) ?_
      refine XL.s rfl ?_
      refine Y.call (by rfl) ok41 (dtrim_yes _ _ _ _ _ _ hD (s.at_.toNat % (fl i).length) ⟨fl i, (fl i).length, true⟩ (keyLook _ _) (Nat.le_of_lt (Nat.mod_lt _ hfp))) ?_
      rintro v93 w93 ⟨rfl, hC93, hD93⟩
      have hx := hx.chg hC93 hbx
      refine XL.nil ?_
      refine QN.next ?_
      refine XC.seq ?_
      refine XC.seq ?_
      refine XC.region ?_
      show XL _ _ _ _ (List.cons _ _) _ _
      refine XL.s rfl ?_
      refine Y.fieldAddr fld47_0 (by rfl) ?_
      refine XL.s rfl ?_
      refine Y.load one5 (by rfl) (cell_arr (cs := spC s) hx rfl) ?_
      refine XL.s rfl ?_
      refine Y.rem (by rfl) (by rfl) (by omega) (tmodN s.act.toNat 5) ?_
      refine XL.s rfl ?_
      refine Y.eql (by rfl) (by rfl) ?_
      refine XL.nil ?_
      refine QN.next ?_
      refine XC.condF rfl ya ?_
      have hold : Chg (fun b => wr.heap.size ≤ b) wr w93 := (hEold.ext hEx).trans hC93 (fun _ h => h) (fun x _ h => (hFN x h).1)
      have hzn := hold.size
      have hDa : DiskA 79 82 5 (fun b => wr.heap.size ≤ b ∧ b < w93.heap.size) w93 (.pointer (some ⟨db, 0, none⟩)) 6000 (spM nm (fl i) s) 700 1 := ⟨_, (hD93.bnd).mono (fun b hb => ⟨by have := hFN b hb.1; omega, hb.2⟩), by rw [keyEq]; exact LikeD.castm ((likeOne _ _).mono (by simp; omega) (Nat.le_refl _)) (by funext x; simp only [spM, spF, if_neg c1, if_neg c2, if_pos c3])⟩
      refine XC.skip ?_
      refine QN.next ?_
      refine XC.seq ?_
      refine XC.region ?_
      show XL _ _ _ _ (List.cons _ _) _ _
      refine XL.s rfl ?_
      refine Y.move (by rfl) ?_
      refine XL.s rfl ?_
      refine Y.move (by rfl) ?_
      refine XL.s rfl ?_
      refine Y.buildSlice st31 (by rfl) (by rfl) (by omega) (by simp [Value.oneCell', byteV, strV]) ?_
      intro v103 w103 hN103
      have hz103 := hN103.1.size
      refine XL.s rfl ?_
      refine Y.appendG st31 Tryz.underlying31 (by rfl) (by rfl) ((g1.chg hold (fun b _ hb h => by have := (g4 b hb).2.1; omega)).ext hN103.1) hN103.row rfl (by omega) (by omega) ?_
      intro v104 w104 hA104 hO104 hC104
      refine XL.s rfl ?_
      refine Y.assign (by rfl) ?_
      refine XL.nil ?_
      refine QN.next ?_
      refine XC.region ?_
      show XL _ _ _ _ (List.cons _ _) _ _
      refine XL.s rfl ?_
      refine Y.move (by rfl) ?_
      refine XL.s rfl ?_
      refine Y.move (by rfl) ?_
      refine XL.s rfl ?_
      refine Y.buildSlice st51 (by rfl) (by rfl) (by omega) (by simp [Value.oneCell', byteV, strV]) ?_
      intro v107 w107 hN107
      have hz104 := hC104.size
      have hz107 := hN107.1.size
      refine XL.s rfl ?_
      refine Y.appendG st51 Tryz.underlying51 (by rfl) (by rfl) ((((g5.chg hold (fun b _ hb h => by have := (g6 b hb).2; omega)).ext hN103.1).chg hC104 (fun b _ hb hs => (g4 b hs).2.2 hb)).ext hN107.1) hN107.row rfl (by omega) (by omega) ?_
      intro v108 w108 hA108 hO108 hC108
      have hgood : decide (((s.act.toNat % 5 : Nat) : Int) = 0) = spG s := by simp only [spG]; rw [if_neg (by omega)]; exact decide_eq_decide.2 (by omega)
      rw [hgood] at hA108
      have hnew : DRowB 41 79 82 5 4 w21.heap.size w108 6000 (fun j => spM nm (fileB j ((encP k (k + 2 * F) bl).getD j [])) (ss.getD j ⟨0, 0, 0⟩)) 700 1 (i + 1) v104 v108 ((ss.take i).map spG ++ [spG s]) := DRowB.snoc (Fi := fun b => wr.heap.size ≤ b ∧ b < w93.heap.size) (by have := g1.1; omega) (fun j d hd => ((g2 j d hd).chg hold (fun b hb h => by have := (g3 j b hb).2.2; omega)).ext hN103.1) (fun j b hb => ⟨(g3 j b hb).1, (g3 j b hb).2.1, by have := (g3 j b hb).2.2; omega⟩) (fun b hb => ⟨(g4 b hb).1, by have := (g4 b hb).2.1; omega, (g4 b hb).2.2⟩) (fun b hb => ⟨(g6 b hb).1, by have := (g6 b hb).2; omega⟩) (by omega) hC104 hA104 ((hDa.ext hN103.1).cast hms.symm) (fun b hb => ⟨fun hs => by have := hb.1; have := (g4 b hs).2.1; omega, fun hs => by have := hb.1; have := (g6 b hs).2; omega, by have := hb.2; omega⟩) hN107.1 hC108 hA108
      have hE108 : Ext w21 w108 := ((((hE.chgNew hold (fun x hx => by omega)).trans hN103.1).chgNew hC104 (fun x hx => (g4 x hx).1)).trans hN107.1).chgNew hC108 (fun x hx => (g6 x hx).1)
      refine XL.s rfl ?_
      refine Y.assign (by rfl) ?_
      refine XL.nil ?_
      refine QN.blk ?_
      refine QN.next ?_
      refine XC.region ?_
      show XL _ _ _ _ (List.cons _ _) _ _
      refine XL.s rfl ?_
      refine Y.move (by rfl) ?_
      refine XL.s rfl ?_
      refine Y.add (by rfl) (by rfl) (wrap64 (by omega) (by omega)) ?_
      refine XL.s rfl ?_
      refine Y.assign (by rfl) ?_
      refine XL.nil ?_
      refine QN.again ((i + 1, v104, v108)) ?_ ?_ ?_
      ·exact ⟨rfl, rfl, rfl, rfl, rfl, rfl, trivial⟩
      ·exact ⟨by omega, by rw [htk, List.map_append]; exact hnew, hE108⟩
      ·first | omega | (simp only []; omega) | (simp; omega)
     ·skip
      by_cases c4 : s.act.toNat % 5 = 4
      ·skip
       refine XC.region ?_
       show XL _ _ _ _ (List.cons _ _) _ _
       refine XL.s rfl ?_
       refine Y.move (by rfl) ?_
       refine XL.s rfl ?_
       refine Y.indexArr arr48 (by rfl) (by rfl) ⟨by omega, by omega⟩ ?_
       refine XL.s rfl ?_
       refine Y.loadA agg47 (by rfl) rfl (fun j u hu => hsc j u hu) ?_
       refine XL.s rfl ?_
       refine Y.alloc zt47 ?_
       intro b16 w16 hb16 hz16 hE16
       refine XL.o ?_
       refine Y.storeA agg47 (by rfl) (by rfl) hb16 rfl rfl (spC_one s) ?_
       intro wx hx hCx hzx
       have hEx := hE16.chgNew hCx (fun x hx => by omega)
       have hzEx := hEx.size
       have hD := hD42.ext hEx
       have hbx : ¬ FN b16 := fun h => by have := (hFN _ h).2; omega
       obtain ⟨vs2, hvs2, hvl2, hqs2⟩ := ((hMr.chg hC42w (fun b hb h => by have := hb.2; omega)).ext hEx).rows.get
       obtain ⟨q2, hq2, hbq2⟩ := hqs2 i (by omega)
       rw [hfget] at hbq2
       refine XL.nil ?_
       refine QN.next ?_
       refine XC.seq ?_
       refine XC.region ?_
       show XL _ _ _ _ (List.cons _ _) _ _
       refine XL.s rfl ?_
       refine Y.move (by rfl) ?_
       refine XL.s rfl ?_
       refine Y.move (by rfl) ?_
       refine XL.s rfl ?_
       refine Y.indexR st37 (by rfl) (by rfl) hvs2 ⟨by omega, by omega⟩ (by rw [Int.toNat_natCast]; exact hq2) ?_
       intro b48 o48 hs48 hc48
       refine XL.s rfl ?_
       refine Y.load one39 (by rfl) (by assumption) ?_
       refine XL.s rfl ?_
       refine Y.len Tryz.underlying39 (by rfl) hbq2 ?_
       refine XL.s rfl ?_
       refine Y.assign (by rfl) ?_
       refine XL.nil ?_
       refine QN.next ?_
       refine XC.seq ?_
       refine XC.region ?_
       show XL _ _ _ _ (List.cons _ _) _ _
       refine XL.s rfl ?_
       refine Y.fieldAddr fld47_0 (by rfl) ?_
       refine XL.s rfl ?_
       refine Y.load one5 (by rfl) (cell_arr (cs := spC s) hx rfl) ?_
       refine XL.s rfl ?_
       refine Y.rem (by rfl) (by rfl) (by omega) (tmodN s.act.toNat 5) ?_
       refine XL.s rfl ?_
       refine Y.eql (by rfl) (by rfl) ?_
       refine XL.s rfl ?_
       refine Y.assign (by rfl) ?_
       refine XL.nil ?_
       refine QN.next ?_
       refine XC.seq ?_
       refine XC.seq ?_
       refine XC.region ?_
       show XL _ _ _ _ (List.cons _ _) _ _
       refine XL.s rfl ?_
       refine Y.fieldAddr fld47_0 (by rfl) ?_
       refine XL.s rfl ?_
       refine Y.load one5 (by rfl) (cell_arr (cs := spC s) hx rfl) ?_
       refine XL.s rfl ?_
       refine Y.rem (by rfl) (by rfl) (by omega) (tmodN s.act.toNat 5) ?_
       refine XL.s rfl ?_
       refine Y.eql (by rfl) (by rfl) ?_
       refine XL.nil ?_
       refine QN.next ?_
       refine XC.condF rfl ya ?_
       refine XC.skip ?_
       refine QN.next ?_
       refine XC.seq ?_
       refine XC.seq ?_
       refine XC.region ?_
       show XL _ _ _ _ (List.cons _ _) _ _
       refine XL.s rfl ?_
       refine Y.fieldAddr fld47_0 (by rfl) ?_
       refine XL.s rfl ?_
       refine Y.load one5 (by rfl) (cell_arr (cs := spC s) hx rfl) ?_
       refine XL.s rfl ?_
       refine Y.rem (by rfl) (by rfl) (by omega) (tmodN s.act.toNat 5) ?_
       refine XL.s rfl ?_
       refine Y.eql (by rfl) (by rfl) ?_
       refine XL.nil ?_
       refine QN.next ?_
       refine XC.condF rfl ya ?_
       refine XC.skip ?_
       refine QN.next ?_
       refine XC.seq ?_
       refine XC.seq ?_
       refine XC.region ?_
       show XL _ _ _ _ (List.cons _ _) _ _
       refine XL.s rfl ?_
       refine Y.fieldAddr fld47_0 (by rfl) ?_
       refine XL.s rfl ?_
       refine Y.load one5 (by rfl) (cell_arr (cs := spC s) hx rfl) ?_
       refine XL.s rfl ?_
       refine Y.rem (by rfl) (by rfl) (by omega) (tmodN s.act.toNat 5) ?_
       refine XL.s rfl ?_
       refine Y.eql (by rfl) (by rfl) ?_
       refine XL.nil ?_
       refine QN.next ?_
       refine XC.condF rfl ya ?_
       refine XC.skip ?_
       refine QN.next ?_
       refine XC.seq ?_
       refine XC.seq ?_
       refine XC.region ?_
       show XL _ _ _ _ (List.cons _ _) _ _
       refine XL.s rfl ?_
       refine Y.fieldAddr fld47_0 (by rfl) ?_
       refine XL.s rfl ?_
       refine Y.load one5 (by rfl) (cell_arr (cs := spC s) hx rfl) ?_
       refine XL.s rfl ?_
       refine Y.rem (by rfl) (by rfl) (by omega) (tmodN s.act.toNat 5) ?_
       refine XL.s rfl ?_
       refine Y.eql (by rfl) (by rfl) ?_
       refine XL.nil ?_
       refine QN.next ?_
       refine XC.condT rfl ya ?_
       refine XC.region ?_
       show XL _ _ _ _ (List.cons _ _) _ _
       refine XL.s rfl ?_
       refine Y.move (by rfl) ?_
       refine XL.s rfl ?_
       refine Y.move (by rfl) ?_
       refine XL.s rfl ?_
       refine Y.call (by rfl) ok42 (ddel_yes _ _ _ _ _ _ hD ⟨fl i, (fl i).length, true⟩ (keyLook _ _)) ?_
       rintro v100 w100 ⟨rfl, hC100, hD100⟩
       have hold : Chg (fun b => wr.heap.size ≤ b) wr w100 := (hEold.ext hEx).trans hC100 (fun _ h => h) (fun x _ h => (hFN x h).1)
       have hzn := hold.size
       have hDa : DiskA 79 82 5 (fun b => wr.heap.size ≤ b ∧ b < w100.heap.size) w100 (.pointer (some ⟨db, 0, none⟩)) 6000 (spM nm (fl i) s) 700 1 := ⟨_, (hD100.bnd).mono (fun b hb => ⟨by have := hFN b hb.1; omega, hb.2⟩), by rw [keyDel]; exact LikeD.castm (likeNil _ _) (by funext x; simp only [spM, spF, if_neg c1, if_neg c2, if_neg c3, if_pos c4]; split <;> rfl)⟩
       refine XL.nil ?_
       refine QN.next ?_
       refine XC.seq ?_
       refine XC.region ?_
       show XL _ _ _ _ (List.cons _ _) _ _
       refine XL.s rfl ?_
       refine Y.move (by rfl) ?_
       refine XL.s rfl ?_
       refine Y.move (by rfl) ?_
       refine XL.s rfl ?_
       refine Y.buildSlice st31 (by rfl) (by rfl) (by omega) (by simp [Value.oneCell', byteV, strV]) ?_
       intro v103 w103 hN103
       have hz103 := hN103.1.size
       refine XL.s rfl ?_
       refine Y.appendG st31 Tryz.underlying31 (by rfl) (by rfl) ((g1.chg hold (fun b _ hb h => by have := (g4 b hb).2.1; omega)).ext hN103.1) hN103.row rfl (by omega) (by omega) ?_
       intro v104 w104 hA104 hO104 hC104
       refine XL.s rfl ?_
       refine Y.assign (by rfl) ?_
       refine XL.nil ?_
       refine QN.next ?_
       refine XC.region ?_
       show XL _ _ _ _ (List.cons _ _) _ _
       refine XL.s rfl ?_
       refine Y.move (by rfl) ?_
       refine XL.s rfl ?_
       refine Y.move (by rfl) ?_
       refine XL.s rfl ?_
       refine Y.buildSlice st51 (by rfl) (by rfl) (by omega) (by simp [Value.oneCell', byteV, strV]) ?_
       intro v107 w107 hN107
       have hz104 := hC104.size
       have hz107 := hN107.1.size
       refine XL.s rfl ?_
       refine Y.appendG st51 Tryz.underlying51 (by rfl) (by rfl) ((((g5.chg hold (fun b _ hb h => by have := (g6 b hb).2; omega)).ext hN103.1).chg hC104 (fun b _ hb hs => (g4 b hs).2.2 hb)).ext hN107.1) hN107.row rfl (by omega) (by omega) ?_
       intro v108 w108 hA108 hO108 hC108
       have hgood : decide (((s.act.toNat % 5 : Nat) : Int) = 0) = spG s := by simp only [spG]; rw [if_neg (by omega)]; exact decide_eq_decide.2 (by omega)
       rw [hgood] at hA108
       have hnew : DRowB 41 79 82 5 4 w21.heap.size w108 6000 (fun j => spM nm (fileB j ((encP k (k + 2 * F) bl).getD j [])) (ss.getD j ⟨0, 0, 0⟩)) 700 1 (i + 1) v104 v108 ((ss.take i).map spG ++ [spG s]) := DRowB.snoc (Fi := fun b => wr.heap.size ≤ b ∧ b < w100.heap.size) (by have := g1.1; omega) (fun j d hd => ((g2 j d hd).chg hold (fun b hb h => by have := (g3 j b hb).2.2; omega)).ext hN103.1) (fun j b hb => ⟨(g3 j b hb).1, (g3 j b hb).2.1, by have := (g3 j b hb).2.2; omega⟩) (fun b hb => ⟨(g4 b hb).1, by have := (g4 b hb).2.1; omega, (g4 b hb).2.2⟩) (fun b hb => ⟨(g6 b hb).1, by have := (g6 b hb).2; omega⟩) (by omega) hC104 hA104 ((hDa.ext hN103.1).cast hms.symm) (fun b hb => ⟨fun hs => by have := hb.1; have := (g4 b hs).2.1; omega, fun hs => by have := hb.1; have := (g6 b hs).2; omega, by have := hb.2; omega⟩) hN107.1 hC108 hA108
       have hE108 : Ext w21 w108 := ((((hE.chgNew hold (fun x hx => by omega)).trans hN103.1).chgNew hC104 (fun x hx => (g4 x hx).1)).trans hN107.1).chgNew hC108 (fun x hx => (g6 x hx).1)
       refine XL.s rfl ?_
       refine Y.assign (by rfl) ?_
       refine XL.nil ?_
       refine QN.blk ?_
       refine QN.next ?_
       refine XC.region ?_
       show XL _ _ _ _ (List.cons _ _) _ _
       refine XL.s rfl ?_
       refine Y.move (by rfl) ?_
       refine XL.s rfl ?_
       refine Y.add (by rfl) (by rfl) (wrap64 (by omega) (by omega)) ?_
       refine XL.s rfl ?_
       refine Y.assign (by rfl) ?_
       refine XL.nil ?_
       refine QN.again ((i + 1, v104, v108)) ?_ ?_ ?_
       ·exact ⟨rfl, rfl, rfl, rfl, rfl, rfl, trivial⟩
       ·exact ⟨by omega, by rw [htk, List.map_append]; exact hnew, hE108⟩
       ·first | omega | (simp only []; omega) | (simp; omega)
      ·skip
       refine XC.region ?_
       show XL _ _ _ _ (List.cons _ _) _ _
       refine XL.s rfl ?_
       refine Y.move (by rfl) ?_
       refine XL.s rfl ?_
       refine Y.indexArr arr48 (by rfl) (by rfl) ⟨by omega, by omega⟩ ?_
       refine XL.s rfl ?_
       refine Y.loadA agg47 (by rfl) rfl (fun j u hu => hsc j u hu) ?_
       refine XL.s rfl ?_
       refine Y.alloc zt47 ?_
       intro b16 w16 hb16 hz16 hE16
       refine XL.o ?_
       refine Y.storeA agg47 (by rfl) (by rfl) hb16 rfl rfl (spC_one s) ?_
       intro wx hx hCx hzx
       have hEx := hE16.chgNew hCx (fun x hx => by omega)
       have hzEx := hEx.size
       have hD := hD42.ext hEx
       have hbx : ¬ FN b16 := fun h => by have := (hFN _ h).2; omega
       obtain ⟨vs2, hvs2, hvl2, hqs2⟩ := ((hMr.chg hC42w (fun b hb h => by have := hb.2; omega)).ext hEx).rows.get
       obtain ⟨q2, hq2, hbq2⟩ := hqs2 i (by omega)
       rw [hfget] at hbq2
       refine XL.nil ?_
       refine QN.next ?_
       refine XC.seq ?_
       refine XC.region ?_
       show XL _ _ _ _ (List.cons _ _) _ _
       refine XL.s rfl ?_
       refine Y.move (by rfl) ?_
       refine XL.s rfl ?_
       refine Y.move (by rfl) ?_
       refine XL.s rfl ?_
       refine Y.indexR st37 (by rfl) (by rfl) hvs2 ⟨by omega, by omega⟩ (by rw [Int.toNat_natCast]; exact hq2) ?_
       intro b48 o48 hs48 hc48
       refine XL.s rfl ?_
       refine Y.load one39 (by rfl) (by assumption) ?_
       refine XL.s rfl ?_
       refine Y.len Tryz.underlying39 (by rfl) hbq2 ?_
       refine XL.s rfl ?_
       refine Y.assign (by rfl) ?_
       refine XL.nil ?_
       refine QN.next ?_
       refine XC.seq ?_
       refine XC.region ?_
       show XL _ _ _ _ (List.cons _ _) _ _
       refine XL.s rfl ?_
       refine Y.fieldAddr fld47_0 (by rfl) ?_
       refine XL.s rfl ?_
       refine Y.load one5 (by rfl) (cell_arr (cs := spC s) hx rfl) ?_
       refine XL.s rfl ?_
       refine Y.rem (by rfl) (by rfl) (by omega) (tmodN s.act.toNat 5) ?_
       refine XL.s rfl ?_
       refine Y.eql (by rfl) (by rfl) ?_
       refine XL.s rfl ?_
       refine Y.assign (by rfl) ?_
       refine XL.nil ?_
       refine QN.next ?_
       refine XC.seq ?_
       refine XC.seq ?_
       refine XC.region ?_
       show XL _ _ _ _ (List.cons _ _) _ _
       refine XL.s rfl ?_
       refine Y.fieldAddr fld47_0 (by rfl) ?_
       refine XL.s rfl ?_
       refine Y.load one5 (by rfl) (cell_arr (cs := spC s) hx rfl) ?_
       refine XL.s rfl ?_
       refine Y.rem (by rfl) (by rfl) (by omega) (tmodN s.act.toNat 5) ?_
       refine XL.s rfl ?_
       refine Y.eql (by rfl) (by rfl) ?_
       refine XL.nil ?_
       refine QN.next ?_
       refine XC.condF rfl ya ?_
       refine XC.skip ?_
       refine QN.next ?_
       refine XC.seq ?_
       refine XC.seq ?_
       refine XC.region ?_
       show XL _ _ _ _ (List.cons _ _) _ _
       refine XL.s rfl ?_
       refine Y.fieldAddr fld47_0 (by rfl) ?_
       refine XL.s rfl ?_
       refine Y.load one5 (by rfl) (cell_arr (cs := spC s) hx rfl) ?_
       refine XL.s rfl ?_
       refine Y.rem (by rfl) (by rfl) (by omega) (tmodN s.act.toNat 5) ?_
       refine XL.s rfl ?_
       refine Y.eql (by rfl) (by rfl) ?_
       refine XL.nil ?_
       refine QN.next ?_
       refine XC.condF rfl ya ?_
       refine XC.skip ?_
       refine QN.next ?_
       refine XC.seq ?_
       refine XC.seq ?_
       refine XC.region ?_
       show XL _ _ _ _ (List.cons _ _) _ _
       refine XL.s rfl ?_
       refine Y.fieldAddr fld47_0 (by rfl) ?_
       refine XL.s rfl ?_
       refine Y.load one5 (by rfl) (cell_arr (cs := spC s) hx rfl) ?_
       refine XL.s rfl ?_
       refine Y.rem (by rfl) (by rfl) (by omega) (tmodN s.act.toNat 5) ?_
       refine XL.s rfl ?_
       refine Y.eql (by rfl) (by rfl) ?_
       refine XL.nil ?_
       refine QN.next ?_
       refine XC.condF rfl ya ?_
       refine XC.skip ?_
       refine QN.next ?_
       refine XC.seq ?_
       refine XC.seq ?_
       refine XC.region ?_
       show XL _ _ _ _ (List.cons _ _) _ _
       refine XL.s rfl ?_
       refine Y.fieldAddr fld47_0 (by rfl) ?_
       refine XL.s rfl ?_
       refine Y.load one5 (by rfl) (cell_arr (cs := spC s) hx rfl) ?_
       refine XL.s rfl ?_
       refine Y.rem (by rfl) (by rfl) (by omega) (tmodN s.act.toNat 5) ?_
       refine XL.s rfl ?_
       refine Y.eql (by rfl) (by rfl) ?_
       refine XL.nil ?_
       refine QN.next ?_
       refine XC.condF rfl ya ?_
       have hold : Chg (fun b => wr.heap.size ≤ b) wr wx := hEold.ext hEx
       have hzn := hold.size
       have hDa : DiskA 79 82 5 (fun b => wr.heap.size ≤ b ∧ b < wx.heap.size) wx (.pointer (some ⟨db, 0, none⟩)) 6000 (spM nm (fl i) s) 700 1 := ⟨_, (hD.bnd).mono (fun b hb => ⟨by have := hFN b hb.1; omega, hb.2⟩), by  exact LikeD.castm ((likeOne _ _).mono (by simp; omega) (Nat.le_refl _)) (by funext x; simp only [spM, spF, if_neg c1, if_neg c2, if_neg c3, if_neg c4])⟩
       refine XC.skip ?_
       refine QN.next ?_
       refine XC.seq ?_
       refine XC.region ?_
       show XL _ _ _ _ (List.cons _ _) _ _
       refine XL.s rfl ?_
       refine Y.move (by rfl) ?_
       refine XL.s rfl ?_
       refine Y.move (by rfl) ?_
       refine XL.s rfl ?_
       refine Y.buildSlice st31 (by rfl) (by rfl) (by omega) (by simp [Value.oneCell', byteV, strV]) ?_
       intro v103 w103 hN103
       have hz103 := hN103.1.size
       refine XL.s rfl ?_
       refine Y.appendG st31 Tryz.underlying31 (by rfl) (by rfl) ((g1.chg hold (fun b _ hb h => by have := (g4 b hb).2.1; omega)).ext hN103.1) hN103.row rfl (by omega) (by omega) ?_
       intro v104 w104 hA104 hO104 hC104
       refine XL.s rfl ?_
       refine Y.assign (by rfl) ?_
       refine XL.nil ?_
       refine QN.next ?_
       refine XC.region ?_
       show XL _ _ _ _ (List.cons _ _) _ _
       refine XL.s rfl ?_
       refine Y.move (by rfl) ?_
       refine XL.s rfl ?_
       refine Y.move (by rfl) ?_
       refine XL.s rfl ?_
       refine Y.buildSlice st51 (by rfl) (by rfl) (by omega) (by simp [Value.oneCell', byteV, strV]) ?_
       intro v107 w107 hN107
       have hz104 := hC104.size
       have hz107 := hN107.1.size
       refine XL.s rfl ?_
       refine Y.appendG st51 Tryz.underlying51 (by rfl) (by rfl) ((((g5.chg hold (fun b _ hb h => by have := (g6 b hb).2; omega)).ext hN103.1).chg hC104 (fun b _ hb hs => (g4 b hs).2.2 hb)).ext hN107.1) hN107.row rfl (by omega) (by omega) ?_
       intro v108 w108 hA108 hO108 hC108
       have hgood : decide (((s.act.toNat % 5 : Nat) : Int) = 0) = spG s := by simp only [spG]; rw [if_neg (by omega)]; exact decide_eq_decide.2 (by omega)
       rw [hgood] at hA108
       have hnew : DRowB 41 79 82 5 4 w21.heap.size w108 6000 (fun j => spM nm (fileB j ((encP k (k + 2 * F) bl).getD j [])) (ss.getD j ⟨0, 0, 0⟩)) 700 1 (i + 1) v104 v108 ((ss.take i).map spG ++ [spG s]) := DRowB.snoc (Fi := fun b => wr.heap.size ≤ b ∧ b < wx.heap.size) (by have := g1.1; omega) (fun j d hd => ((g2 j d hd).chg hold (fun b hb h => by have := (g3 j b hb).2.2; omega)).ext hN103.1) (fun j b hb => ⟨(g3 j b hb).1, (g3 j b hb).2.1, by have := (g3 j b hb).2.2; omega⟩) (fun b hb => ⟨(g4 b hb).1, by have := (g4 b hb).2.1; omega, (g4 b hb).2.2⟩) (fun b hb => ⟨(g6 b hb).1, by have := (g6 b hb).2; omega⟩) (by omega) hC104 hA104 ((hDa.ext hN103.1).cast hms.symm) (fun b hb => ⟨fun hs => by have := hb.1; have := (g4 b hs).2.1; omega, fun hs => by have := hb.1; have := (g6 b hs).2; omega, by have := hb.2; omega⟩) hN107.1 hC108 hA108
       have hE108 : Ext w21 w108 := ((((hE.chgNew hold (fun x hx => by omega)).trans hN103.1).chgNew hC104 (fun x hx => (g4 x hx).1)).trans hN107.1).chgNew hC108 (fun x hx => (g6 x hx).1)
       refine XL.s rfl ?_
       refine Y.assign (by rfl) ?_
       refine XL.nil ?_
       refine QN.blk ?_
       refine QN.next ?_
       refine XC.region ?_
       show XL _ _ _ _ (List.cons _ _) _ _
       refine XL.s rfl ?_
       refine Y.move (by rfl) ?_
       refine XL.s rfl ?_
       refine Y.add (by rfl) (by rfl) (wrap64 (by omega) (by omega)) ?_
       refine XL.s rfl ?_
       refine Y.assign (by rfl) ?_
       refine XL.nil ?_
       refine QN.again ((i + 1, v104, v108)) ?_ ?_ ?_
       ·exact ⟨rfl, rfl, rfl, rfl, rfl, rfl, trivial⟩
       ·exact ⟨by omega, by rw [htk, List.map_append]; exact hnew, hE108⟩
       ·first | omega | (simp only []; omega) | (simp; omega)
  ·intro hc
   try simp only [decide_eq_true_eq, decide_eq_false_iff_not, Bool.not_eq_true', Bool.not_eq_false', Bool.not_eq_eq_eq_not, Bool.not_true, Bool.not_false, Bool.or_eq_true, Bool.and_eq_true, Bool.or_eq_false_iff] at hc
   have hin : i = k + 2 * F := by omega
   subst hin
   refine XC.exit ?_
   refine QN.thenE ?_
   refine QN.thenE ?_
   refine QN.hit ?_
   refine QN.next ?_
   refine XC.seq ?_
   refine XC.region ?_
   show XL _ _ _ _ (List.cons _ _) _ _
   refine XL.s rfl ?_
   refine Y.move (by rfl) ?_
   refine XL.s rfl ?_
   refine Y.move (by rfl) ?_
   refine XL.s rfl ?_
   refine Y.assign (by rfl) ?_
   refine XL.s rfl ?_
   refine Y.assign (by rfl) ?_
   refine XL.nil ?_
   refine QN.next ?_
   refine XC.ret ?_
   refine QN.doneN (fn := Tryz.f20) (R := R) (.inl rfl) rfl rfl ?_
   refine hR _ _ ?_
   exact ⟨_, _, rfl, hDR.lower (by omega), hE0.trans hE⟩
end Go.Proofs.YtchammpamigonaaGreatX
end
section
set_option linter.unusedVariables false
set_option linter.unusedSimpArgs false
set_option maxRecDepth 10000
set_option maxHeartbeats 4000000
namespace Go.Proofs.YtchammpamigonaaGreatX
open Go Go.RowKit Go.Proofs
theorem shards_ok (G : Nat → Prop) (tv : Value) (K F n most : Nat) (ms : Nat → Fm) (U c : Nat → Nat) (w : World) (hS : StoreA 66 79 82 5 G w tv K F n most ms U c) (hm : most ≤ 65536) (hU : ∀ i, i < n → U i ≤ 65536) (hn : n ≤ 7) (nm : List UInt8) (Sa : Nat → Prop) (ua : Value) (away : List Int) (haw : Zs Sa w ua away) (hnm : nm.length ≤ 16) (hn0 : 0 < n) :
  Rets Tryz.prog 33 #[tv, strV nm, ua] w fun v w' => ∃ a, v = .tuple #[a, .bool (hasAny ms nm n)] ∧ Rows AnyB w' a (shardsP ms nm away n) ∧ Ext w w' := by
 refine Rets.enter (args := [tv, strV nm, ua]) (n := 59) Tryz.func33 rfl rfl rfl ?_
 intro R hR
 show XC _ _ _ _ [(0, tv), (1, strV nm), (2, ua)] _
 obtain ⟨tb, av, dvs, Fr, rfl, hX⟩ := id hS
 obtain ⟨qa, capa, rfl⟩ := hX.row.val
 refine XC.seq ?_
 refine XC.region ?_
 show XL _ _ _ _ (List.cons _ _) _ _
 refine XL.s rfl ?_
 refine Y.assign (by rfl) ?_
 refine XL.s rfl ?_
 refine Y.assign (by rfl) ?_
 refine XL.nil ?_
 refine QN.next ?_
 refine XC.seq ?_
 refine XC.region ?_
 show XL _ _ _ _ (List.cons _ _) _ _
 refine XL.s rfl ?_
 refine Y.move (by rfl) ?_
 refine XL.s rfl ?_
 refine Y.nilCheck (by rfl) ?_
 refine XL.s rfl ?_
 refine Y.fieldAddr fld66_1 (by rfl) ?_
 refine XL.s rfl ?_
 refine Y.load one31 (by rfl) (three2 hX.cell) ?_
 refine XL.s rfl ?_
 refine Y.len Tryz.underlying31 (by rfl) hX.row ?_
 refine XL.s rfl ?_
 refine Y.makeSlice st37 (by rfl) (by rfl) (Nat.le_refl _) (by omega) (by omega) (by intro q hq; simp [Value.cells] at hq; subst hq; rfl) ?_
 intro v19 w19 hO19 hE19
 rw [zeros_nil] at hO19
 obtain ⟨g, hob, hSg, hgl, hO⟩ := hO19.at
 obtain ⟨q, cap, hv⟩ : ∃ q cap, v19 = .slice q n cap := hO19.row.val
 have hq : v19 = .slice (some ⟨g, 0, none⟩) n cap := by obtain ⟨_, _, g', cap', cur, fr, hv', _, _, hg', _⟩ := hO; rw [hv'] at hv ⊢; cases hv; rw [show g' = g from hg']
 subst hq
 have hgw : w.heap.size ≤ g := hSg
 have hX19 := hX.ext hE19
 refine XL.s rfl ?_
 refine Y.assign (by rfl) ?_
 refine XL.nil ?_
 refine QN.next ?_
 refine XC.seq ?_
 refine XC.region ?_
 show XL _ _ _ _ (List.cons _ _) _ _
 refine XL.s rfl ?_
 refine Y.assign (by rfl) ?_
 refine XL.nil ?_
 refine QN.next ?_
 refine XC.seq ?_
 refine XC.seq ?_
 refine XC.region ?_
 show XL _ _ _ _ (List.cons _ _) _ _
 refine XL.s rfl ?_
 refine Y.move (by rfl) ?_
 refine XL.s rfl ?_
 refine Y.nilCheck (by rfl) ?_
 refine XL.s rfl ?_
 refine Y.fieldAddr fld66_1 (by rfl) ?_
 refine XL.s rfl ?_
 refine Y.load one31 (by rfl) (three2 hX19.cell) ?_
 refine XL.s rfl ?_
 refine Y.len Tryz.underlying31 (by rfl) hX19.row ?_
 refine XL.s rfl ?_
 refine Y.move (by rfl) ?_
 refine XL.nil ?_
 refine QN.next ?_
 refine XC.block ?_
 refine XC.loop (α := Nat × List Value) (fun (i, us) => [(0, .pointer (some ⟨tb, 0, none⟩)), (1, strV nm), (2, ua), (8, .slice (some ⟨g, 0, none⟩) n cap), (23, .slice qa n capa), (24, .int .i64 (n : Nat)), (9, .bool (hasAny ms nm i)), (25, .int .i64 i)]) (fun (i, us) wr => i ≤ n ∧ Ext w wr ∧ Own (· = g) wr 39 1 (.slice (some ⟨g, 0, none⟩) n cap) n us ∧ RowsAll (fun b => ¬ b = g) wr us (shardsK ms nm away n i)) (fun (i, us) => n - i) ((0, List.replicate n (.slice none 0 0))) ?_ ?_ ?_
 ·exact ⟨rfl, rfl, rfl, rfl, rfl, rfl, rfl, rfl, trivial⟩
 ·exact ⟨by omega, hE19, hO, by rw [shardsK_zero]; exact RowsAll.nils _ _ _⟩
 ·rintro ⟨i, us⟩ wr hI
  obtain ⟨hi, hE, hO, hRw⟩ := hI
  have hXi := hX.ext hE
  refine XC.seq ?_
  refine XC.region ?_
  show XL _ _ _ _ (List.cons _ _) _ _
  refine XL.s rfl ?_
  refine Y.lss (by rfl) (by rfl) ?_
  refine XL.nil ?_
  refine QN.next ?_
  refine XC.seq ?_
  refine XC.condS rfl ?_ ?_
  ·intro hc
   try simp only [decide_eq_true_eq, decide_eq_false_iff_not, Bool.not_eq_true', Bool.not_eq_false', Bool.not_eq_eq_eq_not, Bool.not_true, Bool.not_false, Bool.or_eq_true, Bool.and_eq_true, Bool.or_eq_false_iff] at hc
   have hi' : i < n := by omega
   obtain ⟨d, Fi, hd, hD, -, -⟩ := hXi.get hi'
   have hlen : ∀ d s, ms i ([98, 46] ++ nm) = some (d, s) → d.length ≤ 65536 := fun d s h => by obtain ⟨fs, _, hL⟩ := hD; have := hL.lenAt h; have := hU i hi'; omega
   refine XC.skip ?_
   refine QN.next ?_
   refine XC.seq ?_
   by_cases ha : hasAny ms nm i = true
   ·skip
    simp only [ha]
    refine XC.block ?_
    refine XC.seq ?_
    refine XC.region ?_
    show XL _ _ _ _ (List.cons _ _) _ _
    refine XL.s rfl ?_
    refine Y.move (by rfl) ?_
    refine XL.s rfl ?_
    refine Y.indexR st31 (by rfl) (by rfl) hXi.row ⟨by omega, by omega⟩ (by rw [Int.toNat_natCast]; exact hd) ?_
    intro b28 o28 hs28 hc28
    refine XL.s rfl ?_
    refine Y.load one41 (by rfl) (by assumption) ?_
    refine XL.s rfl ?_
    refine Y.assign (by rfl) ?_
    refine XL.s rfl ?_
    refine Y.assign (by rfl) ?_
    refine XL.nil ?_
    refine QN.next ?_
    refine XC.seq ?_
    by_cases hk : ms i ([98, 46] ++ nm) = none
    ·skip
     have hkk : (ms i ([98, 46] ++ nm)).isSome = false := by rw [hk]; rfl
     have hsn : shardOf ms nm away i = [] := by simp only [shardOf, shardAt, hk]; split <;> rfl
     refine XC.region ?_
     show XL _ _ _ _ (List.cons _ _) _ _
     refine XL.s rfl ?_
     refine Y.move (by rfl) ?_
     refine XL.s rfl ?_
     refine Y.move (by rfl) ?_
     refine XL.s rfl ?_
     refine Y.addS (by rfl) (by rfl) (by simp; omega) ?_
     refine XL.s rfl ?_
     refine Y.call (by rfl) ok23 (readA_no _ _ _ _ _ _ ([98, 46] ++ nm) _ hD hk) ?_
     rintro v34 w34 ⟨rfl, hE34⟩
     refine XL.s rfl ?_
     refine Y.move (by rfl) ?_
     refine XL.s rfl ?_
     refine Y.extract (by rfl) (by rfl) ?_
     refine XL.s rfl ?_
     refine Y.extract (by rfl) (by rfl) ?_
     refine XL.s rfl ?_
     refine Y.assign (by rfl) ?_
     refine XL.s rfl ?_
     refine Y.assign (by rfl) ?_
     refine XL.nil ?_
     refine QN.next ?_
     refine XC.seq ?_
     refine XC.region ?_
     show XL _ _ _ _ (List.cons _ _) _ _
     refine XL.s rfl ?_
     refine Y.move (by rfl) ?_
     refine XL.s rfl ?_
     refine Y.move (by rfl) ?_
     refine XL.gf rfl rfl rfl rfl ?_
     refine XL.gf rfl rfl rfl rfl ?_
     refine XL.s rfl ?_
     refine Y.pickT (by rfl) rfl (by rfl) ?_
     refine XL.s rfl ?_
     refine Y.assign (by rfl) ?_
     refine XL.nil ?_
     refine QN.next ?_
     refine XC.seq ?_
     refine XC.region ?_
     show XL _ _ _ _ (List.cons _ _) _ _
     refine XL.s rfl ?_
     refine Y.move (by rfl) ?_
     refine XL.s rfl ?_
     refine Y.eql (by rfl) (by rfl) ?_
     refine XL.s rfl ?_
     refine Y.move (by rfl) ?_
     refine XL.gf rfl rfl rfl rfl ?_
     refine XL.gf rfl rfl rfl rfl ?_
     refine XL.gf rfl rfl rfl rfl ?_
     refine XL.gf rfl rfl rfl rfl ?_
     refine XL.s rfl ?_
     refine Y.pickF (by rfl) rfl (by rfl) ?_
     refine XL.nil ?_
     refine QN.next ?_
     refine XC.condF rfl rfl ?_
     refine XC.skip ?_
     refine QN.blk ?_
     refine QN.next ?_
     refine XC.region ?_
     show XL _ _ _ _ (List.cons _ _) _ _
     refine XL.s rfl ?_
     refine Y.add (by rfl) (by rfl) (wrap64 (by omega) (by omega)) ?_
     refine XL.s rfl ?_
     refine Y.move (by rfl) ?_
     refine XL.nil ?_
     refine QN.again ((i + 1, us)) ?_ ?_ ?_
     ·exact ⟨rfl, rfl, rfl, rfl, rfl, rfl, by rw [hasAny_succ, ha, Bool.true_or]; rfl, rfl, trivial⟩
     ·exact ⟨by omega, hE.trans hE34, hO.ext hE34, by rw [shardsK_nil hsn]; exact hRw.ext hE34⟩
     ·first | omega | (simp only []; omega) | (simp; omega)
    ·skip
     obtain ⟨⟨d0, s0⟩, hk2⟩ := Option.ne_none_iff_exists'.1 hk
     have hkk : (ms i ([98, 46] ++ nm)).isSome = true := by rw [hk2]; rfl
     by_cases him : (i : Int) ∈ away
     ·skip
      refine XC.region ?_
      show XL _ _ _ _ (List.cons _ _) _ _
      refine XL.s rfl ?_
      refine Y.move (by rfl) ?_
      refine XL.s rfl ?_
      refine Y.move (by rfl) ?_
      refine XL.s rfl ?_
      refine Y.addS (by rfl) (by rfl) (by simp; omega) ?_
      refine XL.s rfl ?_
      refine Y.call (by rfl) ok23 (readA_yes _ _ _ _ _ _ ([98, 46] ++ nm) _ hD d0 s0 hk2 (by have := hU i hi'; omega)) ?_
      rintro v34 w34 ⟨b34, rfl, hN34⟩
      refine XL.s rfl ?_
      refine Y.move (by rfl) ?_
      refine XL.s rfl ?_
      refine Y.extract (by rfl) (by rfl) ?_
      refine XL.s rfl ?_
      refine Y.extract (by rfl) (by rfl) ?_
      refine XL.s rfl ?_
      refine Y.assign (by rfl) ?_
      refine XL.s rfl ?_
      refine Y.assign (by rfl) ?_
      refine XL.nil ?_
      refine QN.next ?_
      refine XC.seq ?_
      refine XC.region ?_
      show XL _ _ _ _ (List.cons _ _) _ _
      refine XL.s rfl ?_
      refine Y.move (by rfl) ?_
      refine XL.s rfl ?_
      refine Y.move (by rfl) ?_
      refine XL.gf rfl rfl rfl rfl ?_
      refine XL.gf rfl rfl rfl rfl ?_
      refine XL.s rfl ?_
      refine Y.pickT (by rfl) rfl (by rfl) ?_
      refine XL.s rfl ?_
      refine Y.assign (by rfl) ?_
      refine XL.nil ?_
      refine QN.next ?_
      refine XC.seq ?_
      refine XC.region ?_
      show XL _ _ _ _ (List.cons _ _) _ _
      refine XL.s rfl ?_
      refine Y.move (by rfl) ?_
      refine XL.s rfl ?_
      refine Y.eql (by rfl) (by rfl) ?_
      refine XL.s rfl ?_
      refine Y.move (by rfl) ?_
      refine XL.gt rfl rfl rfl rfl ?_
      refine Y.move (by rfl) ?_
      refine XL.gt rfl rfl rfl rfl ?_
      refine Y.move (by rfl) ?_
      refine XL.gt rfl rfl rfl rfl ?_
      refine Y.call (by rfl) ok54 (containsI_ok _ _ away (i : Int) _ (haw.ext (hE.trans hN34.1))) ?_
      rintro v47 w47 ⟨rfl, rfl⟩
      have hsn : shardOf ms nm away i = [] := by simp only [shardOf, if_pos him]
      refine XL.gt rfl rfl rfl rfl ?_
      refine Y.not (by rfl) ?_
      refine XL.s rfl ?_
      refine Y.pickT (by rfl) rfl (by rfl) ?_
      refine XL.nil ?_
      refine QN.next ?_
      refine XC.condF rfl (by simp [him]) ?_
      refine XC.skip ?_
      refine QN.blk ?_
      refine QN.next ?_
      refine XC.region ?_
      show XL _ _ _ _ (List.cons _ _) _ _
      refine XL.s rfl ?_
      refine Y.add (by rfl) (by rfl) (wrap64 (by omega) (by omega)) ?_
      refine XL.s rfl ?_
      refine Y.move (by rfl) ?_
      refine XL.nil ?_
      refine QN.again ((i + 1, us)) ?_ ?_ ?_
      ·exact ⟨rfl, rfl, rfl, rfl, rfl, rfl, by rw [hasAny_succ, ha, Bool.true_or]; rfl, rfl, trivial⟩
      ·exact ⟨by omega, hE.trans hN34.1, hO.ext hN34.1, by rw [shardsK_nil hsn]; exact hRw.ext hN34.1⟩
      ·first | omega | (simp only []; omega) | (simp; omega)
     ·skip
      refine XC.region ?_
      show XL _ _ _ _ (List.cons _ _) _ _
      refine XL.s rfl ?_
      refine Y.move (by rfl) ?_
      refine XL.s rfl ?_
      refine Y.move (by rfl) ?_
      refine XL.s rfl ?_
      refine Y.addS (by rfl) (by rfl) (by simp; omega) ?_
      refine XL.s rfl ?_
      refine Y.call (by rfl) ok23 (readA_yes _ _ _ _ _ _ ([98, 46] ++ nm) _ hD d0 s0 hk2 (by have := hU i hi'; omega)) ?_
      rintro v34 w34 ⟨b34, rfl, hN34⟩
      refine XL.s rfl ?_
      refine Y.move (by rfl) ?_
      refine XL.s rfl ?_
      refine Y.extract (by rfl) (by rfl) ?_
      refine XL.s rfl ?_
      refine Y.extract (by rfl) (by rfl) ?_
      refine XL.s rfl ?_
      refine Y.assign (by rfl) ?_
      refine XL.s rfl ?_
      refine Y.assign (by rfl) ?_
      refine XL.nil ?_
      refine QN.next ?_
      refine XC.seq ?_
      refine XC.region ?_
      show XL _ _ _ _ (List.cons _ _) _ _
      refine XL.s rfl ?_
      refine Y.move (by rfl) ?_
      refine XL.s rfl ?_
      refine Y.move (by rfl) ?_
      refine XL.gf rfl rfl rfl rfl ?_
      refine XL.gf rfl rfl rfl rfl ?_
      refine XL.s rfl ?_
      refine Y.pickT (by rfl) rfl (by rfl) ?_
      refine XL.s rfl ?_
      refine Y.assign (by rfl) ?_
      refine XL.nil ?_
      refine QN.next ?_
      refine XC.seq ?_
      refine XC.region ?_
      show XL _ _ _ _ (List.cons _ _) _ _
      refine XL.s rfl ?_
      refine Y.move (by rfl) ?_
      refine XL.s rfl ?_
      refine Y.eql (by rfl) (by rfl) ?_
      refine XL.s rfl ?_
      refine Y.move (by rfl) ?_
      refine XL.gt rfl rfl rfl rfl ?_
      refine Y.move (by rfl) ?_
      refine XL.gt rfl rfl rfl rfl ?_
      refine Y.move (by rfl) ?_
      refine XL.gt rfl rfl rfl rfl ?_
      refine Y.call (by rfl) ok54 (containsI_ok _ _ away (i : Int) _ (haw.ext (hE.trans hN34.1))) ?_
      rintro v47 w47 ⟨rfl, rfl⟩
      have hsn : shardOf ms nm away i = shardP i d0 := by simp only [shardOf, if_neg him, shardAt, hk2]
      refine XL.gt rfl rfl rfl rfl ?_
      refine Y.not (by rfl) ?_
      refine XL.s rfl ?_
      refine Y.pickT (by rfl) rfl (by rfl) ?_
      refine XL.nil ?_
      refine QN.next ?_
      refine XC.condT rfl (by simp [him]) ?_
      refine XC.region ?_
      show XL _ _ _ _ (List.cons _ _) _ _
      refine XL.s rfl ?_
      refine Y.move (by rfl) ?_
      refine XL.s rfl ?_
      refine Y.move (by rfl) ?_
      refine XL.s rfl ?_
      refine Y.move (by rfl) ?_
      refine XL.s rfl ?_
      refine Y.move (by rfl) ?_
      refine XL.s rfl ?_
      refine Y.call (by rfl) ok45 (shard_ok _ _ i d0 _ hN34.bs (by have := hlen d0 s0 hk2; omega) (by omega)) ?_
      rintro v54 w54 ⟨hE54, hB54⟩
      have hO54 := hO.ext (hN34.1.trans hE54)
      refine XL.s rfl ?_
      refine Y.indexL st37 (by rfl) (by rfl) (by omega) ?_
      refine XL.o ?_
      refine Y.storeO one39 (by rfl) (by rfl) hB54.oneC hO54 rfl (by omega) ?_
      intro w56 hO56 hC56 hz56
      have hC56 : Chg (· = g) _ w56 := hC56
      rw [Nat.zero_add] at hO56
      have hz34 := hN34.1.size
      have hz54 := hE54.size
      have hgl : g < wr.heap.size := by obtain ⟨_, hg', _, hlt, _⟩ := hO.at; simp [Value.ownBlock] at hg'; rw [hg']; exact hlt
      have hR56 : RowsAll (fun b => ¬ b = g) w56 (us.set i v54) ((shardsK ms nm away n i).set i (shardP i d0)) := RowsAll.set ((hB54.chg hC56 (fun b _ hb e => by simp only [Since] at hb; omega)).mono (fun b _ hb e => by simp only [Since] at hb; omega)) (((hRw.ext (hN34.1.trans hE54))).imp fun _ _ h => h.chg hC56 (fun b _ hb e => hb e))
      refine XL.nil ?_
      refine QN.blk ?_
      refine QN.next ?_
      refine XC.region ?_
      show XL _ _ _ _ (List.cons _ _) _ _
      refine XL.s rfl ?_
      refine Y.add (by rfl) (by rfl) (wrap64 (by omega) (by omega)) ?_
      refine XL.s rfl ?_
      refine Y.move (by rfl) ?_
      refine XL.nil ?_
      refine QN.again ((i + 1, us.set i v54)) ?_ ?_ ?_
      ·exact ⟨rfl, rfl, rfl, rfl, rfl, rfl, by rw [hasAny_succ, ha, Bool.true_or]; rfl, rfl, trivial⟩
      ·exact ⟨by omega, ((hE.trans hN34.1).trans hE54).chgNew hC56 (fun x hx => by omega), hO56, by rw [shardsK_set hi', hsn]; exact hR56⟩
      ·first | omega | (simp only []; omega) | (simp; omega)
   ·skip
    have ha : hasAny ms nm i = false := by simpa using ha
    simp only [ha]
    refine XC.block ?_
    refine XC.seq ?_
    refine XC.region ?_
    show XL _ _ _ _ (List.cons _ _) _ _
    refine XL.s rfl ?_
    refine Y.move (by rfl) ?_
    refine XL.s rfl ?_
    refine Y.indexR st31 (by rfl) (by rfl) hXi.row ⟨by omega, by omega⟩ (by rw [Int.toNat_natCast]; exact hd) ?_
    intro b28 o28 hs28 hc28
    refine XL.s rfl ?_
    refine Y.load one41 (by rfl) (by assumption) ?_
    refine XL.s rfl ?_
    refine Y.assign (by rfl) ?_
    refine XL.s rfl ?_
    refine Y.assign (by rfl) ?_
    refine XL.nil ?_
    refine QN.next ?_
    refine XC.seq ?_
    by_cases hk : ms i ([98, 46] ++ nm) = none
    ·skip
     have hkk : (ms i ([98, 46] ++ nm)).isSome = false := by rw [hk]; rfl
     have hsn : shardOf ms nm away i = [] := by simp only [shardOf, shardAt, hk]; split <;> rfl
     refine XC.region ?_
     show XL _ _ _ _ (List.cons _ _) _ _
     refine XL.s rfl ?_
     refine Y.move (by rfl) ?_
     refine XL.s rfl ?_
     refine Y.move (by rfl) ?_
     refine XL.s rfl ?_
     refine Y.addS (by rfl) (by rfl) (by simp; omega) ?_
     refine XL.s rfl ?_
     refine Y.call (by rfl) ok23 (readA_no _ _ _ _ _ _ ([98, 46] ++ nm) _ hD hk) ?_
     rintro v34 w34 ⟨rfl, hE34⟩
     refine XL.s rfl ?_
     refine Y.move (by rfl) ?_
     refine XL.s rfl ?_
     refine Y.extract (by rfl) (by rfl) ?_
     refine XL.s rfl ?_
     refine Y.extract (by rfl) (by rfl) ?_
     refine XL.s rfl ?_
     refine Y.assign (by rfl) ?_
     refine XL.s rfl ?_
     refine Y.assign (by rfl) ?_
     refine XL.nil ?_
     refine QN.next ?_
     refine XC.seq ?_
     refine XC.region ?_
     show XL _ _ _ _ (List.cons _ _) _ _
     refine XL.s rfl ?_
     refine Y.move (by rfl) ?_
     refine XL.s rfl ?_
     refine Y.move (by rfl) ?_
     refine XL.gt rfl rfl rfl rfl ?_
     refine Y.move (by rfl) ?_
     refine XL.gt rfl rfl rfl rfl ?_
     refine Y.eql (by rfl) (by rfl) ?_
     refine XL.s rfl ?_
     refine Y.pickF (by rfl) rfl (by rfl) ?_
     refine XL.s rfl ?_
     refine Y.assign (by rfl) ?_
     refine XL.nil ?_
     refine QN.next ?_
     refine XC.seq ?_
     refine XC.region ?_
     show XL _ _ _ _ (List.cons _ _) _ _
     refine XL.s rfl ?_
     refine Y.move (by rfl) ?_
     refine XL.s rfl ?_
     refine Y.eql (by rfl) (by rfl) ?_
     refine XL.s rfl ?_
     refine Y.move (by rfl) ?_
     refine XL.gf rfl rfl rfl rfl ?_
     refine XL.gf rfl rfl rfl rfl ?_
     refine XL.gf rfl rfl rfl rfl ?_
     refine XL.gf rfl rfl rfl rfl ?_
     refine XL.s rfl ?_
     refine Y.pickF (by rfl) rfl (by rfl) ?_
     refine XL.nil ?_
     refine QN.next ?_
     refine XC.condF rfl rfl ?_
     refine XC.skip ?_
     refine QN.blk ?_
     refine QN.next ?_
     refine XC.region ?_
     show XL _ _ _ _ (List.cons _ _) _ _
     refine XL.s rfl ?_
     refine Y.add (by rfl) (by rfl) (wrap64 (by omega) (by omega)) ?_
     refine XL.s rfl ?_
     refine Y.move (by rfl) ?_
     refine XL.nil ?_
     refine QN.again ((i + 1, us)) ?_ ?_ ?_
     ·exact ⟨rfl, rfl, rfl, rfl, rfl, rfl, by rw [hasAny_succ, ha, Bool.false_or, hkk]; rfl, rfl, trivial⟩
     ·exact ⟨by omega, hE.trans hE34, hO.ext hE34, by rw [shardsK_nil hsn]; exact hRw.ext hE34⟩
     ·first | omega | (simp only []; omega) | (simp; omega)
    ·skip
     obtain ⟨⟨d0, s0⟩, hk2⟩ := Option.ne_none_iff_exists'.1 hk
     have hkk : (ms i ([98, 46] ++ nm)).isSome = true := by rw [hk2]; rfl
     by_cases him : (i : Int) ∈ away
     ·skip
      refine XC.region ?_
      show XL _ _ _ _ (List.cons _ _) _ _
      refine XL.s rfl ?_
      refine Y.move (by rfl) ?_
      refine XL.s rfl ?_
      refine Y.move (by rfl) ?_
      refine XL.s rfl ?_
      refine Y.addS (by rfl) (by rfl) (by simp; omega) ?_
      refine XL.s rfl ?_
      refine Y.call (by rfl) ok23 (readA_yes _ _ _ _ _ _ ([98, 46] ++ nm) _ hD d0 s0 hk2 (by have := hU i hi'; omega)) ?_
      rintro v34 w34 ⟨b34, rfl, hN34⟩
      refine XL.s rfl ?_
      refine Y.move (by rfl) ?_
      refine XL.s rfl ?_
      refine Y.extract (by rfl) (by rfl) ?_
      refine XL.s rfl ?_
      refine Y.extract (by rfl) (by rfl) ?_
      refine XL.s rfl ?_
      refine Y.assign (by rfl) ?_
      refine XL.s rfl ?_
      refine Y.assign (by rfl) ?_
      refine XL.nil ?_
      refine QN.next ?_
      refine XC.seq ?_
      refine XC.region ?_
      show XL _ _ _ _ (List.cons _ _) _ _
      refine XL.s rfl ?_
      refine Y.move (by rfl) ?_
      refine XL.s rfl ?_
      refine Y.move (by rfl) ?_
      refine XL.gt rfl rfl rfl rfl ?_
      refine Y.move (by rfl) ?_
      refine XL.gt rfl rfl rfl rfl ?_
      refine Y.eql (by rfl) (by rfl) ?_
      refine XL.s rfl ?_
      refine Y.pickF (by rfl) rfl (by rfl) ?_
      refine XL.s rfl ?_
      refine Y.assign (by rfl) ?_
      refine XL.nil ?_
      refine QN.next ?_
      refine XC.seq ?_
      refine XC.region ?_
      show XL _ _ _ _ (List.cons _ _) _ _
      refine XL.s rfl ?_
      refine Y.move (by rfl) ?_
      refine XL.s rfl ?_
      refine Y.eql (by rfl) (by rfl) ?_
      refine XL.s rfl ?_
      refine Y.move (by rfl) ?_
      refine XL.gt rfl rfl rfl rfl ?_
      refine Y.move (by rfl) ?_
      refine XL.gt rfl rfl rfl rfl ?_
      refine Y.move (by rfl) ?_
      refine XL.gt rfl rfl rfl rfl ?_
      refine Y.call (by rfl) ok54 (containsI_ok _ _ away (i : Int) _ (haw.ext (hE.trans hN34.1))) ?_
      rintro v47 w47 ⟨rfl, rfl⟩
      have hsn : shardOf ms nm away i = [] := by simp only [shardOf, if_pos him]
      refine XL.gt rfl rfl rfl rfl ?_
      refine Y.not (by rfl) ?_
      refine XL.s rfl ?_
      refine Y.pickT (by rfl) rfl (by rfl) ?_
      refine XL.nil ?_
      refine QN.next ?_
      refine XC.condF rfl (by simp [him]) ?_
      refine XC.skip ?_
      refine QN.blk ?_
      refine QN.next ?_
      refine XC.region ?_
      show XL _ _ _ _ (List.cons _ _) _ _
      refine XL.s rfl ?_
      refine Y.add (by rfl) (by rfl) (wrap64 (by omega) (by omega)) ?_
      refine XL.s rfl ?_
      refine Y.move (by rfl) ?_
      refine XL.nil ?_
      refine QN.again ((i + 1, us)) ?_ ?_ ?_
      ·exact ⟨rfl, rfl, rfl, rfl, rfl, rfl, by rw [hasAny_succ, ha, Bool.false_or, hkk]; rfl, rfl, trivial⟩
      ·exact ⟨by omega, hE.trans hN34.1, hO.ext hN34.1, by rw [shardsK_nil hsn]; exact hRw.ext hN34.1⟩
      ·first | omega | (simp only []; omega) | (simp; omega)
     ·skip
      refine XC.region ?_
      show XL _ _ _ _ (List.cons _ _) _ _
      refine XL.s rfl ?_
      refine Y.move (by rfl) ?_
      refine XL.s rfl ?_
      refine Y.move (by rfl) ?_
      refine XL.s rfl ?_
      refine Y.addS (by rfl) (by rfl) (by simp; omega) ?_
      refine XL.s rfl ?_
      refine Y.call (by rfl) ok23 (readA_yes _ _ _ _ _ _ ([98, 46] ++ nm) _ hD d0 s0 hk2 (by have := hU i hi'; omega)) ?_
      rintro v34 w34 ⟨b34, rfl, hN34⟩
      refine XL.s rfl ?_
      refine Y.move (by rfl) ?_
      refine XL.s rfl ?_
      refine Y.extract (by rfl) (by rfl) ?_
      refine XL.s rfl ?_
      refine Y.extract (by rfl) (by rfl) ?_
      refine XL.s rfl ?_
      refine Y.assign (by rfl) ?_
      refine XL.s rfl ?_
      refine Y.assign (by rfl) ?_
      refine XL.nil ?_
      refine QN.next ?_
      refine XC.seq ?_
      refine XC.region ?_
      show XL _ _ _ _ (List.cons _ _) _ _
      refine XL.s rfl ?_
      refine Y.move (by rfl) ?_
      refine XL.s rfl ?_
      refine Y.move (by rfl) ?_
      refine XL.gt rfl rfl rfl rfl ?_
      refine Y.move (by rfl) ?_
      refine XL.gt rfl rfl rfl rfl ?_
      refine Y.eql (by rfl) (by rfl) ?_
      refine XL.s rfl ?_
      refine Y.pickF (by rfl) rfl (by rfl) ?_
      refine XL.s rfl ?_
      refine Y.assign (by rfl) ?_
      refine XL.nil ?_
      refine QN.next ?_
      refine XC.seq ?_
      refine XC.region ?_
      show XL _ _ _ _ (List.cons _ _) _ _
      refine XL.s rfl ?_
      refine Y.move (by rfl) ?_
      refine XL.s rfl ?_
      refine Y.eql (by rfl) (by rfl) ?_
      refine XL.s rfl ?_
      refine Y.move (by rfl) ?_
      refine XL.gt rfl rfl rfl rfl ?_
      refine Y.move (by rfl) ?_
      refine XL.gt rfl rfl rfl rfl ?_
      refine Y.move (by rfl) ?_
      refine XL.gt rfl rfl rfl rfl ?_
      refine Y.call (by rfl) ok54 (containsI_ok _ _ away (i : Int) _ (haw.ext (hE.trans hN34.1))) ?_
      rintro v47 w47 ⟨rfl, rfl⟩
      have hsn : shardOf ms nm away i = shardP i d0 := by simp only [shardOf, if_neg him, shardAt, hk2]
      refine XL.gt rfl rfl rfl rfl ?_
      refine Y.not (by rfl) ?_
      refine XL.s rfl ?_
      refine Y.pickT (by rfl) rfl (by rfl) ?_
      refine XL.nil ?_
      refine QN.next ?_
      refine XC.condT rfl (by simp [him]) ?_
      refine XC.region ?_
      show XL _ _ _ _ (List.cons _ _) _ _
      refine XL.s rfl ?_
      refine Y.move (by rfl) ?_
      refine XL.s rfl ?_
      refine Y.move (by rfl) ?_
      refine XL.s rfl ?_
      refine Y.move (by rfl) ?_
      refine XL.s rfl ?_
      refine Y.move (by rfl) ?_
      refine XL.s rfl ?_
      refine Y.call (by rfl) ok45 (shard_ok _ _ i d0 _ hN34.bs (by have := hlen d0 s0 hk2; omega) (by omega)) ?_
      rintro v54 w54 ⟨hE54, hB54⟩
      have hO54 := hO.ext (hN34.1.trans hE54)
      refine XL.s rfl ?_
      refine Y.indexL st37 (by rfl) (by rfl) (by omega) ?_
      refine XL.o ?_
      refine Y.storeO one39 (by rfl) (by rfl) hB54.oneC hO54 rfl (by omega) ?_
      intro w56 hO56 hC56 hz56
      have hC56 : Chg (· = g) _ w56 := hC56
      rw [Nat.zero_add] at hO56
      have hz34 := hN34.1.size
      have hz54 := hE54.size
      have hgl : g < wr.heap.size := by obtain ⟨_, hg', _, hlt, _⟩ := hO.at; simp [Value.ownBlock] at hg'; rw [hg']; exact hlt
      have hR56 : RowsAll (fun b => ¬ b = g) w56 (us.set i v54) ((shardsK ms nm away n i).set i (shardP i d0)) := RowsAll.set ((hB54.chg hC56 (fun b _ hb e => by simp only [Since] at hb; omega)).mono (fun b _ hb e => by simp only [Since] at hb; omega)) (((hRw.ext (hN34.1.trans hE54))).imp fun _ _ h => h.chg hC56 (fun b _ hb e => hb e))
      refine XL.nil ?_
      refine QN.blk ?_
      refine QN.next ?_
      refine XC.region ?_
      show XL _ _ _ _ (List.cons _ _) _ _
      refine XL.s rfl ?_
      refine Y.add (by rfl) (by rfl) (wrap64 (by omega) (by omega)) ?_
      refine XL.s rfl ?_
      refine Y.move (by rfl) ?_
      refine XL.nil ?_
      refine QN.again ((i + 1, us.set i v54)) ?_ ?_ ?_
      ·exact ⟨rfl, rfl, rfl, rfl, rfl, rfl, by rw [hasAny_succ, ha, Bool.false_or, hkk]; rfl, rfl, trivial⟩
      ·exact ⟨by omega, ((hE.trans hN34.1).trans hE54).chgNew hC56 (fun x hx => by omega), hO56, by rw [shardsK_set hi', hsn]; exact hR56⟩
      ·first | omega | (simp only []; omega) | (simp; omega)
  ·intro hc
   try simp only [decide_eq_true_eq, decide_eq_false_iff_not, Bool.not_eq_true', Bool.not_eq_false', Bool.not_eq_eq_eq_not, Bool.not_true, Bool.not_false, Bool.or_eq_true, Bool.and_eq_true, Bool.or_eq_false_iff] at hc
   have hin : i = n := by omega
   subst hin
   rw [shardsK_all] at hRw
   refine XC.exit ?_
   refine QN.thenE ?_
   refine QN.thenE ?_
   refine QN.hit ?_
   refine QN.next ?_
   refine XC.seq ?_
   refine XC.region ?_
   show XL _ _ _ _ (List.cons _ _) _ _
   refine XL.s rfl ?_
   refine Y.move (by rfl) ?_
   refine XL.s rfl ?_
   refine Y.move (by rfl) ?_
   refine XL.s rfl ?_
   refine Y.assign (by rfl) ?_
   refine XL.s rfl ?_
   refine Y.assign (by rfl) ?_
   refine XL.nil ?_
   refine QN.next ?_
   refine XC.ret ?_
   refine QN.doneN (fn := Tryz.f33) (R := R) (.inl rfl) rfl rfl ?_
   refine hR _ _ ?_
   exact ⟨_, rfl, ⟨us, (hO.row.mono fun _ _ _ => trivial).cast (by simp [shardsP]) rfl, hRw.imp fun _ _ h => h.mono fun _ _ _ => trivial⟩, hE⟩
end Go.Proofs.YtchammpamigonaaGreatX
end
section
set_option linter.unusedVariables false
set_option linter.unusedSimpArgs false
set_option maxRecDepth 10000
set_option maxHeartbeats 4000000
namespace Go.Proofs.YtchammpamigonaaGreatX
open Go Go.RowKit Go.Proofs
theorem sget_none (G : Nat → Prop) (tv : Value) (K F n most : Nat) (ms : Nat → Fm) (U c : Nat → Nat) (w : World) (hS : StoreA 66 79 82 5 G w tv K F n most ms U c) (hm : most ≤ 65536) (hU : ∀ i, i < n → U i ≤ 65536) (hn : n ≤ 7) (nm : List UInt8) (Sa : Nat → Prop) (ua : Value) (away : List Int) (haw : Zs Sa w ua away) (hnm : 1 ≤ nm.length ∧ nm.length ≤ 16) (hk : 1 ≤ K) (hnn : n = K + 2 * F) (h0 : hasAny ms nm n = false) :
  Rets Tryz.prog 14 #[tv, strV nm, ua] w fun v w' => v = .tuple #[strV [], .int .i64 5] ∧ Ext w w' := by
 refine Rets.enter (args := [tv, strV nm, ua]) (n := 30) Tryz.func14 rfl rfl rfl ?_
 intro R hR
 show XC _ _ _ _ [(0, tv), (1, strV nm), (2, ua)] _
 obtain ⟨tb, av, dvs, Fr, rfl, hX⟩ := id hS
 obtain ⟨qa, capa, rfl⟩ := hX.row.val
 refine XC.seq ?_
 refine XC.region ?_
 show XL _ _ _ _ (List.cons _ _) _ _
 refine XL.s rfl ?_
 refine Y.assign (by rfl) ?_
 refine XL.s rfl ?_
 refine Y.assign (by rfl) ?_
 refine XL.nil ?_
 refine QN.next ?_
 refine XC.seq ?_
 refine XC.seq ?_
 refine XC.region ?_
 show XL _ _ _ _ (List.cons _ _) _ _
 refine XL.s rfl ?_
 refine Y.move (by rfl) ?_
 refine XL.s rfl ?_
 refine Y.call (by rfl) ok29 (snamed_ok nm _ (by omega)) ?_
 rintro v11 w11 ⟨rfl, rfl⟩
 refine XL.s rfl ?_
 refine Y.not (by rfl) ?_
 refine XL.nil ?_
 refine QN.next ?_
 refine XC.condF rfl (by rw [decide_eq_true hnm]; rfl) ?_
 refine XC.skip ?_
 refine QN.next ?_
 refine XC.seq ?_
 refine XC.region ?_
 show XL _ _ _ _ (List.cons _ _) _ _
 refine XL.s rfl ?_
 refine Y.move (by rfl) ?_
 refine XL.s rfl ?_
 refine Y.move (by rfl) ?_
 refine XL.s rfl ?_
 refine Y.move (by rfl) ?_
 refine XL.s rfl ?_
 refine Y.call (by rfl) ok33 (shards_ok _ _ K F n most ms U c _ hS hm hU hn nm _ _ away haw (by omega) (by omega)) ?_
 rintro v17 w17 ⟨a17, rfl, hR17, hE17⟩
 refine XL.s rfl ?_
 refine Y.move (by rfl) ?_
 refine XL.s rfl ?_
 refine Y.extract (by rfl) (by rfl) ?_
 refine XL.s rfl ?_
 refine Y.extract (by rfl) (by rfl) ?_
 refine XL.s rfl ?_
 refine Y.assign (by rfl) ?_
 refine XL.s rfl ?_
 refine Y.assign (by rfl) ?_
 refine XL.nil ?_
 refine QN.next ?_
 refine XC.seq ?_
 refine XC.seq ?_
 refine XC.region ?_
 show XL _ _ _ _ (List.cons _ _) _ _
 refine XL.s rfl ?_
 refine Y.move (by rfl) ?_
 refine XL.s rfl ?_
 refine Y.not (by rfl) ?_
 refine XL.nil ?_
 refine QN.next ?_
 refine XC.condT rfl (by rw [h0]; rfl) ?_
 refine XC.seq ?_
 refine XC.region ?_
 show XL _ _ _ _ (List.cons _ _) _ _
 refine XL.s rfl ?_
 refine Y.assign (by rfl) ?_
 refine XL.s rfl ?_
 refine Y.assign (by rfl) ?_
 refine XL.nil ?_
 refine QN.next ?_
 refine XC.ret ?_
 refine QN.doneN (fn := Tryz.f14) (R := R) (.inl rfl) rfl rfl ?_
 refine hR _ _ ?_
 exact ⟨rfl, hE17⟩
theorem sget_short (G : Nat → Prop) (tv : Value) (K F n most : Nat) (ms : Nat → Fm) (U c : Nat → Nat) (w : World) (hS : StoreA 66 79 82 5 G w tv K F n most ms U c) (hm : most ≤ 65536) (hU : ∀ i, i < n → U i ≤ 65536) (hn : n ≤ 7) (nm : List UInt8) (Sa : Nat → Prop) (ua : Value) (away : List Int) (haw : Zs Sa w ua away) (hnm : 1 ≤ nm.length ∧ nm.length ≤ 16) (hk : 1 ≤ K) (hnn : n = K + 2 * F) (h0 : hasAny ms nm n = true) (hs : (thereP (shardsP ms nm away n)).length < K) :
  Rets Tryz.prog 14 #[tv, strV nm, ua] w fun v w' => v = .tuple #[strV [], .int .i64 3] ∧ Ext w w' := by
 refine Rets.enter (args := [tv, strV nm, ua]) (n := 30) Tryz.func14 rfl rfl rfl ?_
 intro R hR
 show XC _ _ _ _ [(0, tv), (1, strV nm), (2, ua)] _
 obtain ⟨tb, av, dvs, Fr, rfl, hX⟩ := id hS
 obtain ⟨qa, capa, rfl⟩ := hX.row.val
 refine XC.seq ?_
 refine XC.region ?_
 show XL _ _ _ _ (List.cons _ _) _ _
 refine XL.s rfl ?_
 refine Y.assign (by rfl) ?_
 refine XL.s rfl ?_
 refine Y.assign (by rfl) ?_
 refine XL.nil ?_
 refine QN.next ?_
 refine XC.seq ?_
 refine XC.seq ?_
 refine XC.region ?_
 show XL _ _ _ _ (List.cons _ _) _ _
 refine XL.s rfl ?_
 refine Y.move (by rfl) ?_
 refine XL.s rfl ?_
 refine Y.call (by rfl) ok29 (snamed_ok nm _ (by omega)) ?_
 rintro v11 w11 ⟨rfl, rfl⟩
 refine XL.s rfl ?_
 refine Y.not (by rfl) ?_
 refine XL.nil ?_
 refine QN.next ?_
 refine XC.condF rfl (by rw [decide_eq_true hnm]; rfl) ?_
 refine XC.skip ?_
 refine QN.next ?_
 refine XC.seq ?_
 refine XC.region ?_
 show XL _ _ _ _ (List.cons _ _) _ _
 refine XL.s rfl ?_
 refine Y.move (by rfl) ?_
 refine XL.s rfl ?_
 refine Y.move (by rfl) ?_
 refine XL.s rfl ?_
 refine Y.move (by rfl) ?_
 refine XL.s rfl ?_
 refine Y.call (by rfl) ok33 (shards_ok _ _ K F n most ms U c _ hS hm hU hn nm _ _ away haw (by omega) (by omega)) ?_
 rintro v17 w17 ⟨a17, rfl, hR17, hE17⟩
 refine XL.s rfl ?_
 refine Y.move (by rfl) ?_
 refine XL.s rfl ?_
 refine Y.extract (by rfl) (by rfl) ?_
 refine XL.s rfl ?_
 refine Y.extract (by rfl) (by rfl) ?_
 refine XL.s rfl ?_
 refine Y.assign (by rfl) ?_
 refine XL.s rfl ?_
 refine Y.assign (by rfl) ?_
 refine XL.nil ?_
 refine QN.next ?_
 refine XC.seq ?_
 refine XC.seq ?_
 refine XC.region ?_
 show XL _ _ _ _ (List.cons _ _) _ _
 refine XL.s rfl ?_
 refine Y.move (by rfl) ?_
 refine XL.s rfl ?_
 refine Y.not (by rfl) ?_
 refine XL.nil ?_
 refine QN.next ?_
 refine XC.condF rfl (by rw [h0]; rfl) ?_
 refine XC.skip ?_
 refine QN.next ?_
 refine XC.seq ?_
 refine XC.region ?_
 show XL _ _ _ _ (List.cons _ _) _ _
 refine XL.s rfl ?_
 refine Y.move (by rfl) ?_
 refine XL.s rfl ?_
 refine Y.nilCheck (by rfl) ?_
 refine XL.s rfl ?_
 refine Y.fieldAddr fld66_0 (by rfl) ?_
 refine XL.s rfl ?_
 refine Y.loadA agg23 (by rfl) rfl (three01 (hX.ext hE17).cell) ?_
 refine XL.s rfl ?_
 refine Y.move (by rfl) ?_
 refine XL.s rfl ?_
 refine Y.call (by rfl) ok34 (dec_short K F _ _ _ _ hk (by omega) hR17 (by simp [shardsP, hnn]) hs) ?_
 rintro v27 w27 ⟨rfl, hE27⟩
 refine XL.s rfl ?_
 refine Y.extract (by rfl) (by rfl) ?_
 refine XL.s rfl ?_
 refine Y.extract (by rfl) (by rfl) ?_
 refine XL.s rfl ?_
 refine Y.assign (by rfl) ?_
 refine XL.s rfl ?_
 refine Y.assign (by rfl) ?_
 refine XL.nil ?_
 refine QN.next ?_
 refine XC.ret ?_
 refine QN.doneN (fn := Tryz.f14) (R := R) (.inl rfl) rfl rfl ?_
 refine hR _ _ ?_
 exact ⟨rfl, hE17.trans hE27⟩
theorem sget_ok (G : Nat → Prop) (tv : Value) (K F n most : Nat) (ms : Nat → Fm) (U c : Nat → Nat) (w : World) (hS : StoreA 66 79 82 5 G w tv K F n most ms U c) (hm : most ≤ 65536) (hU : ∀ i, i < n → U i ≤ 65536) (hn : n ≤ 7) (nm : List UInt8) (Sa : Nat → Prop) (ua : Value) (away : List Int) (haw : Zs Sa w ua away) (hnm : 1 ≤ nm.length ∧ nm.length ≤ 16) (hk : 1 ≤ K) (hnn : n = K + 2 * F) (h0 : hasAny ms nm n = true) (l : List UInt8) (hl : l.length ≤ 512) (ht : K ≤ (thereP (shardsP ms nm away n)).length) (ha : ∀ i ∈ thereP (shardsP ms nm away n), (shardsP ms nm away n).getD i [] = (encP K (K + 2 * F) l).getD i []) (B : List (List UInt8)) (hi : invertP (rowsP (codingP K (K + 2 * F)) ((thereP (shardsP ms nm away n)).take K)) = some B) (hBl : B.length = K) (hBk : ∀ r ∈ B, r.length = K) (hB : matMul B (rowsP (shardsP ms nm away n) ((thereP (shardsP ms nm away n)).take K)) = piecesP K l) :
  Rets Tryz.prog 14 #[tv, strV nm, ua] w fun v w' => v = .tuple #[strV l, .int .i64 0] ∧ Ext w w' := by
 refine Rets.enter (args := [tv, strV nm, ua]) (n := 30) Tryz.func14 rfl rfl rfl ?_
 intro R hR
 show XC _ _ _ _ [(0, tv), (1, strV nm), (2, ua)] _
 obtain ⟨tb, av, dvs, Fr, rfl, hX⟩ := id hS
 obtain ⟨qa, capa, rfl⟩ := hX.row.val
 refine XC.seq ?_
 refine XC.region ?_
 show XL _ _ _ _ (List.cons _ _) _ _
 refine XL.s rfl ?_
 refine Y.assign (by rfl) ?_
 refine XL.s rfl ?_
 refine Y.assign (by rfl) ?_
 refine XL.nil ?_
 refine QN.next ?_
 refine XC.seq ?_
 refine XC.seq ?_
 refine XC.region ?_
 show XL _ _ _ _ (List.cons _ _) _ _
 refine XL.s rfl ?_
 refine Y.move (by rfl) ?_
 refine XL.s rfl ?_
 refine Y.call (by rfl) ok29 (snamed_ok nm _ (by omega)) ?_
 rintro v11 w11 ⟨rfl, rfl⟩
 refine XL.s rfl ?_
 refine Y.not (by rfl) ?_
 refine XL.nil ?_
 refine QN.next ?_
 refine XC.condF rfl (by rw [decide_eq_true hnm]; rfl) ?_
 refine XC.skip ?_
 refine QN.next ?_
 refine XC.seq ?_
 refine XC.region ?_
 show XL _ _ _ _ (List.cons _ _) _ _
 refine XL.s rfl ?_
 refine Y.move (by rfl) ?_
 refine XL.s rfl ?_
 refine Y.move (by rfl) ?_
 refine XL.s rfl ?_
 refine Y.move (by rfl) ?_
 refine XL.s rfl ?_
 refine Y.call (by rfl) ok33 (shards_ok _ _ K F n most ms U c _ hS hm hU hn nm _ _ away haw (by omega) (by omega)) ?_
 rintro v17 w17 ⟨a17, rfl, hR17, hE17⟩
 refine XL.s rfl ?_
 refine Y.move (by rfl) ?_
 refine XL.s rfl ?_
 refine Y.extract (by rfl) (by rfl) ?_
 refine XL.s rfl ?_
 refine Y.extract (by rfl) (by rfl) ?_
 refine XL.s rfl ?_
 refine Y.assign (by rfl) ?_
 refine XL.s rfl ?_
 refine Y.assign (by rfl) ?_
 refine XL.nil ?_
 refine QN.next ?_
 refine XC.seq ?_
 refine XC.seq ?_
 refine XC.region ?_
 show XL _ _ _ _ (List.cons _ _) _ _
 refine XL.s rfl ?_
 refine Y.move (by rfl) ?_
 refine XL.s rfl ?_
 refine Y.not (by rfl) ?_
 refine XL.nil ?_
 refine QN.next ?_
 refine XC.condF rfl (by rw [h0]; rfl) ?_
 refine XC.skip ?_
 refine QN.next ?_
 refine XC.seq ?_
 refine XC.region ?_
 show XL _ _ _ _ (List.cons _ _) _ _
 refine XL.s rfl ?_
 refine Y.move (by rfl) ?_
 refine XL.s rfl ?_
 refine Y.nilCheck (by rfl) ?_
 refine XL.s rfl ?_
 refine Y.fieldAddr fld66_0 (by rfl) ?_
 refine XL.s rfl ?_
 refine Y.loadA agg23 (by rfl) rfl (three01 (hX.ext hE17).cell) ?_
 refine XL.s rfl ?_
 refine Y.move (by rfl) ?_
 refine XL.s rfl ?_
 refine Y.call (by rfl) ok34 (dec_ok K F _ _ _ _ hk (by omega) hR17 (by simp [shardsP, hnn]) l hl ht ha B hi hBl hBk hB) ?_
 rintro v27 w27 ⟨rfl, hE27⟩
 refine XL.s rfl ?_
 refine Y.extract (by rfl) (by rfl) ?_
 refine XL.s rfl ?_
 refine Y.extract (by rfl) (by rfl) ?_
 refine XL.s rfl ?_
 refine Y.assign (by rfl) ?_
 refine XL.s rfl ?_
 refine Y.assign (by rfl) ?_
 refine XL.nil ?_
 refine QN.next ?_
 refine XC.ret ?_
 refine QN.doneN (fn := Tryz.f14) (R := R) (.inl rfl) rfl rfl ?_
 refine hR _ _ ?_
 exact ⟨rfl, hE17.trans hE27⟩
theorem sscrub_clean (G : Nat → Prop) (tv : Value) (K F n most : Nat) (ms : Nat → Fm) (U c : Nat → Nat) (w : World) (hS : StoreA 66 79 82 5 G w tv K F n most ms U c) (hm : most ≤ 65536) (hU : ∀ i, i < n → U i ≤ 65536) (hn : n ≤ 7) (i : Nat) (hi : i < n) (hc12 : c i ≤ 12) (hnd : ∀ x, ms i x ≠ none → 1 ≤ x.length ∧ x.length ≤ 24) (hcl : ∀ x, ms i x ≠ none → badF i (ms i) x = false) :
  Rets Tryz.prog 22 #[tv, .int .i64 i] w fun v w' => v = .tuple #[.slice none 0 0, .int .i64 0] ∧ Ext w w' := by
 refine Rets.enter (args := [tv, .int .i64 i]) (n := 69) Tryz.func22 rfl rfl rfl ?_
 intro R hR
 show XC _ _ _ _ [(0, tv), (1, .int .i64 i)] _
 obtain ⟨tb, av, dvs, Fr, rfl, hX⟩ := id hS
 obtain ⟨qa, capa, rfl⟩ := hX.row.val
 refine XC.seq ?_
 refine XC.region ?_
 show XL _ _ _ _ (List.cons _ _) _ _
 refine XL.s rfl ?_
 refine Y.assign (by rfl) ?_
 refine XL.s rfl ?_
 refine Y.assign (by rfl) ?_
 refine XL.nil ?_
 refine QN.next ?_
 refine XC.seq ?_
 refine XC.seq ?_
 refine XC.region ?_
 show XL _ _ _ _ (List.cons _ _) _ _
 refine XL.s rfl ?_
 refine Y.move (by rfl) ?_
 refine XL.s rfl ?_
 refine Y.lss (by rfl) (by rfl) ?_
 refine XL.s rfl ?_
 refine Y.move (by rfl) ?_
 refine XL.gt rfl rfl ya rfl ?_
 refine Y.move (by rfl) ?_
 refine XL.gt rfl rfl ya rfl ?_
 refine Y.move (by rfl) ?_
 refine XL.gt rfl rfl ya rfl ?_
 refine Y.nilCheck (by rfl) ?_
 refine XL.gt rfl rfl ya rfl ?_
 refine Y.fieldAddr fld66_1 (by rfl) ?_
 refine XL.gt rfl rfl ya rfl ?_
 refine Y.load one31 (by rfl) (three2 hX.cell) ?_
 refine XL.gt rfl rfl ya rfl ?_
 refine Y.len Tryz.underlying31 (by rfl) hX.row ?_
 refine XL.gt rfl rfl ya rfl ?_
 refine Y.geq (by rfl) (by rfl) ?_
 refine XL.s rfl ?_
 refine Y.pickF (by rfl) ya (by rfl) ?_
 refine XL.nil ?_
 refine QN.next ?_
 refine XC.condF rfl ya ?_
 obtain ⟨d, Fi, hd, hD, hFi, hset⟩ := hX.get hi
 refine XC.skip ?_
 refine QN.next ?_
 refine XC.seq ?_
 refine XC.region ?_
 show XL _ _ _ _ (List.cons _ _) _ _
 refine XL.s rfl ?_
 refine Y.assign (by rfl) ?_
 refine XL.nil ?_
 refine QN.next ?_
 refine XC.seq ?_
 refine XC.region ?_
 show XL _ _ _ _ (List.cons _ _) _ _
 refine XL.s rfl ?_
 refine Y.move (by rfl) ?_
 refine XL.s rfl ?_
 refine Y.nilCheck (by rfl) ?_
 refine XL.s rfl ?_
 refine Y.fieldAddr fld66_1 (by rfl) ?_
 refine XL.s rfl ?_
 refine Y.load one31 (by rfl) (three2 hX.cell) ?_
 refine XL.s rfl ?_
 refine Y.move (by rfl) ?_
 refine XL.s rfl ?_
 refine Y.indexR st31 (by rfl) (by rfl) hX.row ⟨by omega, by omega⟩ (by rw [Int.toNat_natCast]; exact hd) ?_
 intro b30 o30 hs30 hc30
 refine XL.s rfl ?_
 refine Y.load one41 (by rfl) (by assumption) ?_
 refine XL.s rfl ?_
 refine Y.assign (by rfl) ?_
 refine XL.nil ?_
 refine QN.next ?_
 refine XC.seq ?_
 refine XC.seq ?_
 refine XC.region ?_
 show XL _ _ _ _ (List.cons _ _) _ _
 refine XL.s rfl ?_
 refine Y.move (by rfl) ?_
 refine XL.s rfl ?_
 refine Y.call (by rfl) ok43 (namesA _ _ _ _ _ _ _ hD hc12) ?_
 rintro v33 w33 ⟨ss, hnod, hmem, hsl, hN33⟩
 obtain ⟨qn, capn, rfl⟩ := hN33.row.val
 refine XL.s rfl ?_
 refine Y.len Tryz.underlying56 (by rfl) hN33.row ?_
 have hss : ∀ j (hj : j < ss.length), ms i ss[j] ≠ none := fun j hj => (hmem _).1 (List.getElem_mem hj)
 refine XL.s rfl ?_
 refine Y.move (by rfl) ?_
 refine XL.nil ?_
 refine QN.next ?_
 refine XC.block ?_
 refine XC.loop (α := Nat) (fun j => [(0, .pointer (some ⟨tb, 0, none⟩)), (1, .int .i64 (i : Nat)), (6, .slice none 0 0), (7, d), (33, .slice qn ss.length capn), (34, .int .i64 (ss.length : Nat)), (35, .int .i64 j)]) (fun j wr => j ≤ ss.length ∧ Ext w wr ∧ Ext w33 wr) (fun j => ss.length - j) (0) ?_ ?_ ?_
 ·exact ⟨rfl, rfl, rfl, rfl, rfl, rfl, rfl, trivial⟩
 ·exact ⟨by omega, hN33.1, Chg.refl _ _⟩
 ·rintro j wr hI
  obtain ⟨hj, hE, hE3⟩ := hI
  refine XC.seq ?_
  refine XC.region ?_
  show XL _ _ _ _ (List.cons _ _) _ _
  refine XL.s rfl ?_
  refine Y.lss (by rfl) (by rfl) ?_
  refine XL.nil ?_
  refine QN.next ?_
  refine XC.seq ?_
  refine XC.condS rfl ?_ ?_
  ·intro hc
   try simp only [decide_eq_true_eq, decide_eq_false_iff_not, Bool.not_eq_true', Bool.not_eq_false', Bool.not_eq_eq_eq_not, Bool.not_true, Bool.not_false, Bool.or_eq_true, Bool.and_eq_true, Bool.or_eq_false_iff] at hc
   have hj' : j < ss.length := by omega
   obtain ⟨⟨d0, s0⟩, hk⟩ := Option.ne_none_iff_exists'.1 (hss j hj')
   have hbad := hcl _ (hss j hj')
   have hln := hnd _ (hss j hj')
   have hDi := hD.ext hE
   refine XC.skip ?_
   refine QN.next ?_
   refine XC.seq ?_
   by_cases hp : hasP ss[j] [98, 46] = true
   ·skip
    refine XC.block ?_
    refine XC.seq ?_
    refine XC.region ?_
    show XL _ _ _ _ (List.cons _ _) _ _
    refine XL.s rfl ?_
    refine Y.indexR st56 (by rfl) (by rfl) (hN33.row.ext hE3) ⟨by omega, by omega⟩ (by rw [Int.toNat_natCast]; exact strsV_get hj') ?_
    intro b37 o37 hs37 hc37
    refine XL.s rfl ?_
    refine Y.load one9 (by rfl) (by assumption) ?_
    refine XL.s rfl ?_
    refine Y.assign (by rfl) ?_
    refine XL.nil ?_
    refine QN.next ?_
    refine XC.seq ?_
    refine XC.region ?_
    show XL _ _ _ _ (List.cons _ _) _ _
    refine XL.s rfl ?_
    refine Y.move (by rfl) ?_
    refine XL.s rfl ?_
    refine Y.call (by rfl) ok44 (cutPrefix_yes ss[j] [98, 46] _ (by omega) (by decide) hp) ?_
    rintro v41 w41 ⟨rfl, rfl⟩
    refine XL.s rfl ?_
    refine Y.move (by rfl) ?_
    refine XL.s rfl ?_
    refine Y.extract (by rfl) (by rfl) ?_
    refine XL.s rfl ?_
    refine Y.extract (by rfl) (by rfl) ?_
    refine XL.s rfl ?_
    refine Y.assign (by rfl) ?_
    refine XL.s rfl ?_
    refine Y.assign (by rfl) ?_
    refine XL.nil ?_
    refine QN.next ?_
    refine XC.seq ?_
    refine XC.region ?_
    show XL _ _ _ _ (List.cons _ _) _ _
    refine XL.s rfl ?_
    refine Y.move (by rfl) ?_
    refine XL.s rfl ?_
    refine Y.move (by rfl) ?_
    refine XL.s rfl ?_
    refine Y.call (by rfl) ok23 (readA_yes _ _ _ _ _ _ _ _ hDi d0 s0 hk (by have := hU i hi; omega)) ?_
    rintro v47 w47 ⟨b47, rfl, hN47⟩
    refine XL.s rfl ?_
    refine Y.move (by rfl) ?_
    refine XL.s rfl ?_
    refine Y.extract (by rfl) (by rfl) ?_
    refine XL.s rfl ?_
    refine Y.extract (by rfl) (by rfl) ?_
    refine XL.s rfl ?_
    refine Y.assign (by rfl) ?_
    refine XL.s rfl ?_
    refine Y.assign (by rfl) ?_
    refine XL.nil ?_
    refine QN.next ?_
    refine XC.seq ?_
    refine XC.region ?_
    show XL _ _ _ _ (List.cons _ _) _ _
    refine XL.s rfl ?_
    refine Y.move (by rfl) ?_
    refine XL.s rfl ?_
    refine Y.move (by rfl) ?_
    have hdl : d0.length ≤ 65536 := by obtain ⟨fs, _, hL⟩ := hDi; have := hL.lenAt hk; have := hU i hi; omega
    refine XL.gt rfl rfl rfl rfl ?_
    refine Y.move (by rfl) ?_
    refine XL.gt rfl rfl rfl rfl ?_
    refine Y.move (by rfl) ?_
    refine XL.gt rfl rfl rfl rfl ?_
    refine Y.call (by rfl) ok45 (shard_ok _ _ i d0 _ hN47.bs (by omega) (by omega)) ?_
    rintro v54 w54 ⟨hE54, hB54⟩
    refine XL.gt rfl rfl rfl rfl ?_
    refine Y.len Tryz.underlying39 (by rfl) hB54 ?_
    have hne : ¬ (shardP i d0).length = 0 := by intro e; simp [badF, hp, hk, e] at hbad
    refine XL.gt rfl rfl rfl rfl ?_
    refine Y.eql (by rfl) (by rfl) ?_
    refine XL.s rfl ?_
    refine Y.pickT (by rfl) rfl (by rfl) ?_
    refine XL.nil ?_
    refine QN.next ?_
    refine XC.condF rfl ya ?_
    refine XC.skip ?_
    refine QN.blk ?_
    refine QN.next ?_
    refine XC.region ?_
    show XL _ _ _ _ (List.cons _ _) _ _
    refine XL.s rfl ?_
    refine Y.add (by rfl) (by rfl) (wrap64 (by omega) (by omega)) ?_
    refine XL.s rfl ?_
    refine Y.move (by rfl) ?_
    refine XL.nil ?_
    refine QN.again (j + 1) ?_ ?_ ?_
    ·exact ⟨rfl, rfl, rfl, rfl, rfl, rfl, rfl, trivial⟩
    ·exact ⟨by omega, (hE.trans hN47.1).trans hE54, (hE3.trans hN47.1).trans hE54⟩
    ·first | omega | (simp only []; omega) | (simp; omega)
   ·skip
    refine XC.block ?_
    refine XC.seq ?_
    refine XC.region ?_
    show XL _ _ _ _ (List.cons _ _) _ _
    refine XL.s rfl ?_
    refine Y.indexR st56 (by rfl) (by rfl) (hN33.row.ext hE3) ⟨by omega, by omega⟩ (by rw [Int.toNat_natCast]; exact strsV_get hj') ?_
    intro b37 o37 hs37 hc37
    refine XL.s rfl ?_
    refine Y.load one9 (by rfl) (by assumption) ?_
    refine XL.s rfl ?_
    refine Y.assign (by rfl) ?_
    refine XL.nil ?_
    refine QN.next ?_
    refine XC.seq ?_
    refine XC.region ?_
    show XL _ _ _ _ (List.cons _ _) _ _
    refine XL.s rfl ?_
    refine Y.move (by rfl) ?_
    refine XL.s rfl ?_
    refine Y.call (by rfl) ok44 (cutPrefix_no ss[j] [98, 46] _ (by omega) (by decide) (by simpa using hp)) ?_
    rintro v41 w41 ⟨rfl, rfl⟩
    refine XL.s rfl ?_
    refine Y.move (by rfl) ?_
    refine XL.s rfl ?_
    refine Y.extract (by rfl) (by rfl) ?_
    refine XL.s rfl ?_
    refine Y.extract (by rfl) (by rfl) ?_
    refine XL.s rfl ?_
    refine Y.assign (by rfl) ?_
    refine XL.s rfl ?_
    refine Y.assign (by rfl) ?_
    refine XL.nil ?_
    refine QN.next ?_
    refine XC.seq ?_
    refine XC.region ?_
    show XL _ _ _ _ (List.cons _ _) _ _
    refine XL.s rfl ?_
    refine Y.move (by rfl) ?_
    refine XL.s rfl ?_
    refine Y.move (by rfl) ?_
    refine XL.s rfl ?_
    refine Y.call (by rfl) ok23 (readA_yes _ _ _ _ _ _ _ _ hDi d0 s0 hk (by have := hU i hi; omega)) ?_
    rintro v47 w47 ⟨b47, rfl, hN47⟩
    refine XL.s rfl ?_
    refine Y.move (by rfl) ?_
    refine XL.s rfl ?_
    refine Y.extract (by rfl) (by rfl) ?_
    refine XL.s rfl ?_
    refine Y.extract (by rfl) (by rfl) ?_
    refine XL.s rfl ?_
    refine Y.assign (by rfl) ?_
    refine XL.s rfl ?_
    refine Y.assign (by rfl) ?_
    refine XL.nil ?_
    refine QN.next ?_
    refine XC.seq ?_
    refine XC.region ?_
    show XL _ _ _ _ (List.cons _ _) _ _
    refine XL.s rfl ?_
    refine Y.move (by rfl) ?_
    refine XL.s rfl ?_
    refine Y.move (by rfl) ?_
    refine XL.gf rfl rfl rfl rfl ?_
    refine XL.gf rfl rfl rfl rfl ?_
    refine XL.gf rfl rfl rfl rfl ?_
    refine XL.gf rfl rfl rfl rfl ?_
    refine XL.gf rfl rfl rfl rfl ?_
    refine XL.s rfl ?_
    refine Y.pickF (by rfl) rfl (by rfl) ?_
    refine XL.nil ?_
    refine QN.next ?_
    refine XC.condF rfl rfl ?_
    refine XC.skip ?_
    refine QN.blk ?_
    refine QN.next ?_
    refine XC.region ?_
    show XL _ _ _ _ (List.cons _ _) _ _
    refine XL.s rfl ?_
    refine Y.add (by rfl) (by rfl) (wrap64 (by omega) (by omega)) ?_
    refine XL.s rfl ?_
    refine Y.move (by rfl) ?_
    refine XL.nil ?_
    refine QN.again (j + 1) ?_ ?_ ?_
    ·exact ⟨rfl, rfl, rfl, rfl, rfl, rfl, rfl, trivial⟩
    ·exact ⟨by omega, hE.trans hN47.1, hE3.trans hN47.1⟩
    ·first | omega | (simp only []; omega) | (simp; omega)
  ·intro hc
   try simp only [decide_eq_true_eq, decide_eq_false_iff_not, Bool.not_eq_true', Bool.not_eq_false', Bool.not_eq_eq_eq_not, Bool.not_true, Bool.not_false, Bool.or_eq_true, Bool.and_eq_true, Bool.or_eq_false_iff] at hc
   refine XC.exit ?_
   refine QN.thenE ?_
   refine QN.thenE ?_
   refine QN.hit ?_
   refine QN.next ?_
   refine XC.seq ?_
   refine XC.region ?_
   show XL _ _ _ _ (List.cons _ _) _ _
   refine XL.s rfl ?_
   refine Y.move (by rfl) ?_
   refine XL.s rfl ?_
   refine Y.assign (by rfl) ?_
   refine XL.s rfl ?_
   refine Y.assign (by rfl) ?_
   refine XL.nil ?_
   refine QN.next ?_
   refine XC.ret ?_
   refine QN.doneN (fn := Tryz.f22) (R := R) (.inl rfl) rfl rfl ?_
   refine hR _ _ ?_
   exact ⟨rfl, hE⟩
theorem sscrub_ok (G : Nat → Prop) (tv : Value) (K F n most : Nat) (ms : Nat → Fm) (U c : Nat → Nat) (w : World) (hS : StoreA 66 79 82 5 G w tv K F n most ms U c) (hm : most ≤ 65536) (hU : ∀ i, i < n → U i ≤ 65536) (hn : n ≤ 7) (i : Nat) (hi : i < n) (hc12 : c i ≤ 12) (hnd : ∀ x, ms i x ≠ none → 1 ≤ x.length ∧ x.length ≤ 24) (hGb : ∀ b, G b → b < w.heap.size) :
  Rets Tryz.prog 22 #[tv, .int .i64 i] w fun v w' => ∃ ss : List (List UInt8), ss.Nodup ∧ (∀ x, x ∈ ss ↔ ms i x ≠ none) ∧ ∃ a, v = .tuple #[a, .int .i64 0] ∧ Row AnyB w' a (scrubO i (ms i) ss).length (strsV (scrubO i (ms i) ss)) ∧ Chg G w w' ∧ StoreA 66 79 82 5 G w' tv K F n most (fun q => if q = i then scrubM i (ms i) ss else ms q) U c := by
 refine Rets.enter (args := [tv, .int .i64 i]) (n := 69) Tryz.func22 rfl rfl rfl ?_
 intro R hR
 show XC _ _ _ _ [(0, tv), (1, .int .i64 i)] _
 obtain ⟨tb, av, dvs, Fr, rfl, hX⟩ := id hS
 obtain ⟨qa, capa, rfl⟩ := hX.row.val
 refine XC.seq ?_
 refine XC.region ?_
 show XL _ _ _ _ (List.cons _ _) _ _
 refine XL.s rfl ?_
 refine Y.assign (by rfl) ?_
 refine XL.s rfl ?_
 refine Y.assign (by rfl) ?_
 refine XL.nil ?_
 refine QN.next ?_
 refine XC.seq ?_
 refine XC.seq ?_
 refine XC.region ?_
 show XL _ _ _ _ (List.cons _ _) _ _
 refine XL.s rfl ?_
 refine Y.move (by rfl) ?_
 refine XL.s rfl ?_
 refine Y.lss (by rfl) (by rfl) ?_
 refine XL.s rfl ?_
 refine Y.move (by rfl) ?_
 refine XL.gt rfl rfl ya rfl ?_
 refine Y.move (by rfl) ?_
 refine XL.gt rfl rfl ya rfl ?_
 refine Y.move (by rfl) ?_
 refine XL.gt rfl rfl ya rfl ?_
 refine Y.nilCheck (by rfl) ?_
 refine XL.gt rfl rfl ya rfl ?_
 refine Y.fieldAddr fld66_1 (by rfl) ?_
 refine XL.gt rfl rfl ya rfl ?_
 refine Y.load one31 (by rfl) (three2 hX.cell) ?_
 refine XL.gt rfl rfl ya rfl ?_
 refine Y.len Tryz.underlying31 (by rfl) hX.row ?_
 refine XL.gt rfl rfl ya rfl ?_
 refine Y.geq (by rfl) (by rfl) ?_
 refine XL.s rfl ?_
 refine Y.pickF (by rfl) ya (by rfl) ?_
 refine XL.nil ?_
 refine QN.next ?_
 refine XC.condF rfl ya ?_
 obtain ⟨d, Fi, hd, hD, hFi, hset⟩ := hX.get hi
 refine XC.skip ?_
 refine QN.next ?_
 refine XC.seq ?_
 refine XC.region ?_
 show XL _ _ _ _ (List.cons _ _) _ _
 refine XL.s rfl ?_
 refine Y.assign (by rfl) ?_
 refine XL.nil ?_
 refine QN.next ?_
 refine XC.seq ?_
 refine XC.region ?_
 show XL _ _ _ _ (List.cons _ _) _ _
 refine XL.s rfl ?_
 refine Y.move (by rfl) ?_
 refine XL.s rfl ?_
 refine Y.nilCheck (by rfl) ?_
 refine XL.s rfl ?_
 refine Y.fieldAddr fld66_1 (by rfl) ?_
 refine XL.s rfl ?_
 refine Y.load one31 (by rfl) (three2 hX.cell) ?_
 refine XL.s rfl ?_
 refine Y.move (by rfl) ?_
 refine XL.s rfl ?_
 refine Y.indexR st31 (by rfl) (by rfl) hX.row ⟨by omega, by omega⟩ (by rw [Int.toNat_natCast]; exact hd) ?_
 intro b30 o30 hs30 hc30
 refine XL.s rfl ?_
 refine Y.load one41 (by rfl) (by assumption) ?_
 refine XL.s rfl ?_
 refine Y.assign (by rfl) ?_
 refine XL.nil ?_
 refine QN.next ?_
 refine XC.seq ?_
 refine XC.seq ?_
 refine XC.region ?_
 show XL _ _ _ _ (List.cons _ _) _ _
 refine XL.s rfl ?_
 refine Y.move (by rfl) ?_
 refine XL.s rfl ?_
 refine Y.call (by rfl) ok43 (namesA _ _ _ _ _ _ _ hD hc12) ?_
 rintro v33 w33 ⟨ss, hnod, hmem, hsl, hN33⟩
 obtain ⟨qn, capn, rfl⟩ := hN33.row.val
 refine XL.s rfl ?_
 refine Y.len Tryz.underlying56 (by rfl) hN33.row ?_
 have hss : ∀ j (hj : j < ss.length), ms i ss[j] ≠ none := fun j hj => (hmem _).1 (List.getElem_mem hj)
 have hz33 := hN33.1.size
 have hX33 := hX.ext hN33.1
 refine XL.s rfl ?_
 refine Y.move (by rfl) ?_
 refine XL.nil ?_
 refine QN.next ?_
 refine XC.block ?_
 refine XC.loop (α := Nat × Value) (fun (j, ov) => [(0, .pointer (some ⟨tb, 0, none⟩)), (1, .int .i64 (i : Nat)), (6, ov), (7, d), (33, .slice qn ss.length capn), (34, .int .i64 (ss.length : Nat)), (35, .int .i64 j)]) (fun (j, ov) wr => j ≤ ss.length ∧ Chg G w33 wr ∧ StX 66 79 82 5 G wr tb (.slice qa n capa) dvs Fr K F n most (fun q => if q = i then scrubM i (ms i) (ss.take j) else ms q) U c ∧ Apd (Since w33) wr 9 1 ov (scrubO i (ms i) (ss.take j)).length (strsV (scrubO i (ms i) (ss.take j)))) (fun (j, ov) => ss.length - j) ((0, .slice none 0 0)) ?_ ?_ ?_
 ·exact ⟨rfl, rfl, rfl, rfl, rfl, rfl, rfl, trivial⟩
 ·exact ⟨by omega, Chg.refl _ _, hX33.cast (fun q _ => by simp only [List.take_zero, scrubM, List.foldl_nil]; split; (rename_i e; rw [e]); rfl), Apd.nil _ _ _ _⟩
 ·rintro ⟨j, ov⟩ wr hI
  obtain ⟨hj, hC, hXi, hA⟩ := hI
  refine XC.seq ?_
  refine XC.region ?_
  show XL _ _ _ _ (List.cons _ _) _ _
  refine XL.s rfl ?_
  refine Y.lss (by rfl) (by rfl) ?_
  refine XL.nil ?_
  refine QN.next ?_
  refine XC.seq ?_
  refine XC.condS rfl ?_ ?_
  ·intro hc
   try simp only [decide_eq_true_eq, decide_eq_false_iff_not, Bool.not_eq_true', Bool.not_eq_false', Bool.not_eq_eq_eq_not, Bool.not_true, Bool.not_false, Bool.or_eq_true, Bool.and_eq_true, Bool.or_eq_false_iff] at hc
   have hj' : j < ss.length := by omega
   have hnn := hss j hj'
   have htk : ss.take (j + 1) = ss.take j ++ [ss[j]] := List.take_succ_eq_append_getElem hj'
   have hnt : ss[j] ∉ ss.take j := by
    have h := hnod
    rw [← List.take_append_drop j ss, List.nodup_append] at h
    intro hm; exact h.2.2 _ hm _ (by rw [List.mem_iff_getElem]; exact ⟨0, by simp; omega, by simp⟩) rfl
   have hthere := scrubM_there (i := i) (m := ms i) hnt hnn (fun x hx => (hmem x).1 (List.mem_of_mem_take hx)) (hnod.sublist (List.take_sublist _ _))
   obtain ⟨⟨d0, s0⟩, hk⟩ := Option.ne_none_iff_exists'.1 hthere
   have hln := hnd _ hnn
   obtain ⟨d', Fj, hd', hDj, hFj, hsetj⟩ := hXi.get hi
   have hdd : d' = d := by rw [hd] at hd'; exact (Option.some.inj hd').symm
   subst hdd
   simp only [if_true] at hDj
   have hrow := hN33.row.chg hC (fun b _ hb hg => by have := hGb b hg; simp only [Since] at hb; omega)
   have hzi := hC.size
   have hol := scrubO_length i (ms i) (ss.take j)
   have htl : (ss.take j).length = j := by rw [List.length_take]; omega
   refine XC.skip ?_
   refine QN.next ?_
   refine XC.seq ?_
   by_cases hp : hasP ss[j] [98, 46] = true
   ·skip
    refine XC.block ?_
    refine XC.seq ?_
    refine XC.region ?_
    show XL _ _ _ _ (List.cons _ _) _ _
    refine XL.s rfl ?_
    refine Y.indexR st56 (by rfl) (by rfl) hrow ⟨by omega, by omega⟩ (by rw [Int.toNat_natCast]; exact strsV_get hj') ?_
    intro b37 o37 hs37 hc37
    refine XL.s rfl ?_
    refine Y.load one9 (by rfl) (by assumption) ?_
    refine XL.s rfl ?_
    refine Y.assign (by rfl) ?_
    refine XL.nil ?_
    refine QN.next ?_
    refine XC.seq ?_
    refine XC.region ?_
    show XL _ _ _ _ (List.cons _ _) _ _
    refine XL.s rfl ?_
    refine Y.move (by rfl) ?_
    refine XL.s rfl ?_
    refine Y.call (by rfl) ok44 (cutPrefix_yes ss[j] [98, 46] _ (by omega) (by decide) hp) ?_
    rintro v41 w41 ⟨rfl, rfl⟩
    refine XL.s rfl ?_
    refine Y.move (by rfl) ?_
    refine XL.s rfl ?_
    refine Y.extract (by rfl) (by rfl) ?_
    refine XL.s rfl ?_
    refine Y.extract (by rfl) (by rfl) ?_
    refine XL.s rfl ?_
    refine Y.assign (by rfl) ?_
    refine XL.s rfl ?_
    refine Y.assign (by rfl) ?_
    refine XL.nil ?_
    refine QN.next ?_
    refine XC.seq ?_
    refine XC.region ?_
    show XL _ _ _ _ (List.cons _ _) _ _
    refine XL.s rfl ?_
    refine Y.move (by rfl) ?_
    refine XL.s rfl ?_
    refine Y.move (by rfl) ?_
    refine XL.s rfl ?_
    refine Y.call (by rfl) ok23 (readA_yes _ _ _ _ _ _ _ _ hDj d0 s0 hk (by have := hU i hi; omega)) ?_
    rintro v47 w47 ⟨b47, rfl, hN47⟩
    refine XL.s rfl ?_
    refine Y.move (by rfl) ?_
    refine XL.s rfl ?_
    refine Y.extract (by rfl) (by rfl) ?_
    refine XL.s rfl ?_
    refine Y.extract (by rfl) (by rfl) ?_
    refine XL.s rfl ?_
    refine Y.assign (by rfl) ?_
    refine XL.s rfl ?_
    refine Y.assign (by rfl) ?_
    refine XL.nil ?_
    refine QN.next ?_
    refine XC.seq ?_
    refine XC.region ?_
    show XL _ _ _ _ (List.cons _ _) _ _
    refine XL.s rfl ?_
    refine Y.move (by rfl) ?_
    refine XL.s rfl ?_
    refine Y.move (by rfl) ?_
    have hdl : d0.length ≤ 65536 := by obtain ⟨fs, _, hL⟩ := hDj; have := hL.lenAt hk; have := hU i hi; omega
    refine XL.gt rfl rfl rfl rfl ?_
    refine Y.move (by rfl) ?_
    refine XL.gt rfl rfl rfl rfl ?_
    refine Y.move (by rfl) ?_
    refine XL.gt rfl rfl rfl rfl ?_
    refine Y.call (by rfl) ok45 (shard_ok _ _ i d0 _ hN47.bs (by omega) (by omega)) ?_
    rintro v54 w54 ⟨hE54, hB54⟩
    refine XL.gt rfl rfl rfl rfl ?_
    refine Y.len Tryz.underlying39 (by rfl) hB54 ?_
    have hEE := hN47.1.trans hE54
    refine XL.gt rfl rfl rfl rfl ?_
    refine Y.eql (by rfl) (by rfl) ?_
    refine XL.s rfl ?_
    refine Y.pickT (by rfl) rfl (by rfl) ?_
    refine XL.nil ?_
    refine QN.next ?_
    refine XC.condS rfl ?_ ?_
    ·intro hz
     try simp only [decide_eq_true_eq, decide_eq_false_iff_not, Bool.not_eq_true', Bool.not_eq_false', Bool.not_eq_eq_eq_not, Bool.not_true, Bool.not_false, Bool.or_eq_true, Bool.and_eq_true, Bool.or_eq_false_iff] at hz
     have hz : (shardP i d0).length = 0 := by omega
     have hbad : badF i (scrubM i (ms i) (ss.take j)) ss[j] = true := by simp [badF, hp, hk, hz]
     have hpl := hasP_le hp
     have hpl2 : 2 ≤ ss[j].length := hpl
     have hq2 : ([113, 46] ++ ss[j].drop 2).length = ss[j].length := by simp; omega
     refine XC.seq ?_
     refine XC.region ?_
     show XL _ _ _ _ (List.cons _ _) _ _
     refine XL.s rfl ?_
     refine Y.move (by rfl) ?_
     refine XL.s rfl ?_
     refine Y.move (by rfl) ?_
     refine XL.s rfl ?_
     refine Y.move (by rfl) ?_
     refine XL.s rfl ?_
     refine Y.addS (by rfl) (by rfl) (by simp; omega) ?_
     refine XL.s rfl ?_
     refine Y.call (by rfl) ok46 (renA _ _ _ _ _ _ ss[j] _ (hDj.ext hEE) ([113, 46] ++ ss[j].drop 2) hln (by omega) d0 s0 hk) ?_
     rintro v62 w62 ⟨rfl, hC62, hD62⟩
     have hXn := hsetj NoB w62 _ _ _ (fun _ h => h.elim) (Ext.then hEE hC62) (hD62.mono fun b hb => .inl hb)
     have hXn := hXn.wider (G' := G) (fun b _ hb => hb.elim id (fun h => h.elim))
     have hA62 := (hA.ext hEE).chg hC62 (fun b _ hb hf => by have := hGb b (hFj b hf).2.2.1; simp only [Since] at hb; omega)
     refine XL.nil ?_
     refine QN.next ?_
     refine XC.region ?_
     show XL _ _ _ _ (List.cons _ _) _ _
     refine XL.s rfl ?_
     refine Y.move (by rfl) ?_
     refine XL.s rfl ?_
     refine Y.move (by rfl) ?_
     refine XL.s rfl ?_
     refine Y.buildSlice st56 (by rfl) (by rfl) (by omega) (by simp [Value.oneCell', byteV, strV]) ?_
     intro v65 w65 hN65
     have hCn := hC.trans (Ext.then hEE hC62) (S'' := G) (fun _ h => h) (fun x _ hf => (hFj x hf).2.2.1)
     refine XL.s rfl ?_
     refine Y.appendG st56 Tryz.underlying56 (by rfl) (by rfl) (hA62.ext hN65.1) hN65.row rfl (by omega) (by omega) ?_
     intro v66 w66 hA66 hO66 hC66
     have hzn := hCn.size
     have hz65 := hN65.1.size
     have hs33 : ∀ x, Since w33 x → ¬ G x := fun x hx hg => by have := hGb x hg; simp only [Since] at hx; omega
     refine XL.s rfl ?_
     refine Y.assign (by rfl) ?_
     refine XL.nil ?_
     refine QN.blk ?_
     refine QN.next ?_
     refine XC.region ?_
     show XL _ _ _ _ (List.cons _ _) _ _
     refine XL.s rfl ?_
     refine Y.add (by rfl) (by rfl) (wrap64 (by omega) (by omega)) ?_
     refine XL.s rfl ?_
     refine Y.move (by rfl) ?_
     refine XL.nil ?_
     refine QN.again ((j + 1, v66)) ?_ ?_ ?_
     ·exact ⟨rfl, rfl, rfl, rfl, rfl, rfl, rfl, trivial⟩
     ·refine ⟨by omega, (hCn.ext hN65.1).trans hC66 (fun _ h => h) (fun x hx hg => by simp only [Since] at hg; omega), ((hXn.ext hN65.1).chg hC66 (fun b hb hs => hs33 b hs hb)).cast (fun q _ => ?_) |>.more (fun q _ => ?_), ?_⟩
      ·split
       ·rename_i e; rw [htk, scrubM_snoc]; simp [scrub1, hbad, hk]
       ·rfl
      ·split
       ·rename_i e; rw [e]; exact ⟨Nat.le_refl _, Nat.le_refl _⟩
       ·exact ⟨Nat.le_refl _, Nat.le_refl _⟩
      ·rw [htk, scrubO_snoc, if_pos hbad, List.length_append, strsV, List.map_append]
       exact hA66.mono (fun x hx hg => by rcases hg with h | h; exact h; (have := h.1; show w33.heap.size ≤ x; omega))
     ·first | omega | (simp only []; omega) | (simp; omega)
    ·intro hz
     try simp only [decide_eq_true_eq, decide_eq_false_iff_not, Bool.not_eq_true', Bool.not_eq_false', Bool.not_eq_eq_eq_not, Bool.not_true, Bool.not_false, Bool.or_eq_true, Bool.and_eq_true, Bool.or_eq_false_iff] at hz
     have hbad : badF i (scrubM i (ms i) (ss.take j)) ss[j] = false := by simp only [badF, hp, hk, Bool.true_and, decide_eq_false_iff_not]; omega
     refine XC.skip ?_
     refine QN.blk ?_
     refine QN.next ?_
     refine XC.region ?_
     show XL _ _ _ _ (List.cons _ _) _ _
     refine XL.s rfl ?_
     refine Y.add (by rfl) (by rfl) (wrap64 (by omega) (by omega)) ?_
     refine XL.s rfl ?_
     refine Y.move (by rfl) ?_
     refine XL.nil ?_
     refine QN.again ((j + 1, ov)) ?_ ?_ ?_
     ·exact ⟨rfl, rfl, rfl, rfl, rfl, rfl, rfl, trivial⟩
     ·refine ⟨by omega, hC.ext hEE, (hXi.ext hEE).cast (fun q _ => ?_), ?_⟩
      ·rw [htk, scrubM_snoc]; simp [scrub1, hbad]
      ·rw [htk, scrubO_snoc, hbad]; simpa using hA.ext hEE
     ·first | omega | (simp only []; omega) | (simp; omega)
   ·skip
    have hbad : badF i (scrubM i (ms i) (ss.take j)) ss[j] = false := by simp [badF, hp]
    refine XC.block ?_
    refine XC.seq ?_
    refine XC.region ?_
    show XL _ _ _ _ (List.cons _ _) _ _
    refine XL.s rfl ?_
    refine Y.indexR st56 (by rfl) (by rfl) hrow ⟨by omega, by omega⟩ (by rw [Int.toNat_natCast]; exact strsV_get hj') ?_
    intro b37 o37 hs37 hc37
    refine XL.s rfl ?_
    refine Y.load one9 (by rfl) (by assumption) ?_
    refine XL.s rfl ?_
    refine Y.assign (by rfl) ?_
    refine XL.nil ?_
    refine QN.next ?_
    refine XC.seq ?_
    refine XC.region ?_
    show XL _ _ _ _ (List.cons _ _) _ _
    refine XL.s rfl ?_
    refine Y.move (by rfl) ?_
    refine XL.s rfl ?_
    refine Y.call (by rfl) ok44 (cutPrefix_no ss[j] [98, 46] _ (by omega) (by decide) (by simpa using hp)) ?_
    rintro v41 w41 ⟨rfl, rfl⟩
    refine XL.s rfl ?_
    refine Y.move (by rfl) ?_
    refine XL.s rfl ?_
    refine Y.extract (by rfl) (by rfl) ?_
    refine XL.s rfl ?_
    refine Y.extract (by rfl) (by rfl) ?_
    refine XL.s rfl ?_
    refine Y.assign (by rfl) ?_
    refine XL.s rfl ?_
    refine Y.assign (by rfl) ?_
    refine XL.nil ?_
    refine QN.next ?_
    refine XC.seq ?_
    refine XC.region ?_
    show XL _ _ _ _ (List.cons _ _) _ _
    refine XL.s rfl ?_
    refine Y.move (by rfl) ?_
    refine XL.s rfl ?_
    refine Y.move (by rfl) ?_
    refine XL.s rfl ?_
    refine Y.call (by rfl) ok23 (readA_yes _ _ _ _ _ _ _ _ hDj d0 s0 hk (by have := hU i hi; omega)) ?_
    rintro v47 w47 ⟨b47, rfl, hN47⟩
    refine XL.s rfl ?_
    refine Y.move (by rfl) ?_
    refine XL.s rfl ?_
    refine Y.extract (by rfl) (by rfl) ?_
    refine XL.s rfl ?_
    refine Y.extract (by rfl) (by rfl) ?_
    refine XL.s rfl ?_
    refine Y.assign (by rfl) ?_
    refine XL.s rfl ?_
    refine Y.assign (by rfl) ?_
    refine XL.nil ?_
    refine QN.next ?_
    refine XC.seq ?_
    refine XC.region ?_
    show XL _ _ _ _ (List.cons _ _) _ _
    refine XL.s rfl ?_
    refine Y.move (by rfl) ?_
    refine XL.s rfl ?_
    refine Y.move (by rfl) ?_
    refine XL.gf rfl rfl rfl rfl ?_
    refine XL.gf rfl rfl rfl rfl ?_
    refine XL.gf rfl rfl rfl rfl ?_
    refine XL.gf rfl rfl rfl rfl ?_
    refine XL.gf rfl rfl rfl rfl ?_
    refine XL.s rfl ?_
    refine Y.pickF (by rfl) rfl (by rfl) ?_
    refine XL.nil ?_
    refine QN.next ?_
    refine XC.condF rfl rfl ?_
    refine XC.skip ?_
    refine QN.blk ?_
    refine QN.next ?_
    refine XC.region ?_
    show XL _ _ _ _ (List.cons _ _) _ _
    refine XL.s rfl ?_
    refine Y.add (by rfl) (by rfl) (wrap64 (by omega) (by omega)) ?_
    refine XL.s rfl ?_
    refine Y.move (by rfl) ?_
    refine XL.nil ?_
    refine QN.again ((j + 1, ov)) ?_ ?_ ?_
    ·exact ⟨rfl, rfl, rfl, rfl, rfl, rfl, rfl, trivial⟩
    ·refine ⟨by omega, hC.ext hN47.1, (hXi.ext hN47.1).cast (fun q _ => ?_), ?_⟩
     ·rw [htk, scrubM_snoc]; simp [scrub1, hbad]
     ·rw [htk, scrubO_snoc, hbad]; simpa using hA.ext hN47.1
    ·first | omega | (simp only []; omega) | (simp; omega)
  ·intro hc
   try simp only [decide_eq_true_eq, decide_eq_false_iff_not, Bool.not_eq_true', Bool.not_eq_false', Bool.not_eq_eq_eq_not, Bool.not_true, Bool.not_false, Bool.or_eq_true, Bool.and_eq_true, Bool.or_eq_false_iff] at hc
   have hjn : j = ss.length := by omega
   subst hjn
   rw [List.take_length] at hXi hA
   refine XC.exit ?_
   refine QN.thenE ?_
   refine QN.thenE ?_
   refine QN.hit ?_
   refine QN.next ?_
   refine XC.seq ?_
   refine XC.region ?_
   show XL _ _ _ _ (List.cons _ _) _ _
   refine XL.s rfl ?_
   refine Y.move (by rfl) ?_
   refine XL.s rfl ?_
   refine Y.assign (by rfl) ?_
   refine XL.s rfl ?_
   refine Y.assign (by rfl) ?_
   refine XL.nil ?_
   refine QN.next ?_
   refine XC.ret ?_
   refine QN.doneN (fn := Tryz.f22) (R := R) (.inl rfl) rfl rfl ?_
   refine hR _ _ ?_
   exact ⟨ss, hnod, hmem, _, rfl, hA.row.mono (fun _ _ _ => trivial), Ext.then hN33.1 hC, tb, _, dvs, Fr, rfl, hXi⟩
end Go.Proofs.YtchammpamigonaaGreatX
end
section
set_option linter.unusedVariables false
set_option linter.unusedSimpArgs false
set_option maxRecDepth 10000
set_option maxHeartbeats 4000000
namespace Go.Proofs.YtchammpamigonaaGreatX
open Go Go.RowKit Go.Proofs
theorem srep_none (G : Nat → Prop) (tv : Value) (K F n most : Nat) (ms : Nat → Fm) (U c : Nat → Nat) (w : World) (hS : StoreA 66 79 82 5 G w tv K F n most ms U c) (hm : most ≤ 65536) (hU : ∀ i, i < n → U i ≤ 65536) (hn : n ≤ 7) (nm : List UInt8) (hnm : 1 ≤ nm.length ∧ nm.length ≤ 16) (hk : 1 ≤ K) (hnn : n = K + 2 * F) (h0 : hasAny ms nm n = false) :
  Rets Tryz.prog 24 #[tv, strV nm] w fun v w' => v = .tuple #[.int .i64 0, .int .i64 5] ∧ Ext w w' := by
 refine Rets.enter (args := [tv, strV nm]) (n := 65) Tryz.func24 rfl rfl rfl ?_
 intro R hR
 show XC _ _ _ _ [(0, tv), (1, strV nm)] _
 refine XC.seq ?_
 refine XC.region ?_
 show XL _ _ _ _ (List.cons _ _) _ _
 refine XL.s rfl ?_
 refine Y.assign (by rfl) ?_
 refine XL.s rfl ?_
 refine Y.assign (by rfl) ?_
 refine XL.nil ?_
 refine QN.next ?_
 refine XC.seq ?_
 refine XC.region ?_
 show XL _ _ _ _ (List.cons _ _) _ _
 refine XL.s rfl ?_
 refine Y.move (by rfl) ?_
 refine XL.s rfl ?_
 refine Y.move (by rfl) ?_
 refine XL.s rfl ?_
 refine Y.call (by rfl) ok14 (sget_none G tv K F n most ms U c _ hS hm hU hn nm AnyB _ [] (Row.nil AnyB _) hnm hk hnn h0) ?_
 rintro v17 w17 ⟨rfl, hE17⟩
 refine XL.s rfl ?_
 refine Y.move (by rfl) ?_
 refine XL.s rfl ?_
 refine Y.extract (by rfl) (by rfl) ?_
 refine XL.s rfl ?_
 refine Y.extract (by rfl) (by rfl) ?_
 refine XL.s rfl ?_
 refine Y.assign (by rfl) ?_
 refine XL.s rfl ?_
 refine Y.assign (by rfl) ?_
 refine XL.nil ?_
 refine QN.next ?_
 refine XC.seq ?_
 refine XC.seq ?_
 refine XC.region ?_
 show XL _ _ _ _ (List.cons _ _) _ _
 refine XL.s rfl ?_
 refine Y.move (by rfl) ?_
 refine XL.s rfl ?_
 refine Y.neq (by rfl) (by rfl) ?_
 refine XL.nil ?_
 refine QN.next ?_
 refine XC.condT rfl rfl ?_
 refine XC.seq ?_
 refine XC.region ?_
 show XL _ _ _ _ (List.cons _ _) _ _
 refine XL.s rfl ?_
 refine Y.move (by rfl) ?_
 refine XL.s rfl ?_
 refine Y.assign (by rfl) ?_
 refine XL.s rfl ?_
 refine Y.assign (by rfl) ?_
 refine XL.nil ?_
 refine QN.next ?_
 refine XC.ret ?_
 refine QN.doneN (fn := Tryz.f24) (R := R) (.inl rfl) rfl rfl ?_
 refine hR _ _ ?_
 exact ⟨rfl, hE17⟩
theorem srep_short (G : Nat → Prop) (tv : Value) (K F n most : Nat) (ms : Nat → Fm) (U c : Nat → Nat) (w : World) (hS : StoreA 66 79 82 5 G w tv K F n most ms U c) (hm : most ≤ 65536) (hU : ∀ i, i < n → U i ≤ 65536) (hn : n ≤ 7) (nm : List UInt8) (hnm : 1 ≤ nm.length ∧ nm.length ≤ 16) (hk : 1 ≤ K) (hnn : n = K + 2 * F) (h0 : hasAny ms nm n = true) (hs : (thereP (shardsP ms nm [] n)).length < K) :
  Rets Tryz.prog 24 #[tv, strV nm] w fun v w' => v = .tuple #[.int .i64 0, .int .i64 3] ∧ Ext w w' := by
 refine Rets.enter (args := [tv, strV nm]) (n := 65) Tryz.func24 rfl rfl rfl ?_
 intro R hR
 show XC _ _ _ _ [(0, tv), (1, strV nm)] _
 refine XC.seq ?_
 refine XC.region ?_
 show XL _ _ _ _ (List.cons _ _) _ _
 refine XL.s rfl ?_
 refine Y.assign (by rfl) ?_
 refine XL.s rfl ?_
 refine Y.assign (by rfl) ?_
 refine XL.nil ?_
 refine QN.next ?_
 refine XC.seq ?_
 refine XC.region ?_
 show XL _ _ _ _ (List.cons _ _) _ _
 refine XL.s rfl ?_
 refine Y.move (by rfl) ?_
 refine XL.s rfl ?_
 refine Y.move (by rfl) ?_
 refine XL.s rfl ?_
 refine Y.call (by rfl) ok14 (sget_short G tv K F n most ms U c _ hS hm hU hn nm AnyB _ [] (Row.nil AnyB _) hnm hk hnn h0 hs) ?_
 rintro v17 w17 ⟨rfl, hE17⟩
 refine XL.s rfl ?_
 refine Y.move (by rfl) ?_
 refine XL.s rfl ?_
 refine Y.extract (by rfl) (by rfl) ?_
 refine XL.s rfl ?_
 refine Y.extract (by rfl) (by rfl) ?_
 refine XL.s rfl ?_
 refine Y.assign (by rfl) ?_
 refine XL.s rfl ?_
 refine Y.assign (by rfl) ?_
 refine XL.nil ?_
 refine QN.next ?_
 refine XC.seq ?_
 refine XC.seq ?_
 refine XC.region ?_
 show XL _ _ _ _ (List.cons _ _) _ _
 refine XL.s rfl ?_
 refine Y.move (by rfl) ?_
 refine XL.s rfl ?_
 refine Y.neq (by rfl) (by rfl) ?_
 refine XL.nil ?_
 refine QN.next ?_
 refine XC.condT rfl rfl ?_
 refine XC.seq ?_
 refine XC.region ?_
 show XL _ _ _ _ (List.cons _ _) _ _
 refine XL.s rfl ?_
 refine Y.move (by rfl) ?_
 refine XL.s rfl ?_
 refine Y.assign (by rfl) ?_
 refine XL.s rfl ?_
 refine Y.assign (by rfl) ?_
 refine XL.nil ?_
 refine QN.next ?_
 refine XC.ret ?_
 refine QN.doneN (fn := Tryz.f24) (R := R) (.inl rfl) rfl rfl ?_
 refine hR _ _ ?_
 exact ⟨rfl, hE17⟩
theorem srep_ok (G : Nat → Prop) (tv : Value) (K F n most : Nat) (ms : Nat → Fm) (U c : Nat → Nat) (w : World) (hS : StoreA 66 79 82 5 G w tv K F n most ms U c) (hm : most ≤ 65536) (hU : ∀ i, i < n → U i ≤ 65536) (hn : n ≤ 7) (nm : List UInt8) (hnm : 1 ≤ nm.length ∧ nm.length ≤ 16) (hk : 1 ≤ K) (hnn : n = K + 2 * F) (h0 : hasAny ms nm n = true) (l : List UInt8) (hl : l.length ≤ 512) (ht : K ≤ (thereP (shardsP ms nm [] n)).length) (ha : ∀ i ∈ thereP (shardsP ms nm [] n), (shardsP ms nm [] n).getD i [] = (encP K (K + 2 * F) l).getD i []) (B : List (List UInt8)) (hi : invertP (rowsP (codingP K (K + 2 * F)) ((thereP (shardsP ms nm [] n)).take K)) = some B) (hBl : B.length = K) (hBk : ∀ r ∈ B, r.length = K) (hB : matMul B (rowsP (shardsP ms nm [] n) ((thereP (shardsP ms nm [] n)).take K)) = piecesP K l) (hf : ∀ i, i < n → U i + (20 + pieceN K l) ≤ most) (ht' : ∀ i, i < n → ms i [116, 46] = none) (hGb : ∀ b, G b → b < w.heap.size) :
  Rets Tryz.prog 24 #[tv, strV nm] w fun v w' => v = .tuple #[.int .i64 (cntM ms nm (fun j => (fileB j ((encP K n l).getD j []))) n : Nat), .int .i64 0] ∧ Chg G w w' ∧ StoreA 66 79 82 5 (Grow G w w') w' tv K F n most (fun j => mendP (ms j) nm (fileB j ((encP K n l).getD j []))) (fun j => U j + (20 + pieceN K l)) (fun j => c j + 1) := by
 refine Rets.enter (args := [tv, strV nm]) (n := 65) Tryz.func24 rfl rfl rfl ?_
 intro R hR
 show XC _ _ _ _ [(0, tv), (1, strV nm)] _
 obtain ⟨tb, av, dvs, Fr, rfl, hX⟩ := id hS
 obtain ⟨qa, capa, rfl⟩ := hX.row.val
 refine XC.seq ?_
 refine XC.region ?_
 show XL _ _ _ _ (List.cons _ _) _ _
 refine XL.s rfl ?_
 refine Y.assign (by rfl) ?_
 refine XL.s rfl ?_
 refine Y.assign (by rfl) ?_
 refine XL.nil ?_
 refine QN.next ?_
 refine XC.seq ?_
 refine XC.region ?_
 show XL _ _ _ _ (List.cons _ _) _ _
 refine XL.s rfl ?_
 refine Y.move (by rfl) ?_
 refine XL.s rfl ?_
 refine Y.move (by rfl) ?_
 refine XL.s rfl ?_
 refine Y.call (by rfl) ok14 (sget_ok G _ K F n most ms U c _ hS hm hU hn nm AnyB _ [] (Row.nil AnyB _) hnm hk hnn h0 l hl ht ha B hi hBl hBk hB) ?_
 rintro v17 w17 ⟨rfl, hE17⟩
 refine XL.s rfl ?_
 refine Y.move (by rfl) ?_
 refine XL.s rfl ?_
 refine Y.extract (by rfl) (by rfl) ?_
 refine XL.s rfl ?_
 refine Y.extract (by rfl) (by rfl) ?_
 refine XL.s rfl ?_
 refine Y.assign (by rfl) ?_
 refine XL.s rfl ?_
 refine Y.assign (by rfl) ?_
 refine XL.nil ?_
 refine QN.next ?_
 refine XC.seq ?_
 refine XC.seq ?_
 refine XC.region ?_
 show XL _ _ _ _ (List.cons _ _) _ _
 refine XL.s rfl ?_
 refine Y.move (by rfl) ?_
 refine XL.s rfl ?_
 refine Y.neq (by rfl) (by rfl) ?_
 refine XL.nil ?_
 refine QN.next ?_
 refine XC.condF rfl rfl ?_
 refine XC.skip ?_
 refine QN.next ?_
 refine XC.seq ?_
 refine XC.region ?_
 show XL _ _ _ _ (List.cons _ _) _ _
 refine XL.s rfl ?_
 refine Y.move (by rfl) ?_
 refine XL.s rfl ?_
 refine Y.nilCheck (by rfl) ?_
 refine XL.s rfl ?_
 refine Y.fieldAddr fld66_0 (by rfl) ?_
 refine XL.s rfl ?_
 refine Y.loadA agg23 (by rfl) rfl (three01 (hX.ext hE17).cell) ?_
 refine XL.s rfl ?_
 refine Y.move (by rfl) ?_
 refine XL.s rfl ?_
 refine Y.call (by rfl) ok30 (enc_ok K F l _ hk (by omega) hl) ?_
 rintro v29 w29 ⟨e29, rfl, hM29, hE29⟩
 refine XL.s rfl ?_
 refine Y.move (by rfl) ?_
 refine XL.s rfl ?_
 refine Y.extract (by rfl) (by rfl) ?_
 refine XL.s rfl ?_
 refine Y.extract (by rfl) (by rfl) ?_
 refine XL.s rfl ?_
 refine Y.assign (by rfl) ?_
 refine XL.s rfl ?_
 refine Y.assign (by rfl) ?_
 refine XL.nil ?_
 refine QN.next ?_
 refine XC.seq ?_
 refine XC.seq ?_
 refine XC.region ?_
 show XL _ _ _ _ (List.cons _ _) _ _
 refine XL.s rfl ?_
 refine Y.move (by rfl) ?_
 refine XL.s rfl ?_
 refine Y.neq (by rfl) (by rfl) ?_
 refine XL.nil ?_
 refine QN.next ?_
 refine XC.condF rfl rfl ?_
 have hEE := hE17.trans hE29
 have hX29 := hX.ext hEE
 have hel := encP_len K F l
 have hpl := padB_le l hk
 have hql := pieceN_le l hk
 have her : ∀ i (hi : i < (encP K (K + 2 * F) l).length), ((encP K (K + 2 * F) l)[i]).length = pieceN K l := fun i hi => encP_row K F l hk _ (List.getElem_mem hi)
 refine XC.skip ?_
 refine QN.next ?_
 refine XC.seq ?_
 refine XC.region ?_
 show XL _ _ _ _ (List.cons _ _) _ _
 refine XL.s rfl ?_
 refine Y.assign (by rfl) ?_
 refine XL.nil ?_
 refine QN.next ?_
 refine XC.seq ?_
 refine XC.seq ?_
 refine XC.region ?_
 show XL _ _ _ _ (List.cons _ _) _ _
 refine XL.s rfl ?_
 refine Y.move (by rfl) ?_
 refine XL.s rfl ?_
 refine Y.nilCheck (by rfl) ?_
 refine XL.s rfl ?_
 refine Y.fieldAddr fld66_1 (by rfl) ?_
 refine XL.s rfl ?_
 refine Y.load one31 (by rfl) (three2 hX29.cell) ?_
 refine XL.s rfl ?_
 refine Y.len Tryz.underlying31 (by rfl) hX29.row ?_
 obtain ⟨qe, cape, rfl⟩ := hM29.rows.val
 have hz29 := hEE.size
 have hz17 := hE17.size
 refine XL.s rfl ?_
 refine Y.move (by rfl) ?_
 refine XL.nil ?_
 refine QN.next ?_
 refine XC.block ?_
 refine XC.loop (α := Nat) (fun i => [(0, .pointer (some ⟨tb, 0, none⟩)), (1, strV nm), (8, .slice qe (encP K (K + 2 * F) l).length cape), (9, .int .i64 (cntM ms nm (fun j => (fileB j ((encP K n l).getD j []))) i : Nat)), (38, .slice qa n capa), (39, .int .i64 (n : Nat)), (40, .int .i64 i)]) (fun i wr => i ≤ n ∧ Chg G w29 wr ∧ StX 66 79 82 5 (Grow G w29 wr) wr tb (.slice qa n capa) dvs Fr K F n most (fun j => if j < i then mendP (ms j) nm (fileB j ((encP K n l).getD j [])) else ms j) (fun j => if j < i then U j + (20 + pieceN K l) else U j) (fun j => if j < i then c j + 1 else c j)) (fun i => n - i) (0) ?_ ?_ ?_
 ·exact ⟨rfl, rfl, rfl, rfl, rfl, rfl, rfl, trivial⟩
 ·exact ⟨by omega, Chg.refl _ _, (((hX29.wider (fun b _ h => .inl h)).more (fun j _ => ⟨by simp, by simp⟩)).cast (fun j _ => by simp))⟩
 ·rintro i wr hI
  obtain ⟨hi, hC, hXi⟩ := hI
  have hMi := hM29.rows.chg hC (fun b _ hb hg => by have := hGb b hg; have := hb.1; omega)
  have hzi := hC.size
  refine XC.seq ?_
  refine XC.region ?_
  show XL _ _ _ _ (List.cons _ _) _ _
  refine XL.s rfl ?_
  refine Y.lss (by rfl) (by rfl) ?_
  refine XL.nil ?_
  refine QN.next ?_
  refine XC.seq ?_
  refine XC.condS rfl ?_ ?_
  ·intro hc
   try simp only [decide_eq_true_eq, decide_eq_false_iff_not, Bool.not_eq_true', Bool.not_eq_false', Bool.not_eq_eq_eq_not, Bool.not_true, Bool.not_false, Bool.or_eq_true, Bool.and_eq_true, Bool.or_eq_false_iff] at hc
   have hi' : i < n := by omega
   obtain ⟨d, Fi, hd, hD, hFi, hset⟩ := hXi.get hi'
   simp only [if_neg (Nat.lt_irrefl i)] at hD
   obtain ⟨vs, hvs, hvl, hqs⟩ := hMi.get
   obtain ⟨q, hq, hb⟩ := hqs i (by omega)
   have hrl := her i (by omega)
   have hfl := fileB_length i ((encP K (K + 2 * F) l)[i])
   have hcl := cntM_le ms nm (fun j => (fileB j ((encP K n l).getD j []))) i
   have hge : (encP K n l).getD i [] = (encP K (K + 2 * F) l)[i]'(by omega) := by
    have h0 : (encP K (K + 2 * F) l).getD i [] = (encP K (K + 2 * F) l)[i]'(by omega) := by simp [List.getD_eq_getElem?_getD, show i < (encP K (K + 2 * F) l).length by omega]
    rw [← h0, ← hnn]
   have hsdd : ∀ b, Since wr b → ¬ Fi b := fun b hb hf => by have := (hFi b hf).2.2.2; simp only [Since] at hb; omega
   refine XC.skip ?_
   refine QN.next ?_
   refine XC.seq ?_
   by_cases hkn : ms i ([98, 46] ++ nm) = none
   ·skip
    have hne : ¬ (ms i ([98, 46] ++ nm)).map (·.1) = some (fileB i ((encP K (K + 2 * F) l)[i])) := by rw [hkn]; simp
    refine XC.block ?_
    refine XC.seq ?_
    refine XC.region ?_
    show XL _ _ _ _ (List.cons _ _) _ _
    refine XL.s rfl ?_
    refine Y.move (by rfl) ?_
    refine XL.s rfl ?_
    refine Y.indexR st31 (by rfl) (by rfl) hXi.row ⟨by omega, by omega⟩ (by rw [Int.toNat_natCast]; exact hd) ?_
    intro b43 o43 hs43 hc43
    refine XL.s rfl ?_
    refine Y.load one41 (by rfl) (by assumption) ?_
    refine XL.s rfl ?_
    refine Y.assign (by rfl) ?_
    refine XL.s rfl ?_
    refine Y.assign (by rfl) ?_
    refine XL.nil ?_
    refine QN.next ?_
    refine XC.seq ?_
    refine XC.region ?_
    show XL _ _ _ _ (List.cons _ _) _ _
    refine XL.s rfl ?_
    refine Y.move (by rfl) ?_
    refine XL.s rfl ?_
    refine Y.move (by rfl) ?_
    refine XL.s rfl ?_
    refine Y.move (by rfl) ?_
    refine XL.s rfl ?_
    refine Y.move (by rfl) ?_
    refine XL.s rfl ?_
    refine Y.move (by rfl) ?_
    refine XL.s rfl ?_
    refine Y.indexR st37 (by rfl) (by rfl) hvs ⟨by omega, by omega⟩ (by rw [Int.toNat_natCast]; exact hq) ?_
    intro b51 o51 hs51 hc51
    refine XL.s rfl ?_
    refine Y.load one39 (by rfl) (by assumption) ?_
    refine XL.s rfl ?_
    refine Y.call (by rfl) ok32 (file_ok _ _ i ((encP K (K + 2 * F) l)[i]) _ hb (by omega) (by omega)) ?_
    rintro v53 w53 hN53
    refine XL.s rfl ?_
    refine Y.call (by rfl) ok47 (mend_no _ _ _ _ _ _ nm _ _ (fileB i ((encP K (K + 2 * F) l)[i])) _ (hD.ext hN53.1) hN53.bs (by omega) hsdd (by have := hf i hi'; omega) hnm (ht' i hi') hkn) ?_
    rintro v54 w54 ⟨rfl, hC54, hD54⟩
    refine XL.s rfl ?_
    refine Y.move (by rfl) ?_
    refine XL.s rfl ?_
    refine Y.extract (by rfl) (by rfl) ?_
    refine XL.s rfl ?_
    refine Y.extract (by rfl) (by rfl) ?_
    refine XL.s rfl ?_
    refine Y.assign (by rfl) ?_
    refine XL.s rfl ?_
    refine Y.assign (by rfl) ?_
    refine XL.nil ?_
    refine QN.next ?_
    refine XC.seq ?_
    refine XC.seq ?_
    refine XC.region ?_
    show XL _ _ _ _ (List.cons _ _) _ _
    refine XL.s rfl ?_
    refine Y.move (by rfl) ?_
    refine XL.s rfl ?_
    refine Y.neq (by rfl) (by rfl) ?_
    refine XL.nil ?_
    refine QN.next ?_
    refine XC.condF rfl rfl ?_
    have hz53 := hN53.1.size
    have hz54 := hC54.size
    have hXn := hset (btw wr.heap.size w54.heap.size) w54 _ _ _ (fun b hb => hb.1) (Ext.then hN53.1 hC54) (hD54.mono fun b hb => by rcases hb with h | h; exact .inl h; exact .inr ⟨by have := h.1; omega, h.2⟩)
    have hXn := hXn.wider (G' := Grow G w29 w54) (fun b _ hb => by rcases hb with (h | h) | h; exact .inl h; exact .inr ⟨h.1, by have := h.2; omega⟩; exact .inr ⟨by have := h.1; omega, h.2⟩)
    have hcs : cntM ms nm (fun j => (fileB j ((encP K n l).getD j []))) (i + 1) = cntM ms nm (fun j => (fileB j ((encP K n l).getD j []))) i + 1 := by rw [cntM_succ]; simp only [mendC, hge, if_neg hne]
    refine XC.skip ?_
    refine QN.next ?_
    refine XC.region ?_
    show XL _ _ _ _ (List.cons _ _) _ _
    refine XL.s rfl ?_
    refine Y.move (by rfl) ?_
    refine XL.s rfl ?_
    refine Y.move (by rfl) ?_
    refine XL.s rfl ?_
    refine Y.add (by rfl) (by rfl) (show IntKind.i64.wrap (((cntM ms nm (fun j => (fileB j ((encP K n l).getD j []))) i : Nat) : Int) + 1) = ((cntM ms nm (fun j => (fileB j ((encP K n l).getD j []))) (i + 1) : Nat) : Int) from by rw [hcs, wrap64 (by omega) (by omega)]; omega) ?_
    refine XL.s rfl ?_
    refine Y.assign (by rfl) ?_
    refine XL.nil ?_
    refine QN.blk ?_
    refine QN.next ?_
    refine XC.region ?_
    show XL _ _ _ _ (List.cons _ _) _ _
    refine XL.s rfl ?_
    refine Y.add (by rfl) (by rfl) (wrap64 (by omega) (by omega)) ?_
    refine XL.s rfl ?_
    refine Y.move (by rfl) ?_
    refine XL.nil ?_
    refine QN.again (i + 1) ?_ ?_ ?_
    ·exact ⟨rfl, rfl, rfl, rfl, rfl, rfl, rfl, trivial⟩
    ·refine ⟨by omega, hC.trans (Ext.then hN53.1 hC54) (fun _ h => h) (fun x hx h => by rcases (hFi x h).2.2.1 with h | h; exact h; (have := h.1; omega)), (hXn.more (fun j _ => ?_)).cast (fun j _ => ?_)⟩
     ·by_cases e : j = i
      ·subst e; simp; try omega
      ·by_cases e2 : j < i
       ·simp [e, e2, show j < i + 1 by omega]
       ·simp [e, e2, show ¬ j < i + 1 by omega]
     ·by_cases e : j = i
      ·subst e; simp only [if_true, if_pos (Nat.lt_succ_self j)]; rw [hge]; simp only [mendP, if_neg hne]
      ·by_cases e2 : j < i
       ·simp only [if_neg e, if_pos e2, if_pos (show j < i + 1 by omega)]
       ·simp only [if_neg e, if_neg e2, if_neg (show ¬ j < i + 1 by omega)]
    ·first | omega | (simp only []; omega) | (simp; omega)
   ·skip
    obtain ⟨⟨d0, s0⟩, hk2⟩ := Option.ne_none_iff_exists'.1 hkn
    by_cases hdf : d0 = fileB i ((encP K (K + 2 * F) l)[i])
    ·skip
     subst hdf
     have hne : (ms i ([98, 46] ++ nm)).map (·.1) = some (fileB i ((encP K (K + 2 * F) l)[i])) := by rw [hk2]; rfl
     refine XC.block ?_
     refine XC.seq ?_
     refine XC.region ?_
     show XL _ _ _ _ (List.cons _ _) _ _
     refine XL.s rfl ?_
     refine Y.move (by rfl) ?_
     refine XL.s rfl ?_
     refine Y.indexR st31 (by rfl) (by rfl) hXi.row ⟨by omega, by omega⟩ (by rw [Int.toNat_natCast]; exact hd) ?_
     intro b43 o43 hs43 hc43
     refine XL.s rfl ?_
     refine Y.load one41 (by rfl) (by assumption) ?_
     refine XL.s rfl ?_
     refine Y.assign (by rfl) ?_
     refine XL.s rfl ?_
     refine Y.assign (by rfl) ?_
     refine XL.nil ?_
     refine QN.next ?_
     refine XC.seq ?_
     refine XC.region ?_
     show XL _ _ _ _ (List.cons _ _) _ _
     refine XL.s rfl ?_
     refine Y.move (by rfl) ?_
     refine XL.s rfl ?_
     refine Y.move (by rfl) ?_
     refine XL.s rfl ?_
     refine Y.move (by rfl) ?_
     refine XL.s rfl ?_
     refine Y.move (by rfl) ?_
     refine XL.s rfl ?_
     refine Y.move (by rfl) ?_
     refine XL.s rfl ?_
     refine Y.indexR st37 (by rfl) (by rfl) hvs ⟨by omega, by omega⟩ (by rw [Int.toNat_natCast]; exact hq) ?_
     intro b51 o51 hs51 hc51
     refine XL.s rfl ?_
     refine Y.load one39 (by rfl) (by assumption) ?_
     refine XL.s rfl ?_
     refine Y.call (by rfl) ok32 (file_ok _ _ i ((encP K (K + 2 * F) l)[i]) _ hb (by omega) (by omega)) ?_
     rintro v53 w53 hN53
     refine XL.s rfl ?_
     refine Y.call (by rfl) ok47 (mend_yes _ _ _ _ _ _ nm _ _ (fileB i ((encP K (K + 2 * F) l)[i])) _ (hD.ext hN53.1) hN53.bs (by omega) hsdd (by have := hf i hi'; omega) hnm (ht' i hi') s0 hk2) ?_
     rintro v54 w54 ⟨rfl, hC54, hD54⟩
     refine XL.s rfl ?_
     refine Y.move (by rfl) ?_
     refine XL.s rfl ?_
     refine Y.extract (by rfl) (by rfl) ?_
     refine XL.s rfl ?_
     refine Y.extract (by rfl) (by rfl) ?_
     refine XL.s rfl ?_
     refine Y.assign (by rfl) ?_
     refine XL.s rfl ?_
     refine Y.assign (by rfl) ?_
     refine XL.nil ?_
     refine QN.next ?_
     refine XC.seq ?_
     refine XC.seq ?_
     refine XC.region ?_
     show XL _ _ _ _ (List.cons _ _) _ _
     refine XL.s rfl ?_
     refine Y.move (by rfl) ?_
     refine XL.s rfl ?_
     refine Y.neq (by rfl) (by rfl) ?_
     refine XL.nil ?_
     refine QN.next ?_
     refine XC.condF rfl rfl ?_
     have hz53 := hN53.1.size
     have hz54 := hC54.size
     have hXn := hset (btw wr.heap.size w54.heap.size) w54 _ _ _ (fun b hb => hb.1) (Ext.then hN53.1 hC54) (hD54.mono fun b hb => .inl hb)
     have hXn := hXn.wider (G' := Grow G w29 w54) (fun b _ hb => by rcases hb with (h | h) | h; exact .inl h; exact .inr ⟨h.1, by have := h.2; omega⟩; exact .inr ⟨by have := h.1; omega, h.2⟩)
     have hcs : cntM ms nm (fun j => (fileB j ((encP K n l).getD j []))) (i + 1) = cntM ms nm (fun j => (fileB j ((encP K n l).getD j []))) i + 0 := by rw [cntM_succ]; simp only [mendC, hge, if_pos hne]
     refine XC.skip ?_
     refine QN.next ?_
     refine XC.region ?_
     show XL _ _ _ _ (List.cons _ _) _ _
     refine XL.s rfl ?_
     refine Y.move (by rfl) ?_
     refine XL.s rfl ?_
     refine Y.move (by rfl) ?_
     refine XL.s rfl ?_
     refine Y.add (by rfl) (by rfl) (show IntKind.i64.wrap (((cntM ms nm (fun j => (fileB j ((encP K n l).getD j []))) i : Nat) : Int) + 0) = ((cntM ms nm (fun j => (fileB j ((encP K n l).getD j []))) (i + 1) : Nat) : Int) from by rw [hcs, wrap64 (by omega) (by omega)]; omega) ?_
     refine XL.s rfl ?_
     refine Y.assign (by rfl) ?_
     refine XL.nil ?_
     refine QN.blk ?_
     refine QN.next ?_
     refine XC.region ?_
     show XL _ _ _ _ (List.cons _ _) _ _
     refine XL.s rfl ?_
     refine Y.add (by rfl) (by rfl) (wrap64 (by omega) (by omega)) ?_
     refine XL.s rfl ?_
     refine Y.move (by rfl) ?_
     refine XL.nil ?_
     refine QN.again (i + 1) ?_ ?_ ?_
     ·exact ⟨rfl, rfl, rfl, rfl, rfl, rfl, rfl, trivial⟩
     ·refine ⟨by omega, hC.trans (Ext.then hN53.1 hC54) (fun _ h => h) (fun x hx h => by rcases (hFi x h).2.2.1 with h | h; exact h; (have := h.1; omega)), (hXn.more (fun j _ => ?_)).cast (fun j _ => ?_)⟩
      ·by_cases e : j = i
       ·subst e; simp; try omega
       ·by_cases e2 : j < i
        ·simp [e, e2, show j < i + 1 by omega]
        ·simp [e, e2, show ¬ j < i + 1 by omega]
      ·by_cases e : j = i
       ·subst e; simp only [if_true, if_pos (Nat.lt_succ_self j)]; rw [hge]; simp only [mendP, if_pos hne]
       ·by_cases e2 : j < i
        ·simp only [if_neg e, if_pos e2, if_pos (show j < i + 1 by omega)]
        ·simp only [if_neg e, if_neg e2, if_neg (show ¬ j < i + 1 by omega)]
     ·first | omega | (simp only []; omega) | (simp; omega)
    ·skip
     have hne : ¬ (ms i ([98, 46] ++ nm)).map (·.1) = some (fileB i ((encP K (K + 2 * F) l)[i])) := by rw [hk2]; simpa using hdf
     refine XC.block ?_
     refine XC.seq ?_
     refine XC.region ?_
     show XL _ _ _ _ (List.cons _ _) _ _
     refine XL.s rfl ?_
     refine Y.move (by rfl) ?_
     refine XL.s rfl ?_
     refine Y.indexR st31 (by rfl) (by rfl) hXi.row ⟨by omega, by omega⟩ (by rw [Int.toNat_natCast]; exact hd) ?_
     intro b43 o43 hs43 hc43
     refine XL.s rfl ?_
     refine Y.load one41 (by rfl) (by assumption) ?_
     refine XL.s rfl ?_
     refine Y.assign (by rfl) ?_
     refine XL.s rfl ?_
     refine Y.assign (by rfl) ?_
     refine XL.nil ?_
     refine QN.next ?_
     refine XC.seq ?_
     refine XC.region ?_
     show XL _ _ _ _ (List.cons _ _) _ _
     refine XL.s rfl ?_
     refine Y.move (by rfl) ?_
     refine XL.s rfl ?_
     refine Y.move (by rfl) ?_
     refine XL.s rfl ?_
     refine Y.move (by rfl) ?_
     refine XL.s rfl ?_
     refine Y.move (by rfl) ?_
     refine XL.s rfl ?_
     refine Y.move (by rfl) ?_
     refine XL.s rfl ?_
     refine Y.indexR st37 (by rfl) (by rfl) hvs ⟨by omega, by omega⟩ (by rw [Int.toNat_natCast]; exact hq) ?_
     intro b51 o51 hs51 hc51
     refine XL.s rfl ?_
     refine Y.load one39 (by rfl) (by assumption) ?_
     refine XL.s rfl ?_
     refine Y.call (by rfl) ok32 (file_ok _ _ i ((encP K (K + 2 * F) l)[i]) _ hb (by omega) (by omega)) ?_
     rintro v53 w53 hN53
     refine XL.s rfl ?_
     refine Y.call (by rfl) ok47 (mend_ne _ _ _ _ _ _ nm _ _ (fileB i ((encP K (K + 2 * F) l)[i])) _ (hD.ext hN53.1) hN53.bs (by omega) hsdd (by have := hf i hi'; omega) hnm (ht' i hi') d0 s0 hk2 hdf) ?_
     rintro v54 w54 ⟨rfl, hC54, hD54⟩
     refine XL.s rfl ?_
     refine Y.move (by rfl) ?_
     refine XL.s rfl ?_
     refine Y.extract (by rfl) (by rfl) ?_
     refine XL.s rfl ?_
     refine Y.extract (by rfl) (by rfl) ?_
     refine XL.s rfl ?_
     refine Y.assign (by rfl) ?_
     refine XL.s rfl ?_
     refine Y.assign (by rfl) ?_
     refine XL.nil ?_
     refine QN.next ?_
     refine XC.seq ?_
     refine XC.seq ?_
     refine XC.region ?_
     show XL _ _ _ _ (List.cons _ _) _ _
     refine XL.s rfl ?_
     refine Y.move (by rfl) ?_
     refine XL.s rfl ?_
     refine Y.neq (by rfl) (by rfl) ?_
     refine XL.nil ?_
     refine QN.next ?_
     refine XC.condF rfl rfl ?_
     have hz53 := hN53.1.size
     have hz54 := hC54.size
     have hXn := hset (btw wr.heap.size w54.heap.size) w54 _ _ _ (fun b hb => hb.1) (Ext.then hN53.1 hC54) (hD54.mono fun b hb => by rcases hb with h | h; exact .inl h; exact .inr ⟨by have := h.1; omega, h.2⟩)
     have hXn := hXn.wider (G' := Grow G w29 w54) (fun b _ hb => by rcases hb with (h | h) | h; exact .inl h; exact .inr ⟨h.1, by have := h.2; omega⟩; exact .inr ⟨by have := h.1; omega, h.2⟩)
     have hcs : cntM ms nm (fun j => (fileB j ((encP K n l).getD j []))) (i + 1) = cntM ms nm (fun j => (fileB j ((encP K n l).getD j []))) i + 1 := by rw [cntM_succ]; simp only [mendC, hge, if_neg hne]
     refine XC.skip ?_
     refine QN.next ?_
     refine XC.region ?_
     show XL _ _ _ _ (List.cons _ _) _ _
     refine XL.s rfl ?_
     refine Y.move (by rfl) ?_
     refine XL.s rfl ?_
     refine Y.move (by rfl) ?_
     refine XL.s rfl ?_
     refine Y.add (by rfl) (by rfl) (show IntKind.i64.wrap (((cntM ms nm (fun j => (fileB j ((encP K n l).getD j []))) i : Nat) : Int) + 1) = ((cntM ms nm (fun j => (fileB j ((encP K n l).getD j []))) (i + 1) : Nat) : Int) from by rw [hcs, wrap64 (by omega) (by omega)]; omega) ?_
     refine XL.s rfl ?_
     refine Y.assign (by rfl) ?_
     refine XL.nil ?_
     refine QN.blk ?_
     refine QN.next ?_
     refine XC.region ?_
     show XL _ _ _ _ (List.cons _ _) _ _
     refine XL.s rfl ?_
     refine Y.add (by rfl) (by rfl) (wrap64 (by omega) (by omega)) ?_
     refine XL.s rfl ?_
     refine Y.move (by rfl) ?_
     refine XL.nil ?_
     refine QN.again (i + 1) ?_ ?_ ?_
     ·exact ⟨rfl, rfl, rfl, rfl, rfl, rfl, rfl, trivial⟩
     ·refine ⟨by omega, hC.trans (Ext.then hN53.1 hC54) (fun _ h => h) (fun x hx h => by rcases (hFi x h).2.2.1 with h | h; exact h; (have := h.1; omega)), (hXn.more (fun j _ => ?_)).cast (fun j _ => ?_)⟩
      ·by_cases e : j = i
       ·subst e; simp; try omega
       ·by_cases e2 : j < i
        ·simp [e, e2, show j < i + 1 by omega]
        ·simp [e, e2, show ¬ j < i + 1 by omega]
      ·by_cases e : j = i
       ·subst e; simp only [if_true, if_pos (Nat.lt_succ_self j)]; rw [hge]; simp only [mendP, if_neg hne]
       ·by_cases e2 : j < i
        ·simp only [if_neg e, if_pos e2, if_pos (show j < i + 1 by omega)]
        ·simp only [if_neg e, if_neg e2, if_neg (show ¬ j < i + 1 by omega)]
     ·first | omega | (simp only []; omega) | (simp; omega)
  ·intro hc
   try simp only [decide_eq_true_eq, decide_eq_false_iff_not, Bool.not_eq_true', Bool.not_eq_false', Bool.not_eq_eq_eq_not, Bool.not_true, Bool.not_false, Bool.or_eq_true, Bool.and_eq_true, Bool.or_eq_false_iff] at hc
   have hin : i = n := by omega
   subst hin
   have hXe := (hXi.more (U' := fun j => U j + (20 + pieceN K l)) (c' := fun j => c j + 1) (fun j hj => by simp [hj])).cast (ms' := fun j => mendP (ms j) nm (fileB j ((encP K i l).getD j []))) (fun j hj => by simp [hj])
   refine XC.exit ?_
   refine QN.thenE ?_
   refine QN.thenE ?_
   refine QN.hit ?_
   refine QN.next ?_
   refine XC.seq ?_
   refine XC.region ?_
   show XL _ _ _ _ (List.cons _ _) _ _
   refine XL.s rfl ?_
   refine Y.move (by rfl) ?_
   refine XL.s rfl ?_
   refine Y.assign (by rfl) ?_
   refine XL.s rfl ?_
   refine Y.assign (by rfl) ?_
   refine XL.nil ?_
   refine QN.next ?_
   refine XC.ret ?_
   refine QN.doneN (fn := Tryz.f24) (R := R) (.inl rfl) rfl rfl ?_
   refine hR _ _ ?_
   exact ⟨rfl, Ext.then hEE hC, tb, _, dvs, Fr, rfl, hXe.wider (fun b _ hb => by rcases hb with h | h; exact .inl h; exact .inr ⟨by have := h.1; omega, h.2⟩)⟩
end Go.Proofs.YtchammpamigonaaGreatX
end
section
set_option linter.unusedVariables false
set_option linter.unusedSimpArgs false
set_option maxRecDepth 10000
set_option maxHeartbeats 4000000
namespace Go.Proofs.YtchammpamigonaaGreatX
open Go Go.RowKit Go.Proofs
theorem getG_ok (G : Nat → Prop) (tv : Value) (K F n most : Nat) (ms : Nat → Fm) (U c : Nat → Nat) (w : World) (hS : StoreA 66 79 82 5 G w tv K F n most ms U c) (hm : most ≤ 65536) (hU : ∀ i, i < n → U i ≤ 65536) (nm : List UInt8) (hnm : 1 ≤ nm.length ∧ nm.length ≤ 16) (hk : 1 ≤ K) (hKF : K + 2 * F ≤ 7) (hnn : n = K + 2 * F) (l : List UInt8) (hl : l.length ≤ 512) (g : Nat → Bool) (hg : Goods ms nm n (fun i => (encP K n l).getD i []) g) (Sa : Nat → Prop) (ua : Value) (away : List Int) (haw : Zs Sa w ua away) (hc : K ≤ goodN g away n) : Rets Tryz.prog 14 #[tv, strV nm, ua] w fun v w' => v = .tuple #[strV l, .int .i64 0] ∧ Ext w w' := by
 subst hnn
 have he : ∀ i, i < K + 2 * F → 0 < ((encP K (K + 2 * F) l).getD i []).length := fun i hi => by rw [encP_getD_len K F l hk hi]; exact pieceN_pos l hk
 have ht := hg.there (away := away) he
 have hlen : K ≤ (thereP (shardsP ms nm away (K + 2 * F))).length := by rw [ht]; exact hc
 obtain ⟨B, h1, h2, h3, h4⟩ := dec_facts K F l hk hKF (shardsP ms nm away (K + 2 * F)) (by simp [shardsP]) (hg.same he) hlen
 exact sget_ok G tv K F _ most ms U c w hS hm hU hKF nm Sa ua away haw hnm hk rfl (hg.any (away := away) he (by omega)) l hl hlen (hg.same he) B h1 h2 h3 h4
theorem repG_short (G : Nat → Prop) (tv : Value) (K F n most : Nat) (ms : Nat → Fm) (U c : Nat → Nat) (w : World) (hS : StoreA 66 79 82 5 G w tv K F n most ms U c) (hm : most ≤ 65536) (hU : ∀ i, i < n → U i ≤ 65536) (nm : List UInt8) (hnm : 1 ≤ nm.length ∧ nm.length ≤ 16) (hk : 1 ≤ K) (hKF : K + 2 * F ≤ 7) (hnn : n = K + 2 * F) (l : List UInt8) (hl : l.length ≤ 512) (g : Nat → Bool) (hg : Goods ms nm n (fun i => (encP K n l).getD i []) g) (hc : goodN g [] n < K) : Rets Tryz.prog 24 #[tv, strV nm] w fun v w' => (∃ e : Int, v = .tuple #[.int .i64 0, .int .i64 e] ∧ e ≠ 0) ∧ Ext w w' := by
 subst hnn
 have he : ∀ i, i < K + 2 * F → 0 < ((encP K (K + 2 * F) l).getD i []).length := fun i hi => by rw [encP_getD_len K F l hk hi]; exact pieceN_pos l hk
 have ht := hg.there (away := []) he
 cases h0 : hasAny ms nm (K + 2 * F) with
 | false => exact (srep_none G tv K F _ most ms U c w hS hm hU hKF nm hnm hk rfl h0).mono fun v w' h => ⟨⟨5, h.1, by decide⟩, h.2⟩
 | true => exact (srep_short G tv K F _ most ms U c w hS hm hU hKF nm hnm hk rfl h0 (by rw [ht]; exact hc)).mono fun v w' h => ⟨⟨3, h.1, by decide⟩, h.2⟩
theorem repG_ok (G : Nat → Prop) (tv : Value) (K F n most : Nat) (ms : Nat → Fm) (U c : Nat → Nat) (w : World) (hS : StoreA 66 79 82 5 G w tv K F n most ms U c) (hm : most ≤ 65536) (hU : ∀ i, i < n → U i ≤ 65536) (nm : List UInt8) (hnm : 1 ≤ nm.length ∧ nm.length ≤ 16) (hk : 1 ≤ K) (hKF : K + 2 * F ≤ 7) (hnn : n = K + 2 * F) (l : List UInt8) (hl : l.length ≤ 512) (g : Nat → Bool) (hg : Goods ms nm n (fun i => (encP K n l).getD i []) g) (hc : K ≤ goodN g [] n) (hf : ∀ i, i < n → U i + (20 + pieceN K l) ≤ most) (ht' : ∀ i, i < n → ms i [116, 46] = none) (hGb : ∀ b, G b → b < w.heap.size) : Rets Tryz.prog 24 #[tv, strV nm] w fun v w' => v = .tuple #[.int .i64 (cntM ms nm (fun j => fileB j ((encP K n l).getD j [])) n : Nat), .int .i64 0] ∧ Chg G w w' ∧ StoreA 66 79 82 5 (Grow G w w') w' tv K F n most (fun j => mendP (ms j) nm (fileB j ((encP K n l).getD j []))) (fun j => U j + (20 + pieceN K l)) (fun j => c j + 1) := by
 subst hnn
 have he : ∀ i, i < K + 2 * F → 0 < ((encP K (K + 2 * F) l).getD i []).length := fun i hi => by rw [encP_getD_len K F l hk hi]; exact pieceN_pos l hk
 have ht := hg.there (away := []) he
 have hlen : K ≤ (thereP (shardsP ms nm [] (K + 2 * F))).length := by rw [ht]; exact hc
 obtain ⟨B, h1, h2, h3, h4⟩ := dec_facts K F l hk hKF (shardsP ms nm [] (K + 2 * F)) (by simp [shardsP]) (hg.same he) hlen
 exact srep_ok G tv K F _ most ms U c w hS hm hU hKF nm hnm hk rfl (hg.any (away := []) he (by omega)) l hl hlen (hg.same he) B h1 h2 h3 h4 hf ht' hGb
theorem newS (k F : Nat) (w : World) (hk : 1 ≤ k) (hF : k + 2 * F ≤ 7) (Sd : Nat → Prop) (u : Value) (dvs : List Value) (hr : Row Sd w u (k + 2 * F) dvs) (hdl : dvs.length = k + 2 * F) (Fd : Nat → Nat → Prop) (most : Nat) (ms : Nat → Fm) (U c : Nat) (hd : ∀ i d, dvs[i]? = some d → DiskA 79 82 5 (Fd i) w d most (ms i) U c) (hm : most ≤ 65536) (hU : U ≤ 65536) : Rets Tryz.prog 10 #[shapeV k F, u] w fun v w' => ∃ tv, v = .tuple #[tv, .int .i64 0] ∧ StoreS 66 79 82 5 w w' tv k F (k + 2 * F) most ms U c := by
 exact (snew_ok k F w hk hF Sd u _ dvs hr hdl rfl Fd most ms U c hd hm (by omega)).mono fun v w' ⟨tv, h1, h2, h3⟩ => ⟨tv, h1, h3, _, h2, fun b hb => hb⟩
theorem newD (k F : Nat) (w : World) (hk : 1 ≤ k) (hF : k + 2 * F ≤ 7) (u : Value) (lo most : Nat) (ms : Nat → Fm) (U c : Nat) (h : DRow 41 79 82 5 lo w most ms U c (k + 2 * F) u) (hm : most ≤ 65536) (hU : U ≤ 65536) : Rets Tryz.prog 10 #[shapeV k F, u] w fun v w' => ∃ tv, v = .tuple #[tv, .int .i64 0] ∧ StoreS 66 79 82 5 w w' tv k F (k + 2 * F) most ms U c := by
 obtain ⟨dvs, Fd, h1, h2, h3⟩ := h.out
 exact newS k F w hk hF _ u dvs h1 h2 Fd most ms U c h3 hm hU
theorem putS (w0 : World) (tv : Value) (K F n most : Nat) (ms : Nat → Fm) (U c : Nat) (w : World) (hS : StoreS 66 79 82 5 w0 w tv K F n most ms U c) (hm : most ≤ 65536) (hU : U ≤ 65536) (nm : List UInt8) (hnm : 1 ≤ nm.length ∧ nm.length ≤ 16) (hk : 1 ≤ K) (hKF : K + 2 * F ≤ 7) (hnn : n = K + 2 * F) (l : List UInt8) (hl : l.length ≤ 512) (hf : U + (20 + pieceN K l) ≤ most) (ht : ∀ i, i < n → ms i [116, 46] = none) : Rets Tryz.prog 13 #[tv, strV nm, strV l] w fun v w' => v = .int .i64 0 ∧ StoreS 66 79 82 5 w0 w' tv K F n most (fun i => upd (ms i) ([98, 46] ++ nm) (some (fileB i ((encP K n l).getD i []), 20 + pieceN K l))) (U + (20 + pieceN K l)) (c + 1) := by
 obtain ⟨h1, G, h2, h3⟩ := hS
 have hs := h1.size
 exact (sput_ok G tv K F n most ms _ _ w h2 hm (fun _ _ => hU) (by omega) nm l hk hKF hnm hl hnn (fun _ _ => hf) ht (fun b hb => (h3 b hb).2)).mono fun v w' ⟨e1, e2, e3⟩ => ⟨e1, StoreS.of h1 e2 (fun b hb => (h3 b hb).1) e3 (fun b hb => by rcases hb with h | h; exact (h3 b h).1; (have := h.1; omega)) (fun i _ => ⟨Nat.le_refl _, Nat.le_refl _⟩)⟩
theorem getS (w0 : World) (tv : Value) (K F n most : Nat) (ms : Nat → Fm) (U c : Nat) (w : World) (hS : StoreS 66 79 82 5 w0 w tv K F n most ms U c) (hm : most ≤ 65536) (hU : U ≤ 65536) (nm : List UInt8) (hnm : 1 ≤ nm.length ∧ nm.length ≤ 16) (hk : 1 ≤ K) (hKF : K + 2 * F ≤ 7) (hnn : n = K + 2 * F) (l : List UInt8) (hl : l.length ≤ 512) (g : Nat → Bool) (hg : Goods ms nm n (fun i => (encP K n l).getD i []) g) (Sa : Nat → Prop) (ua : Value) (away : List Int) (haw : Zs Sa w ua away) (hc : K ≤ goodN g away n) : Rets Tryz.prog 14 #[tv, strV nm, ua] w fun v w' => v = .tuple #[strV l, .int .i64 0] ∧ Ext w w' := by
 obtain ⟨h1, G, h2, h3⟩ := hS
 exact getG_ok G tv K F n most ms _ _ w h2 hm (fun _ _ => hU) nm hnm hk hKF hnn l hl g hg Sa ua away haw hc
theorem getS_none (w0 : World) (tv : Value) (K F n most : Nat) (ms : Nat → Fm) (U c : Nat) (w : World) (hS : StoreS 66 79 82 5 w0 w tv K F n most ms U c) (hm : most ≤ 65536) (hU : U ≤ 65536) (nm : List UInt8) (hnm : 1 ≤ nm.length ∧ nm.length ≤ 16) (hk : 1 ≤ K) (hKF : K + 2 * F ≤ 7) (hnn : n = K + 2 * F) (Sa : Nat → Prop) (ua : Value) (away : List Int) (haw : Zs Sa w ua away) (h0 : hasAny ms nm n = false) : Rets Tryz.prog 14 #[tv, strV nm, ua] w fun v w' => v = .tuple #[strV [], .int .i64 5] ∧ Ext w w' := by
 obtain ⟨h1, G, h2, h3⟩ := hS
 exact sget_none G tv K F n most ms _ _ w h2 hm (fun _ _ => hU) (by omega) nm Sa ua away haw hnm hk hnn h0
theorem repS_short (w0 : World) (tv : Value) (K F n most : Nat) (ms : Nat → Fm) (U c : Nat) (w : World) (hS : StoreS 66 79 82 5 w0 w tv K F n most ms U c) (hm : most ≤ 65536) (hU : U ≤ 65536) (nm : List UInt8) (hnm : 1 ≤ nm.length ∧ nm.length ≤ 16) (hk : 1 ≤ K) (hKF : K + 2 * F ≤ 7) (hnn : n = K + 2 * F) (l : List UInt8) (hl : l.length ≤ 512) (g : Nat → Bool) (hg : Goods ms nm n (fun i => (encP K n l).getD i []) g) (hc : goodN g [] n < K) : Rets Tryz.prog 24 #[tv, strV nm] w fun v w' => (∃ e : Int, v = .tuple #[.int .i64 0, .int .i64 e] ∧ e ≠ 0) ∧ Ext w w' := by
 obtain ⟨h1, G, h2, h3⟩ := hS
 exact repG_short G tv K F n most ms _ _ w h2 hm (fun _ _ => hU) nm hnm hk hKF hnn l hl g hg hc
theorem repS (w0 : World) (tv : Value) (K F n most : Nat) (ms : Nat → Fm) (U c : Nat) (w : World) (hS : StoreS 66 79 82 5 w0 w tv K F n most ms U c) (hm : most ≤ 65536) (hU : U ≤ 65536) (nm : List UInt8) (hnm : 1 ≤ nm.length ∧ nm.length ≤ 16) (hk : 1 ≤ K) (hKF : K + 2 * F ≤ 7) (hnn : n = K + 2 * F) (l : List UInt8) (hl : l.length ≤ 512) (g : Nat → Bool) (hg : Goods ms nm n (fun i => (encP K n l).getD i []) g) (hc : K ≤ goodN g [] n) (hf : U + (20 + pieceN K l) ≤ most) (ht' : ∀ i, i < n → ms i [116, 46] = none) : Rets Tryz.prog 24 #[tv, strV nm] w fun v w' => v = .tuple #[.int .i64 (cntM ms nm (fun j => fileB j ((encP K n l).getD j [])) n : Nat), .int .i64 0] ∧ StoreS 66 79 82 5 w0 w' tv K F n most (fun j => mendP (ms j) nm (fileB j ((encP K n l).getD j []))) (U + (20 + pieceN K l)) (c + 1) := by
 obtain ⟨h1, G, h2, h3⟩ := hS
 have hs := h1.size
 exact (repG_ok G tv K F n most ms _ _ w h2 hm (fun _ _ => hU) nm hnm hk hKF hnn l hl g hg hc (fun _ _ => hf) ht' (fun b hb => (h3 b hb).2)).mono fun v w' ⟨e1, e2, e3⟩ => ⟨e1, StoreS.of h1 e2 (fun b hb => (h3 b hb).1) e3 (fun b hb => by rcases hb with h | h; exact (h3 b h).1; (have := h.1; omega)) (fun i _ => ⟨Nat.le_refl _, Nat.le_refl _⟩)⟩
theorem diskS (w0 : World) (tv : Value) (K F n most : Nat) (ms : Nat → Fm) (U c : Nat) (w : World) (hS : StoreS 66 79 82 5 w0 w tv K F n most ms U c) (hm : most ≤ 65536) (hU : U ≤ 65536) (hn : n ≤ 7) (i : Nat) (hi : i < n) : Rets Tryz.prog 16 #[tv, .int .i64 i] w fun v w' => DiskA 79 82 5 (btw w.heap.size w'.heap.size) w' v most (ms i) U c ∧ Ext w w' := by
 obtain ⟨h1, G, h2, h3⟩ := hS
 exact sdisk_ok G tv K F n most ms _ _ w h2 hm (fun _ _ => hU) hn i hi
theorem diskS_no (w0 : World) (tv : Value) (K F n most : Nat) (ms : Nat → Fm) (U c : Nat) (w : World) (hS : StoreS 66 79 82 5 w0 w tv K F n most ms U c) (hm : most ≤ 65536) (hU : U ≤ 65536) (hn : n ≤ 7) : Rets Tryz.prog 16 #[tv, .int .i64 n] w fun v w' => v = .pointer none ∧ Ext w w' := by
 obtain ⟨h1, G, h2, h3⟩ := hS
 exact sdisk_no G tv K F n most ms _ _ w h2 hm (fun _ _ => hU) hn
theorem scrubS_clean (w0 : World) (tv : Value) (K F n most : Nat) (ms : Nat → Fm) (U c : Nat) (w : World) (hS : StoreS 66 79 82 5 w0 w tv K F n most ms U c) (hm : most ≤ 65536) (hU : U ≤ 65536) (hn : n ≤ 7) (i : Nat) (hi : i < n) (hc12 : c ≤ 12) (hnd : ∀ x, ms i x ≠ none → 1 ≤ x.length ∧ x.length ≤ 24) (hcl : ∀ x, ms i x ≠ none → badF i (ms i) x = false) : Rets Tryz.prog 22 #[tv, .int .i64 i] w fun v w' => v = .tuple #[.slice none 0 0, .int .i64 0] ∧ Ext w w' := by
 obtain ⟨h1, G, h2, h3⟩ := hS
 exact sscrub_clean G tv K F n most ms _ _ w h2 hm (fun _ _ => hU) hn i hi hc12 hnd hcl
theorem scrubS (w0 : World) (tv : Value) (K F n most : Nat) (ms : Nat → Fm) (U c : Nat) (w : World) (hS : StoreS 66 79 82 5 w0 w tv K F n most ms U c) (hm : most ≤ 65536) (hU : U ≤ 65536) (hn : n ≤ 7) (i : Nat) (hi : i < n) (hc12 : c ≤ 12) (hnd : ∀ x, ms i x ≠ none → 1 ≤ x.length ∧ x.length ≤ 24) : Rets Tryz.prog 22 #[tv, .int .i64 i] w fun v w' => ∃ ss : List (List UInt8), ss.Nodup ∧ (∀ x, x ∈ ss ↔ ms i x ≠ none) ∧ ∃ a, v = .tuple #[a, .int .i64 0] ∧ Row AnyB w' a (scrubO i (ms i) ss).length (strsV (scrubO i (ms i) ss)) ∧ StoreS 66 79 82 5 w0 w' tv K F n most (fun q => if q = i then scrubM i (ms i) ss else ms q) U c := by
 obtain ⟨h1, G, h2, h3⟩ := hS
 exact (sscrub_ok G tv K F n most ms _ _ w h2 hm (fun _ _ => hU) hn i hi hc12 hnd (fun b hb => (h3 b hb).2)).mono fun v w' ⟨ss, e1, e2, a, e3, e4, e5, e6⟩ => ⟨ss, e1, e2, a, e3, e4, StoreS.of h1 e5 (fun b hb => (h3 b hb).1) e6 (fun b hb => (h3 b hb).1) (fun i _ => ⟨Nat.le_refl _, Nat.le_refl _⟩)⟩
end Go.Proofs.YtchammpamigonaaGreatX
end
