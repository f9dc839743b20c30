/- For every shape, name, text and block size shardloglaw25.ScrubPuts returns true and leaves what it was handed as it was; no condition. Part 6 of 6: joined by a program of this repo out of texts of its own. -/
import Derived.Test.YtchammpamigonaaGreatRows
import Derived.WalkKit
import Derived.ProofKit
import Derived.OpenShut
import Derived.ShutString
import Derived.ChangeOld
import Derived.Below
import Derived.Lib.SmallJoins
import Derived.Test.YtchammpamigonaaGreatPuts5
set_option linter.unusedVariables false
set_option linter.unusedSimpArgs false
section
set_option linter.unusedVariables false
set_option linter.unusedSimpArgs false
set_option maxRecDepth 10000
set_option maxHeartbeats 4000000
namespace Go.Proofs.YtchammpamigonaaGreatX
open Go Go.RowKit Go.Proofs
theorem srep_ok (G : Nat → Prop) (tv : Value) (K F n most : Nat) (ms : Nat → Fm) (U c : Nat → Nat) (w : World) (hS : StoreA 66 79 82 5 G w tv K F n most ms U c) (hm : most ≤ 65536) (hU : ∀ i, i < n → U i ≤ 65536) (hn : n ≤ 7) (nm : List UInt8) (hnm : 1 ≤ nm.length ∧ nm.length ≤ 16) (hk : 1 ≤ K) (hnn : n = K + 2 * F) (h0 : hasAny ms nm n = true) (l : List UInt8) (hl : l.length ≤ 512) (ht : K ≤ (thereP (shardsP ms nm [] n)).length) (ha : ∀ i ∈ thereP (shardsP ms nm [] n), (shardsP ms nm [] n).getD i [] = (encP K (K + 2 * F) l).getD i []) (B : List (List UInt8)) (hi : invertP (rowsP (codingP K (K + 2 * F)) ((thereP (shardsP ms nm [] n)).take K)) = some B) (hBl : B.length = K) (hBk : ∀ r ∈ B, r.length = K) (hB : matMul B (rowsP (shardsP ms nm [] n) ((thereP (shardsP ms nm [] n)).take K)) = piecesP K l) (hf : ∀ i, i < n → U i + (20 + pieceN K l) ≤ most) (ht' : ∀ i, i < n → ms i [116, 46] = none) (hGb : ∀ b, G b → b < w.heap.size) :
  Rets Tryz.prog 24 #[tv, strV nm] w fun v w' => v = .tuple #[.int .i64 (cntM ms nm (fun j => (fileB j ((encP K n l).getD j []))) n : Nat), .int .i64 0] ∧ Chg G w w' ∧ StoreA 66 79 82 5 (Grow G w w') w' tv K F n most (fun j => mendP (ms j) nm (fileB j ((encP K n l).getD j []))) (fun j => U j + (20 + pieceN K l)) (fun j => c j + 1) := by
 refine Rets.enter (args := [tv, strV nm]) (n := 65) Tryz.func24 rfl rfl rfl ?_
 intro R hR
 show XC _ _ _ _ [(0, tv), (1, strV nm)] _
 obtain ⟨tb, av, dvs, Fr, rfl, hX⟩ := id hS
 obtain ⟨qa, capa, rfl⟩ := hX.row.val
 refine XC.seq ?_
 refine XC.region ?_
 show XL _ _ _ _ (List.cons _ _) _ _
 refine XL.s rfl ?_
 refine Y.assign (by rfl) ?_
 refine XL.s rfl ?_
 refine Y.assign (by rfl) ?_
 refine XL.nil ?_
 refine QN.next ?_
 refine XC.seq ?_
 refine XC.region ?_
 show XL _ _ _ _ (List.cons _ _) _ _
 refine XL.s rfl ?_
 refine Y.move (by rfl) ?_
 refine XL.s rfl ?_
 refine Y.move (by rfl) ?_
 refine XL.s rfl ?_
 refine Y.call (by rfl) ok14 (sget_ok G _ K F n most ms U c _ hS hm hU hn nm AnyB _ [] (Row.nil AnyB _) hnm hk hnn h0 l hl ht ha B hi hBl hBk hB) ?_
 rintro v17 w17 ⟨rfl, hE17⟩
 refine XL.s rfl ?_
 refine Y.move (by rfl) ?_
 refine XL.s rfl ?_
 refine Y.extract (by rfl) (by rfl) ?_
 refine XL.s rfl ?_
 refine Y.extract (by rfl) (by rfl) ?_
 refine XL.s rfl ?_
 refine Y.assign (by rfl) ?_
 refine XL.s rfl ?_
 refine Y.assign (by rfl) ?_
 refine XL.nil ?_
 refine QN.next ?_
 refine XC.seq ?_
 refine XC.seq ?_
 refine XC.region ?_
 show XL _ _ _ _ (List.cons _ _) _ _
 refine XL.s rfl ?_
 refine Y.move (by rfl) ?_
 refine XL.s rfl ?_
 refine Y.neq (by rfl) (by rfl) ?_
 refine XL.nil ?_
 refine QN.next ?_
 refine XC.condF rfl rfl ?_
 refine XC.skip ?_
 refine QN.next ?_
 refine XC.seq ?_
 refine XC.region ?_
 show XL _ _ _ _ (List.cons _ _) _ _
 refine XL.s rfl ?_
 refine Y.move (by rfl) ?_
 refine XL.s rfl ?_
 refine Y.nilCheck (by rfl) ?_
 refine XL.s rfl ?_
 refine Y.fieldAddr fld66_0 (by rfl) ?_
 refine XL.s rfl ?_
 refine Y.loadA agg23 (by rfl) rfl (three01 (hX.ext hE17).cell) ?_
 refine XL.s rfl ?_
 refine Y.move (by rfl) ?_
 refine XL.s rfl ?_
 refine Y.call (by rfl) ok30 (enc_ok K F l _ hk (by omega) hl) ?_
 rintro v29 w29 ⟨e29, rfl, hM29, hE29⟩
 refine XL.s rfl ?_
 refine Y.move (by rfl) ?_
 refine XL.s rfl ?_
 refine Y.extract (by rfl) (by rfl) ?_
 refine XL.s rfl ?_
 refine Y.extract (by rfl) (by rfl) ?_
 refine XL.s rfl ?_
 refine Y.assign (by rfl) ?_
 refine XL.s rfl ?_
 refine Y.assign (by rfl) ?_
 refine XL.nil ?_
 refine QN.next ?_
 refine XC.seq ?_
 refine XC.seq ?_
 refine XC.region ?_
 show XL _ _ _ _ (List.cons _ _) _ _
 refine XL.s rfl ?_
 refine Y.move (by rfl) ?_
 refine XL.s rfl ?_
 refine Y.neq (by rfl) (by rfl) ?_
 refine XL.nil ?_
 refine QN.next ?_
 refine XC.condF rfl rfl ?_
 have hEE := hE17.trans hE29
 have hX29 := hX.ext hEE
 have hel := encP_len K F l
 have hpl := padB_le l hk
 have hql := pieceN_le l hk
 have her : ∀ i (hi : i < (encP K (K + 2 * F) l).length), ((encP K (K + 2 * F) l)[i]).length = pieceN K l := fun i hi => encP_row K F l hk _ (List.getElem_mem hi)
 refine XC.skip ?_
 refine QN.next ?_
 refine XC.seq ?_
 refine XC.region ?_
 show XL _ _ _ _ (List.cons _ _) _ _
 refine XL.s rfl ?_
 refine Y.assign (by rfl) ?_
 refine XL.nil ?_
 refine QN.next ?_
 refine XC.seq ?_
 refine XC.seq ?_
 refine XC.region ?_
 show XL _ _ _ _ (List.cons _ _) _ _
 refine XL.s rfl ?_
 refine Y.move (by rfl) ?_
 refine XL.s rfl ?_
 refine Y.nilCheck (by rfl) ?_
 refine XL.s rfl ?_
 refine Y.fieldAddr fld66_1 (by rfl) ?_
 refine XL.s rfl ?_
 refine Y.load one31 (by rfl) (three2 hX29.cell) ?_
 refine XL.s rfl ?_
 refine Y.len Tryz.underlying31 (by rfl) hX29.row ?_
 obtain ⟨qe, cape, rfl⟩ := hM29.rows.val
 have hz29 := hEE.size
 have hz17 := hE17.size
 refine XL.s rfl ?_
 refine Y.move (by rfl) ?_
 refine XL.nil ?_
 refine QN.next ?_
 refine XC.block ?_
 refine XC.loop (α := Nat) (fun i => [(0, .pointer (some ⟨tb, 0, none⟩)), (1, strV nm), (8, .slice qe (encP K (K + 2 * F) l).length cape), (9, .int .i64 (cntM ms nm (fun j => (fileB j ((encP K n l).getD j []))) i : Nat)), (38, .slice qa n capa), (39, .int .i64 (n : Nat)), (40, .int .i64 i)]) (fun i wr => i ≤ n ∧ Chg G w29 wr ∧ StX 66 79 82 5 (Grow G w29 wr) wr tb (.slice qa n capa) dvs Fr K F n most (fun j => if j < i then mendP (ms j) nm (fileB j ((encP K n l).getD j [])) else ms j) (fun j => if j < i then U j + (20 + pieceN K l) else U j) (fun j => if j < i then c j + 1 else c j)) (fun i => n - i) (0) ?_ ?_ ?_
 ·exact ⟨rfl, rfl, rfl, rfl, rfl, rfl, rfl, trivial⟩
 ·exact ⟨by omega, Chg.refl _ _, (((hX29.wider (fun b _ h => .inl h)).more (fun j _ => ⟨by simp, by simp⟩)).cast (fun j _ => by simp))⟩
 ·rintro i wr hI
  obtain ⟨hi, hC, hXi⟩ := hI
  have hMi := hM29.rows.chg hC (fun b _ hb hg => by have := hGb b hg; have := hb.1; omega)
  have hzi := hC.size
  refine XC.seq ?_
  refine XC.region ?_
  show XL _ _ _ _ (List.cons _ _) _ _
  refine XL.s rfl ?_
  refine Y.lss (by rfl) (by rfl) ?_
  refine XL.nil ?_
  refine QN.next ?_
  refine XC.seq ?_
  refine XC.condS rfl ?_ ?_
  ·intro hc
   try simp only [decide_eq_true_eq, decide_eq_false_iff_not, Bool.not_eq_true', Bool.not_eq_false', Bool.not_eq_eq_eq_not, Bool.not_true, Bool.not_false, Bool.or_eq_true, Bool.and_eq_true, Bool.or_eq_false_iff] at hc
   have hi' : i < n := by omega
   obtain ⟨d, Fi, hd, hD, hFi, hset⟩ := hXi.get hi'
   simp only [if_neg (Nat.lt_irrefl i)] at hD
   obtain ⟨vs, hvs, hvl, hqs⟩ := hMi.get
   obtain ⟨q, hq, hb⟩ := hqs i (by omega)
   have hrl := her i (by omega)
   have hfl := fileB_length i ((encP K (K + 2 * F) l)[i])
   have hcl := cntM_le ms nm (fun j => (fileB j ((encP K n l).getD j []))) i
   have hge : (encP K n l).getD i [] = (encP K (K + 2 * F) l)[i]'(by omega) := by
    have h0 : (encP K (K + 2 * F) l).getD i [] = (encP K (K + 2 * F) l)[i]'(by omega) := by simp [List.getD_eq_getElem?_getD, show i < (encP K (K + 2 * F) l).length by omega]
    rw [← h0, ← hnn]
   have hsdd : ∀ b, Since wr b → ¬ Fi b := fun b hb hf => by have := (hFi b hf).2.2.2; simp only [Since] at hb; omega
   refine XC.skip ?_
   refine QN.next ?_
   refine XC.seq ?_
   by_cases hkn : ms i ([98, 46] ++ nm) = none
   ·skip
    have hne : ¬ (ms i ([98, 46] ++ nm)).map (·.1) = some (fileB i ((encP K (K + 2 * F) l)[i])) := by rw [hkn]; simp
    refine XC.block ?_
    refine XC.seq ?_
    refine XC.region ?_
    show XL _ _ _ _ (List.cons _ _) _ _
    refine XL.s rfl ?_
    refine Y.move (by rfl) ?_
    refine XL.s rfl ?_
    refine Y.indexR st31 (by rfl) (by rfl) hXi.row ⟨by omega, by omega⟩ (by rw [Int.toNat_natCast]; exact hd) ?_
    intro b43 o43 hs43 hc43
    refine XL.s rfl ?_
    refine Y.load one41 (by rfl) (by assumption) ?_
    refine XL.s rfl ?_
    refine Y.assign (by rfl) ?_
    refine XL.s rfl ?_
    refine Y.assign (by rfl) ?_
    refine XL.nil ?_
    refine QN.next ?_
    refine XC.seq ?_
    refine XC.region ?_
    show XL _ _ _ _ (List.cons _ _) _ _
    refine XL.s rfl ?_
    refine Y.move (by rfl) ?_
    refine XL.s rfl ?_
    refine Y.move (by rfl) ?_
    refine XL.s rfl ?_
    refine Y.move (by rfl) ?_
    refine XL.s rfl ?_
    refine Y.move (by rfl) ?_
    refine XL.s rfl ?_
    refine Y.move (by rfl) ?_
    refine XL.s rfl ?_
    refine Y.indexR st37 (by rfl) (by rfl) hvs ⟨by omega, by omega⟩ (by rw [Int.toNat_natCast]; exact hq) ?_
    intro b51 o51 hs51 hc51
    refine XL.s rfl ?_
    refine Y.load one39 (by rfl) (by assumption) ?_
    refine XL.s rfl ?_
    refine Y.call (by rfl) ok32 (file_ok _ _ i ((encP K (K + 2 * F) l)[i]) _ hb (by omega) (by omega)) ?_
    rintro v53 w53 hN53
    refine XL.s rfl ?_
    refine Y.call (by rfl) ok47 (mend_no _ _ _ _ _ _ nm _ _ (fileB i ((encP K (K + 2 * F) l)[i])) _ (hD.ext hN53.1) hN53.bs (by omega) hsdd (by have := hf i hi'; omega) hnm (ht' i hi') hkn) ?_
    rintro v54 w54 ⟨rfl, hC54, hD54⟩
    refine XL.s rfl ?_
    refine Y.move (by rfl) ?_
    refine XL.s rfl ?_
    refine Y.extract (by rfl) (by rfl) ?_
    refine XL.s rfl ?_
    refine Y.extract (by rfl) (by rfl) ?_
    refine XL.s rfl ?_
    refine Y.assign (by rfl) ?_
    refine XL.s rfl ?_
    refine Y.assign (by rfl) ?_
    refine XL.nil ?_
    refine QN.next ?_
    refine XC.seq ?_
    refine XC.seq ?_
    refine XC.region ?_
    show XL _ _ _ _ (List.cons _ _) _ _
    refine XL.s rfl ?_
    refine Y.move (by rfl) ?_
    refine XL.s rfl ?_
    refine Y.neq (by rfl) (by rfl) ?_
    refine XL.nil ?_
    refine QN.next ?_
    refine XC.condF rfl rfl ?_
    have hz53 := hN53.1.size
    have hz54 := hC54.size
    have hXn := hset (btw wr.heap.size w54.heap.size) w54 _ _ _ (fun b hb => hb.1) (Ext.then hN53.1 hC54) (hD54.mono fun b hb => by rcases hb with h | h; exact .inl h; exact .inr ⟨by have := h.1; omega, h.2⟩)
    have hXn := hXn.wider (G' := Grow G w29 w54) (fun b _ hb => by rcases hb with (h | h) | h; exact .inl h; exact .inr ⟨h.1, by have := h.2; omega⟩; exact .inr ⟨by have := h.1; omega, h.2⟩)
    have hcs : cntM ms nm (fun j => (fileB j ((encP K n l).getD j []))) (i + 1) = cntM ms nm (fun j => (fileB j ((encP K n l).getD j []))) i + 1 := by rw [cntM_succ]; simp only [mendC, hge, if_neg hne]
    refine XC.skip ?_
    refine QN.next ?_
    refine XC.region ?_
    show XL _ _ _ _ (List.cons _ _) _ _
    refine XL.s rfl ?_
    refine Y.move (by rfl) ?_
    refine XL.s rfl ?_
    refine Y.move (by rfl) ?_
    refine XL.s rfl ?_
    refine Y.add (by rfl) (by rfl) (show IntKind.i64.wrap (((cntM ms nm (fun j => (fileB j ((encP K n l).getD j []))) i : Nat) : Int) + 1) = ((cntM ms nm (fun j => (fileB j ((encP K n l).getD j []))) (i + 1) : Nat) : Int) from by rw [hcs, wrap64 (by omega) (by omega)]; omega) ?_
    refine XL.s rfl ?_
    refine Y.assign (by rfl) ?_
    refine XL.nil ?_
    refine QN.blk ?_
    refine QN.next ?_
    refine XC.region ?_
    show XL _ _ _ _ (List.cons _ _) _ _
    refine XL.s rfl ?_
    refine Y.add (by rfl) (by rfl) (wrap64 (by omega) (by omega)) ?_
    refine XL.s rfl ?_
    refine Y.move (by rfl) ?_
    refine XL.nil ?_
    refine QN.again (i + 1) ?_ ?_ ?_
    ·exact ⟨rfl, rfl, rfl, rfl, rfl, rfl, rfl, trivial⟩
    ·refine ⟨by omega, hC.trans (Ext.then hN53.1 hC54) (fun _ h => h) (fun x hx h => by rcases (hFi x h).2.2.1 with h | h; exact h; (have := h.1; omega)), (hXn.more (fun j _ => ?_)).cast (fun j _ => ?_)⟩
     ·by_cases e : j = i
      ·subst e; simp; try omega
      ·by_cases e2 : j < i
       ·simp [e, e2, show j < i + 1 by omega]
       ·simp [e, e2, show ¬ j < i + 1 by omega]
     ·by_cases e : j = i
      ·subst e; simp only [if_true, if_pos (Nat.lt_succ_self j)]; rw [hge]; simp only [mendP, if_neg hne]
      ·by_cases e2 : j < i
       ·simp only [if_neg e, if_pos e2, if_pos (show j < i + 1 by omega)]
       ·simp only [if_neg e, if_neg e2, if_neg (show ¬ j < i + 1 by omega)]
    ·first | omega | (simp only []; omega) | (simp; omega)
   ·skip
    obtain ⟨⟨d0, s0⟩, hk2⟩ := Option.ne_none_iff_exists'.1 hkn
    by_cases hdf : d0 = fileB i ((encP K (K + 2 * F) l)[i])
    ·skip
     subst hdf
     have hne : (ms i ([98, 46] ++ nm)).map (·.1) = some (fileB i ((encP K (K + 2 * F) l)[i])) := by rw [hk2]; rfl
     refine XC.block ?_
     refine XC.seq ?_
     refine XC.region ?_
     show XL _ _ _ _ (List.cons _ _) _ _
     refine XL.s rfl ?_
     refine Y.move (by rfl) ?_
     refine XL.s rfl ?_
     refine Y.indexR st31 (by rfl) (by rfl) hXi.row ⟨by omega, by omega⟩ (by rw [Int.toNat_natCast]; exact hd) ?_
     intro b43 o43 hs43 hc43
     refine XL.s rfl ?_
     refine Y.load one41 (by rfl) (by assumption) ?_
     refine XL.s rfl ?_
     refine Y.assign (by rfl) ?_
     refine XL.s rfl ?_
     refine Y.assign (by rfl) ?_
     refine XL.nil ?_
     refine QN.next ?_
     refine XC.seq ?_
     refine XC.region ?_
     show XL _ _ _ _ (List.cons _ _) _ _
     refine XL.s rfl ?_
     refine Y.move (by rfl) ?_
     refine XL.s rfl ?_
     refine Y.move (by rfl) ?_
     refine XL.s rfl ?_
     refine Y.move (by rfl) ?_
     refine XL.s rfl ?_
     refine Y.move (by rfl) ?_
     refine XL.s rfl ?_
     refine Y.move (by rfl) ?_
     refine XL.s rfl ?_
     refine Y.indexR st37 (by rfl) (by rfl) hvs ⟨by omega, by omega⟩ (by rw [Int.toNat_natCast]; exact hq) ?_
     intro b51 o51 hs51 hc51
     refine XL.s rfl ?_
     refine Y.load one39 (by rfl) (by assumption) ?_
     refine XL.s rfl ?_
     refine Y.call (by rfl) ok32 (file_ok _ _ i ((encP K (K + 2 * F) l)[i]) _ hb (by omega) (by omega)) ?_
     rintro v53 w53 hN53
     refine XL.s rfl ?_
     refine Y.call (by rfl) ok47 (mend_yes _ _ _ _ _ _ nm _ _ (fileB i ((encP K (K + 2 * F) l)[i])) _ (hD.ext hN53.1) hN53.bs (by omega) hsdd (by have := hf i hi'; omega) hnm (ht' i hi') s0 hk2) ?_
     rintro v54 w54 ⟨rfl, hC54, hD54⟩
     refine XL.s rfl ?_
     refine Y.move (by rfl) ?_
     refine XL.s rfl ?_
     refine Y.extract (by rfl) (by rfl) ?_
     refine XL.s rfl ?_
     refine Y.extract (by rfl) (by rfl) ?_
     refine XL.s rfl ?_
     refine Y.assign (by rfl) ?_
     refine XL.s rfl ?_
     refine Y.assign (by rfl) ?_
     refine XL.nil ?_
     refine QN.next ?_
     refine XC.seq ?_
     refine XC.seq ?_
     refine XC.region ?_
     show XL _ _ _ _ (List.cons _ _) _ _
     refine XL.s rfl ?_
     refine Y.move (by rfl) ?_
     refine XL.s rfl ?_
     refine Y.neq (by rfl) (by rfl) ?_
     refine XL.nil ?_
     refine QN.next ?_
     refine XC.condF rfl rfl ?_
     have hz53 := hN53.1.size
     have hz54 := hC54.size
     have hXn := hset (btw wr.heap.size w54.heap.size) w54 _ _ _ (fun b hb => hb.1) (Ext.then hN53.1 hC54) (hD54.mono fun b hb => .inl hb)
     have hXn := hXn.wider (G' := Grow G w29 w54) (fun b _ hb => by rcases hb with (h | h) | h; exact .inl h; exact .inr ⟨h.1, by have := h.2; omega⟩; exact .inr ⟨by have := h.1; omega, h.2⟩)
     have hcs : cntM ms nm (fun j => (fileB j ((encP K n l).getD j []))) (i + 1) = cntM ms nm (fun j => (fileB j ((encP K n l).getD j []))) i + 0 := by rw [cntM_succ]; simp only [mendC, hge, if_pos hne]
     refine XC.skip ?_
     refine QN.next ?_
     refine XC.region ?_
     show XL _ _ _ _ (List.cons _ _) _ _
     refine XL.s rfl ?_
     refine Y.move (by rfl) ?_
     refine XL.s rfl ?_
     refine Y.move (by rfl) ?_
     refine XL.s rfl ?_
     refine Y.add (by rfl) (by rfl) (show IntKind.i64.wrap (((cntM ms nm (fun j => (fileB j ((encP K n l).getD j []))) i : Nat) : Int) + 0) = ((cntM ms nm (fun j => (fileB j ((encP K n l).getD j []))) (i + 1) : Nat) : Int) from by rw [hcs, wrap64 (by omega) (by omega)]; omega) ?_
     refine XL.s rfl ?_
     refine Y.assign (by rfl) ?_
     refine XL.nil ?_
     refine QN.blk ?_
     refine QN.next ?_
     refine XC.region ?_
     show XL _ _ _ _ (List.cons _ _) _ _
     refine XL.s rfl ?_
     refine Y.add (by rfl) (by rfl) (wrap64 (by omega) (by omega)) ?_
     refine XL.s rfl ?_
     refine Y.move (by rfl) ?_
     refine XL.nil ?_
     refine QN.again (i + 1) ?_ ?_ ?_
     ·exact ⟨rfl, rfl, rfl, rfl, rfl, rfl, rfl, trivial⟩
     ·refine ⟨by omega, hC.trans (Ext.then hN53.1 hC54) (fun _ h => h) (fun x hx h => by rcases (hFi x h).2.2.1 with h | h; exact h; (have := h.1; omega)), (hXn.more (fun j _ => ?_)).cast (fun j _ => ?_)⟩
      ·by_cases e : j = i
       ·subst e; simp; try omega
       ·by_cases e2 : j < i
        ·simp [e, e2, show j < i + 1 by omega]
        ·simp [e, e2, show ¬ j < i + 1 by omega]
      ·by_cases e : j = i
       ·subst e; simp only [if_true, if_pos (Nat.lt_succ_self j)]; rw [hge]; simp only [mendP, if_pos hne]
       ·by_cases e2 : j < i
        ·simp only [if_neg e, if_pos e2, if_pos (show j < i + 1 by omega)]
        ·simp only [if_neg e, if_neg e2, if_neg (show ¬ j < i + 1 by omega)]
     ·first | omega | (simp only []; omega) | (simp; omega)
    ·skip
     have hne : ¬ (ms i ([98, 46] ++ nm)).map (·.1) = some (fileB i ((encP K (K + 2 * F) l)[i])) := by rw [hk2]; simpa using hdf
     refine XC.block ?_
     refine XC.seq ?_
     refine XC.region ?_
     show XL _ _ _ _ (List.cons _ _) _ _
     refine XL.s rfl ?_
     refine Y.move (by rfl) ?_
     refine XL.s rfl ?_
     refine Y.indexR st31 (by rfl) (by rfl) hXi.row ⟨by omega, by omega⟩ (by rw [Int.toNat_natCast]; exact hd) ?_
     intro b43 o43 hs43 hc43
     refine XL.s rfl ?_
     refine Y.load one41 (by rfl) (by assumption) ?_
     refine XL.s rfl ?_
     refine Y.assign (by rfl) ?_
     refine XL.s rfl ?_
     refine Y.assign (by rfl) ?_
     refine XL.nil ?_
     refine QN.next ?_
     refine XC.seq ?_
     refine XC.region ?_
     show XL _ _ _ _ (List.cons _ _) _ _
     refine XL.s rfl ?_
     refine Y.move (by rfl) ?_
     refine XL.s rfl ?_
     refine Y.move (by rfl) ?_
     refine XL.s rfl ?_
     refine Y.move (by rfl) ?_
     refine XL.s rfl ?_
     refine Y.move (by rfl) ?_
     refine XL.s rfl ?_
     refine Y.move (by rfl) ?_
     refine XL.s rfl ?_
     refine Y.indexR st37 (by rfl) (by rfl) hvs ⟨by omega, by omega⟩ (by rw [Int.toNat_natCast]; exact hq) ?_
     intro b51 o51 hs51 hc51
     refine XL.s rfl ?_
     refine Y.load one39 (by rfl) (by assumption) ?_
     refine XL.s rfl ?_
     refine Y.call (by rfl) ok32 (file_ok _ _ i ((encP K (K + 2 * F) l)[i]) _ hb (by omega) (by omega)) ?_
     rintro v53 w53 hN53
     refine XL.s rfl ?_
     refine Y.call (by rfl) ok47 (mend_ne _ _ _ _ _ _ nm _ _ (fileB i ((encP K (K + 2 * F) l)[i])) _ (hD.ext hN53.1) hN53.bs (by omega) hsdd (by have := hf i hi'; omega) hnm (ht' i hi') d0 s0 hk2 hdf) ?_
     rintro v54 w54 ⟨rfl, hC54, hD54⟩
     refine XL.s rfl ?_
     refine Y.move (by rfl) ?_
     refine XL.s rfl ?_
     refine Y.extract (by rfl) (by rfl) ?_
     refine XL.s rfl ?_
     refine Y.extract (by rfl) (by rfl) ?_
     refine XL.s rfl ?_
     refine Y.assign (by rfl) ?_
     refine XL.s rfl ?_
     refine Y.assign (by rfl) ?_
     refine XL.nil ?_
     refine QN.next ?_
     refine XC.seq ?_
     refine XC.seq ?_
     refine XC.region ?_
     show XL _ _ _ _ (List.cons _ _) _ _
     refine XL.s rfl ?_
     refine Y.move (by rfl) ?_
     refine XL.s rfl ?_
     refine Y.neq (by rfl) (by rfl) ?_
     refine XL.nil ?_
     refine QN.next ?_
     refine XC.condF rfl rfl ?_
     have hz53 := hN53.1.size
     have hz54 := hC54.size
     have hXn := hset (btw wr.heap.size w54.heap.size) w54 _ _ _ (fun b hb => hb.1) (Ext.then hN53.1 hC54) (hD54.mono fun b hb => by rcases hb with h | h; exact .inl h; exact .inr ⟨by have := h.1; omega, h.2⟩)
     have hXn := hXn.wider (G' := Grow G w29 w54) (fun b _ hb => by rcases hb with (h | h) | h; exact .inl h; exact .inr ⟨h.1, by have := h.2; omega⟩; exact .inr ⟨by have := h.1; omega, h.2⟩)
     have hcs : cntM ms nm (fun j => (fileB j ((encP K n l).getD j []))) (i + 1) = cntM ms nm (fun j => (fileB j ((encP K n l).getD j []))) i + 1 := by rw [cntM_succ]; simp only [mendC, hge, if_neg hne]
     refine XC.skip ?_
     refine QN.next ?_
     refine XC.region ?_
     show XL _ _ _ _ (List.cons _ _) _ _
     refine XL.s rfl ?_
     refine Y.move (by rfl) ?_
     refine XL.s rfl ?_
     refine Y.move (by rfl) ?_
     refine XL.s rfl ?_
     refine Y.add (by rfl) (by rfl) (show IntKind.i64.wrap (((cntM ms nm (fun j => (fileB j ((encP K n l).getD j []))) i : Nat) : Int) + 1) = ((cntM ms nm (fun j => (fileB j ((encP K n l).getD j []))) (i + 1) : Nat) : Int) from by rw [hcs, wrap64 (by omega) (by omega)]; omega) ?_
     refine XL.s rfl ?_
     refine Y.assign (by rfl) ?_
     refine XL.nil ?_
     refine QN.blk ?_
     refine QN.next ?_
     refine XC.region ?_
     show XL _ _ _ _ (List.cons _ _) _ _
     refine XL.s rfl ?_
     refine Y.add (by rfl) (by rfl) (wrap64 (by omega) (by omega)) ?_
     refine XL.s rfl ?_
     refine Y.move (by rfl) ?_
     refine XL.nil ?_
     refine QN.again (i + 1) ?_ ?_ ?_
     ·exact ⟨rfl, rfl, rfl, rfl, rfl, rfl, rfl, trivial⟩
     ·refine ⟨by omega, hC.trans (Ext.then hN53.1 hC54) (fun _ h => h) (fun x hx h => by rcases (hFi x h).2.2.1 with h | h; exact h; (have := h.1; omega)), (hXn.more (fun j _ => ?_)).cast (fun j _ => ?_)⟩
      ·by_cases e : j = i
       ·subst e; simp; try omega
       ·by_cases e2 : j < i
        ·simp [e, e2, show j < i + 1 by omega]
        ·simp [e, e2, show ¬ j < i + 1 by omega]
      ·by_cases e : j = i
       ·subst e; simp only [if_true, if_pos (Nat.lt_succ_self j)]; rw [hge]; simp only [mendP, if_neg hne]
       ·by_cases e2 : j < i
        ·simp only [if_neg e, if_pos e2, if_pos (show j < i + 1 by omega)]
        ·simp only [if_neg e, if_neg e2, if_neg (show ¬ j < i + 1 by omega)]
     ·first | omega | (simp only []; omega) | (simp; omega)
  ·intro hc
   try simp only [decide_eq_true_eq, decide_eq_false_iff_not, Bool.not_eq_true', Bool.not_eq_false', Bool.not_eq_eq_eq_not, Bool.not_true, Bool.not_false, Bool.or_eq_true, Bool.and_eq_true, Bool.or_eq_false_iff] at hc
   have hin : i = n := by omega
   subst hin
   have hXe := (hXi.more (U' := fun j => U j + (20 + pieceN K l)) (c' := fun j => c j + 1) (fun j hj => by simp [hj])).cast (ms' := fun j => mendP (ms j) nm (fileB j ((encP K i l).getD j []))) (fun j hj => by simp [hj])
   refine XC.exit ?_
   refine QN.thenE ?_
   refine QN.thenE ?_
   refine QN.hit ?_
   refine QN.next ?_
   refine XC.seq ?_
   refine XC.region ?_
   show XL _ _ _ _ (List.cons _ _) _ _
   refine XL.s rfl ?_
   refine Y.move (by rfl) ?_
   refine XL.s rfl ?_
   refine Y.assign (by rfl) ?_
   refine XL.s rfl ?_
   refine Y.assign (by rfl) ?_
   refine XL.nil ?_
   refine QN.next ?_
   refine XC.ret ?_
   refine QN.doneN (fn := Tryz.f24) (R := R) (.inl rfl) rfl rfl ?_
   refine hR _ _ ?_
   exact ⟨rfl, Ext.then hEE hC, tb, _, dvs, Fr, rfl, hXe.wider (fun b _ hb => by rcases hb with h | h; exact .inl h; exact .inr ⟨by have := h.1; omega, h.2⟩)⟩
end Go.Proofs.YtchammpamigonaaGreatX
end
section
set_option linter.unusedVariables false
set_option linter.unusedSimpArgs false
set_option maxRecDepth 10000
set_option maxHeartbeats 4000000
namespace Go.Proofs.YtchammpamigonaaGreatX
open Go Go.RowKit Go.Proofs
theorem getG_ok (G : Nat → Prop) (tv : Value) (K F n most : Nat) (ms : Nat → Fm) (U c : Nat → Nat) (w : World) (hS : StoreA 66 79 82 5 G w tv K F n most ms U c) (hm : most ≤ 65536) (hU : ∀ i, i < n → U i ≤ 65536) (nm : List UInt8) (hnm : 1 ≤ nm.length ∧ nm.length ≤ 16) (hk : 1 ≤ K) (hKF : K + 2 * F ≤ 7) (hnn : n = K + 2 * F) (l : List UInt8) (hl : l.length ≤ 512) (g : Nat → Bool) (hg : Goods ms nm n (fun i => (encP K n l).getD i []) g) (Sa : Nat → Prop) (ua : Value) (away : List Int) (haw : Zs Sa w ua away) (hc : K ≤ goodN g away n) : Rets Tryz.prog 14 #[tv, strV nm, ua] w fun v w' => v = .tuple #[strV l, .int .i64 0] ∧ Ext w w' := by
 subst hnn
 have he : ∀ i, i < K + 2 * F → 0 < ((encP K (K + 2 * F) l).getD i []).length := fun i hi => by rw [encP_getD_len K F l hk hi]; exact pieceN_pos l hk
 have ht := hg.there (away := away) he
 have hlen : K ≤ (thereP (shardsP ms nm away (K + 2 * F))).length := by rw [ht]; exact hc
 obtain ⟨B, h1, h2, h3, h4⟩ := dec_facts K F l hk hKF (shardsP ms nm away (K + 2 * F)) (by simp [shardsP]) (hg.same he) hlen
 exact sget_ok G tv K F _ most ms U c w hS hm hU hKF nm Sa ua away haw hnm hk rfl (hg.any (away := away) he (by omega)) l hl hlen (hg.same he) B h1 h2 h3 h4
theorem repG_ok (G : Nat → Prop) (tv : Value) (K F n most : Nat) (ms : Nat → Fm) (U c : Nat → Nat) (w : World) (hS : StoreA 66 79 82 5 G w tv K F n most ms U c) (hm : most ≤ 65536) (hU : ∀ i, i < n → U i ≤ 65536) (nm : List UInt8) (hnm : 1 ≤ nm.length ∧ nm.length ≤ 16) (hk : 1 ≤ K) (hKF : K + 2 * F ≤ 7) (hnn : n = K + 2 * F) (l : List UInt8) (hl : l.length ≤ 512) (g : Nat → Bool) (hg : Goods ms nm n (fun i => (encP K n l).getD i []) g) (hc : K ≤ goodN g [] n) (hf : ∀ i, i < n → U i + (20 + pieceN K l) ≤ most) (ht' : ∀ i, i < n → ms i [116, 46] = none) (hGb : ∀ b, G b → b < w.heap.size) : Rets Tryz.prog 24 #[tv, strV nm] w fun v w' => v = .tuple #[.int .i64 (cntM ms nm (fun j => fileB j ((encP K n l).getD j [])) n : Nat), .int .i64 0] ∧ Chg G w w' ∧ StoreA 66 79 82 5 (Grow G w w') w' tv K F n most (fun j => mendP (ms j) nm (fileB j ((encP K n l).getD j []))) (fun j => U j + (20 + pieceN K l)) (fun j => c j + 1) := by
 subst hnn
 have he : ∀ i, i < K + 2 * F → 0 < ((encP K (K + 2 * F) l).getD i []).length := fun i hi => by rw [encP_getD_len K F l hk hi]; exact pieceN_pos l hk
 have ht := hg.there (away := []) he
 have hlen : K ≤ (thereP (shardsP ms nm [] (K + 2 * F))).length := by rw [ht]; exact hc
 obtain ⟨B, h1, h2, h3, h4⟩ := dec_facts K F l hk hKF (shardsP ms nm [] (K + 2 * F)) (by simp [shardsP]) (hg.same he) hlen
 exact srep_ok G tv K F _ most ms U c w hS hm hU hKF nm hnm hk rfl (hg.any (away := []) he (by omega)) l hl hlen (hg.same he) B h1 h2 h3 h4 hf ht' hGb
theorem newS (k F : Nat) (w : World) (hk : 1 ≤ k) (hF : k + 2 * F ≤ 7) (Sd : Nat → Prop) (u : Value) (dvs : List Value) (hr : Row Sd w u (k + 2 * F) dvs) (hdl : dvs.length = k + 2 * F) (Fd : Nat → Nat → Prop) (most : Nat) (ms : Nat → Fm) (U c : Nat) (hd : ∀ i d, dvs[i]? = some d → DiskA 79 82 5 (Fd i) w d most (ms i) U c) (hm : most ≤ 65536) (hU : U ≤ 65536) : Rets Tryz.prog 10 #[shapeV k F, u] w fun v w' => ∃ tv, v = .tuple #[tv, .int .i64 0] ∧ StoreS 66 79 82 5 w w' tv k F (k + 2 * F) most ms U c := by
 exact (snew_ok k F w hk hF Sd u _ dvs hr hdl rfl Fd most ms U c hd hm (by omega)).mono fun v w' ⟨tv, h1, h2, h3⟩ => ⟨tv, h1, h3, _, h2, fun b hb => hb⟩
theorem newD (k F : Nat) (w : World) (hk : 1 ≤ k) (hF : k + 2 * F ≤ 7) (u : Value) (lo most : Nat) (ms : Nat → Fm) (U c : Nat) (h : DRow 41 79 82 5 lo w most ms U c (k + 2 * F) u) (hm : most ≤ 65536) (hU : U ≤ 65536) : Rets Tryz.prog 10 #[shapeV k F, u] w fun v w' => ∃ tv, v = .tuple #[tv, .int .i64 0] ∧ StoreS 66 79 82 5 w w' tv k F (k + 2 * F) most ms U c := by
 obtain ⟨dvs, Fd, h1, h2, h3⟩ := h.out
 exact newS k F w hk hF _ u dvs h1 h2 Fd most ms U c h3 hm hU
theorem newD_short (k F : Nat) (w : World) (hk : 1 ≤ k) (hF : k + 2 * F ≤ 7) (u : Value) (n lo most : Nat) (ms : Nat → Fm) (U c : Nat) (h : DRow 41 79 82 5 lo w most ms U c n u) (hn : n ≠ k + 2 * F) (hn2 : n ≤ 1000000) : Rets Tryz.prog 10 #[shapeV k F, u] w fun v w' => v = .tuple #[.pointer none, .int .i64 1] ∧ Ext w w' := by
 obtain ⟨dvs, Fd, h1, h2, h3⟩ := h.out
 exact snew_short k F w hk hF _ u n dvs h1 hn hn2
theorem putS (w0 : World) (tv : Value) (K F n most : Nat) (ms : Nat → Fm) (U c : Nat) (w : World) (hS : StoreS 66 79 82 5 w0 w tv K F n most ms U c) (hm : most ≤ 65536) (hU : U ≤ 65536) (nm : List UInt8) (hnm : 1 ≤ nm.length ∧ nm.length ≤ 16) (hk : 1 ≤ K) (hKF : K + 2 * F ≤ 7) (hnn : n = K + 2 * F) (l : List UInt8) (hl : l.length ≤ 512) (hf : U + (20 + pieceN K l) ≤ most) (ht : ∀ i, i < n → ms i [116, 46] = none) : Rets Tryz.prog 13 #[tv, strV nm, strV l] w fun v w' => v = .int .i64 0 ∧ StoreS 66 79 82 5 w0 w' tv K F n most (fun i => upd (ms i) ([98, 46] ++ nm) (some (fileB i ((encP K n l).getD i []), 20 + pieceN K l))) (U + (20 + pieceN K l)) (c + 1) := by
 obtain ⟨h1, G, h2, h3⟩ := hS
 have hs := h1.size
 exact (sput_ok G tv K F n most ms _ _ w h2 hm (fun _ _ => hU) (by omega) nm l hk hKF hnm hl hnn (fun _ _ => hf) ht (fun b hb => (h3 b hb).2)).mono fun v w' ⟨e1, e2, e3⟩ => ⟨e1, StoreS.of h1 e2 (fun b hb => (h3 b hb).1) e3 (fun b hb => by rcases hb with h | h; exact (h3 b h).1; (have := h.1; omega)) (fun i _ => ⟨Nat.le_refl _, Nat.le_refl _⟩)⟩
theorem getS (w0 : World) (tv : Value) (K F n most : Nat) (ms : Nat → Fm) (U c : Nat) (w : World) (hS : StoreS 66 79 82 5 w0 w tv K F n most ms U c) (hm : most ≤ 65536) (hU : U ≤ 65536) (nm : List UInt8) (hnm : 1 ≤ nm.length ∧ nm.length ≤ 16) (hk : 1 ≤ K) (hKF : K + 2 * F ≤ 7) (hnn : n = K + 2 * F) (l : List UInt8) (hl : l.length ≤ 512) (g : Nat → Bool) (hg : Goods ms nm n (fun i => (encP K n l).getD i []) g) (Sa : Nat → Prop) (ua : Value) (away : List Int) (haw : Zs Sa w ua away) (hc : K ≤ goodN g away n) : Rets Tryz.prog 14 #[tv, strV nm, ua] w fun v w' => v = .tuple #[strV l, .int .i64 0] ∧ Ext w w' := by
 obtain ⟨h1, G, h2, h3⟩ := hS
 exact getG_ok G tv K F n most ms _ _ w h2 hm (fun _ _ => hU) nm hnm hk hKF hnn l hl g hg Sa ua away haw hc
theorem getS_none (w0 : World) (tv : Value) (K F n most : Nat) (ms : Nat → Fm) (U c : Nat) (w : World) (hS : StoreS 66 79 82 5 w0 w tv K F n most ms U c) (hm : most ≤ 65536) (hU : U ≤ 65536) (nm : List UInt8) (hnm : 1 ≤ nm.length ∧ nm.length ≤ 16) (hk : 1 ≤ K) (hKF : K + 2 * F ≤ 7) (hnn : n = K + 2 * F) (Sa : Nat → Prop) (ua : Value) (away : List Int) (haw : Zs Sa w ua away) (h0 : hasAny ms nm n = false) : Rets Tryz.prog 14 #[tv, strV nm, ua] w fun v w' => v = .tuple #[strV [], .int .i64 5] ∧ Ext w w' := by
 obtain ⟨h1, G, h2, h3⟩ := hS
 exact sget_none G tv K F n most ms _ _ w h2 hm (fun _ _ => hU) (by omega) nm Sa ua away haw hnm hk hnn h0
theorem repS (w0 : World) (tv : Value) (K F n most : Nat) (ms : Nat → Fm) (U c : Nat) (w : World) (hS : StoreS 66 79 82 5 w0 w tv K F n most ms U c) (hm : most ≤ 65536) (hU : U ≤ 65536) (nm : List UInt8) (hnm : 1 ≤ nm.length ∧ nm.length ≤ 16) (hk : 1 ≤ K) (hKF : K + 2 * F ≤ 7) (hnn : n = K + 2 * F) (l : List UInt8) (hl : l.length ≤ 512) (g : Nat → Bool) (hg : Goods ms nm n (fun i => (encP K n l).getD i []) g) (hc : K ≤ goodN g [] n) (hf : U + (20 + pieceN K l) ≤ most) (ht' : ∀ i, i < n → ms i [116, 46] = none) : Rets Tryz.prog 24 #[tv, strV nm] w fun v w' => v = .tuple #[.int .i64 (cntM ms nm (fun j => fileB j ((encP K n l).getD j [])) n : Nat), .int .i64 0] ∧ StoreS 66 79 82 5 w0 w' tv K F n most (fun j => mendP (ms j) nm (fileB j ((encP K n l).getD j []))) (U + (20 + pieceN K l)) (c + 1) := by
 obtain ⟨h1, G, h2, h3⟩ := hS
 have hs := h1.size
 exact (repG_ok G tv K F n most ms _ _ w h2 hm (fun _ _ => hU) nm hnm hk hKF hnn l hl g hg hc (fun _ _ => hf) ht' (fun b hb => (h3 b hb).2)).mono fun v w' ⟨e1, e2, e3⟩ => ⟨e1, StoreS.of h1 e2 (fun b hb => (h3 b hb).1) e3 (fun b hb => by rcases hb with h | h; exact (h3 b h).1; (have := h.1; omega)) (fun i _ => ⟨Nat.le_refl _, Nat.le_refl _⟩)⟩
theorem diskS (w0 : World) (tv : Value) (K F n most : Nat) (ms : Nat → Fm) (U c : Nat) (w : World) (hS : StoreS 66 79 82 5 w0 w tv K F n most ms U c) (hm : most ≤ 65536) (hU : U ≤ 65536) (hn : n ≤ 7) (i : Nat) (hi : i < n) : Rets Tryz.prog 16 #[tv, .int .i64 i] w fun v w' => DiskA 79 82 5 (btw w.heap.size w'.heap.size) w' v most (ms i) U c ∧ Ext w w' := by
 obtain ⟨h1, G, h2, h3⟩ := hS
 exact sdisk_ok G tv K F n most ms _ _ w h2 hm (fun _ _ => hU) hn i hi
theorem diskS_no (w0 : World) (tv : Value) (K F n most : Nat) (ms : Nat → Fm) (U c : Nat) (w : World) (hS : StoreS 66 79 82 5 w0 w tv K F n most ms U c) (hm : most ≤ 65536) (hU : U ≤ 65536) (hn : n ≤ 7) : Rets Tryz.prog 16 #[tv, .int .i64 n] w fun v w' => v = .pointer none ∧ Ext w w' := by
 obtain ⟨h1, G, h2, h3⟩ := hS
 exact sdisk_no G tv K F n most ms _ _ w h2 hm (fun _ _ => hU) hn
theorem scrubS_clean (w0 : World) (tv : Value) (K F n most : Nat) (ms : Nat → Fm) (U c : Nat) (w : World) (hS : StoreS 66 79 82 5 w0 w tv K F n most ms U c) (hm : most ≤ 65536) (hU : U ≤ 65536) (hn : n ≤ 7) (i : Nat) (hi : i < n) (hc12 : c ≤ 12) (hnd : ∀ x, ms i x ≠ none → 1 ≤ x.length ∧ x.length ≤ 24) (hcl : ∀ x, ms i x ≠ none → badF i (ms i) x = false) : Rets Tryz.prog 22 #[tv, .int .i64 i] w fun v w' => v = .tuple #[.slice none 0 0, .int .i64 0] ∧ Ext w w' := by
 obtain ⟨h1, G, h2, h3⟩ := hS
 exact sscrub_clean G tv K F n most ms _ _ w h2 hm (fun _ _ => hU) hn i hi hc12 hnd hcl
end Go.Proofs.YtchammpamigonaaGreatX
end
section
set_option linter.unusedVariables false
set_option linter.unusedSimpArgs false
set_option maxRecDepth 10000
set_option maxHeartbeats 4000000
namespace Go.Proofs.YtchammpamigonaaGreatX
open Go Go.RowKit Go.Proofs
theorem awake_ok (w : World) :
  Rets Tryz.prog 8 #[] w fun v w' => v = .bool true ∧ Ext w w' := by
 refine Rets.enter (args := []) (n := 90) Tryz.func8 rfl rfl rfl ?_
 intro R hR
 show XC _ _ _ _ [] _
 refine XC.seq ?_
 refine XC.region ?_
 show XL _ _ _ _ (List.cons _ _) _ _
 refine XL.s rfl ?_
 refine Y.assign (by rfl) ?_
 refine XL.nil ?_
 refine QN.next ?_
 refine XC.seq ?_
 refine XC.region ?_
 show XL _ _ _ _ (List.cons _ _) _ _
 refine XL.s rfl ?_
 refine Y.build (by rfl) (v := .agg #[.int .i64 1, .int .i64 1]) (fun _ => by kernel_rfl) ?_
 refine XL.s rfl ?_
 refine Y.alloc zt23 ?_
 intro b1 w1 hb1 hz1 hE1
 refine XL.o ?_
 refine Y.storeA agg23 (by rfl) (by rfl) hb1 rfl rfl (by intro c hc; simp at hc; rcases hc with rfl | rfl <;> rfl) ?_
 intro w2 hb2 hC2 hz2
 have hE2 := hE1.chgNew hC2 (fun x hx => by omega)
 refine XL.nil ?_
 refine QN.next ?_
 refine XC.seq ?_
 apply XC.drop [2, 7, 13, 14, 15, 16, 17, 18, 19, 20, 21, 22, 23, 24, 25, 26, 27, 28, 29, 30, 31, 32, 33, 34, 35, 36, 37, 38, 39, 40, 41, 42, 43, 44, 45, 46, 47, 48, 49, 50, 51, 52, 53, 54, 55, 56, 57, 58, 59, 60, 61, 62, 63, 64, 65, 66, 67, 68, 69, 70, 71, 72, 73, 74, 75, 76, 77, 78, 79, 80, 81, 82, 83, 84, 85, 86, 87, 88, 89]
 ·repeat (first | apply DropTo.nil | apply DropTo.skip rfl | apply DropTo.keep rfl)
 refine XC.drawL 7 [[], [], [0, 1], [0, 1, 2], [0, 1, 2, 3], [0, 1, 2, 3], [0, 1, 2, 3, 4], [0, 1, 2, 3, 4, 5, 6]] _ (Chg NoB) (Steady.chg NoB) [] [(0, (fun v _ => v = shapeV ((1 : Nat) : Int) ((1 : Nat) : Int))), (1, (fun v w' => DRow 41 79 82 5 0 w' (min 500 65536) (fun _ _ => none) 0 0 3 v)), (2, (fun v w' => ∃ tv, v = .tuple #[tv, .int .i64 0] ∧ StoreS 66 79 82 5 w2 w' tv 1 1 (1 + 2 * 1) (min 500 65536) (fun _ _ => none) 0 0))] [0, 1, 2, 3, 4, 5, 6] fol (by kernel_rfl) (by rfl) (by rfl) ⟨(fun _ _ _ _ h => h), (fun v w1 w2 hE h => h.ext hE), (fun v w1 w2 hE ⟨tv, h1, h2⟩ => ⟨tv, h1, h2.ext hE⟩), trivial⟩ ⟨?_, ?_, ?_, ?_, ?_, ?_, ?_, trivial⟩ ?_
 ·intro aD2 wD2 haD2 hCD2 hrD2
  replace hb2 := hb2.ext hCD2
  refine ⟨rfl, ?_⟩
  refine XD.start haD2 ?_
  refine XD.stepI ?_
  refine Y.loadA agg23 (by rfl) rfl (fun j u hu => cell_arr hb2 (by rw [Nat.zero_add]; exact hu)) ?_
  exact ⟨Chg.refl _ _, rfl⟩
 ·intro aD2 wD2 haD2 hCD2 hrD2
  replace hb2 := hb2.ext hCD2
  refine ⟨rfl, ?_⟩
  refine XD.start haD2 ?_
  refine XD.stepI ?_
  refine Y.call (by rfl) ok11 (disks_ok 3 500 _ (by decide)) ?_
  rintro v16 w16 ⟨hD16, hE16⟩
  exact ⟨hE16, hD16.lower (Nat.zero_le _)⟩
 ·intro aD2 wD2 haD2 hCD2 hrD2
  obtain ⟨r0, r1, -⟩ := hrD2
  replace hb2 := hb2.ext hCD2
  refine ⟨rfl, ?_⟩
  refine XD.start haD2 ?_
  refine XD.imp r0 ?_
  rintro _ rfl
  refine XD.imp r1 ?_
  rintro v16 hD16
  refine XD.stepI ?_
  refine Y.call (by rfl) ok10 (newD 1 1 _ (by decide) (by decide) _ 0 _ (fun _ _ => none) 0 0 hD16 (by decide) (by decide)) ?_
  rintro v17 w17 ⟨tv, rfl, hS17⟩
  exact ⟨hS17.1, tv, rfl, hS17.older hCD2⟩
 ·intro aD2 wD2 haD2 hCD2 hrD2
  obtain ⟨r0, r1, r2, -⟩ := hrD2
  replace hb2 := hb2.ext hCD2
  refine ⟨rfl, ?_⟩
  refine XD.start haD2 ?_
  refine XD.imp r0 ?_
  rintro _ rfl
  refine XD.imp r1 ?_
  rintro v16 hD16
  refine XD.imp r2 ?_
  rintro _ ⟨tv, rfl, hS⟩
  apply XD.stepP rfl
  intro w3
  refine Y.move (by rfl) ?_
  exact ⟨rfl, rfl⟩
 ·intro aD2 wD2 haD2 hCD2 hrD2
  obtain ⟨r0, r1, r2, r3, -⟩ := hrD2
  replace hb2 := hb2.ext hCD2
  refine ⟨rfl, ?_⟩
  refine XD.start haD2 ?_
  refine XD.imp r0 ?_
  rintro _ rfl
  refine XD.imp r1 ?_
  rintro v16 hD16
  refine XD.imp r2 ?_
  rintro _ ⟨tv, rfl, hS⟩
  refine XD.pure r3 ?_
  refine Y.move (by rfl) ?_
  apply XD.stepP rfl
  intro w3
  refine Y.extract (by rfl) (by rfl) ?_
  exact ⟨rfl, rfl⟩
 ·intro aD2 wD2 haD2 hCD2 hrD2
  obtain ⟨r0, r1, r2, r3, -⟩ := hrD2
  replace hb2 := hb2.ext hCD2
  refine ⟨rfl, ?_⟩
  refine XD.start haD2 ?_
  refine XD.imp r0 ?_
  rintro _ rfl
  refine XD.imp r1 ?_
  rintro v16 hD16
  refine XD.imp r2 ?_
  rintro _ ⟨tv, rfl, hS⟩
  refine XD.pure r3 ?_
  refine Y.move (by rfl) ?_
  apply XD.stepP rfl
  intro w3
  refine Y.extract (by rfl) (by rfl) ?_
  exact ⟨rfl, rfl⟩
 ·intro aD2 wD2 haD2 hCD2 hrD2
  obtain ⟨r0, r1, r2, r3, r4, -⟩ := hrD2
  replace hb2 := hb2.ext hCD2
  refine ⟨rfl, ?_⟩
  refine XD.start haD2 ?_
  refine XD.imp r0 ?_
  rintro _ rfl
  refine XD.imp r1 ?_
  rintro v16 hD16
  refine XD.imp r2 ?_
  rintro _ ⟨tv, rfl, hS⟩
  refine XD.pure r3 ?_
  refine Y.move (by rfl) ?_
  refine XD.pure r4 ?_
  refine Y.extract (by rfl) (by rfl) ?_
  apply XD.stepP rfl
  intro w3
  refine Y.assign (by rfl) ?_
  exact ⟨rfl, rfl⟩
 intro aD2 wD2 haD2 hCD2 hrD2
 obtain ⟨r0, r1, r2, r3, r4, r5, r6, -⟩ := hrD2
 replace hb2 := hb2.ext hCD2
 refine XD.start haD2 ?_
 refine XD.imp r0 ?_
 rintro _ rfl
 refine XD.imp r1 ?_
 rintro v16 hD16
 refine XD.imp r2 ?_
 rintro _ ⟨tv, rfl, hS⟩
 refine XD.pure r3 ?_
 refine Y.move (by rfl) ?_
 refine XD.pure r4 ?_
 refine Y.extract (by rfl) (by rfl) ?_
 refine XD.pure r5 ?_
 refine Y.extract (by rfl) (by rfl) ?_
 refine XD.pure r6 ?_
 refine Y.assign (by rfl) ?_
 refine XD.fin haD2 ?_
 obtain ⟨tb, rfl⟩ := hS.ptr
 show XL _ _ _ _ (List.cons _ _) _ _
 refine XL.s rfl ?_
 refine Y.assign (by rfl) ?_
 refine XL.nil ?_
 refine QN.next ?_
 refine XC.seq ?_
 refine XC.seq ?_
 refine XC.region ?_
 show XL _ _ _ _ (List.cons _ _) _ _
 refine XL.s rfl ?_
 refine Y.move (by rfl) ?_
 refine XL.s rfl ?_
 refine Y.neq (by rfl) (by rfl) ?_
 refine XL.s rfl ?_
 refine Y.move (by rfl) ?_
 refine XL.gt rfl rfl rfl rfl ?_
 refine Y.move (by rfl) ?_
 refine XL.gt rfl rfl rfl rfl ?_
 refine Y.eqlP Tryz.underlying27 (by rfl) (by rfl) ?_
 refine XL.s rfl ?_
 refine Y.pickF (by rfl) rfl (by rfl) ?_
 refine XL.nil ?_
 refine QN.next ?_
 refine XC.condF rfl (by first | assumption | rfl | exact decide_eq_true (by omega) | exact decide_eq_false (by omega) | (simp only [decide_eq_true_eq, decide_eq_false_iff_not, Bool.not_eq_true', Bool.not_eq_false', Bool.not_eq_eq_eq_not, Bool.not_true, Bool.not_false]; omega) | (simp; done) | (simp; omega)) ?_
 refine XC.skip ?_
 refine QN.next ?_
 refine XC.seq ?_
 refine XC.region ?_
 show XL _ _ _ _ (List.cons _ _) _ _
 refine XL.s rfl ?_
 refine Y.move (by rfl) ?_
 refine XL.s rfl ?_
 refine Y.call (by rfl) ok13 (putS w2 _ 1 1 _ _ _ 0 0 _ hS (by decide) (by decide) [97] (by decide) (by decide) (by decide) rfl [98, 108, 111, 98] (by decide) (by decide) (fun _ _ => rfl)) ?_
 rintro v27 w27 ⟨rfl, hS27⟩
 have hlen : ∀ i, i < 1 + 2 * 1 → ((encP 1 (1 + 2 * 1) [98, 108, 111, 98]).getD i []).length = 8 := fun i hi => by rw [encP_getD_len 1 1 _ (by decide) hi]; decide
 have hP : 20 + pieceN 1 [98, 108, 111, 98] = 28 := by decide
 have hG := put_goods (ms := fun _ _ => none) (nm := [97]) (n := 1 + 2 * 1) (L := 20 + pieceN 1 [98, 108, 111, 98]) (e := fun i => (encP 1 (1 + 2 * 1) [98, 108, 111, 98]).getD i []) (fun i hi => by show ((encP 1 (1 + 2 * 1) [98, 108, 111, 98]).getD i []).length ≤ _; rw [hlen i hi]; omega) (by decide)
 refine XL.s rfl ?_
 refine Y.assign (by rfl) ?_
 refine XL.nil ?_
 refine QN.next ?_
 refine XC.seq ?_
 refine XC.region ?_
 show XL _ _ _ _ (List.cons _ _) _ _
 refine XL.s rfl ?_
 refine Y.move (by rfl) ?_
 refine XL.s rfl ?_
 refine Y.buildSlice st49 (by rfl) (by rfl) (by omega) (by simp [Value.oneCell', byteV, strV]) ?_
 intro v30 w30 hN30
 replace hS27 := hS27.ext hN30.1
 refine XL.s rfl ?_
 refine Y.call (by rfl) ok14 (getS w2 _ 1 1 _ _ _ _ _ _ hS27 (by decide) (by decide) [97] (by decide) (by decide) (by decide) rfl [98, 108, 111, 98] (by decide) _ hG _ _ [0, 2] hN30.row (by decide)) ?_
 rintro v31 w31 ⟨rfl, hE31⟩
 replace hS27 := hS27.ext hE31
 refine XL.s rfl ?_
 refine Y.move (by rfl) ?_
 refine XL.s rfl ?_
 refine Y.extract (by rfl) (by rfl) ?_
 refine XL.s rfl ?_
 refine Y.extract (by rfl) (by rfl) ?_
 refine XL.s rfl ?_
 refine Y.assign (by rfl) ?_
 refine XL.s rfl ?_
 refine Y.assign (by rfl) ?_
 refine XL.nil ?_
 refine QN.next ?_
 refine XC.seq ?_
 refine XC.region ?_
 show XL _ _ _ _ (List.cons _ _) _ _
 refine XL.s rfl ?_
 refine Y.move (by rfl) ?_
 refine XL.s rfl ?_
 refine Y.call (by rfl) ok14 (getS_none w2 _ 1 1 _ _ _ _ _ _ hS27 (by decide) (by decide) [98] (by decide) (by decide) (by decide) rfl AnyB _ [] (Row.nil AnyB _) (by decide)) ?_
 rintro v36 w36 ⟨rfl, hE36⟩
 replace hS27 := hS27.ext hE36
 have hkey : ∀ (i : Nat) (x : List UInt8), upd ((fun _ _ => none : Nat → Fm) i) ([98, 46] ++ [97]) (some (fileB i ((encP 1 (1 + 2 * 1) [98, 108, 111, 98]).getD i []), 20 + pieceN 1 [98, 108, 111, 98])) x ≠ none → x = [98, 46, 97] := fun i x h => by simp only [upd] at h; split at h; (rename_i e; exact e); exact absurd rfl h
 have hcl : ∀ x, (fun i => upd ((fun _ _ => none : Nat → Fm) i) ([98, 46] ++ [97]) (some (fileB i ((encP 1 (1 + 2 * 1) [98, 108, 111, 98]).getD i []), 20 + pieceN 1 [98, 108, 111, 98]))) 1 x ≠ none → badF 1 ((fun i => upd ((fun _ _ => none : Nat → Fm) i) ([98, 46] ++ [97]) (some (fileB i ((encP 1 (1 + 2 * 1) [98, 108, 111, 98]).getD i []), 20 + pieceN 1 [98, 108, 111, 98]))) 1) x = false := fun x h => by
  have e := hkey 1 x h
  subst e
  have hsh := shardP_good 1 ((encP 1 (1 + 2 * 1) [98, 108, 111, 98]).getD 1 []) (by decide) (by rw [hlen 1 (by decide)]; omega)
  have hu : upd ((fun _ _ => none : Nat → Fm) 1) ([98, 46] ++ [97]) (some (fileB 1 ((encP 1 (1 + 2 * 1) [98, 108, 111, 98]).getD 1 []), 20 + pieceN 1 [98, 108, 111, 98])) [98, 46, 97] = some (fileB 1 ((encP 1 (1 + 2 * 1) [98, 108, 111, 98]).getD 1 []), 20 + pieceN 1 [98, 108, 111, 98]) := upd_same _ _ _
  simp only [badF, hu, hsh, hlen 1 (by decide)]; rfl
 refine XL.s rfl ?_
 refine Y.move (by rfl) ?_
 refine XL.s rfl ?_
 refine Y.extract (by rfl) (by rfl) ?_
 refine XL.s rfl ?_
 refine Y.extract (by rfl) (by rfl) ?_
 refine XL.s rfl ?_
 refine Y.assign (by rfl) ?_
 refine XL.s rfl ?_
 refine Y.assign (by rfl) ?_
 refine XL.nil ?_
 refine QN.next ?_
 refine XC.seq ?_
 refine XC.region ?_
 show XL _ _ _ _ (List.cons _ _) _ _
 refine XL.s rfl ?_
 refine Y.move (by rfl) ?_
 refine XL.s rfl ?_
 refine Y.call (by rfl) ok22 (scrubS_clean w2 _ 1 1 _ _ _ _ _ _ hS27 (by decide) (by decide) (by decide) 1 (by decide) (by decide) (fun x h => by rw [hkey 1 x h]; decide) hcl) ?_
 rintro v41 w41 ⟨rfl, hE41⟩
 replace hS27 := hS27.ext hE41
 refine XL.s rfl ?_
 refine Y.move (by rfl) ?_
 refine XL.s rfl ?_
 refine Y.extract (by rfl) (by rfl) ?_
 refine XL.s rfl ?_
 refine Y.extract (by rfl) (by rfl) ?_
 refine XL.s rfl ?_
 refine Y.assign (by rfl) ?_
 refine XL.s rfl ?_
 refine Y.assign (by rfl) ?_
 refine XL.nil ?_
 refine QN.next ?_
 refine XC.seq ?_
 refine XC.region ?_
 show XL _ _ _ _ (List.cons _ _) _ _
 refine XL.s rfl ?_
 refine Y.move (by rfl) ?_
 refine XL.s rfl ?_
 refine Y.call (by rfl) ok24 (repS w2 _ 1 1 _ _ _ _ _ _ hS27 (by decide) (by decide) [97] (by decide) (by decide) (by decide) rfl [98, 108, 111, 98] (by decide) _ hG (by decide) (by decide) (fun i _ => by rw [upd_other _ _ (by decide)])) ?_
 rintro v46 w46 ⟨rfl, hS46⟩
 have hcnt : cntM (fun i => upd ((fun _ _ => none : Nat → Fm) i) ([98, 46] ++ [97]) (some (fileB i ((encP 1 (1 + 2 * 1) [98, 108, 111, 98]).getD i []), 20 + pieceN 1 [98, 108, 111, 98]))) [97] (fun j => fileB j ((encP 1 (1 + 2 * 1) [98, 108, 111, 98]).getD j [])) (1 + 2 * 1) = 0 := cntM_zero fun i _ => by rw [upd_same]; rfl
 refine XL.s rfl ?_
 refine Y.move (by rfl) ?_
 refine XL.s rfl ?_
 refine Y.extract (by rfl) (by rfl) ?_
 refine XL.s rfl ?_
 refine Y.extract (by rfl) (by rfl) ?_
 refine XL.s rfl ?_
 refine Y.assign (by rfl) ?_
 refine XL.s rfl ?_
 refine Y.assign (by rfl) ?_
 refine XL.nil ?_
 refine QN.next ?_
 refine XC.seq ?_
 refine XC.region ?_
 show XL _ _ _ _ (List.cons _ _) _ _
 refine XL.s rfl ?_
 refine Y.move (by rfl) ?_
 refine XL.s rfl ?_
 refine Y.eql (by rfl) (by rfl) ?_
 refine XL.s rfl ?_
 refine Y.move (by rfl) ?_
 refine XL.gt rfl rfl rfl rfl ?_
 refine Y.move (by rfl) ?_
 refine XL.gt rfl rfl rfl rfl ?_
 refine Y.eql (by rfl) (by rfl) ?_
 refine XL.s rfl ?_
 refine Y.pickT (by rfl) rfl (by rfl) ?_
 refine XL.s rfl ?_
 refine Y.move (by rfl) ?_
 refine XL.gt rfl rfl rfl rfl ?_
 refine Y.move (by rfl) ?_
 refine XL.gt rfl rfl rfl rfl ?_
 refine Y.eqlS (by rfl) (by rfl) ?_
 refine XL.s rfl ?_
 refine Y.pickT (by rfl) rfl (by rfl) ?_
 refine XL.s rfl ?_
 refine Y.move (by rfl) ?_
 refine XL.gt rfl rfl (by first | assumption | rfl | exact decide_eq_true (by omega) | exact decide_eq_false (by omega) | (simp only [decide_eq_true_eq, decide_eq_false_iff_not, Bool.not_eq_true', Bool.not_eq_false', Bool.not_eq_eq_eq_not, Bool.not_true, Bool.not_false]; omega) | (simp; done) | (simp; omega)) rfl ?_
 refine Y.move (by rfl) ?_
 refine XL.gt rfl rfl (by first | assumption | rfl | exact decide_eq_true (by omega) | exact decide_eq_false (by omega) | (simp only [decide_eq_true_eq, decide_eq_false_iff_not, Bool.not_eq_true', Bool.not_eq_false', Bool.not_eq_eq_eq_not, Bool.not_true, Bool.not_false]; omega) | (simp; done) | (simp; omega)) rfl ?_
 refine Y.eql (by rfl) (by rfl) ?_
 refine XL.s rfl ?_
 refine Y.pickT (by rfl) (by first | assumption | rfl | exact decide_eq_true (by omega) | exact decide_eq_false (by omega) | (simp only [decide_eq_true_eq, decide_eq_false_iff_not, Bool.not_eq_true', Bool.not_eq_false', Bool.not_eq_eq_eq_not, Bool.not_true, Bool.not_false]; omega) | (simp; done) | (simp; omega)) (by rfl) ?_
 refine XL.s rfl ?_
 refine Y.move (by rfl) ?_
 refine XL.gt rfl rfl rfl rfl ?_
 refine Y.move (by rfl) ?_
 refine XL.gt rfl rfl rfl rfl ?_
 refine Y.eql (by rfl) (by rfl) ?_
 refine XL.s rfl ?_
 refine Y.pickT (by rfl) rfl (by rfl) ?_
 refine XL.s rfl ?_
 refine Y.move (by rfl) ?_
 refine XL.gt rfl rfl rfl rfl ?_
 refine Y.move (by rfl) ?_
 refine XL.gt rfl rfl rfl rfl ?_
 refine Y.len Tryz.underlying56 (by rfl) (Row.nil AnyB _) ?_
 refine XL.gt rfl rfl rfl rfl ?_
 refine Y.eql (by rfl) (by rfl) ?_
 refine XL.s rfl ?_
 refine Y.pickT (by rfl) rfl (by rfl) ?_
 refine XL.s rfl ?_
 refine Y.move (by rfl) ?_
 refine XL.gt rfl rfl rfl rfl ?_
 refine Y.move (by rfl) ?_
 refine XL.gt rfl rfl rfl rfl ?_
 refine Y.eql (by rfl) (by rfl) ?_
 refine XL.s rfl ?_
 refine Y.pickT (by rfl) rfl (by rfl) ?_
 refine XL.s rfl ?_
 refine Y.move (by rfl) ?_
 refine XL.gt rfl rfl (by rw [hcnt]; rfl) rfl ?_
 refine Y.move (by rfl) ?_
 refine XL.gt rfl rfl (by rw [hcnt]; rfl) rfl ?_
 refine Y.eql (by rfl) (by rfl) ?_
 refine XL.s rfl ?_
 refine Y.pickT (by rfl) (by rw [hcnt]; rfl) (by rfl) ?_
 refine XL.s rfl ?_
 refine Y.move (by rfl) ?_
 refine XL.gt rfl rfl rfl rfl ?_
 refine Y.move (by rfl) ?_
 refine XL.gt rfl rfl rfl rfl ?_
 refine Y.call (by rfl) ok16 (diskS_no w2 _ 1 1 _ _ _ _ _ _ hS46 (by decide) (by decide) (by decide)) ?_
 rintro v82 w82 ⟨rfl, hE82⟩
 refine XL.gt rfl rfl rfl rfl ?_
 refine Y.eqlP Tryz.underlying41 (by rfl) (by rfl) ?_
 refine XL.s rfl ?_
 refine Y.pickT (by rfl) rfl (by rfl) ?_
 refine XL.s rfl ?_
 refine Y.move (by rfl) ?_
 refine XL.gt rfl rfl (by first | assumption | rfl | exact decide_eq_true (by omega) | exact decide_eq_false (by omega) | (simp only [decide_eq_true_eq, decide_eq_false_iff_not, Bool.not_eq_true', Bool.not_eq_false', Bool.not_eq_eq_eq_not, Bool.not_true, Bool.not_false]; omega) | (simp; done) | (simp; omega)) rfl ?_
 refine Y.move (by rfl) ?_
 refine XL.gt rfl rfl (by first | assumption | rfl | exact decide_eq_true (by omega) | exact decide_eq_false (by omega) | (simp only [decide_eq_true_eq, decide_eq_false_iff_not, Bool.not_eq_true', Bool.not_eq_false', Bool.not_eq_eq_eq_not, Bool.not_true, Bool.not_false]; omega) | (simp; done) | (simp; omega)) rfl ?_
 refine Y.call (by rfl) ok16 (diskS w2 _ 1 1 _ _ _ _ _ _ (hS46.ext hE82) (by decide) (by decide) (by decide) 0 (by decide)) ?_
 rintro v87 w87 ⟨hD87, hE87⟩
 obtain ⟨db, rfl⟩ := hD87.ptr
 refine XL.gt rfl rfl (by first | assumption | rfl | exact decide_eq_true (by omega) | exact decide_eq_false (by omega) | (simp only [decide_eq_true_eq, decide_eq_false_iff_not, Bool.not_eq_true', Bool.not_eq_false', Bool.not_eq_eq_eq_not, Bool.not_true, Bool.not_false]; omega) | (simp; done) | (simp; omega)) rfl ?_
 refine Y.neqP Tryz.underlying41 (by rfl) (by rfl) ?_
 refine XL.s rfl ?_
 refine Y.pickT (by rfl) (by first | assumption | rfl | exact decide_eq_true (by omega) | exact decide_eq_false (by omega) | (simp only [decide_eq_true_eq, decide_eq_false_iff_not, Bool.not_eq_true', Bool.not_eq_false', Bool.not_eq_eq_eq_not, Bool.not_true, Bool.not_false]; omega) | (simp; done) | (simp; omega)) (by rfl) ?_
 refine XL.s rfl ?_
 refine Y.assign (by rfl) ?_
 refine XL.nil ?_
 refine QN.next ?_
 refine XC.ret ?_
 refine QN.done1 (fn := Tryz.f8) (R := R) (.inl rfl) rfl rfl ?_
 refine hR _ _ ?_
 exact ⟨rfl, hE2.trans ((hS46.ext hE82).ext hE87).1⟩
end Go.Proofs.YtchammpamigonaaGreatX
end
section
set_option linter.unusedVariables false
set_option linter.unusedSimpArgs false
set_option maxRecDepth 10000
set_option maxHeartbeats 4000000
namespace Go.Proofs.YtchammpamigonaaGreatX
open Go Go.RowKit Go.Proofs
theorem puts_ok (K F : Int) (nm bl : List UInt8) (bs : Nat) (w : World) (hK : in64 K) (hF : in64 F) (hnl : nm.length ≤ 9223372036854775807) (hbl : bl.length ≤ 9223372036854775807) (hbs : bs < 65536) :
  Rets Tryz.prog 3 #[shapeV K F, strV nm, strV bl, .int .u16 bs] w fun v w' => v = .bool true ∧ Ext w w' := by
 refine Rets.enter (args := [shapeV K F, strV nm, strV bl, .int .u16 bs]) (n := 153) Tryz.func3 rfl rfl rfl ?_
 intro R hR
 show XC _ _ _ _ [(0, shapeV K F), (1, strV nm), (2, strV bl), (3, .int .u16 bs)] _
 refine XC.seq ?_
 refine XC.region ?_
 show XL _ _ _ _ (List.cons _ _) _ _
 refine XL.s rfl ?_
 refine Y.box (by rfl) ?_
 intro b4 w4 hb4 hz4 hE4
 have hsh0 : HB w4 b4 (.cells (Value.cells (shapeV K F)) 23 (0, 0)) := hb4
 refine XL.s rfl ?_
 refine Y.assign (by rfl) ?_
 refine XL.nil ?_
 refine QN.next ?_
 refine XC.seq ?_
 refine XC.seq ?_
 by_cases hl1 : nm.length ≤ 100
 ·skip
  by_cases hl2 : bl.length ≤ 1000
  ·skip
   refine XC.region ?_
   show XL _ _ _ _ (List.cons _ _) _ _
   refine XL.s rfl ?_
   refine Y.call (by rfl) ok8 (awake_ok _) ?_
   rintro vA wA ⟨rfl, hEA⟩
   refine XL.s rfl ?_
   refine Y.not (by rfl) ?_
   refine XL.s rfl ?_
   refine Y.move (by rfl) ?_
   refine XL.gt rfl rfl rfl rfl ?_
   refine Y.move (by rfl) ?_
   refine XL.gt rfl rfl rfl rfl ?_
   refine Y.lenS Tryz.underlying9 (by rfl) ?_
   refine XL.gt rfl rfl rfl rfl ?_
   refine Y.gtr (by rfl) (by rfl) ?_
   refine XL.s rfl ?_
   refine Y.pickF (by rfl) rfl (by rfl) ?_
   refine XL.s rfl ?_
   refine Y.move (by rfl) ?_
   refine XL.gt rfl rfl (by first | assumption | rfl | exact decide_eq_true (by omega) | exact decide_eq_false (by omega) | (simp only [decide_eq_true_eq, decide_eq_false_iff_not, Bool.not_eq_true', Bool.not_eq_false', Bool.not_eq_eq_eq_not, Bool.not_true, Bool.not_false]; omega) | (simp; done) | (simp; omega)) rfl ?_
   refine Y.move (by rfl) ?_
   refine XL.gt rfl rfl (by first | assumption | rfl | exact decide_eq_true (by omega) | exact decide_eq_false (by omega) | (simp only [decide_eq_true_eq, decide_eq_false_iff_not, Bool.not_eq_true', Bool.not_eq_false', Bool.not_eq_eq_eq_not, Bool.not_true, Bool.not_false]; omega) | (simp; done) | (simp; omega)) rfl ?_
   refine Y.lenS Tryz.underlying9 (by rfl) ?_
   refine XL.gt rfl rfl (by first | assumption | rfl | exact decide_eq_true (by omega) | exact decide_eq_false (by omega) | (simp only [decide_eq_true_eq, decide_eq_false_iff_not, Bool.not_eq_true', Bool.not_eq_false', Bool.not_eq_eq_eq_not, Bool.not_true, Bool.not_false]; omega) | (simp; done) | (simp; omega)) rfl ?_
   refine Y.gtr (by rfl) (by rfl) ?_
   refine XL.s rfl ?_
   refine Y.pickF (by rfl) (by first | assumption | rfl | exact decide_eq_true (by omega) | exact decide_eq_false (by omega) | (simp only [decide_eq_true_eq, decide_eq_false_iff_not, Bool.not_eq_true', Bool.not_eq_false', Bool.not_eq_eq_eq_not, Bool.not_true, Bool.not_false]; omega) | (simp; done) | (simp; omega)) (by rfl) ?_
   refine XL.nil ?_
   refine QN.next ?_
   refine XC.condF rfl (by first | assumption | rfl | exact decide_eq_true (by omega) | exact decide_eq_false (by omega) | (simp only [decide_eq_true_eq, decide_eq_false_iff_not, Bool.not_eq_true', Bool.not_eq_false', Bool.not_eq_eq_eq_not, Bool.not_true, Bool.not_false]; omega) | (simp; done) | (simp; omega)) ?_
   have hshA := hsh0.ext hEA
   have hE0 := hE4.trans hEA
   refine XC.skip ?_
   refine QN.next ?_
   refine XC.seq ?_
   by_cases hs : okShape K F
   ·skip
    obtain ⟨k, rfl⟩ : ∃ k : Nat, K = k := ⟨K.toNat, by have := hs.1; omega⟩
    obtain ⟨f, rfl⟩ : ∃ f : Nat, F = f := ⟨F.toNat, by have := hs.2.1; omega⟩
    have hk : 1 ≤ k := by have := hs.1; omega
    have hKF : k + 2 * f ≤ 7 := by have := hs.2.2; omega
    have hmb : min bs 65536 = bs := by omega
    refine XC.region ?_
    show XL _ _ _ _ (List.cons _ _) _ _
    refine XL.s rfl ?_
    refine Y.loadA agg23 (by rfl) rfl (shapeA hshA) ?_
    refine XL.s rfl ?_
    refine Y.call (by rfl) ok9 (cn_ok (k : Int) (f : Int) _ hK hF hs) ?_
    rintro v37 w37 ⟨hv37, hE37⟩
    obtain rfl : v37 = .int .i64 ((k + 2 * f : Nat) : Int) := hv37.trans (congrArg _ (by omega))
    have hsh := hshA.ext hE37
    have hsh37 := hshA.ext hE37
    replace hE0 := hE0.trans hE37
    refine XL.s rfl ?_
    refine Y.assign (by rfl) ?_
    refine XL.nil ?_
    refine QN.next ?_
    refine XC.seq ?_
    apply XC.drop [10, 12, 15, 23, 24, 25, 26, 27, 28, 29, 30, 31, 32, 33, 34, 35, 36, 37, 38, 39, 40, 41, 42, 43, 44, 45, 46, 47, 48, 49, 50, 51, 52, 53, 54, 55, 56, 57, 58, 59, 60, 61, 62, 63, 64, 65, 66, 67, 68, 69, 70, 71, 72, 73, 74, 75, 76, 77, 78, 79, 80, 81, 82, 83, 84, 85, 86, 87, 88, 89, 90, 91, 92, 93, 94, 95, 96, 97, 98, 99, 100, 101, 102, 103, 104, 105, 106, 107, 108, 109, 110, 111, 112, 113, 114, 115, 116, 117, 118, 119, 120, 121, 122, 123, 124, 125, 126, 127, 128, 129, 130, 131, 132, 133, 134, 135, 136, 137, 138, 139, 140, 141, 142, 143, 144, 145, 146, 147, 148, 149, 150, 151, 152]
    ·repeat (first | apply DropTo.nil | apply DropTo.skip rfl | apply DropTo.keep rfl)
    refine XC.drawL 10 [[], [], [], [2], [1, 2, 3], [0, 1, 2, 3, 4], [0, 1, 2, 3, 4, 5], [0, 1, 2, 3, 4, 5, 6], [0, 1, 2, 3, 4, 5, 6], [0, 1, 2, 3, 4, 5, 6, 7], [0, 1, 2, 3, 4, 5, 6, 7, 8, 9]] _ (Chg NoB) (Steady.chg NoB) [] [(0, (fun v _ => v = shapeV k f)), (4, (fun v w' => DRow 41 79 82 5 0 w' (min bs 65536) (fun _ _ => none) 0 0 (k + 2 * f) v)), (5, (fun v w' => ∃ tv, v = .tuple #[tv, .int .i64 0] ∧ StoreS 66 79 82 5 w37 w' tv k f (k + 2 * f) (min bs 65536) (fun _ _ => none) 0 0))] [0, 1, 2, 3, 4, 5, 6, 7, 8, 9] fol (by kernel_rfl) (by rfl) (by rfl) ⟨(fun _ _ _ _ h => h), (fun v w1 w2 hE h => h.ext hE), (fun v w1 w2 hE ⟨tv, h1, h2⟩ => ⟨tv, h1, h2.ext hE⟩), trivial⟩ ⟨?_, ?_, ?_, ?_, ?_, ?_, ?_, ?_, ?_, ?_, trivial⟩ ?_
    ·intro aD4 wD4 haD4 hCD4 hrD4
     replace hsh := hsh.ext hCD4
     refine ⟨rfl, ?_⟩
     refine XD.start haD4 ?_
     refine XD.stepI ?_
     refine Y.loadA agg23 (by rfl) rfl (shapeA hsh) ?_
     exact ⟨Chg.refl _ _, rfl⟩
    ·intro aD4 wD4 haD4 hCD4 hrD4
     refine ⟨rfl, ?_⟩
     refine XD.start haD4 ?_
     apply XD.stepP rfl
     intro w3
     refine Y.move (by rfl) ?_
     exact ⟨rfl, rfl⟩
    ·intro aD4 wD4 haD4 hCD4 hrD4
     refine ⟨rfl, ?_⟩
     refine XD.start haD4 ?_
     apply XD.stepP rfl
     intro w3
     refine Y.move (by rfl) ?_
     exact ⟨rfl, rfl⟩
    ·intro aD4 wD4 haD4 hCD4 hrD4
     obtain ⟨r2, -⟩ := hrD4
     refine ⟨rfl, ?_⟩
     refine XD.start haD4 ?_
     refine XD.pure r2 ?_
     refine Y.move (by rfl) ?_
     apply XD.stepP rfl
     intro w3
     refine Y.convI Tryz.underlying24 Tryz.underlying3 (by rfl) (wrap64 (by omega) (by omega)) ?_
     exact ⟨rfl, rfl⟩
    ·intro aD4 wD4 haD4 hCD4 hrD4
     obtain ⟨r1, r2, r3, -⟩ := hrD4
     replace hsh := hsh.ext hCD4
     refine ⟨rfl, ?_⟩
     refine XD.start haD4 ?_
     refine XD.pure r1 ?_
     refine Y.move (by rfl) ?_
     refine XD.pure r2 ?_
     refine Y.move (by rfl) ?_
     refine XD.pure r3 ?_
     refine Y.convI Tryz.underlying24 Tryz.underlying3 (by rfl) (wrap64 (by omega) (by omega)) ?_
     refine XD.stepI ?_
     refine Y.call (by rfl) ok11 (disks_ok (k + 2 * f) bs _ (by omega)) ?_
     rintro v43 w43 ⟨hD43, hE43⟩
     exact ⟨hE43, hD43.lower (Nat.zero_le _)⟩
    ·intro aD4 wD4 haD4 hCD4 hrD4
     obtain ⟨r0, r1, r2, r3, r4, -⟩ := hrD4
     replace hsh := hsh.ext hCD4
     refine ⟨rfl, ?_⟩
     refine XD.start haD4 ?_
     refine XD.imp r0 ?_
     rintro _ rfl
     refine XD.pure r1 ?_
     refine Y.move (by rfl) ?_
     refine XD.pure r2 ?_
     refine Y.move (by rfl) ?_
     refine XD.pure r3 ?_
     refine Y.convI Tryz.underlying24 Tryz.underlying3 (by rfl) (wrap64 (by omega) (by omega)) ?_
     refine XD.imp r4 ?_
     rintro v43 hD43
     refine XD.stepI ?_
     refine Y.call (by rfl) ok10 (newD k f _ hk hKF _ 0 _ (fun _ _ => none) 0 0 hD43 (by omega) (by omega)) ?_
     rintro v44 w44 ⟨tv, rfl, hS44⟩
     exact ⟨hS44.1, tv, rfl, hS44.older hCD4⟩
    ·intro aD4 wD4 haD4 hCD4 hrD4
     obtain ⟨r0, r1, r2, r3, r4, r5, -⟩ := hrD4
     replace hsh := hsh.ext hCD4
     refine ⟨rfl, ?_⟩
     refine XD.start haD4 ?_
     refine XD.imp r0 ?_
     rintro _ rfl
     refine XD.pure r1 ?_
     refine Y.move (by rfl) ?_
     refine XD.pure r2 ?_
     refine Y.move (by rfl) ?_
     refine XD.pure r3 ?_
     refine Y.convI Tryz.underlying24 Tryz.underlying3 (by rfl) (wrap64 (by omega) (by omega)) ?_
     refine XD.imp r4 ?_
     rintro v43 hD43
     refine XD.imp r5 ?_
     rintro _ ⟨tv, rfl, hS⟩
     apply XD.stepP rfl
     intro w3
     refine Y.move (by rfl) ?_
     exact ⟨rfl, rfl⟩
    ·intro aD4 wD4 haD4 hCD4 hrD4
     obtain ⟨r0, r1, r2, r3, r4, r5, r6, -⟩ := hrD4
     replace hsh := hsh.ext hCD4
     refine ⟨rfl, ?_⟩
     refine XD.start haD4 ?_
     refine XD.imp r0 ?_
     rintro _ rfl
     refine XD.pure r1 ?_
     refine Y.move (by rfl) ?_
     refine XD.pure r2 ?_
     refine Y.move (by rfl) ?_
     refine XD.pure r3 ?_
     refine Y.convI Tryz.underlying24 Tryz.underlying3 (by rfl) (wrap64 (by omega) (by omega)) ?_
     refine XD.imp r4 ?_
     rintro v43 hD43
     refine XD.imp r5 ?_
     rintro _ ⟨tv, rfl, hS⟩
     refine XD.pure r6 ?_
     refine Y.move (by rfl) ?_
     apply XD.stepP rfl
     intro w3
     refine Y.extract (by rfl) (by rfl) ?_
     exact ⟨rfl, rfl⟩
    ·intro aD4 wD4 haD4 hCD4 hrD4
     obtain ⟨r0, r1, r2, r3, r4, r5, r6, -⟩ := hrD4
     replace hsh := hsh.ext hCD4
     refine ⟨rfl, ?_⟩
     refine XD.start haD4 ?_
     refine XD.imp r0 ?_
     rintro _ rfl
     refine XD.pure r1 ?_
     refine Y.move (by rfl) ?_
     refine XD.pure r2 ?_
     refine Y.move (by rfl) ?_
     refine XD.pure r3 ?_
     refine Y.convI Tryz.underlying24 Tryz.underlying3 (by rfl) (wrap64 (by omega) (by omega)) ?_
     refine XD.imp r4 ?_
     rintro v43 hD43
     refine XD.imp r5 ?_
     rintro _ ⟨tv, rfl, hS⟩
     refine XD.pure r6 ?_
     refine Y.move (by rfl) ?_
     apply XD.stepP rfl
     intro w3
     refine Y.extract (by rfl) (by rfl) ?_
     exact ⟨rfl, rfl⟩
    ·intro aD4 wD4 haD4 hCD4 hrD4
     obtain ⟨r0, r1, r2, r3, r4, r5, r6, r7, -⟩ := hrD4
     replace hsh := hsh.ext hCD4
     refine ⟨rfl, ?_⟩
     refine XD.start haD4 ?_
     refine XD.imp r0 ?_
     rintro _ rfl
     refine XD.pure r1 ?_
     refine Y.move (by rfl) ?_
     refine XD.pure r2 ?_
     refine Y.move (by rfl) ?_
     refine XD.pure r3 ?_
     refine Y.convI Tryz.underlying24 Tryz.underlying3 (by rfl) (wrap64 (by omega) (by omega)) ?_
     refine XD.imp r4 ?_
     rintro v43 hD43
     refine XD.imp r5 ?_
     rintro _ ⟨tv, rfl, hS⟩
     refine XD.pure r6 ?_
     refine Y.move (by rfl) ?_
     refine XD.pure r7 ?_
     refine Y.extract (by rfl) (by rfl) ?_
     apply XD.stepP rfl
     intro w3
     refine Y.assign (by rfl) ?_
     exact ⟨rfl, rfl⟩
    intro aD4 wD4 haD4 hCD4 hrD4
    obtain ⟨r0, r1, r2, r3, r4, r5, r6, r7, r8, r9, -⟩ := hrD4
    replace hsh := hsh.ext hCD4
    refine XD.start haD4 ?_
    refine XD.imp r0 ?_
    rintro _ rfl
    refine XD.pure r1 ?_
    refine Y.move (by rfl) ?_
    refine XD.pure r2 ?_
    refine Y.move (by rfl) ?_
    refine XD.pure r3 ?_
    refine Y.convI Tryz.underlying24 Tryz.underlying3 (by rfl) (wrap64 (by omega) (by omega)) ?_
    refine XD.imp r4 ?_
    rintro v43 hD43
    refine XD.imp r5 ?_
    rintro _ ⟨tv, rfl, hS⟩
    refine XD.pure r6 ?_
    refine Y.move (by rfl) ?_
    refine XD.pure r7 ?_
    refine Y.extract (by rfl) (by rfl) ?_
    refine XD.pure r8 ?_
    refine Y.extract (by rfl) (by rfl) ?_
    refine XD.pure r9 ?_
    refine Y.assign (by rfl) ?_
    refine XD.fin haD4 ?_
    obtain ⟨tb, rfl⟩ := hS.ptr
    rw [hmb] at hS
    replace hsh := hsh
    show XL _ _ _ _ (List.cons _ _) _ _
    refine XL.s rfl ?_
    refine Y.assign (by rfl) ?_
    refine XL.nil ?_
    refine QN.next ?_
    refine XC.seq ?_
    refine XC.seq ?_
    refine XC.region ?_
    show XL _ _ _ _ (List.cons _ _) _ _
    refine XL.s rfl ?_
    refine Y.loadA agg23 (by rfl) rfl (shapeA hsh) ?_
    refine XL.s rfl ?_
    refine Y.call (by rfl) ok12 (rright_ok (k : Int) (f : Int) _ hK hF) ?_
    rintro v48 w48 ⟨rfl, hE48⟩
    refine XL.s rfl ?_
    refine Y.not (by rfl) ?_
    refine XL.nil ?_
    refine QN.next ?_
    refine XC.condF rfl (by rw [decide_eq_true hs]; rfl) ?_
    refine XC.skip ?_
    refine QN.next ?_
    refine XC.seq ?_
    refine XC.seq ?_
    refine XC.region ?_
    show XL _ _ _ _ (List.cons _ _) _ _
    refine XL.s rfl ?_
    refine Y.move (by rfl) ?_
    refine XL.s rfl ?_
    refine Y.neq (by rfl) (by rfl) ?_
    refine XL.s rfl ?_
    refine Y.move (by rfl) ?_
    refine XL.gt rfl rfl rfl rfl ?_
    refine Y.move (by rfl) ?_
    refine XL.gt rfl rfl rfl rfl ?_
    refine Y.eqlP Tryz.underlying27 (by rfl) (by rfl) ?_
    refine XL.s rfl ?_
    refine Y.pickF (by rfl) rfl (by rfl) ?_
    refine XL.nil ?_
    refine QN.next ?_
    refine XC.condF rfl (by first | assumption | rfl | exact decide_eq_true (by omega) | exact decide_eq_false (by omega) | (simp only [decide_eq_true_eq, decide_eq_false_iff_not, Bool.not_eq_true', Bool.not_eq_false', Bool.not_eq_eq_eq_not, Bool.not_true, Bool.not_false]; omega) | (simp; done) | (simp; omega)) ?_
    replace hS := hS.ext hE48
    have hsh48 := hsh.ext hE48
    refine XC.skip ?_
    refine QN.next ?_
    refine XC.seq ?_
    apply XC.drop [12, 15, 23, 24, 25, 26, 27, 28, 29, 30, 31, 32, 33, 34, 35, 36, 37, 38, 39, 40, 41, 42, 43, 44, 45, 46, 47, 48, 49, 50, 51, 52, 53, 54, 55, 56, 57, 58, 59, 60, 61, 62, 63, 64, 65, 66, 67, 68, 69, 70, 71, 72, 73, 74, 75, 76, 77, 78, 79, 80, 81, 82, 83, 84, 85, 86, 87, 88, 89, 90, 91, 92, 93, 94, 95, 96, 97, 98, 99, 100, 101, 102, 103, 104, 105, 106, 107, 108, 109, 110, 111, 112, 113, 114, 115, 116, 117, 118, 119, 120, 121, 122, 123, 124, 125, 126, 127, 128, 129, 130, 131, 132, 133, 134, 135, 136, 137, 138, 139, 140, 141, 142, 143, 144, 145, 146, 147, 148, 149, 150, 151, 152]
    ·repeat (first | apply DropTo.nil | apply DropTo.skip rfl | apply DropTo.keep rfl)
    refine XC.drawL 9 [[], [], [1], [1, 2], [0, 1, 2, 3], [0, 1, 2, 3, 4], [0, 1, 2, 3, 4, 5], [0, 1, 2, 3, 4, 5], [0, 1, 2, 3, 4, 5, 6], [0, 1, 2, 3, 4, 5, 6, 7, 8]] _ (Chg NoB) (Steady.chg NoB) [] [(0, (fun v _ => v = shapeV k f)), (3, (fun v w' => DRow 41 79 82 5 0 w' (min 10 65536) (fun _ _ => none) 0 0 (k + 2 * f - 1) v)), (4, (fun v _ => v = .tuple #[.pointer none, .int .i64 1]))] [0, 1, 2, 3, 4, 5, 6, 7, 8] fol (by kernel_rfl) (by rfl) (by rfl) ⟨(fun _ _ _ _ h => h), (fun v w1 w2 hE h => h.ext hE), (fun _ _ _ _ h => h), trivial⟩ ⟨?_, ?_, ?_, ?_, ?_, ?_, ?_, ?_, ?_, trivial⟩ ?_
    ·intro aD9 wD9 haD9 hCD9 hrD9
     replace hsh48 := hsh48.ext hCD9
     replace hS := hS.ext hCD9
     refine ⟨rfl, ?_⟩
     refine XD.start haD9 ?_
     refine XD.stepI ?_
     refine Y.loadA agg23 (by rfl) rfl (shapeA hsh48) ?_
     exact ⟨Chg.refl _ _, rfl⟩
    ·intro aD9 wD9 haD9 hCD9 hrD9
     refine ⟨rfl, ?_⟩
     refine XD.start haD9 ?_
     apply XD.stepP rfl
     intro w3
     refine Y.move (by rfl) ?_
     exact ⟨rfl, rfl⟩
    ·intro aD9 wD9 haD9 hCD9 hrD9
     obtain ⟨r1, -⟩ := hrD9
     refine ⟨rfl, ?_⟩
     refine XD.start haD9 ?_
     refine XD.pure r1 ?_
     refine Y.move (by rfl) ?_
     apply XD.stepP rfl
     intro w3
     refine Y.sub (by rfl) (by rfl) (show IntKind.i64.wrap (((k + 2 * f : Nat) : Int) - 1) = ((k + 2 * f - 1 : Nat) : Int) from by rw [wrap64 (by omega) (by omega)]; omega) ?_
     exact ⟨rfl, rfl⟩
    ·intro aD9 wD9 haD9 hCD9 hrD9
     obtain ⟨r1, r2, -⟩ := hrD9
     replace hsh48 := hsh48.ext hCD9
     replace hS := hS.ext hCD9
     refine ⟨rfl, ?_⟩
     refine XD.start haD9 ?_
     refine XD.pure r1 ?_
     refine Y.move (by rfl) ?_
     refine XD.pure r2 ?_
     refine Y.sub (by rfl) (by rfl) (show IntKind.i64.wrap (((k + 2 * f : Nat) : Int) - 1) = ((k + 2 * f - 1 : Nat) : Int) from by rw [wrap64 (by omega) (by omega)]; omega) ?_
     refine XD.stepI ?_
     refine Y.call (by rfl) ok11 (disks_ok (k + 2 * f - 1) 10 _ (by omega)) ?_
     rintro v66 w66 ⟨hD66, hE66⟩
     exact ⟨hE66, hD66.lower (Nat.zero_le _)⟩
    ·intro aD9 wD9 haD9 hCD9 hrD9
     obtain ⟨r0, r1, r2, r3, -⟩ := hrD9
     replace hsh48 := hsh48.ext hCD9
     replace hS := hS.ext hCD9
     refine ⟨rfl, ?_⟩
     refine XD.start haD9 ?_
     refine XD.imp r0 ?_
     rintro _ rfl
     refine XD.pure r1 ?_
     refine Y.move (by rfl) ?_
     refine XD.pure r2 ?_
     refine Y.sub (by rfl) (by rfl) (show IntKind.i64.wrap (((k + 2 * f : Nat) : Int) - 1) = ((k + 2 * f - 1 : Nat) : Int) from by rw [wrap64 (by omega) (by omega)]; omega) ?_
     refine XD.imp r3 ?_
     rintro v66 hD66
     refine XD.stepI ?_
     refine Y.call (by rfl) ok10 (newD_short k f _ hk hKF _ (k + 2 * f - 1) 0 _ (fun _ _ => none) 0 0 hD66 (by omega) (by omega)) ?_
     rintro v67 w67 ⟨rfl, hE67⟩
     exact ⟨hE67, rfl⟩
    ·intro aD9 wD9 haD9 hCD9 hrD9
     obtain ⟨r0, r1, r2, r3, r4, -⟩ := hrD9
     replace hsh48 := hsh48.ext hCD9
     replace hS := hS.ext hCD9
     refine ⟨rfl, ?_⟩
     refine XD.start haD9 ?_
     refine XD.imp r0 ?_
     rintro _ rfl
     refine XD.pure r1 ?_
     refine Y.move (by rfl) ?_
     refine XD.pure r2 ?_
     refine Y.sub (by rfl) (by rfl) (show IntKind.i64.wrap (((k + 2 * f : Nat) : Int) - 1) = ((k + 2 * f - 1 : Nat) : Int) from by rw [wrap64 (by omega) (by omega)]; omega) ?_
     refine XD.imp r3 ?_
     rintro v66 hD66
     refine XD.imp r4 ?_
     rintro _ rfl
     apply XD.stepP rfl
     intro w3
     refine Y.move (by rfl) ?_
     exact ⟨rfl, rfl⟩
    ·intro aD9 wD9 haD9 hCD9 hrD9
     obtain ⟨r0, r1, r2, r3, r4, r5, -⟩ := hrD9
     replace hsh48 := hsh48.ext hCD9
     replace hS := hS.ext hCD9
     refine ⟨rfl, ?_⟩
     refine XD.start haD9 ?_
     refine XD.imp r0 ?_
     rintro _ rfl
     refine XD.pure r1 ?_
     refine Y.move (by rfl) ?_
     refine XD.pure r2 ?_
     refine Y.sub (by rfl) (by rfl) (show IntKind.i64.wrap (((k + 2 * f : Nat) : Int) - 1) = ((k + 2 * f - 1 : Nat) : Int) from by rw [wrap64 (by omega) (by omega)]; omega) ?_
     refine XD.imp r3 ?_
     rintro v66 hD66
     refine XD.imp r4 ?_
     rintro _ rfl
     refine XD.pure r5 ?_
     refine Y.move (by rfl) ?_
     apply XD.stepP rfl
     intro w3
     refine Y.extract (by rfl) (by rfl) ?_
     exact ⟨rfl, rfl⟩
    ·intro aD9 wD9 haD9 hCD9 hrD9
     obtain ⟨r0, r1, r2, r3, r4, r5, -⟩ := hrD9
     replace hsh48 := hsh48.ext hCD9
     replace hS := hS.ext hCD9
     refine ⟨rfl, ?_⟩
     refine XD.start haD9 ?_
     refine XD.imp r0 ?_
     rintro _ rfl
     refine XD.pure r1 ?_
     refine Y.move (by rfl) ?_
     refine XD.pure r2 ?_
     refine Y.sub (by rfl) (by rfl) (show IntKind.i64.wrap (((k + 2 * f : Nat) : Int) - 1) = ((k + 2 * f - 1 : Nat) : Int) from by rw [wrap64 (by omega) (by omega)]; omega) ?_
     refine XD.imp r3 ?_
     rintro v66 hD66
     refine XD.imp r4 ?_
     rintro _ rfl
     refine XD.pure r5 ?_
     refine Y.move (by rfl) ?_
     apply XD.stepP rfl
     intro w3
     refine Y.extract (by rfl) (by rfl) ?_
     exact ⟨rfl, rfl⟩
    ·intro aD9 wD9 haD9 hCD9 hrD9
     obtain ⟨r0, r1, r2, r3, r4, r5, r6, -⟩ := hrD9
     replace hsh48 := hsh48.ext hCD9
     replace hS := hS.ext hCD9
     refine ⟨rfl, ?_⟩
     refine XD.start haD9 ?_
     refine XD.imp r0 ?_
     rintro _ rfl
     refine XD.pure r1 ?_
     refine Y.move (by rfl) ?_
     refine XD.pure r2 ?_
     refine Y.sub (by rfl) (by rfl) (show IntKind.i64.wrap (((k + 2 * f : Nat) : Int) - 1) = ((k + 2 * f - 1 : Nat) : Int) from by rw [wrap64 (by omega) (by omega)]; omega) ?_
     refine XD.imp r3 ?_
     rintro v66 hD66
     refine XD.imp r4 ?_
     rintro _ rfl
     refine XD.pure r5 ?_
     refine Y.move (by rfl) ?_
     refine XD.pure r6 ?_
     refine Y.extract (by rfl) (by rfl) ?_
     apply XD.stepP rfl
     intro w3
     refine Y.assign (by rfl) ?_
     exact ⟨rfl, rfl⟩
    intro aD9 wD9 haD9 hCD9 hrD9
    obtain ⟨r0, r1, r2, r3, r4, r5, r6, r7, r8, -⟩ := hrD9
    replace hsh48 := hsh48.ext hCD9
    replace hS := hS.ext hCD9
    refine XD.start haD9 ?_
    refine XD.imp r0 ?_
    rintro _ rfl
    refine XD.pure r1 ?_
    refine Y.move (by rfl) ?_
    refine XD.pure r2 ?_
    refine Y.sub (by rfl) (by rfl) (show IntKind.i64.wrap (((k + 2 * f : Nat) : Int) - 1) = ((k + 2 * f - 1 : Nat) : Int) from by rw [wrap64 (by omega) (by omega)]; omega) ?_
    refine XD.imp r3 ?_
    rintro v66 hD66
    refine XD.imp r4 ?_
    rintro _ rfl
    refine XD.pure r5 ?_
    refine Y.move (by rfl) ?_
    refine XD.pure r6 ?_
    refine Y.extract (by rfl) (by rfl) ?_
    refine XD.pure r7 ?_
    refine Y.extract (by rfl) (by rfl) ?_
    refine XD.pure r8 ?_
    refine Y.assign (by rfl) ?_
    refine XD.fin haD9 ?_
    have hpl := padB_le bl hk
    have hql := pieceN_le bl hk
    show XL _ _ _ _ (List.cons _ _) _ _
    refine XL.s rfl ?_
    refine Y.assign (by rfl) ?_
    refine XL.nil ?_
    refine QN.next ?_
    refine XC.seq ?_
    by_cases hnm : 1 ≤ nm.length ∧ nm.length ≤ 16
    ·skip
     by_cases hb5 : bl.length ≤ 512
     ·skip
      by_cases hfit : 20 + pieceN k bl ≤ bs
      ·skip
       refine XC.region ?_
       show XL _ _ _ _ (List.cons _ _) _ _
       refine XL.s rfl ?_
       refine Y.move (by rfl) ?_
       refine XL.s rfl ?_
       refine Y.move (by rfl) ?_
       refine XL.s rfl ?_
       refine Y.move (by rfl) ?_
       refine XL.s rfl ?_
       refine Y.call (by rfl) ok13 (putS w37 _ k f _ _ _ 0 0 _ hS (by omega) (by omega) nm hnm hk hKF rfl bl hb5 (by omega) (fun _ _ => rfl)) ?_
       rintro v73 w73 ⟨rfl, hS73⟩
       refine XL.s rfl ?_
       refine Y.assign (by rfl) ?_
       refine XL.nil ?_
       refine QN.next ?_
       refine XC.seq ?_
       refine XC.seq ?_
       refine XC.region ?_
       show XL _ _ _ _ (List.cons _ _) _ _
       refine XL.s rfl ?_
       refine Y.move (by rfl) ?_
       refine XL.s rfl ?_
       refine Y.neq (by rfl) (by rfl) ?_
       refine XL.nil ?_
       refine QN.next ?_
       refine XC.condF rfl rfl ?_
       refine XC.skip ?_
       refine QN.next ?_
       refine XC.seq ?_
       refine XC.seq ?_
       refine XC.region ?_
       show XL _ _ _ _ (List.cons _ _) _ _
       refine XL.s rfl ?_
       refine Y.move (by rfl) ?_
       refine XL.s rfl ?_
       refine Y.lenS Tryz.underlying9 (by rfl) ?_
       refine XL.s rfl ?_
       refine Y.lss (by rfl) (by rfl) ?_
       refine XL.s rfl ?_
       refine Y.move (by rfl) ?_
       refine XL.gt rfl rfl (by first | assumption | rfl | exact decide_eq_true (by omega) | exact decide_eq_false (by omega) | (simp only [decide_eq_true_eq, decide_eq_false_iff_not, Bool.not_eq_true', Bool.not_eq_false', Bool.not_eq_eq_eq_not, Bool.not_true, Bool.not_false]; omega) | (simp; done) | (simp; omega)) rfl ?_
       refine Y.move (by rfl) ?_
       refine XL.gt rfl rfl (by first | assumption | rfl | exact decide_eq_true (by omega) | exact decide_eq_false (by omega) | (simp only [decide_eq_true_eq, decide_eq_false_iff_not, Bool.not_eq_true', Bool.not_eq_false', Bool.not_eq_eq_eq_not, Bool.not_true, Bool.not_false]; omega) | (simp; done) | (simp; omega)) rfl ?_
       refine Y.lenS Tryz.underlying9 (by rfl) ?_
       refine XL.gt rfl rfl (by first | assumption | rfl | exact decide_eq_true (by omega) | exact decide_eq_false (by omega) | (simp only [decide_eq_true_eq, decide_eq_false_iff_not, Bool.not_eq_true', Bool.not_eq_false', Bool.not_eq_eq_eq_not, Bool.not_true, Bool.not_false]; omega) | (simp; done) | (simp; omega)) rfl ?_
       refine Y.gtr (by rfl) (by rfl) ?_
       refine XL.s rfl ?_
       refine Y.pickF (by rfl) (by first | assumption | rfl | exact decide_eq_true (by omega) | exact decide_eq_false (by omega) | (simp only [decide_eq_true_eq, decide_eq_false_iff_not, Bool.not_eq_true', Bool.not_eq_false', Bool.not_eq_eq_eq_not, Bool.not_true, Bool.not_false]; omega) | (simp; done) | (simp; omega)) (by rfl) ?_
       refine XL.nil ?_
       refine QN.next ?_
       refine XC.condF rfl (by first | assumption | rfl | exact decide_eq_true (by omega) | exact decide_eq_false (by omega) | (simp only [decide_eq_true_eq, decide_eq_false_iff_not, Bool.not_eq_true', Bool.not_eq_false', Bool.not_eq_eq_eq_not, Bool.not_true, Bool.not_false]; omega) | (simp; done) | (simp; omega)) ?_
       refine XC.skip ?_
       refine QN.next ?_
       refine XC.seq ?_
       refine XC.seq ?_
       refine XC.region ?_
       show XL _ _ _ _ (List.cons _ _) _ _
       refine XL.s rfl ?_
       refine Y.move (by rfl) ?_
       refine XL.s rfl ?_
       refine Y.lenS Tryz.underlying9 (by rfl) ?_
       refine XL.s rfl ?_
       refine Y.gtr (by rfl) (by rfl) ?_
       refine XL.nil ?_
       refine QN.next ?_
       refine XC.condF rfl (by first | assumption | rfl | exact decide_eq_true (by omega) | exact decide_eq_false (by omega) | (simp only [decide_eq_true_eq, decide_eq_false_iff_not, Bool.not_eq_true', Bool.not_eq_false', Bool.not_eq_eq_eq_not, Bool.not_true, Bool.not_false]; omega) | (simp; done) | (simp; omega)) ?_
       have hEs := hS73.1
       have hsh73 := hsh37.ext hS73.1
       refine XC.skip ?_
       refine QN.next ?_
       refine XC.seq ?_
       refine XC.region ?_
       show XL _ _ _ _ (List.cons _ _) _ _
       refine XL.s rfl ?_
       refine Y.loadA agg23 (by rfl) rfl (shapeA hsh73) ?_
       refine XL.s rfl ?_
       refine Y.move (by rfl) ?_
       refine XL.s rfl ?_
       refine Y.call (by rfl) ok15 (rfiles_ok k f bl _ hk hKF (by omega)) ?_
       rintro v103 w103 ⟨hM, hE103⟩
       rw [encR_eq k (k + 2 * f) bl (by omega) (by omega) (by omega)] at hM
       have hfl := files_len k f bl
       obtain ⟨qf, capf, rfl⟩ := hM.rows.val
       obtain ⟨vs, hvs, hvl, hqs⟩ := hM.rows.get
       obtain ⟨q0, hq0, hb0⟩ := hqs 0 (by omega)
       rw [files_get] at hb0
       have hf0 := file_len k f bl hk (show 0 < k + 2 * f by omega)
       refine XL.s rfl ?_
       refine Y.assign (by rfl) ?_
       refine XL.nil ?_
       refine QN.next ?_
       refine XC.seq ?_
       refine XC.seq ?_
       refine XC.region ?_
       show XL _ _ _ _ (List.cons _ _) _ _
       refine XL.s rfl ?_
       refine Y.move (by rfl) ?_
       refine XL.s rfl ?_
       refine Y.indexR st37 (by rfl) (by rfl) hvs ⟨by omega, by omega⟩ (show vs[(0 : Int).toNat]? = some q0 from hq0) ?_
       intro b105 o105 hs105 hc105
       refine XL.s rfl ?_
       refine Y.load one39 (by rfl) (by assumption) ?_
       refine XL.s rfl ?_
       refine Y.len Tryz.underlying39 (by rfl) hb0 ?_
       refine XL.s rfl ?_
       refine Y.move (by rfl) ?_
       refine XL.s rfl ?_
       refine Y.convI Tryz.underlying24 Tryz.underlying3 (by rfl) (wrap64 (by omega) (by omega)) ?_
       refine XL.s rfl ?_
       refine Y.gtr (by rfl) (by rfl) ?_
       refine XL.nil ?_
       refine QN.next ?_
       refine XC.condF rfl (by rw [hf0]; exact decide_eq_false (by omega)) ?_
       refine XC.skip ?_
       refine QN.next ?_
       refine XC.seq ?_
       refine XC.seq ?_
       refine XC.region ?_
       show XL _ _ _ _ (List.cons _ _) _ _
       refine XL.s rfl ?_
       refine Y.move (by rfl) ?_
       refine XL.s rfl ?_
       refine Y.neq (by rfl) (by rfl) ?_
       refine XL.nil ?_
       refine QN.next ?_
       refine XC.condF rfl rfl ?_
       replace hS73 := hS73.ext hE103
       refine XC.skip ?_
       refine QN.next ?_
       refine XC.seq ?_
       refine XC.seq ?_
       refine XC.region ?_
       show XL _ _ _ _ (List.cons _ _) _ _
       refine XL.s rfl ?_
       refine Y.assign (by rfl) ?_
       refine XL.nil ?_
       refine QN.next ?_
       refine XC.block ?_
       refine XC.loop (α := Nat) (fun i => [(1, strV nm), (2, strV bl), (9, .int .i64 ((k + 2 * f : Nat) : Int)), (10, .pointer (some ⟨tb, 0, none⟩)), (17, .slice qf (filesP (encP k (k + 2 * f) bl)).length capf), (18, .int .i64 i)]) (fun i wr => i ≤ k + 2 * f ∧ Ext w103 wr) (fun i => k + 2 * f - i) (0) ?_ ?_ ?_
       ·exact ⟨rfl, rfl, rfl, rfl, rfl, rfl, trivial⟩
       ·exact ⟨by omega, Chg.refl _ _⟩
       ·rintro i wr hI
        obtain ⟨hi, hE⟩ := hI
        have hSi := hS73.ext hE
        refine XC.seq ?_
        refine XC.seq ?_
        refine XC.region ?_
        show XL _ _ _ _ (List.cons _ _) _ _
        refine XL.s rfl ?_
        refine Y.move (by rfl) ?_
        refine XL.s rfl ?_
        refine Y.move (by rfl) ?_
        refine XL.s rfl ?_
        refine Y.lss (by rfl) (by rfl) ?_
        refine XL.nil ?_
        refine QN.next ?_
        refine XC.condS rfl ?_ ?_
        ·intro hc
         try simp only [decide_eq_true_eq, decide_eq_false_iff_not, Bool.not_eq_true', Bool.not_eq_false', Bool.not_eq_eq_eq_not, Bool.not_true, Bool.not_false, Bool.or_eq_true, Bool.and_eq_true, Bool.or_eq_false_iff] at hc
         have hi' : i < k + 2 * f := by omega
         refine XC.skip ?_
         refine QN.next ?_
         refine XC.seq ?_
         refine XC.block ?_
         refine XC.seq ?_
         refine XC.region ?_
         show XL _ _ _ _ (List.cons _ _) _ _
         refine XL.s rfl ?_
         refine Y.move (by rfl) ?_
         refine XL.s rfl ?_
         refine Y.move (by rfl) ?_
         refine XL.s rfl ?_
         refine Y.call (by rfl) ok16 (diskS w37 _ k f _ _ _ _ _ _ hSi (by omega) (by omega) hKF i hi') ?_
         rintro v123 w123 ⟨hD123, hE123⟩
         refine XL.s rfl ?_
         refine Y.move (by rfl) ?_
         refine XL.s rfl ?_
         refine Y.addS (by rfl) (by rfl) (by simp; omega) ?_
         refine XL.s rfl ?_
         refine Y.call (by rfl) ok17 (syncedA_yes _ _ _ _ _ _ ([98, 46] ++ nm) _ hD123 (fileB i ((encP k (k + 2 * f) bl).getD i [])) (20 + pieceN k bl) (upd_same _ _ _) (by omega)) ?_
         rintro v126 w126 ⟨b126, rfl, hN126⟩
         have hfi := file_len k f bl hk hi'
         rw [List.take_of_length_le (by omega)] at hN126
         refine XL.s rfl ?_
         refine Y.move (by rfl) ?_
         refine XL.s rfl ?_
         refine Y.extract (by rfl) (by rfl) ?_
         refine XL.s rfl ?_
         refine Y.extract (by rfl) (by rfl) ?_
         refine XL.s rfl ?_
         refine Y.assign (by rfl) ?_
         refine XL.s rfl ?_
         refine Y.assign (by rfl) ?_
         refine XL.nil ?_
         refine QN.next ?_
         refine XC.seq ?_
         refine XC.region ?_
         show XL _ _ _ _ (List.cons _ _) _ _
         refine XL.s rfl ?_
         refine Y.move (by rfl) ?_
         refine XL.s rfl ?_
         refine Y.neq (by rfl) (by rfl) ?_
         refine XL.s rfl ?_
         refine Y.move (by rfl) ?_
         obtain ⟨vs2, hvs2, hvl2, hqs2⟩ := ((hM.rows.ext hE).ext (hE123.trans hN126.1)).get
         obtain ⟨q2, hq2, hb2⟩ := hqs2 i (by omega)
         rw [files_get] at hb2
         refine XL.gt rfl rfl rfl rfl ?_
         refine Y.move (by rfl) ?_
         refine XL.gt rfl rfl rfl rfl ?_
         refine Y.move (by rfl) ?_
         refine XL.gt rfl rfl rfl rfl ?_
         refine Y.move (by rfl) ?_
         refine XL.gt rfl rfl rfl rfl ?_
         refine Y.indexR st37 (by rfl) (by rfl) hvs2 ⟨by omega, by omega⟩ (by rw [Int.toNat_natCast]; exact hq2) ?_
         intro b135 o135 hs135 hc135
         refine XL.gt rfl rfl rfl rfl ?_
         refine Y.load one39 (by rfl) (by assumption) ?_
         refine XL.gt rfl rfl rfl rfl ?_
         refine Y.call (by rfl) ok18 (rsame_ok _ _ _ _ _ _ _ hN126.bs hb2) ?_
         rintro v137 w137 ⟨rfl, hE137⟩
         refine XL.gt rfl rfl rfl rfl ?_
         refine Y.not (by rfl) ?_
         refine XL.s rfl ?_
         refine Y.pickF (by rfl) rfl (by rfl) ?_
         refine XL.nil ?_
         refine QN.next ?_
         refine XC.condF rfl (by simp) ?_
         refine XC.skip ?_
         refine QN.blk ?_
         refine QN.next ?_
         refine XC.region ?_
         show XL _ _ _ _ (List.cons _ _) _ _
         refine XL.s rfl ?_
         refine Y.move (by rfl) ?_
         refine XL.s rfl ?_
         refine Y.add (by rfl) (by rfl) (wrap64 (by omega) (by omega)) ?_
         refine XL.s rfl ?_
         refine Y.assign (by rfl) ?_
         refine XL.nil ?_
         refine QN.again (i + 1) ?_ ?_ ?_
         ·exact ⟨rfl, rfl, rfl, rfl, rfl, rfl, trivial⟩
         ·exact ⟨by omega, (hE.trans (hE123.trans hN126.1)).trans hE137⟩
         ·first | omega | (simp only []; omega) | (simp; omega)
        ·intro hc
         try simp only [decide_eq_true_eq, decide_eq_false_iff_not, Bool.not_eq_true', Bool.not_eq_false', Bool.not_eq_eq_eq_not, Bool.not_true, Bool.not_false, Bool.or_eq_true, Bool.and_eq_true, Bool.or_eq_false_iff] at hc
         have hG := put_goods (ms := fun _ _ => none) (nm := nm) (n := k + 2 * f) (L := 20 + pieceN k bl) (e := fun i => (encP k (k + 2 * f) bl).getD i []) (fun i hi => by show ((encP k (k + 2 * f) bl).getD i []).length ≤ _; rw [encP_getD_len k f bl hk hi]; omega) (by omega)
         refine XC.exit ?_
         refine QN.thenE ?_
         refine QN.thenE ?_
         refine QN.hit ?_
         refine QN.next ?_
         refine XC.seq ?_
         refine XC.region ?_
         show XL _ _ _ _ (List.cons _ _) _ _
         refine XL.s rfl ?_
         refine Y.move (by rfl) ?_
         refine XL.s rfl ?_
         refine Y.move (by rfl) ?_
         refine XL.s rfl ?_
         refine Y.call (by rfl) ok14 (getS w37 _ k f _ _ _ _ _ _ hSi (by omega) (by omega) nm hnm hk hKF rfl bl hb5 _ hG AnyB _ [] (Row.nil AnyB _) (goodN_true _ _ (by omega))) ?_
         rintro v143 w143 ⟨rfl, hE143⟩
         refine XL.s rfl ?_
         refine Y.move (by rfl) ?_
         refine XL.s rfl ?_
         refine Y.extract (by rfl) (by rfl) ?_
         refine XL.s rfl ?_
         refine Y.extract (by rfl) (by rfl) ?_
         refine XL.s rfl ?_
         refine Y.assign (by rfl) ?_
         refine XL.s rfl ?_
         refine Y.assign (by rfl) ?_
         refine XL.nil ?_
         refine QN.next ?_
         refine XC.seq ?_
         refine XC.region ?_
         show XL _ _ _ _ (List.cons _ _) _ _
         refine XL.s rfl ?_
         refine Y.move (by rfl) ?_
         refine XL.s rfl ?_
         refine Y.eql (by rfl) (by rfl) ?_
         refine XL.s rfl ?_
         refine Y.move (by rfl) ?_
         refine XL.gt rfl rfl rfl rfl ?_
         refine Y.move (by rfl) ?_
         refine XL.gt rfl rfl rfl rfl ?_
         refine Y.move (by rfl) ?_
         refine XL.gt rfl rfl rfl rfl ?_
         refine Y.eqlS (by rfl) (by rfl) ?_
         refine XL.s rfl ?_
         refine Y.pickT (by rfl) rfl (by rfl) ?_
         refine XL.s rfl ?_
         refine Y.assign (by rfl) ?_
         refine XL.nil ?_
         refine QN.next ?_
         refine XC.ret ?_
         refine QN.done1 (fn := Tryz.f3) (R := R) (.inl rfl) rfl rfl ?_
         refine hR _ _ ?_
         exact ⟨by simp [resVal], hE0.trans (hSi.ext hE143).1⟩
      ·skip
       obtain ⟨hx1, G, hx2, hx3⟩ := id hS
       refine XC.region ?_
       show XL _ _ _ _ (List.cons _ _) _ _
       refine XL.s rfl ?_
       refine Y.move (by rfl) ?_
       refine XL.s rfl ?_
       refine Y.move (by rfl) ?_
       refine XL.s rfl ?_
       refine Y.move (by rfl) ?_
       refine XL.s rfl ?_
       refine Y.call (by rfl) ok13 (sput_full G _ k f _ bs _ _ _ _ hx2 (by omega) (fun _ _ => by omega) hKF nm bl hk hKF hnm hb5 rfl (by omega)) ?_
       rintro v73 w73 ⟨rfl, hE73⟩
       refine XL.s rfl ?_
       refine Y.assign (by rfl) ?_
       refine XL.nil ?_
       refine QN.next ?_
       refine XC.seq ?_
       refine XC.seq ?_
       refine XC.region ?_
       show XL _ _ _ _ (List.cons _ _) _ _
       refine XL.s rfl ?_
       refine Y.move (by rfl) ?_
       refine XL.s rfl ?_
       refine Y.neq (by rfl) (by rfl) ?_
       refine XL.nil ?_
       refine QN.next ?_
       refine XC.condF rfl rfl ?_
       refine XC.skip ?_
       refine QN.next ?_
       refine XC.seq ?_
       refine XC.seq ?_
       refine XC.region ?_
       show XL _ _ _ _ (List.cons _ _) _ _
       refine XL.s rfl ?_
       refine Y.move (by rfl) ?_
       refine XL.s rfl ?_
       refine Y.lenS Tryz.underlying9 (by rfl) ?_
       refine XL.s rfl ?_
       refine Y.lss (by rfl) (by rfl) ?_
       refine XL.s rfl ?_
       refine Y.move (by rfl) ?_
       refine XL.gt rfl rfl (by first | assumption | rfl | exact decide_eq_true (by omega) | exact decide_eq_false (by omega) | (simp only [decide_eq_true_eq, decide_eq_false_iff_not, Bool.not_eq_true', Bool.not_eq_false', Bool.not_eq_eq_eq_not, Bool.not_true, Bool.not_false]; omega) | (simp; done) | (simp; omega)) rfl ?_
       refine Y.move (by rfl) ?_
       refine XL.gt rfl rfl (by first | assumption | rfl | exact decide_eq_true (by omega) | exact decide_eq_false (by omega) | (simp only [decide_eq_true_eq, decide_eq_false_iff_not, Bool.not_eq_true', Bool.not_eq_false', Bool.not_eq_eq_eq_not, Bool.not_true, Bool.not_false]; omega) | (simp; done) | (simp; omega)) rfl ?_
       refine Y.lenS Tryz.underlying9 (by rfl) ?_
       refine XL.gt rfl rfl (by first | assumption | rfl | exact decide_eq_true (by omega) | exact decide_eq_false (by omega) | (simp only [decide_eq_true_eq, decide_eq_false_iff_not, Bool.not_eq_true', Bool.not_eq_false', Bool.not_eq_eq_eq_not, Bool.not_true, Bool.not_false]; omega) | (simp; done) | (simp; omega)) rfl ?_
       refine Y.gtr (by rfl) (by rfl) ?_
       refine XL.s rfl ?_
       refine Y.pickF (by rfl) (by first | assumption | rfl | exact decide_eq_true (by omega) | exact decide_eq_false (by omega) | (simp only [decide_eq_true_eq, decide_eq_false_iff_not, Bool.not_eq_true', Bool.not_eq_false', Bool.not_eq_eq_eq_not, Bool.not_true, Bool.not_false]; omega) | (simp; done) | (simp; omega)) (by rfl) ?_
       refine XL.nil ?_
       refine QN.next ?_
       refine XC.condF rfl (by first | assumption | rfl | exact decide_eq_true (by omega) | exact decide_eq_false (by omega) | (simp only [decide_eq_true_eq, decide_eq_false_iff_not, Bool.not_eq_true', Bool.not_eq_false', Bool.not_eq_eq_eq_not, Bool.not_true, Bool.not_false]; omega) | (simp; done) | (simp; omega)) ?_
       refine XC.skip ?_
       refine QN.next ?_
       refine XC.seq ?_
       refine XC.seq ?_
       refine XC.region ?_
       show XL _ _ _ _ (List.cons _ _) _ _
       refine XL.s rfl ?_
       refine Y.move (by rfl) ?_
       refine XL.s rfl ?_
       refine Y.lenS Tryz.underlying9 (by rfl) ?_
       refine XL.s rfl ?_
       refine Y.gtr (by rfl) (by rfl) ?_
       refine XL.nil ?_
       refine QN.next ?_
       refine XC.condF rfl (by first | assumption | rfl | exact decide_eq_true (by omega) | exact decide_eq_false (by omega) | (simp only [decide_eq_true_eq, decide_eq_false_iff_not, Bool.not_eq_true', Bool.not_eq_false', Bool.not_eq_eq_eq_not, Bool.not_true, Bool.not_false]; omega) | (simp; done) | (simp; omega)) ?_
       have hsh73 := hsh48.ext hE73
       refine XC.skip ?_
       refine QN.next ?_
       refine XC.seq ?_
       refine XC.region ?_
       show XL _ _ _ _ (List.cons _ _) _ _
       refine XL.s rfl ?_
       refine Y.loadA agg23 (by rfl) rfl (shapeA hsh73) ?_
       refine XL.s rfl ?_
       refine Y.move (by rfl) ?_
       refine XL.s rfl ?_
       refine Y.call (by rfl) ok15 (rfiles_ok k f bl _ hk hKF (by omega)) ?_
       rintro v103 w103 ⟨hM, hE103⟩
       rw [encR_eq k (k + 2 * f) bl (by omega) (by omega) (by omega)] at hM
       have hfl := files_len k f bl
       obtain ⟨vs, hvs, hvl, hqs⟩ := hM.rows.get
       obtain ⟨q0, hq0, hb0⟩ := hqs 0 (by omega)
       rw [files_get] at hb0
       have hf0 := file_len k f bl hk (show 0 < k + 2 * f by omega)
       refine XL.s rfl ?_
       refine Y.assign (by rfl) ?_
       refine XL.nil ?_
       refine QN.next ?_
       refine XC.seq ?_
       refine XC.seq ?_
       refine XC.region ?_
       show XL _ _ _ _ (List.cons _ _) _ _
       refine XL.s rfl ?_
       refine Y.move (by rfl) ?_
       refine XL.s rfl ?_
       refine Y.indexR st37 (by rfl) (by rfl) hvs ⟨by omega, by omega⟩ (show vs[(0 : Int).toNat]? = some q0 from hq0) ?_
       intro b105 o105 hs105 hc105
       refine XL.s rfl ?_
       refine Y.load one39 (by rfl) (by assumption) ?_
       refine XL.s rfl ?_
       refine Y.len Tryz.underlying39 (by rfl) hb0 ?_
       refine XL.s rfl ?_
       refine Y.move (by rfl) ?_
       refine XL.s rfl ?_
       refine Y.convI Tryz.underlying24 Tryz.underlying3 (by rfl) (wrap64 (by omega) (by omega)) ?_
       refine XL.s rfl ?_
       refine Y.gtr (by rfl) (by rfl) ?_
       refine XL.nil ?_
       refine QN.next ?_
       refine XC.condT rfl (by rw [hf0]; exact decide_eq_true (by omega)) ?_
       refine XC.seq ?_
       refine XC.region ?_
       show XL _ _ _ _ (List.cons _ _) _ _
       refine XL.s rfl ?_
       refine Y.move (by rfl) ?_
       refine XL.s rfl ?_
       refine Y.eql (by rfl) (by rfl) ?_
       refine XL.s rfl ?_
       refine Y.assign (by rfl) ?_
       refine XL.nil ?_
       refine QN.next ?_
       refine XC.ret ?_
       refine QN.done1 (fn := Tryz.f3) (R := R) (.inl rfl) rfl rfl ?_
       refine hR _ _ ?_
       exact ⟨rfl, hE0.trans (hS.1.trans (hE73.trans hE103))⟩
     ·skip
      obtain ⟨hx1, G, hx2, hx3⟩ := id hS
      refine XC.region ?_
      show XL _ _ _ _ (List.cons _ _) _ _
      refine XL.s rfl ?_
      refine Y.move (by rfl) ?_
      refine XL.s rfl ?_
      refine Y.move (by rfl) ?_
      refine XL.s rfl ?_
      refine Y.move (by rfl) ?_
      refine XL.s rfl ?_
      refine Y.call (by rfl) ok13 (sput_big G _ k f _ bs _ _ _ _ hx2 (by omega) (fun _ _ => by omega) hKF nm bl hk hKF hnm (by omega) (by omega)) ?_
      rintro v73 w73 ⟨rfl, hE73⟩
      refine XL.s rfl ?_
      refine Y.assign (by rfl) ?_
      refine XL.nil ?_
      refine QN.next ?_
      refine XC.seq ?_
      refine XC.seq ?_
      refine XC.region ?_
      show XL _ _ _ _ (List.cons _ _) _ _
      refine XL.s rfl ?_
      refine Y.move (by rfl) ?_
      refine XL.s rfl ?_
      refine Y.neq (by rfl) (by rfl) ?_
      refine XL.nil ?_
      refine QN.next ?_
      refine XC.condF rfl rfl ?_
      refine XC.skip ?_
      refine QN.next ?_
      refine XC.seq ?_
      refine XC.seq ?_
      refine XC.region ?_
      show XL _ _ _ _ (List.cons _ _) _ _
      refine XL.s rfl ?_
      refine Y.move (by rfl) ?_
      refine XL.s rfl ?_
      refine Y.lenS Tryz.underlying9 (by rfl) ?_
      refine XL.s rfl ?_
      refine Y.lss (by rfl) (by rfl) ?_
      refine XL.s rfl ?_
      refine Y.move (by rfl) ?_
      refine XL.gt rfl rfl (by first | assumption | rfl | exact decide_eq_true (by omega) | exact decide_eq_false (by omega) | (simp only [decide_eq_true_eq, decide_eq_false_iff_not, Bool.not_eq_true', Bool.not_eq_false', Bool.not_eq_eq_eq_not, Bool.not_true, Bool.not_false]; omega) | (simp; done) | (simp; omega)) rfl ?_
      refine Y.move (by rfl) ?_
      refine XL.gt rfl rfl (by first | assumption | rfl | exact decide_eq_true (by omega) | exact decide_eq_false (by omega) | (simp only [decide_eq_true_eq, decide_eq_false_iff_not, Bool.not_eq_true', Bool.not_eq_false', Bool.not_eq_eq_eq_not, Bool.not_true, Bool.not_false]; omega) | (simp; done) | (simp; omega)) rfl ?_
      refine Y.lenS Tryz.underlying9 (by rfl) ?_
      refine XL.gt rfl rfl (by first | assumption | rfl | exact decide_eq_true (by omega) | exact decide_eq_false (by omega) | (simp only [decide_eq_true_eq, decide_eq_false_iff_not, Bool.not_eq_true', Bool.not_eq_false', Bool.not_eq_eq_eq_not, Bool.not_true, Bool.not_false]; omega) | (simp; done) | (simp; omega)) rfl ?_
      refine Y.gtr (by rfl) (by rfl) ?_
      refine XL.s rfl ?_
      refine Y.pickF (by rfl) (by first | assumption | rfl | exact decide_eq_true (by omega) | exact decide_eq_false (by omega) | (simp only [decide_eq_true_eq, decide_eq_false_iff_not, Bool.not_eq_true', Bool.not_eq_false', Bool.not_eq_eq_eq_not, Bool.not_true, Bool.not_false]; omega) | (simp; done) | (simp; omega)) (by rfl) ?_
      refine XL.nil ?_
      refine QN.next ?_
      refine XC.condF rfl (by first | assumption | rfl | exact decide_eq_true (by omega) | exact decide_eq_false (by omega) | (simp only [decide_eq_true_eq, decide_eq_false_iff_not, Bool.not_eq_true', Bool.not_eq_false', Bool.not_eq_eq_eq_not, Bool.not_true, Bool.not_false]; omega) | (simp; done) | (simp; omega)) ?_
      refine XC.skip ?_
      refine QN.next ?_
      refine XC.seq ?_
      refine XC.seq ?_
      refine XC.region ?_
      show XL _ _ _ _ (List.cons _ _) _ _
      refine XL.s rfl ?_
      refine Y.move (by rfl) ?_
      refine XL.s rfl ?_
      refine Y.lenS Tryz.underlying9 (by rfl) ?_
      refine XL.s rfl ?_
      refine Y.gtr (by rfl) (by rfl) ?_
      refine XL.nil ?_
      refine QN.next ?_
      refine XC.condT rfl (by first | assumption | rfl | exact decide_eq_true (by omega) | exact decide_eq_false (by omega) | (simp only [decide_eq_true_eq, decide_eq_false_iff_not, Bool.not_eq_true', Bool.not_eq_false', Bool.not_eq_eq_eq_not, Bool.not_true, Bool.not_false]; omega) | (simp; done) | (simp; omega)) ?_
      refine XC.seq ?_
      refine XC.region ?_
      show XL _ _ _ _ (List.cons _ _) _ _
      refine XL.s rfl ?_
      refine Y.move (by rfl) ?_
      refine XL.s rfl ?_
      refine Y.eql (by rfl) (by rfl) ?_
      refine XL.s rfl ?_
      refine Y.assign (by rfl) ?_
      refine XL.nil ?_
      refine QN.next ?_
      refine XC.ret ?_
      refine QN.done1 (fn := Tryz.f3) (R := R) (.inl rfl) rfl rfl ?_
      refine hR _ _ ?_
      exact ⟨rfl, hE0.trans (hS.1.trans hE73)⟩
    ·skip
     obtain ⟨hx1, G, hx2, hx3⟩ := id hS
     refine XC.region ?_
     show XL _ _ _ _ (List.cons _ _) _ _
     refine XL.s rfl ?_
     refine Y.move (by rfl) ?_
     refine XL.s rfl ?_
     refine Y.move (by rfl) ?_
     refine XL.s rfl ?_
     refine Y.move (by rfl) ?_
     refine XL.s rfl ?_
     refine Y.call (by rfl) ok13 (sput_arg G _ k f _ bs _ _ _ _ hx2 (by omega) (fun _ _ => by omega) hKF nm bl hnm (by omega)) ?_
     rintro v73 w73 ⟨rfl, hE73⟩
     refine XL.s rfl ?_
     refine Y.assign (by rfl) ?_
     refine XL.nil ?_
     refine QN.next ?_
     refine XC.seq ?_
     refine XC.seq ?_
     refine XC.region ?_
     show XL _ _ _ _ (List.cons _ _) _ _
     refine XL.s rfl ?_
     refine Y.move (by rfl) ?_
     refine XL.s rfl ?_
     refine Y.neq (by rfl) (by rfl) ?_
     refine XL.nil ?_
     refine QN.next ?_
     refine XC.condF rfl rfl ?_
     refine XC.skip ?_
     refine QN.next ?_
     refine XC.seq ?_
     refine XC.seq ?_
     by_cases hn1 : nm.length < 1
     ·skip
      refine XC.region ?_
      show XL _ _ _ _ (List.cons _ _) _ _
      refine XL.s rfl ?_
      refine Y.move (by rfl) ?_
      refine XL.s rfl ?_
      refine Y.lenS Tryz.underlying9 (by rfl) ?_
      refine XL.s rfl ?_
      refine Y.lss (by rfl) (by rfl) ?_
      refine XL.s rfl ?_
      refine Y.move (by rfl) ?_
      refine XL.gf rfl rfl (by first | assumption | rfl | exact decide_eq_true (by omega) | exact decide_eq_false (by omega) | (simp only [decide_eq_true_eq, decide_eq_false_iff_not, Bool.not_eq_true', Bool.not_eq_false', Bool.not_eq_eq_eq_not, Bool.not_true, Bool.not_false]; omega) | (simp; done) | (simp; omega)) rfl ?_
      refine XL.gf rfl rfl (by first | assumption | rfl | exact decide_eq_true (by omega) | exact decide_eq_false (by omega) | (simp only [decide_eq_true_eq, decide_eq_false_iff_not, Bool.not_eq_true', Bool.not_eq_false', Bool.not_eq_eq_eq_not, Bool.not_true, Bool.not_false]; omega) | (simp; done) | (simp; omega)) rfl ?_
      refine XL.gf rfl rfl (by first | assumption | rfl | exact decide_eq_true (by omega) | exact decide_eq_false (by omega) | (simp only [decide_eq_true_eq, decide_eq_false_iff_not, Bool.not_eq_true', Bool.not_eq_false', Bool.not_eq_eq_eq_not, Bool.not_true, Bool.not_false]; omega) | (simp; done) | (simp; omega)) rfl ?_
      refine XL.s rfl ?_
      refine Y.pickT (by rfl) (by first | assumption | rfl | exact decide_eq_true (by omega) | exact decide_eq_false (by omega) | (simp only [decide_eq_true_eq, decide_eq_false_iff_not, Bool.not_eq_true', Bool.not_eq_false', Bool.not_eq_eq_eq_not, Bool.not_true, Bool.not_false]; omega) | (simp; done) | (simp; omega)) (by rfl) ?_
      refine XL.nil ?_
      refine QN.next ?_
      refine XC.condT rfl rfl ?_
      refine XC.seq ?_
      refine XC.region ?_
      show XL _ _ _ _ (List.cons _ _) _ _
      refine XL.s rfl ?_
      refine Y.move (by rfl) ?_
      refine XL.s rfl ?_
      refine Y.move (by rfl) ?_
      refine XL.s rfl ?_
      refine Y.call (by rfl) ok14 (sget_arg _ _ nm _ hnm (by omega)) ?_
      rintro v87 w87 ⟨rfl, hE87⟩
      refine XL.s rfl ?_
      refine Y.move (by rfl) ?_
      refine XL.s rfl ?_
      refine Y.extract (by rfl) (by rfl) ?_
      refine XL.s rfl ?_
      refine Y.extract (by rfl) (by rfl) ?_
      refine XL.s rfl ?_
      refine Y.assign (by rfl) ?_
      refine XL.s rfl ?_
      refine Y.assign (by rfl) ?_
      refine XL.nil ?_
      refine QN.next ?_
      refine XC.seq ?_
      refine XC.region ?_
      show XL _ _ _ _ (List.cons _ _) _ _
      refine XL.s rfl ?_
      refine Y.move (by rfl) ?_
      refine XL.s rfl ?_
      refine Y.eql (by rfl) (by rfl) ?_
      refine XL.s rfl ?_
      refine Y.move (by rfl) ?_
      refine XL.gt rfl rfl rfl rfl ?_
      refine Y.move (by rfl) ?_
      refine XL.gt rfl rfl rfl rfl ?_
      refine Y.eql (by rfl) (by rfl) ?_
      refine XL.s rfl ?_
      refine Y.pickT (by rfl) rfl (by rfl) ?_
      refine XL.s rfl ?_
      refine Y.assign (by rfl) ?_
      refine XL.nil ?_
      refine QN.next ?_
      refine XC.ret ?_
      refine QN.done1 (fn := Tryz.f3) (R := R) (.inl rfl) rfl rfl ?_
      refine hR _ _ ?_
      exact ⟨rfl, hE0.trans (hS.1.trans (hE73.trans hE87))⟩
     ·skip
      refine XC.region ?_
      show XL _ _ _ _ (List.cons _ _) _ _
      refine XL.s rfl ?_
      refine Y.move (by rfl) ?_
      refine XL.s rfl ?_
      refine Y.lenS Tryz.underlying9 (by rfl) ?_
      refine XL.s rfl ?_
      refine Y.lss (by rfl) (by rfl) ?_
      refine XL.s rfl ?_
      refine Y.move (by rfl) ?_
      refine XL.gt rfl rfl (by first | assumption | rfl | exact decide_eq_true (by omega) | exact decide_eq_false (by omega) | (simp only [decide_eq_true_eq, decide_eq_false_iff_not, Bool.not_eq_true', Bool.not_eq_false', Bool.not_eq_eq_eq_not, Bool.not_true, Bool.not_false]; omega) | (simp; done) | (simp; omega)) rfl ?_
      refine Y.move (by rfl) ?_
      refine XL.gt rfl rfl (by first | assumption | rfl | exact decide_eq_true (by omega) | exact decide_eq_false (by omega) | (simp only [decide_eq_true_eq, decide_eq_false_iff_not, Bool.not_eq_true', Bool.not_eq_false', Bool.not_eq_eq_eq_not, Bool.not_true, Bool.not_false]; omega) | (simp; done) | (simp; omega)) rfl ?_
      refine Y.lenS Tryz.underlying9 (by rfl) ?_
      refine XL.gt rfl rfl (by first | assumption | rfl | exact decide_eq_true (by omega) | exact decide_eq_false (by omega) | (simp only [decide_eq_true_eq, decide_eq_false_iff_not, Bool.not_eq_true', Bool.not_eq_false', Bool.not_eq_eq_eq_not, Bool.not_true, Bool.not_false]; omega) | (simp; done) | (simp; omega)) rfl ?_
      refine Y.gtr (by rfl) (by rfl) ?_
      refine XL.s rfl ?_
      refine Y.pickF (by rfl) (by first | assumption | rfl | exact decide_eq_true (by omega) | exact decide_eq_false (by omega) | (simp only [decide_eq_true_eq, decide_eq_false_iff_not, Bool.not_eq_true', Bool.not_eq_false', Bool.not_eq_eq_eq_not, Bool.not_true, Bool.not_false]; omega) | (simp; done) | (simp; omega)) (by rfl) ?_
      refine XL.nil ?_
      refine QN.next ?_
      refine XC.condT rfl (by first | assumption | rfl | exact decide_eq_true (by omega) | exact decide_eq_false (by omega) | (simp only [decide_eq_true_eq, decide_eq_false_iff_not, Bool.not_eq_true', Bool.not_eq_false', Bool.not_eq_eq_eq_not, Bool.not_true, Bool.not_false]; omega) | (simp; done) | (simp; omega)) ?_
      refine XC.seq ?_
      refine XC.region ?_
      show XL _ _ _ _ (List.cons _ _) _ _
      refine XL.s rfl ?_
      refine Y.move (by rfl) ?_
      refine XL.s rfl ?_
      refine Y.move (by rfl) ?_
      refine XL.s rfl ?_
      refine Y.call (by rfl) ok14 (sget_arg _ _ nm _ hnm (by omega)) ?_
      rintro v87 w87 ⟨rfl, hE87⟩
      refine XL.s rfl ?_
      refine Y.move (by rfl) ?_
      refine XL.s rfl ?_
      refine Y.extract (by rfl) (by rfl) ?_
      refine XL.s rfl ?_
      refine Y.extract (by rfl) (by rfl) ?_
      refine XL.s rfl ?_
      refine Y.assign (by rfl) ?_
      refine XL.s rfl ?_
      refine Y.assign (by rfl) ?_
      refine XL.nil ?_
      refine QN.next ?_
      refine XC.seq ?_
      refine XC.region ?_
      show XL _ _ _ _ (List.cons _ _) _ _
      refine XL.s rfl ?_
      refine Y.move (by rfl) ?_
      refine XL.s rfl ?_
      refine Y.eql (by rfl) (by rfl) ?_
      refine XL.s rfl ?_
      refine Y.move (by rfl) ?_
      refine XL.gt rfl rfl rfl rfl ?_
      refine Y.move (by rfl) ?_
      refine XL.gt rfl rfl rfl rfl ?_
      refine Y.eql (by rfl) (by rfl) ?_
      refine XL.s rfl ?_
      refine Y.pickT (by rfl) rfl (by rfl) ?_
      refine XL.s rfl ?_
      refine Y.assign (by rfl) ?_
      refine XL.nil ?_
      refine QN.next ?_
      refine XC.ret ?_
      refine QN.done1 (fn := Tryz.f3) (R := R) (.inl rfl) rfl rfl ?_
      refine hR _ _ ?_
      exact ⟨rfl, hE0.trans (hS.1.trans (hE73.trans hE87))⟩
   ·skip
    refine XC.region ?_
    show XL _ _ _ _ (List.cons _ _) _ _
    refine XL.s rfl ?_
    refine Y.loadA agg23 (by rfl) rfl (shapeA hshA) ?_
    refine XL.s rfl ?_
    refine Y.call (by rfl) ok9 (cn_no K F _ hK hF hs) ?_
    rintro v37 w37 ⟨rfl, hE37⟩
    have hsh := hshA.ext hE37
    replace hE0 := hE0.trans hE37
    refine XL.s rfl ?_
    refine Y.assign (by rfl) ?_
    refine XL.nil ?_
    refine QN.next ?_
    refine XC.seq ?_
    apply XC.drop [10, 12, 15, 23, 24, 25, 26, 27, 28, 29, 30, 31, 32, 33, 34, 35, 36, 37, 38, 39, 40, 41, 42, 43, 44, 45, 46, 47, 48, 49, 50, 51, 52, 53, 54, 55, 56, 57, 58, 59, 60, 61, 62, 63, 64, 65, 66, 67, 68, 69, 70, 71, 72, 73, 74, 75, 76, 77, 78, 79, 80, 81, 82, 83, 84, 85, 86, 87, 88, 89, 90, 91, 92, 93, 94, 95, 96, 97, 98, 99, 100, 101, 102, 103, 104, 105, 106, 107, 108, 109, 110, 111, 112, 113, 114, 115, 116, 117, 118, 119, 120, 121, 122, 123, 124, 125, 126, 127, 128, 129, 130, 131, 132, 133, 134, 135, 136, 137, 138, 139, 140, 141, 142, 143, 144, 145, 146, 147, 148, 149, 150, 151, 152]
    ·repeat (first | apply DropTo.nil | apply DropTo.skip rfl | apply DropTo.keep rfl)
    refine XC.drawL 10 [[], [], [], [2], [1, 2, 3], [0, 1, 2, 3, 4], [0, 1, 2, 3, 4, 5], [0, 1, 2, 3, 4, 5, 6], [0, 1, 2, 3, 4, 5, 6], [0, 1, 2, 3, 4, 5, 6, 7], [0, 1, 2, 3, 4, 5, 6, 7, 8, 9]] _ (Chg NoB) (Steady.chg NoB) [] [(0, (fun v _ => v = shapeV K F)), (4, (fun v w' => True)), (5, (fun v w' => v = .tuple #[.pointer none, .int .i64 1]))] [0, 1, 2, 3, 4, 5, 6, 7, 8, 9] fol (by kernel_rfl) (by rfl) (by rfl) ⟨(fun _ _ _ _ h => h), (fun v w1 w2 hE h => h), (fun _ _ _ _ h => h), trivial⟩ ⟨?_, ?_, ?_, ?_, ?_, ?_, ?_, ?_, ?_, ?_, trivial⟩ ?_
    ·intro aD4 wD4 haD4 hCD4 hrD4
     replace hsh := hsh.ext hCD4
     refine ⟨rfl, ?_⟩
     refine XD.start haD4 ?_
     refine XD.stepI ?_
     refine Y.loadA agg23 (by rfl) rfl (shapeA hsh) ?_
     exact ⟨Chg.refl _ _, rfl⟩
    ·intro aD4 wD4 haD4 hCD4 hrD4
     refine ⟨rfl, ?_⟩
     refine XD.start haD4 ?_
     apply XD.stepP rfl
     intro w3
     refine Y.move (by rfl) ?_
     exact ⟨rfl, rfl⟩
    ·intro aD4 wD4 haD4 hCD4 hrD4
     refine ⟨rfl, ?_⟩
     refine XD.start haD4 ?_
     apply XD.stepP rfl
     intro w3
     refine Y.move (by rfl) ?_
     exact ⟨rfl, rfl⟩
    ·intro aD4 wD4 haD4 hCD4 hrD4
     obtain ⟨r2, -⟩ := hrD4
     refine ⟨rfl, ?_⟩
     refine XD.start haD4 ?_
     refine XD.pure r2 ?_
     refine Y.move (by rfl) ?_
     apply XD.stepP rfl
     intro w3
     refine Y.convI Tryz.underlying24 Tryz.underlying3 (by rfl) (wrap64 (by omega) (by omega)) ?_
     exact ⟨rfl, rfl⟩
    ·intro aD4 wD4 haD4 hCD4 hrD4
     obtain ⟨r1, r2, r3, -⟩ := hrD4
     replace hsh := hsh.ext hCD4
     refine ⟨rfl, ?_⟩
     refine XD.start haD4 ?_
     refine XD.pure r1 ?_
     refine Y.move (by rfl) ?_
     refine XD.pure r2 ?_
     refine Y.move (by rfl) ?_
     refine XD.pure r3 ?_
     refine Y.convI Tryz.underlying24 Tryz.underlying3 (by rfl) (wrap64 (by omega) (by omega)) ?_
     refine XD.stepI ?_
     refine Y.call (by rfl) ok11 (disks_ok 0 bs _ (by omega)) ?_
     rintro v43 w43 ⟨hD43, hE43⟩
     exact ⟨hE43, trivial⟩
    ·intro aD4 wD4 haD4 hCD4 hrD4
     obtain ⟨r0, r1, r2, r3, r4, -⟩ := hrD4
     replace hsh := hsh.ext hCD4
     refine ⟨rfl, ?_⟩
     refine XD.start haD4 ?_
     refine XD.imp r0 ?_
     rintro _ rfl
     refine XD.pure r1 ?_
     refine Y.move (by rfl) ?_
     refine XD.pure r2 ?_
     refine Y.move (by rfl) ?_
     refine XD.pure r3 ?_
     refine Y.convI Tryz.underlying24 Tryz.underlying3 (by rfl) (wrap64 (by omega) (by omega)) ?_
     refine XD.imp r4 ?_
     rintro v43 hD43
     refine XD.stepI ?_
     refine Y.call (by rfl) ok10 (snew_arg K F _ hK hF _ hs) ?_
     rintro v44 w44 ⟨rfl, hE44⟩
     exact ⟨hE44, rfl⟩
    ·intro aD4 wD4 haD4 hCD4 hrD4
     obtain ⟨r0, r1, r2, r3, r4, r5, -⟩ := hrD4
     replace hsh := hsh.ext hCD4
     refine ⟨rfl, ?_⟩
     refine XD.start haD4 ?_
     refine XD.imp r0 ?_
     rintro _ rfl
     refine XD.pure r1 ?_
     refine Y.move (by rfl) ?_
     refine XD.pure r2 ?_
     refine Y.move (by rfl) ?_
     refine XD.pure r3 ?_
     refine Y.convI Tryz.underlying24 Tryz.underlying3 (by rfl) (wrap64 (by omega) (by omega)) ?_
     refine XD.imp r4 ?_
     rintro v43 hD43
     refine XD.imp r5 ?_
     rintro _ rfl
     apply XD.stepP rfl
     intro w3
     refine Y.move (by rfl) ?_
     exact ⟨rfl, rfl⟩
    ·intro aD4 wD4 haD4 hCD4 hrD4
     obtain ⟨r0, r1, r2, r3, r4, r5, r6, -⟩ := hrD4
     replace hsh := hsh.ext hCD4
     refine ⟨rfl, ?_⟩
     refine XD.start haD4 ?_
     refine XD.imp r0 ?_
     rintro _ rfl
     refine XD.pure r1 ?_
     refine Y.move (by rfl) ?_
     refine XD.pure r2 ?_
     refine Y.move (by rfl) ?_
     refine XD.pure r3 ?_
     refine Y.convI Tryz.underlying24 Tryz.underlying3 (by rfl) (wrap64 (by omega) (by omega)) ?_
     refine XD.imp r4 ?_
     rintro v43 hD43
     refine XD.imp r5 ?_
     rintro _ rfl
     refine XD.pure r6 ?_
     refine Y.move (by rfl) ?_
     apply XD.stepP rfl
     intro w3
     refine Y.extract (by rfl) (by rfl) ?_
     exact ⟨rfl, rfl⟩
    ·intro aD4 wD4 haD4 hCD4 hrD4
     obtain ⟨r0, r1, r2, r3, r4, r5, r6, -⟩ := hrD4
     replace hsh := hsh.ext hCD4
     refine ⟨rfl, ?_⟩
     refine XD.start haD4 ?_
     refine XD.imp r0 ?_
     rintro _ rfl
     refine XD.pure r1 ?_
     refine Y.move (by rfl) ?_
     refine XD.pure r2 ?_
     refine Y.move (by rfl) ?_
     refine XD.pure r3 ?_
     refine Y.convI Tryz.underlying24 Tryz.underlying3 (by rfl) (wrap64 (by omega) (by omega)) ?_
     refine XD.imp r4 ?_
     rintro v43 hD43
     refine XD.imp r5 ?_
     rintro _ rfl
     refine XD.pure r6 ?_
     refine Y.move (by rfl) ?_
     apply XD.stepP rfl
     intro w3
     refine Y.extract (by rfl) (by rfl) ?_
     exact ⟨rfl, rfl⟩
    ·intro aD4 wD4 haD4 hCD4 hrD4
     obtain ⟨r0, r1, r2, r3, r4, r5, r6, r7, -⟩ := hrD4
     replace hsh := hsh.ext hCD4
     refine ⟨rfl, ?_⟩
     refine XD.start haD4 ?_
     refine XD.imp r0 ?_
     rintro _ rfl
     refine XD.pure r1 ?_
     refine Y.move (by rfl) ?_
     refine XD.pure r2 ?_
     refine Y.move (by rfl) ?_
     refine XD.pure r3 ?_
     refine Y.convI Tryz.underlying24 Tryz.underlying3 (by rfl) (wrap64 (by omega) (by omega)) ?_
     refine XD.imp r4 ?_
     rintro v43 hD43
     refine XD.imp r5 ?_
     rintro _ rfl
     refine XD.pure r6 ?_
     refine Y.move (by rfl) ?_
     refine XD.pure r7 ?_
     refine Y.extract (by rfl) (by rfl) ?_
     apply XD.stepP rfl
     intro w3
     refine Y.assign (by rfl) ?_
     exact ⟨rfl, rfl⟩
    intro aD4 wD4 haD4 hCD4 hrD4
    obtain ⟨r0, r1, r2, r3, r4, r5, r6, r7, r8, r9, -⟩ := hrD4
    replace hsh := hsh.ext hCD4
    refine XD.start haD4 ?_
    refine XD.imp r0 ?_
    rintro _ rfl
    refine XD.pure r1 ?_
    refine Y.move (by rfl) ?_
    refine XD.pure r2 ?_
    refine Y.move (by rfl) ?_
    refine XD.pure r3 ?_
    refine Y.convI Tryz.underlying24 Tryz.underlying3 (by rfl) (wrap64 (by omega) (by omega)) ?_
    refine XD.imp r4 ?_
    rintro v43 hD43
    refine XD.imp r5 ?_
    rintro _ rfl
    refine XD.pure r6 ?_
    refine Y.move (by rfl) ?_
    refine XD.pure r7 ?_
    refine Y.extract (by rfl) (by rfl) ?_
    refine XD.pure r8 ?_
    refine Y.extract (by rfl) (by rfl) ?_
    refine XD.pure r9 ?_
    refine Y.assign (by rfl) ?_
    refine XD.fin haD4 ?_
    show XL _ _ _ _ (List.cons _ _) _ _
    refine XL.s rfl ?_
    refine Y.assign (by rfl) ?_
    refine XL.nil ?_
    refine QN.next ?_
    refine XC.seq ?_
    refine XC.seq ?_
    refine XC.region ?_
    show XL _ _ _ _ (List.cons _ _) _ _
    refine XL.s rfl ?_
    refine Y.loadA agg23 (by rfl) rfl (shapeA hsh) ?_
    refine XL.s rfl ?_
    refine Y.call (by rfl) ok12 (rright_ok K F _ hK hF) ?_
    rintro v48 w48 ⟨rfl, hE48⟩
    refine XL.s rfl ?_
    refine Y.not (by rfl) ?_
    refine XL.nil ?_
    refine QN.next ?_
    refine XC.condT rfl (by rw [decide_eq_false hs]; rfl) ?_
    refine XC.seq ?_
    refine XC.region ?_
    show XL _ _ _ _ (List.cons _ _) _ _
    refine XL.s rfl ?_
    refine Y.move (by rfl) ?_
    refine XL.s rfl ?_
    refine Y.eql (by rfl) (by rfl) ?_
    refine XL.s rfl ?_
    refine Y.move (by rfl) ?_
    refine XL.gt rfl rfl rfl rfl ?_
    refine Y.move (by rfl) ?_
    refine XL.gt rfl rfl rfl rfl ?_
    refine Y.eqlP Tryz.underlying27 (by rfl) (by rfl) ?_
    refine XL.s rfl ?_
    refine Y.pickT (by rfl) rfl (by rfl) ?_
    refine XL.s rfl ?_
    refine Y.assign (by rfl) ?_
    refine XL.nil ?_
    refine QN.next ?_
    refine XC.ret ?_
    refine QN.done1 (fn := Tryz.f3) (R := R) (.inl rfl) rfl rfl ?_
    refine hR _ _ ?_
    exact ⟨by simp [resVal], hE0.trans (Ext.trans hCD4 hE48)⟩
  ·skip
   refine XC.region ?_
   show XL _ _ _ _ (List.cons _ _) _ _
   refine XL.s rfl ?_
   refine Y.call (by rfl) ok8 (awake_ok _) ?_
   rintro vA wA ⟨rfl, hEA⟩
   refine XL.s rfl ?_
   refine Y.not (by rfl) ?_
   refine XL.s rfl ?_
   refine Y.move (by rfl) ?_
   refine XL.gt rfl rfl rfl rfl ?_
   refine Y.move (by rfl) ?_
   refine XL.gt rfl rfl rfl rfl ?_
   refine Y.lenS Tryz.underlying9 (by rfl) ?_
   refine XL.gt rfl rfl rfl rfl ?_
   refine Y.gtr (by rfl) (by rfl) ?_
   refine XL.s rfl ?_
   refine Y.pickF (by rfl) rfl (by rfl) ?_
   refine XL.s rfl ?_
   refine Y.move (by rfl) ?_
   refine XL.gt rfl rfl (by first | assumption | rfl | exact decide_eq_true (by omega) | exact decide_eq_false (by omega) | (simp only [decide_eq_true_eq, decide_eq_false_iff_not, Bool.not_eq_true', Bool.not_eq_false', Bool.not_eq_eq_eq_not, Bool.not_true, Bool.not_false]; omega) | (simp; done) | (simp; omega)) rfl ?_
   refine Y.move (by rfl) ?_
   refine XL.gt rfl rfl (by first | assumption | rfl | exact decide_eq_true (by omega) | exact decide_eq_false (by omega) | (simp only [decide_eq_true_eq, decide_eq_false_iff_not, Bool.not_eq_true', Bool.not_eq_false', Bool.not_eq_eq_eq_not, Bool.not_true, Bool.not_false]; omega) | (simp; done) | (simp; omega)) rfl ?_
   refine Y.lenS Tryz.underlying9 (by rfl) ?_
   refine XL.gt rfl rfl (by first | assumption | rfl | exact decide_eq_true (by omega) | exact decide_eq_false (by omega) | (simp only [decide_eq_true_eq, decide_eq_false_iff_not, Bool.not_eq_true', Bool.not_eq_false', Bool.not_eq_eq_eq_not, Bool.not_true, Bool.not_false]; omega) | (simp; done) | (simp; omega)) rfl ?_
   refine Y.gtr (by rfl) (by rfl) ?_
   refine XL.s rfl ?_
   refine Y.pickF (by rfl) (by first | assumption | rfl | exact decide_eq_true (by omega) | exact decide_eq_false (by omega) | (simp only [decide_eq_true_eq, decide_eq_false_iff_not, Bool.not_eq_true', Bool.not_eq_false', Bool.not_eq_eq_eq_not, Bool.not_true, Bool.not_false]; omega) | (simp; done) | (simp; omega)) (by rfl) ?_
   refine XL.nil ?_
   refine QN.next ?_
   refine XC.condT rfl (by first | assumption | rfl | exact decide_eq_true (by omega) | exact decide_eq_false (by omega) | (simp only [decide_eq_true_eq, decide_eq_false_iff_not, Bool.not_eq_true', Bool.not_eq_false', Bool.not_eq_eq_eq_not, Bool.not_true, Bool.not_false]; omega) | (simp; done) | (simp; omega)) ?_
   refine XC.seq ?_
   refine XC.region ?_
   show XL _ _ _ _ (List.cons _ _) _ _
   refine XL.s rfl ?_
   refine Y.call (by rfl) ok8 (awake_ok _) ?_
   rintro vB wB ⟨rfl, hEB⟩
   refine XL.s rfl ?_
   refine Y.assign (by rfl) ?_
   refine XL.nil ?_
   refine QN.next ?_
   refine XC.ret ?_
   refine QN.done1 (fn := Tryz.f3) (R := R) (.inl rfl) rfl rfl ?_
   refine hR _ _ ?_
   exact ⟨rfl, hE4.trans (hEA.trans hEB)⟩
 ·skip
  refine XC.region ?_
  show XL _ _ _ _ (List.cons _ _) _ _
  refine XL.s rfl ?_
  refine Y.call (by rfl) ok8 (awake_ok _) ?_
  rintro vA wA ⟨rfl, hEA⟩
  refine XL.s rfl ?_
  refine Y.not (by rfl) ?_
  refine XL.s rfl ?_
  refine Y.move (by rfl) ?_
  refine XL.gt rfl rfl rfl rfl ?_
  refine Y.move (by rfl) ?_
  refine XL.gt rfl rfl rfl rfl ?_
  refine Y.lenS Tryz.underlying9 (by rfl) ?_
  refine XL.gt rfl rfl rfl rfl ?_
  refine Y.gtr (by rfl) (by rfl) ?_
  refine XL.s rfl ?_
  refine Y.pickF (by rfl) rfl (by rfl) ?_
  refine XL.s rfl ?_
  refine Y.move (by rfl) ?_
  refine XL.gf rfl rfl (by first | assumption | rfl | exact decide_eq_true (by omega) | exact decide_eq_false (by omega) | (simp only [decide_eq_true_eq, decide_eq_false_iff_not, Bool.not_eq_true', Bool.not_eq_false', Bool.not_eq_eq_eq_not, Bool.not_true, Bool.not_false]; omega) | (simp; done) | (simp; omega)) rfl ?_
  refine XL.gf rfl rfl (by first | assumption | rfl | exact decide_eq_true (by omega) | exact decide_eq_false (by omega) | (simp only [decide_eq_true_eq, decide_eq_false_iff_not, Bool.not_eq_true', Bool.not_eq_false', Bool.not_eq_eq_eq_not, Bool.not_true, Bool.not_false]; omega) | (simp; done) | (simp; omega)) rfl ?_
  refine XL.gf rfl rfl (by first | assumption | rfl | exact decide_eq_true (by omega) | exact decide_eq_false (by omega) | (simp only [decide_eq_true_eq, decide_eq_false_iff_not, Bool.not_eq_true', Bool.not_eq_false', Bool.not_eq_eq_eq_not, Bool.not_true, Bool.not_false]; omega) | (simp; done) | (simp; omega)) rfl ?_
  refine XL.s rfl ?_
  refine Y.pickT (by rfl) (by first | assumption | rfl | exact decide_eq_true (by omega) | exact decide_eq_false (by omega) | (simp only [decide_eq_true_eq, decide_eq_false_iff_not, Bool.not_eq_true', Bool.not_eq_false', Bool.not_eq_eq_eq_not, Bool.not_true, Bool.not_false]; omega) | (simp; done) | (simp; omega)) (by rfl) ?_
  refine XL.nil ?_
  refine QN.next ?_
  refine XC.condT rfl rfl ?_
  refine XC.seq ?_
  refine XC.region ?_
  show XL _ _ _ _ (List.cons _ _) _ _
  refine XL.s rfl ?_
  refine Y.call (by rfl) ok8 (awake_ok _) ?_
  rintro vB wB ⟨rfl, hEB⟩
  refine XL.s rfl ?_
  refine Y.assign (by rfl) ?_
  refine XL.nil ?_
  refine QN.next ?_
  refine XC.ret ?_
  refine QN.done1 (fn := Tryz.f3) (R := R) (.inl rfl) rfl rfl ?_
  refine hR _ _ ?_
  exact ⟨rfl, hE4.trans (hEA.trans hEB)⟩
end Go.Proofs.YtchammpamigonaaGreatX
end
section
namespace Go.Proofs.YtchammpamigonaaGreat.scrubPutsDone
open Go.ChangeShapes Go.WideShapes Go.ChangeAt Go.RowKit Go.Joins
open Go.ChangeMaps (open_string shut_string)
open Go.Proofs.YtchammpamigonaaGreatX (shapeV strV Rets in64)
theorem own : ownKnob Tryz.prog.godebug = none := by kernel_rfl
theorem laidOut : laidOutB Tryz.prog = true := by kernel_rfl
theorem cells23 : Tryz.prog.cellsOf 23 = 2 := by kernel_rfl
theorem walk (K F : Int) (nm bl : ByteArray) (bs : Int) (w : World) (hK : (Lit.int .i64 K).wf = true) (hF : (Lit.int .i64 F).wf = true) (hn : nm.size ≤ maxLen) (hb : bl.size ≤ maxLen) (hs : (Lit.int .u16 bs).wf = true) :
    Calls Tryz.prog 3 #[.agg #[.int .i64 K, .int .i64 F], .string nm, .string bl, .int .u16 bs] w fun e w' => e = .returned (.bool true) ∧ Below w.heap.size w w' := by
  have hK' : in64 K := by simpa [Lit.wf, IntKind.min, IntKind.max, IntKind.signed, IntKind.bits, in64] using hK
  have hF' : in64 F := by simpa [Lit.wf, IntKind.min, IntKind.max, IntKind.signed, IntKind.bits, in64] using hF
  have hs' : 0 ≤ bs ∧ bs ≤ 65535 := by simpa [Lit.wf, IntKind.min, IntKind.max, IntKind.signed, IntKind.bits] using hs
  obtain ⟨n, rfl⟩ := Int.eq_ofNat_of_zero_le hs'.1
  have hm : maxLen ≤ 9223372036854775807 := by decide
  have h := Go.Proofs.YtchammpamigonaaGreatX.puts_ok K F nm.data.toList bl.data.toList n w hK' hF' (by have := hn; simp only [ByteArray.size] at this; rw [Array.length_toList]; omega) (by have := hb; simp only [ByteArray.size] at this; rw [Array.length_toList]; omega) (by omega)
  exact Calls.mono h fun e w' ⟨v, he, hv, hE⟩ => ⟨by rw [he, hv], hE.below⟩
set_option maxRecDepth 100000 in
theorem lifted (os : Os) (started : os.Started) (H : Type) (enc : TypeId × Value → H) :
    ReturnsInHanded {} Tryz.checked os 3 .any (Rows.scrubPutsSpec.pre6 enc Tryz.prog Tryz.f3 Rows.scrubPutsRow.domain false) (Rows.scrubPutsSpec.post enc Tryz.prog Tryz.f3 false true false false) := by
  refine returnsInHanded_of_change (C := Tryz.checked) own started (by kernel_rfl) Tryz.func3
    (ChangeSpec.witness6 (enc := enc) (C := Tryz.checked) false ⟨#[], #[.agg #[.int .i64 0, .int .i64 0], .string ⟨#[]⟩, .string ⟨#[]⟩, .int .u16 0], []⟩ 8 (by kernel_rfl) (by kernel_rfl) (by kernel_rfl) (by kernel_rfl)) ?_
  intro W base args ds gs before hval0 hW hcnd _
  have hval : ∀ (j : Nat) t v, Tryz.f3.params[j]? = some t → args[j]? = some v → Value.okWide Tryz.prog W .any base t v := hval0
  have hW' := hW
  obtain ⟨p, q, hA0, hV, rfl, hfz, hnd⟩ := hW
  have hA : DataW.TrodAll enc Tryz.prog W 0 (fun _ => true) true Tryz.f3.params.toList args.toList ds p := hA0
  rw [Tryz.params3] at hA hval
  obtain ⟨v0, vs0, d0, ds0, p0, q0, hargs, rfl, rfl, h0, r0⟩ := trodAll_cons hA
  obtain ⟨v1, vs1, d1, ds1, p1, q1, rfl, rfl, rfl, h1, r1⟩ := trodAll_cons r0
  obtain ⟨v2, vs2, d2, ds2, p2, q2, rfl, rfl, rfl, h2, r2⟩ := trodAll_cons r1
  obtain ⟨v3, vs3, d3, ds3, p3, q3, rfl, rfl, rfl, h3, r3⟩ := trodAll_cons r2
  obtain ⟨rfl, rfl, rfl⟩ := trodAll_nil r3
  obtain rfl : args = #[v0, v1, v2, v3] := by cases args; simp_all
  obtain ⟨rfl, rfl⟩ := trodVars_none hV
  have k0 := h0
  have lt0 : ∀ x ∈ p0, x.block < W.heap.size := by obtain ⟨m, hm⟩ := k0; exact DataW.trod_lt m _ _ _ hm
  obtain ⟨c0, c1, y0, y1, m, rfl, hd0, hp0, hy0, hy1⟩ := open_agg2 Tryz.underlying23 (by kernel_rfl) cells23 (hval 0 23 v0 rfl rfl) h0
  obtain ⟨K, e0, _, wK⟩ := DataW.trod_int Tryz.underlying3 hy0
  obtain ⟨F, e1, _, wF⟩ := DataW.trod_int Tryz.underlying3 hy1
  simp at e0 e1
  subst e0 e1
  obtain ⟨nm, rfl, rfl, rfl, wn⟩ := open_string Tryz.underlying9 (hval 1 9 v1 rfl rfl) h1
  obtain ⟨bl, rfl, rfl, rfl, wb⟩ := open_string Tryz.underlying9 (hval 2 9 v2 rfl rfl) h2
  obtain ⟨bs, rfl, rfl, rfl, ws⟩ := open_int Tryz.underlying24 (hval 3 24 v3 rfl rfl) h3
  clear hA0 hval0
  refine (walk K F nm bl bs W wK wF wn wb ws).mono fun e W' ⟨he, bel⟩ => ?_
  subst he
  exact ⟨_, rfl, _, _, _, [], _, [], hW', trodAll_mk1 (shut_bool Tryz.underlying4 _), (trodAll_cons_mk (Below.trod laidOut (by kernel_rfl) (of_decide_eq_true (by kernel_rfl)) k0 bel lt0) (trodAll_cons_mk (shut_string Tryz.underlying9 wn) (trodAll_cons_mk (shut_string Tryz.underlying9 wb) (trodAll_cons_mk (shut_int Tryz.underlying24 ws) trodAll_mk0)))), rfl, bel.frame _, fun h => by cases h⟩
theorem over : Rows.scrubPutsRow.holds Tryz.pinned (OpenSpec.ofChange Rows.scrubPutsSpec) :=
  OpenClaim.holds_of_wide 3 Tryz.f3 rfl rfl rfl rfl rfl rfl rfl ⟨rfl, rfl, rfl, rfl, rfl⟩ rfl rfl rfl rfl rfl (by kernel_rfl) Tryz.func3 (by kernel_rfl)
    (of_decide_eq_true (by kernel_rfl)) (by unfold Func.isWrapper; first | (rw [if_pos (by decide +kernel)]; kernel_rfl) | (rw [if_neg (by decide +kernel)]; exact ⟨rfl, rfl⟩))
    (fun os started H enc _ => lifted os started H enc)
theorem proved : Rows.ScrubPutsSaid := over
#print axioms proved
end Go.Proofs.YtchammpamigonaaGreat.scrubPutsDone
end
