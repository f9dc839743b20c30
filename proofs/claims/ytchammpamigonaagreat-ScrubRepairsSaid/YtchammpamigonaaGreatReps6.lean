/- For every shape, text, seven spoils and either order shardloglaw25.ScrubRepairs returns true and leaves what it was handed as it was; no condition. Part 6 of 6: joined by a program of this repo out of texts of its own. -/
import Derived.Test.YtchammpamigonaaGreatRows
import Derived.WalkKit
import Derived.ProofKit
import Derived.OpenShut
import Derived.ShutString
import Derived.ChangeOld
import Derived.Below
import Derived.Lib.SmallJoins
import Derived.Test.YtchammpamigonaaGreatReps5
set_option linter.unusedVariables false
set_option linter.unusedSimpArgs false
section
set_option linter.unusedVariables false
set_option linter.unusedSimpArgs false
set_option maxRecDepth 10000
set_option maxHeartbeats 4000000
namespace Go.Proofs.YtchammpamigonaaGreatX
open Go Go.RowKit Go.Proofs
theorem srep_none (G : Nat → Prop) (tv : Value) (K F n most : Nat) (ms : Nat → Fm) (U c : Nat → Nat) (w : World) (hS : StoreA 66 79 82 5 G w tv K F n most ms U c) (hm : most ≤ 65536) (hU : ∀ i, i < n → U i ≤ 65536) (hn : n ≤ 7) (nm : List UInt8) (hnm : 1 ≤ nm.length ∧ nm.length ≤ 16) (hk : 1 ≤ K) (hnn : n = K + 2 * F) (h0 : hasAny ms nm n = false) :
  Rets Tryz.prog 24 #[tv, strV nm] w fun v w' => v = .tuple #[.int .i64 0, .int .i64 5] ∧ Ext w w' := by
 refine Rets.enter (args := [tv, strV nm]) (n := 65) Tryz.func24 rfl rfl rfl ?_
 intro R hR
 show XC _ _ _ _ [(0, tv), (1, strV nm)] _
 refine XC.seq ?_
 refine XC.region ?_
 show XL _ _ _ _ (List.cons _ _) _ _
 refine XL.s rfl ?_
 refine Y.assign (by rfl) ?_
 refine XL.s rfl ?_
 refine Y.assign (by rfl) ?_
 refine XL.nil ?_
 refine QN.next ?_
 refine XC.seq ?_
 refine XC.region ?_
 show XL _ _ _ _ (List.cons _ _) _ _
 refine XL.s rfl ?_
 refine Y.move (by rfl) ?_
 refine XL.s rfl ?_
 refine Y.move (by rfl) ?_
 refine XL.s rfl ?_
 refine Y.call (by rfl) ok14 (sget_none G tv K F n most ms U c _ hS hm hU hn nm AnyB _ [] (Row.nil AnyB _) hnm hk hnn h0) ?_
 rintro v17 w17 ⟨rfl, hE17⟩
 refine XL.s rfl ?_
 refine Y.move (by rfl) ?_
 refine XL.s rfl ?_
 refine Y.extract (by rfl) (by rfl) ?_
 refine XL.s rfl ?_
 refine Y.extract (by rfl) (by rfl) ?_
 refine XL.s rfl ?_
 refine Y.assign (by rfl) ?_
 refine XL.s rfl ?_
 refine Y.assign (by rfl) ?_
 refine XL.nil ?_
 refine QN.next ?_
 refine XC.seq ?_
 refine XC.seq ?_
 refine XC.region ?_
 show XL _ _ _ _ (List.cons _ _) _ _
 refine XL.s rfl ?_
 refine Y.move (by rfl) ?_
 refine XL.s rfl ?_
 refine Y.neq (by rfl) (by rfl) ?_
 refine XL.nil ?_
 refine QN.next ?_
 refine XC.condT rfl rfl ?_
 refine XC.seq ?_
 refine XC.region ?_
 show XL _ _ _ _ (List.cons _ _) _ _
 refine XL.s rfl ?_
 refine Y.move (by rfl) ?_
 refine XL.s rfl ?_
 refine Y.assign (by rfl) ?_
 refine XL.s rfl ?_
 refine Y.assign (by rfl) ?_
 refine XL.nil ?_
 refine QN.next ?_
 refine XC.ret ?_
 refine QN.doneN (fn := Tryz.f24) (R := R) (.inl rfl) rfl rfl ?_
 refine hR _ _ ?_
 exact ⟨rfl, hE17⟩
theorem srep_short (G : Nat → Prop) (tv : Value) (K F n most : Nat) (ms : Nat → Fm) (U c : Nat → Nat) (w : World) (hS : StoreA 66 79 82 5 G w tv K F n most ms U c) (hm : most ≤ 65536) (hU : ∀ i, i < n → U i ≤ 65536) (hn : n ≤ 7) (nm : List UInt8) (hnm : 1 ≤ nm.length ∧ nm.length ≤ 16) (hk : 1 ≤ K) (hnn : n = K + 2 * F) (h0 : hasAny ms nm n = true) (hs : (thereP (shardsP ms nm [] n)).length < K) :
  Rets Tryz.prog 24 #[tv, strV nm] w fun v w' => v = .tuple #[.int .i64 0, .int .i64 3] ∧ Ext w w' := by
 refine Rets.enter (args := [tv, strV nm]) (n := 65) Tryz.func24 rfl rfl rfl ?_
 intro R hR
 show XC _ _ _ _ [(0, tv), (1, strV nm)] _
 refine XC.seq ?_
 refine XC.region ?_
 show XL _ _ _ _ (List.cons _ _) _ _
 refine XL.s rfl ?_
 refine Y.assign (by rfl) ?_
 refine XL.s rfl ?_
 refine Y.assign (by rfl) ?_
 refine XL.nil ?_
 refine QN.next ?_
 refine XC.seq ?_
 refine XC.region ?_
 show XL _ _ _ _ (List.cons _ _) _ _
 refine XL.s rfl ?_
 refine Y.move (by rfl) ?_
 refine XL.s rfl ?_
 refine Y.move (by rfl) ?_
 refine XL.s rfl ?_
 refine Y.call (by rfl) ok14 (sget_short G tv K F n most ms U c _ hS hm hU hn nm AnyB _ [] (Row.nil AnyB _) hnm hk hnn h0 hs) ?_
 rintro v17 w17 ⟨rfl, hE17⟩
 refine XL.s rfl ?_
 refine Y.move (by rfl) ?_
 refine XL.s rfl ?_
 refine Y.extract (by rfl) (by rfl) ?_
 refine XL.s rfl ?_
 refine Y.extract (by rfl) (by rfl) ?_
 refine XL.s rfl ?_
 refine Y.assign (by rfl) ?_
 refine XL.s rfl ?_
 refine Y.assign (by rfl) ?_
 refine XL.nil ?_
 refine QN.next ?_
 refine XC.seq ?_
 refine XC.seq ?_
 refine XC.region ?_
 show XL _ _ _ _ (List.cons _ _) _ _
 refine XL.s rfl ?_
 refine Y.move (by rfl) ?_
 refine XL.s rfl ?_
 refine Y.neq (by rfl) (by rfl) ?_
 refine XL.nil ?_
 refine QN.next ?_
 refine XC.condT rfl rfl ?_
 refine XC.seq ?_
 refine XC.region ?_
 show XL _ _ _ _ (List.cons _ _) _ _
 refine XL.s rfl ?_
 refine Y.move (by rfl) ?_
 refine XL.s rfl ?_
 refine Y.assign (by rfl) ?_
 refine XL.s rfl ?_
 refine Y.assign (by rfl) ?_
 refine XL.nil ?_
 refine QN.next ?_
 refine XC.ret ?_
 refine QN.doneN (fn := Tryz.f24) (R := R) (.inl rfl) rfl rfl ?_
 refine hR _ _ ?_
 exact ⟨rfl, hE17⟩
theorem srep_ok (G : Nat → Prop) (tv : Value) (K F n most : Nat) (ms : Nat → Fm) (U c : Nat → Nat) (w : World) (hS : StoreA 66 79 82 5 G w tv K F n most ms U c) (hm : most ≤ 65536) (hU : ∀ i, i < n → U i ≤ 65536) (hn : n ≤ 7) (nm : List UInt8) (hnm : 1 ≤ nm.length ∧ nm.length ≤ 16) (hk : 1 ≤ K) (hnn : n = K + 2 * F) (h0 : hasAny ms nm n = true) (l : List UInt8) (hl : l.length ≤ 512) (ht : K ≤ (thereP (shardsP ms nm [] n)).length) (ha : ∀ i ∈ thereP (shardsP ms nm [] n), (shardsP ms nm [] n).getD i [] = (encP K (K + 2 * F) l).getD i []) (B : List (List UInt8)) (hi : invertP (rowsP (codingP K (K + 2 * F)) ((thereP (shardsP ms nm [] n)).take K)) = some B) (hBl : B.length = K) (hBk : ∀ r ∈ B, r.length = K) (hB : matMul B (rowsP (shardsP ms nm [] n) ((thereP (shardsP ms nm [] n)).take K)) = piecesP K l) (hf : ∀ i, i < n → U i + (20 + pieceN K l) ≤ most) (ht' : ∀ i, i < n → ms i [116, 46] = none) (hGb : ∀ b, G b → b < w.heap.size) :
  Rets Tryz.prog 24 #[tv, strV nm] w fun v w' => v = .tuple #[.int .i64 (cntM ms nm (fun j => (fileB j ((encP K n l).getD j []))) n : Nat), .int .i64 0] ∧ Chg G w w' ∧ StoreA 66 79 82 5 (Grow G w w') w' tv K F n most (fun j => mendP (ms j) nm (fileB j ((encP K n l).getD j []))) (fun j => U j + (20 + pieceN K l)) (fun j => c j + 1) := by
 refine Rets.enter (args := [tv, strV nm]) (n := 65) Tryz.func24 rfl rfl rfl ?_
 intro R hR
 show XC _ _ _ _ [(0, tv), (1, strV nm)] _
 obtain ⟨tb, av, dvs, Fr, rfl, hX⟩ := id hS
 obtain ⟨qa, capa, rfl⟩ := hX.row.val
 refine XC.seq ?_
 refine XC.region ?_
 show XL _ _ _ _ (List.cons _ _) _ _
 refine XL.s rfl ?_
 refine Y.assign (by rfl) ?_
 refine XL.s rfl ?_
 refine Y.assign (by rfl) ?_
 refine XL.nil ?_
 refine QN.next ?_
 refine XC.seq ?_
 refine XC.region ?_
 show XL _ _ _ _ (List.cons _ _) _ _
 refine XL.s rfl ?_
 refine Y.move (by rfl) ?_
 refine XL.s rfl ?_
 refine Y.move (by rfl) ?_
 refine XL.s rfl ?_
 refine Y.call (by rfl) ok14 (sget_ok G _ K F n most ms U c _ hS hm hU hn nm AnyB _ [] (Row.nil AnyB _) hnm hk hnn h0 l hl ht ha B hi hBl hBk hB) ?_
 rintro v17 w17 ⟨rfl, hE17⟩
 refine XL.s rfl ?_
 refine Y.move (by rfl) ?_
 refine XL.s rfl ?_
 refine Y.extract (by rfl) (by rfl) ?_
 refine XL.s rfl ?_
 refine Y.extract (by rfl) (by rfl) ?_
 refine XL.s rfl ?_
 refine Y.assign (by rfl) ?_
 refine XL.s rfl ?_
 refine Y.assign (by rfl) ?_
 refine XL.nil ?_
 refine QN.next ?_
 refine XC.seq ?_
 refine XC.seq ?_
 refine XC.region ?_
 show XL _ _ _ _ (List.cons _ _) _ _
 refine XL.s rfl ?_
 refine Y.move (by rfl) ?_
 refine XL.s rfl ?_
 refine Y.neq (by rfl) (by rfl) ?_
 refine XL.nil ?_
 refine QN.next ?_
 refine XC.condF rfl rfl ?_
 refine XC.skip ?_
 refine QN.next ?_
 refine XC.seq ?_
 refine XC.region ?_
 show XL _ _ _ _ (List.cons _ _) _ _
 refine XL.s rfl ?_
 refine Y.move (by rfl) ?_
 refine XL.s rfl ?_
 refine Y.nilCheck (by rfl) ?_
 refine XL.s rfl ?_
 refine Y.fieldAddr fld66_0 (by rfl) ?_
 refine XL.s rfl ?_
 refine Y.loadA agg23 (by rfl) rfl (three01 (hX.ext hE17).cell) ?_
 refine XL.s rfl ?_
 refine Y.move (by rfl) ?_
 refine XL.s rfl ?_
 refine Y.call (by rfl) ok30 (enc_ok K F l _ hk (by omega) hl) ?_
 rintro v29 w29 ⟨e29, rfl, hM29, hE29⟩
 refine XL.s rfl ?_
 refine Y.move (by rfl) ?_
 refine XL.s rfl ?_
 refine Y.extract (by rfl) (by rfl) ?_
 refine XL.s rfl ?_
 refine Y.extract (by rfl) (by rfl) ?_
 refine XL.s rfl ?_
 refine Y.assign (by rfl) ?_
 refine XL.s rfl ?_
 refine Y.assign (by rfl) ?_
 refine XL.nil ?_
 refine QN.next ?_
 refine XC.seq ?_
 refine XC.seq ?_
 refine XC.region ?_
 show XL _ _ _ _ (List.cons _ _) _ _
 refine XL.s rfl ?_
 refine Y.move (by rfl) ?_
 refine XL.s rfl ?_
 refine Y.neq (by rfl) (by rfl) ?_
 refine XL.nil ?_
 refine QN.next ?_
 refine XC.condF rfl rfl ?_
 have hEE := hE17.trans hE29
 have hX29 := hX.ext hEE
 have hel := encP_len K F l
 have hpl := padB_le l hk
 have hql := pieceN_le l hk
 have her : ∀ i (hi : i < (encP K (K + 2 * F) l).length), ((encP K (K + 2 * F) l)[i]).length = pieceN K l := fun i hi => encP_row K F l hk _ (List.getElem_mem hi)
 refine XC.skip ?_
 refine QN.next ?_
 refine XC.seq ?_
 refine XC.region ?_
 show XL _ _ _ _ (List.cons _ _) _ _
 refine XL.s rfl ?_
 refine Y.assign (by rfl) ?_
 refine XL.nil ?_
 refine QN.next ?_
 refine XC.seq ?_
 refine XC.seq ?_
 refine XC.region ?_
 show XL _ _ _ _ (List.cons _ _) _ _
 refine XL.s rfl ?_
 refine Y.move (by rfl) ?_
 refine XL.s rfl ?_
 refine Y.nilCheck (by rfl) ?_
 refine XL.s rfl ?_
 refine Y.fieldAddr fld66_1 (by rfl) ?_
 refine XL.s rfl ?_
 refine Y.load one31 (by rfl) (three2 hX29.cell) ?_
 refine XL.s rfl ?_
 refine Y.len Tryz.underlying31 (by rfl) hX29.row ?_
 obtain ⟨qe, cape, rfl⟩ := hM29.rows.val
 have hz29 := hEE.size
 have hz17 := hE17.size
 refine XL.s rfl ?_
 refine Y.move (by rfl) ?_
 refine XL.nil ?_
 refine QN.next ?_
 refine XC.block ?_
 refine XC.loop (α := Nat) (fun i => [(0, .pointer (some ⟨tb, 0, none⟩)), (1, strV nm), (8, .slice qe (encP K (K + 2 * F) l).length cape), (9, .int .i64 (cntM ms nm (fun j => (fileB j ((encP K n l).getD j []))) i : Nat)), (38, .slice qa n capa), (39, .int .i64 (n : Nat)), (40, .int .i64 i)]) (fun i wr => i ≤ n ∧ Chg G w29 wr ∧ StX 66 79 82 5 (Grow G w29 wr) wr tb (.slice qa n capa) dvs Fr K F n most (fun j => if j < i then mendP (ms j) nm (fileB j ((encP K n l).getD j [])) else ms j) (fun j => if j < i then U j + (20 + pieceN K l) else U j) (fun j => if j < i then c j + 1 else c j)) (fun i => n - i) (0) ?_ ?_ ?_
 ·exact ⟨rfl, rfl, rfl, rfl, rfl, rfl, rfl, trivial⟩
 ·exact ⟨by omega, Chg.refl _ _, (((hX29.wider (fun b _ h => .inl h)).more (fun j _ => ⟨by simp, by simp⟩)).cast (fun j _ => by simp))⟩
 ·rintro i wr hI
  obtain ⟨hi, hC, hXi⟩ := hI
  have hMi := hM29.rows.chg hC (fun b _ hb hg => by have := hGb b hg; have := hb.1; omega)
  have hzi := hC.size
  refine XC.seq ?_
  refine XC.region ?_
  show XL _ _ _ _ (List.cons _ _) _ _
  refine XL.s rfl ?_
  refine Y.lss (by rfl) (by rfl) ?_
  refine XL.nil ?_
  refine QN.next ?_
  refine XC.seq ?_
  refine XC.condS rfl ?_ ?_
  ·intro hc
   try simp only [decide_eq_true_eq, decide_eq_false_iff_not, Bool.not_eq_true', Bool.not_eq_false', Bool.not_eq_eq_eq_not, Bool.not_true, Bool.not_false, Bool.or_eq_true, Bool.and_eq_true, Bool.or_eq_false_iff] at hc
   have hi' : i < n := by omega
   obtain ⟨d, Fi, hd, hD, hFi, hset⟩ := hXi.get hi'
   simp only [if_neg (Nat.lt_irrefl i)] at hD
   obtain ⟨vs, hvs, hvl, hqs⟩ := hMi.get
   obtain ⟨q, hq, hb⟩ := hqs i (by omega)
   have hrl := her i (by omega)
   have hfl := fileB_length i ((encP K (K + 2 * F) l)[i])
   have hcl := cntM_le ms nm (fun j => (fileB j ((encP K n l).getD j []))) i
   have hge : (encP K n l).getD i [] = (encP K (K + 2 * F) l)[i]'(by omega) := by
    have h0 : (encP K (K + 2 * F) l).getD i [] = (encP K (K + 2 * F) l)[i]'(by omega) := by simp [List.getD_eq_getElem?_getD, show i < (encP K (K + 2 * F) l).length by omega]
    rw [← h0, ← hnn]
   have hsdd : ∀ b, Since wr b → ¬ Fi b := fun b hb hf => by have := (hFi b hf).2.2.2; simp only [Since] at hb; omega
   refine XC.skip ?_
   refine QN.next ?_
   refine XC.seq ?_
   by_cases hkn : ms i ([98, 46] ++ nm) = none
   ·skip
    have hne : ¬ (ms i ([98, 46] ++ nm)).map (·.1) = some (fileB i ((encP K (K + 2 * F) l)[i])) := by rw [hkn]; simp
    refine XC.block ?_
    refine XC.seq ?_
    refine XC.region ?_
    show XL _ _ _ _ (List.cons _ _) _ _
    refine XL.s rfl ?_
    refine Y.move (by rfl) ?_
    refine XL.s rfl ?_
    refine Y.indexR st31 (by rfl) (by rfl) hXi.row ⟨by omega, by omega⟩ (by rw [Int.toNat_natCast]; exact hd) ?_
    intro b43 o43 hs43 hc43
    refine XL.s rfl ?_
    refine Y.load one41 (by rfl) (by assumption) ?_
    refine XL.s rfl ?_
    refine Y.assign (by rfl) ?_
    refine XL.s rfl ?_
    refine Y.assign (by rfl) ?_
    refine XL.nil ?_
    refine QN.next ?_
    refine XC.seq ?_
    refine XC.region ?_
    show XL _ _ _ _ (List.cons _ _) _ _
    refine XL.s rfl ?_
    refine Y.move (by rfl) ?_
    refine XL.s rfl ?_
    refine Y.move (by rfl) ?_
    refine XL.s rfl ?_
    refine Y.move (by rfl) ?_
    refine XL.s rfl ?_
    refine Y.move (by rfl) ?_
    refine XL.s rfl ?_
    refine Y.move (by rfl) ?_
    refine XL.s rfl ?_
    refine Y.indexR st37 (by rfl) (by rfl) hvs ⟨by omega, by omega⟩ (by rw [Int.toNat_natCast]; exact hq) ?_
    intro b51 o51 hs51 hc51
    refine XL.s rfl ?_
    refine Y.load one39 (by rfl) (by assumption) ?_
    refine XL.s rfl ?_
    refine Y.call (by rfl) ok32 (file_ok _ _ i ((encP K (K + 2 * F) l)[i]) _ hb (by omega) (by omega)) ?_
    rintro v53 w53 hN53
    refine XL.s rfl ?_
    refine Y.call (by rfl) ok47 (mend_no _ _ _ _ _ _ nm _ _ (fileB i ((encP K (K + 2 * F) l)[i])) _ (hD.ext hN53.1) hN53.bs (by omega) hsdd (by have := hf i hi'; omega) hnm (ht' i hi') hkn) ?_
    rintro v54 w54 ⟨rfl, hC54, hD54⟩
    refine XL.s rfl ?_
    refine Y.move (by rfl) ?_
    refine XL.s rfl ?_
    refine Y.extract (by rfl) (by rfl) ?_
    refine XL.s rfl ?_
    refine Y.extract (by rfl) (by rfl) ?_
    refine XL.s rfl ?_
    refine Y.assign (by rfl) ?_
    refine XL.s rfl ?_
    refine Y.assign (by rfl) ?_
    refine XL.nil ?_
    refine QN.next ?_
    refine XC.seq ?_
    refine XC.seq ?_
    refine XC.region ?_
    show XL _ _ _ _ (List.cons _ _) _ _
    refine XL.s rfl ?_
    refine Y.move (by rfl) ?_
    refine XL.s rfl ?_
    refine Y.neq (by rfl) (by rfl) ?_
    refine XL.nil ?_
    refine QN.next ?_
    refine XC.condF rfl rfl ?_
    have hz53 := hN53.1.size
    have hz54 := hC54.size
    have hXn := hset (btw wr.heap.size w54.heap.size) w54 _ _ _ (fun b hb => hb.1) (Ext.then hN53.1 hC54) (hD54.mono fun b hb => by rcases hb with h | h; exact .inl h; exact .inr ⟨by have := h.1; omega, h.2⟩)
    have hXn := hXn.wider (G' := Grow G w29 w54) (fun b _ hb => by rcases hb with (h | h) | h; exact .inl h; exact .inr ⟨h.1, by have := h.2; omega⟩; exact .inr ⟨by have := h.1; omega, h.2⟩)
    have hcs : cntM ms nm (fun j => (fileB j ((encP K n l).getD j []))) (i + 1) = cntM ms nm (fun j => (fileB j ((encP K n l).getD j []))) i + 1 := by rw [cntM_succ]; simp only [mendC, hge, if_neg hne]
    refine XC.skip ?_
    refine QN.next ?_
    refine XC.region ?_
    show XL _ _ _ _ (List.cons _ _) _ _
    refine XL.s rfl ?_
    refine Y.move (by rfl) ?_
    refine XL.s rfl ?_
    refine Y.move (by rfl) ?_
    refine XL.s rfl ?_
    refine Y.add (by rfl) (by rfl) (show IntKind.i64.wrap (((cntM ms nm (fun j => (fileB j ((encP K n l).getD j []))) i : Nat) : Int) + 1) = ((cntM ms nm (fun j => (fileB j ((encP K n l).getD j []))) (i + 1) : Nat) : Int) from by rw [hcs, wrap64 (by omega) (by omega)]; omega) ?_
    refine XL.s rfl ?_
    refine Y.assign (by rfl) ?_
    refine XL.nil ?_
    refine QN.blk ?_
    refine QN.next ?_
    refine XC.region ?_
    show XL _ _ _ _ (List.cons _ _) _ _
    refine XL.s rfl ?_
    refine Y.add (by rfl) (by rfl) (wrap64 (by omega) (by omega)) ?_
    refine XL.s rfl ?_
    refine Y.move (by rfl) ?_
    refine XL.nil ?_
    refine QN.again (i + 1) ?_ ?_ ?_
    ·exact ⟨rfl, rfl, rfl, rfl, rfl, rfl, rfl, trivial⟩
    ·refine ⟨by omega, hC.trans (Ext.then hN53.1 hC54) (fun _ h => h) (fun x hx h => by rcases (hFi x h).2.2.1 with h | h; exact h; (have := h.1; omega)), (hXn.more (fun j _ => ?_)).cast (fun j _ => ?_)⟩
     ·by_cases e : j = i
      ·subst e; simp; try omega
      ·by_cases e2 : j < i
       ·simp [e, e2, show j < i + 1 by omega]
       ·simp [e, e2, show ¬ j < i + 1 by omega]
     ·by_cases e : j = i
      ·subst e; simp only [if_true, if_pos (Nat.lt_succ_self j)]; rw [hge]; simp only [mendP, if_neg hne]
      ·by_cases e2 : j < i
       ·simp only [if_neg e, if_pos e2, if_pos (show j < i + 1 by omega)]
       ·simp only [if_neg e, if_neg e2, if_neg (show ¬ j < i + 1 by omega)]
    ·first | omega | (simp only []; omega) | (simp; omega)
   ·skip
    obtain ⟨⟨d0, s0⟩, hk2⟩ := Option.ne_none_iff_exists'.1 hkn
    by_cases hdf : d0 = fileB i ((encP K (K + 2 * F) l)[i])
    ·skip
     subst hdf
     have hne : (ms i ([98, 46] ++ nm)).map (·.1) = some (fileB i ((encP K (K + 2 * F) l)[i])) := by rw [hk2]; rfl
     refine XC.block ?_
     refine XC.seq ?_
     refine XC.region ?_
     show XL _ _ _ _ (List.cons _ _) _ _
     refine XL.s rfl ?_
     refine Y.move (by rfl) ?_
     refine XL.s rfl ?_
     refine Y.indexR st31 (by rfl) (by rfl) hXi.row ⟨by omega, by omega⟩ (by rw [Int.toNat_natCast]; exact hd) ?_
     intro b43 o43 hs43 hc43
     refine XL.s rfl ?_
     refine Y.load one41 (by rfl) (by assumption) ?_
     refine XL.s rfl ?_
     refine Y.assign (by rfl) ?_
     refine XL.s rfl ?_
     refine Y.assign (by rfl) ?_
     refine XL.nil ?_
     refine QN.next ?_
     refine XC.seq ?_
     refine XC.region ?_
     show XL _ _ _ _ (List.cons _ _) _ _
     refine XL.s rfl ?_
     refine Y.move (by rfl) ?_
     refine XL.s rfl ?_
     refine Y.move (by rfl) ?_
     refine XL.s rfl ?_
     refine Y.move (by rfl) ?_
     refine XL.s rfl ?_
     refine Y.move (by rfl) ?_
     refine XL.s rfl ?_
     refine Y.move (by rfl) ?_
     refine XL.s rfl ?_
     refine Y.indexR st37 (by rfl) (by rfl) hvs ⟨by omega, by omega⟩ (by rw [Int.toNat_natCast]; exact hq) ?_
     intro b51 o51 hs51 hc51
     refine XL.s rfl ?_
     refine Y.load one39 (by rfl) (by assumption) ?_
     refine XL.s rfl ?_
     refine Y.call (by rfl) ok32 (file_ok _ _ i ((encP K (K + 2 * F) l)[i]) _ hb (by omega) (by omega)) ?_
     rintro v53 w53 hN53
     refine XL.s rfl ?_
     refine Y.call (by rfl) ok47 (mend_yes _ _ _ _ _ _ nm _ _ (fileB i ((encP K (K + 2 * F) l)[i])) _ (hD.ext hN53.1) hN53.bs (by omega) hsdd (by have := hf i hi'; omega) hnm (ht' i hi') s0 hk2) ?_
     rintro v54 w54 ⟨rfl, hC54, hD54⟩
     refine XL.s rfl ?_
     refine Y.move (by rfl) ?_
     refine XL.s rfl ?_
     refine Y.extract (by rfl) (by rfl) ?_
     refine XL.s rfl ?_
     refine Y.extract (by rfl) (by rfl) ?_
     refine XL.s rfl ?_
     refine Y.assign (by rfl) ?_
     refine XL.s rfl ?_
     refine Y.assign (by rfl) ?_
     refine XL.nil ?_
     refine QN.next ?_
     refine XC.seq ?_
     refine XC.seq ?_
     refine XC.region ?_
     show XL _ _ _ _ (List.cons _ _) _ _
     refine XL.s rfl ?_
     refine Y.move (by rfl) ?_
     refine XL.s rfl ?_
     refine Y.neq (by rfl) (by rfl) ?_
     refine XL.nil ?_
     refine QN.next ?_
     refine XC.condF rfl rfl ?_
     have hz53 := hN53.1.size
     have hz54 := hC54.size
     have hXn := hset (btw wr.heap.size w54.heap.size) w54 _ _ _ (fun b hb => hb.1) (Ext.then hN53.1 hC54) (hD54.mono fun b hb => .inl hb)
     have hXn := hXn.wider (G' := Grow G w29 w54) (fun b _ hb => by rcases hb with (h | h) | h; exact .inl h; exact .inr ⟨h.1, by have := h.2; omega⟩; exact .inr ⟨by have := h.1; omega, h.2⟩)
     have hcs : cntM ms nm (fun j => (fileB j ((encP K n l).getD j []))) (i + 1) = cntM ms nm (fun j => (fileB j ((encP K n l).getD j []))) i + 0 := by rw [cntM_succ]; simp only [mendC, hge, if_pos hne]
     refine XC.skip ?_
     refine QN.next ?_
     refine XC.region ?_
     show XL _ _ _ _ (List.cons _ _) _ _
     refine XL.s rfl ?_
     refine Y.move (by rfl) ?_
     refine XL.s rfl ?_
     refine Y.move (by rfl) ?_
     refine XL.s rfl ?_
     refine Y.add (by rfl) (by rfl) (show IntKind.i64.wrap (((cntM ms nm (fun j => (fileB j ((encP K n l).getD j []))) i : Nat) : Int) + 0) = ((cntM ms nm (fun j => (fileB j ((encP K n l).getD j []))) (i + 1) : Nat) : Int) from by rw [hcs, wrap64 (by omega) (by omega)]; omega) ?_
     refine XL.s rfl ?_
     refine Y.assign (by rfl) ?_
     refine XL.nil ?_
     refine QN.blk ?_
     refine QN.next ?_
     refine XC.region ?_
     show XL _ _ _ _ (List.cons _ _) _ _
     refine XL.s rfl ?_
     refine Y.add (by rfl) (by rfl) (wrap64 (by omega) (by omega)) ?_
     refine XL.s rfl ?_
     refine Y.move (by rfl) ?_
     refine XL.nil ?_
     refine QN.again (i + 1) ?_ ?_ ?_
     ·exact ⟨rfl, rfl, rfl, rfl, rfl, rfl, rfl, trivial⟩
     ·refine ⟨by omega, hC.trans (Ext.then hN53.1 hC54) (fun _ h => h) (fun x hx h => by rcases (hFi x h).2.2.1 with h | h; exact h; (have := h.1; omega)), (hXn.more (fun j _ => ?_)).cast (fun j _ => ?_)⟩
      ·by_cases e : j = i
       ·subst e; simp; try omega
       ·by_cases e2 : j < i
        ·simp [e, e2, show j < i + 1 by omega]
        ·simp [e, e2, show ¬ j < i + 1 by omega]
      ·by_cases e : j = i
       ·subst e; simp only [if_true, if_pos (Nat.lt_succ_self j)]; rw [hge]; simp only [mendP, if_pos hne]
       ·by_cases e2 : j < i
        ·simp only [if_neg e, if_pos e2, if_pos (show j < i + 1 by omega)]
        ·simp only [if_neg e, if_neg e2, if_neg (show ¬ j < i + 1 by omega)]
     ·first | omega | (simp only []; omega) | (simp; omega)
    ·skip
     have hne : ¬ (ms i ([98, 46] ++ nm)).map (·.1) = some (fileB i ((encP K (K + 2 * F) l)[i])) := by rw [hk2]; simpa using hdf
     refine XC.block ?_
     refine XC.seq ?_
     refine XC.region ?_
     show XL _ _ _ _ (List.cons _ _) _ _
     refine XL.s rfl ?_
     refine Y.move (by rfl) ?_
     refine XL.s rfl ?_
     refine Y.indexR st31 (by rfl) (by rfl) hXi.row ⟨by omega, by omega⟩ (by rw [Int.toNat_natCast]; exact hd) ?_
     intro b43 o43 hs43 hc43
     refine XL.s rfl ?_
     refine Y.load one41 (by rfl) (by assumption) ?_
     refine XL.s rfl ?_
     refine Y.assign (by rfl) ?_
     refine XL.s rfl ?_
     refine Y.assign (by rfl) ?_
     refine XL.nil ?_
     refine QN.next ?_
     refine XC.seq ?_
     refine XC.region ?_
     show XL _ _ _ _ (List.cons _ _) _ _
     refine XL.s rfl ?_
     refine Y.move (by rfl) ?_
     refine XL.s rfl ?_
     refine Y.move (by rfl) ?_
     refine XL.s rfl ?_
     refine Y.move (by rfl) ?_
     refine XL.s rfl ?_
     refine Y.move (by rfl) ?_
     refine XL.s rfl ?_
     refine Y.move (by rfl) ?_
     refine XL.s rfl ?_
     refine Y.indexR st37 (by rfl) (by rfl) hvs ⟨by omega, by omega⟩ (by rw [Int.toNat_natCast]; exact hq) ?_
     intro b51 o51 hs51 hc51
     refine XL.s rfl ?_
     refine Y.load one39 (by rfl) (by assumption) ?_
     refine XL.s rfl ?_
     refine Y.call (by rfl) ok32 (file_ok _ _ i ((encP K (K + 2 * F) l)[i]) _ hb (by omega) (by omega)) ?_
     rintro v53 w53 hN53
     refine XL.s rfl ?_
     refine Y.call (by rfl) ok47 (mend_ne _ _ _ _ _ _ nm _ _ (fileB i ((encP K (K + 2 * F) l)[i])) _ (hD.ext hN53.1) hN53.bs (by omega) hsdd (by have := hf i hi'; omega) hnm (ht' i hi') d0 s0 hk2 hdf) ?_
     rintro v54 w54 ⟨rfl, hC54, hD54⟩
     refine XL.s rfl ?_
     refine Y.move (by rfl) ?_
     refine XL.s rfl ?_
     refine Y.extract (by rfl) (by rfl) ?_
     refine XL.s rfl ?_
     refine Y.extract (by rfl) (by rfl) ?_
     refine XL.s rfl ?_
     refine Y.assign (by rfl) ?_
     refine XL.s rfl ?_
     refine Y.assign (by rfl) ?_
     refine XL.nil ?_
     refine QN.next ?_
     refine XC.seq ?_
     refine XC.seq ?_
     refine XC.region ?_
     show XL _ _ _ _ (List.cons _ _) _ _
     refine XL.s rfl ?_
     refine Y.move (by rfl) ?_
     refine XL.s rfl ?_
     refine Y.neq (by rfl) (by rfl) ?_
     refine XL.nil ?_
     refine QN.next ?_
     refine XC.condF rfl rfl ?_
     have hz53 := hN53.1.size
     have hz54 := hC54.size
     have hXn := hset (btw wr.heap.size w54.heap.size) w54 _ _ _ (fun b hb => hb.1) (Ext.then hN53.1 hC54) (hD54.mono fun b hb => by rcases hb with h | h; exact .inl h; exact .inr ⟨by have := h.1; omega, h.2⟩)
     have hXn := hXn.wider (G' := Grow G w29 w54) (fun b _ hb => by rcases hb with (h | h) | h; exact .inl h; exact .inr ⟨h.1, by have := h.2; omega⟩; exact .inr ⟨by have := h.1; omega, h.2⟩)
     have hcs : cntM ms nm (fun j => (fileB j ((encP K n l).getD j []))) (i + 1) = cntM ms nm (fun j => (fileB j ((encP K n l).getD j []))) i + 1 := by rw [cntM_succ]; simp only [mendC, hge, if_neg hne]
     refine XC.skip ?_
     refine QN.next ?_
     refine XC.region ?_
     show XL _ _ _ _ (List.cons _ _) _ _
     refine XL.s rfl ?_
     refine Y.move (by rfl) ?_
     refine XL.s rfl ?_
     refine Y.move (by rfl) ?_
     refine XL.s rfl ?_
     refine Y.add (by rfl) (by rfl) (show IntKind.i64.wrap (((cntM ms nm (fun j => (fileB j ((encP K n l).getD j []))) i : Nat) : Int) + 1) = ((cntM ms nm (fun j => (fileB j ((encP K n l).getD j []))) (i + 1) : Nat) : Int) from by rw [hcs, wrap64 (by omega) (by omega)]; omega) ?_
     refine XL.s rfl ?_
     refine Y.assign (by rfl) ?_
     refine XL.nil ?_
     refine QN.blk ?_
     refine QN.next ?_
     refine XC.region ?_
     show XL _ _ _ _ (List.cons _ _) _ _
     refine XL.s rfl ?_
     refine Y.add (by rfl) (by rfl) (wrap64 (by omega) (by omega)) ?_
     refine XL.s rfl ?_
     refine Y.move (by rfl) ?_
     refine XL.nil ?_
     refine QN.again (i + 1) ?_ ?_ ?_
     ·exact ⟨rfl, rfl, rfl, rfl, rfl, rfl, rfl, trivial⟩
     ·refine ⟨by omega, hC.trans (Ext.then hN53.1 hC54) (fun _ h => h) (fun x hx h => by rcases (hFi x h).2.2.1 with h | h; exact h; (have := h.1; omega)), (hXn.more (fun j _ => ?_)).cast (fun j _ => ?_)⟩
      ·by_cases e : j = i
       ·subst e; simp; try omega
       ·by_cases e2 : j < i
        ·simp [e, e2, show j < i + 1 by omega]
        ·simp [e, e2, show ¬ j < i + 1 by omega]
      ·by_cases e : j = i
       ·subst e; simp only [if_true, if_pos (Nat.lt_succ_self j)]; rw [hge]; simp only [mendP, if_neg hne]
       ·by_cases e2 : j < i
        ·simp only [if_neg e, if_pos e2, if_pos (show j < i + 1 by omega)]
        ·simp only [if_neg e, if_neg e2, if_neg (show ¬ j < i + 1 by omega)]
     ·first | omega | (simp only []; omega) | (simp; omega)
  ·intro hc
   try simp only [decide_eq_true_eq, decide_eq_false_iff_not, Bool.not_eq_true', Bool.not_eq_false', Bool.not_eq_eq_eq_not, Bool.not_true, Bool.not_false, Bool.or_eq_true, Bool.and_eq_true, Bool.or_eq_false_iff] at hc
   have hin : i = n := by omega
   subst hin
   have hXe := (hXi.more (U' := fun j => U j + (20 + pieceN K l)) (c' := fun j => c j + 1) (fun j hj => by simp [hj])).cast (ms' := fun j => mendP (ms j) nm (fileB j ((encP K i l).getD j []))) (fun j hj => by simp [hj])
   refine XC.exit ?_
   refine QN.thenE ?_
   refine QN.thenE ?_
   refine QN.hit ?_
   refine QN.next ?_
   refine XC.seq ?_
   refine XC.region ?_
   show XL _ _ _ _ (List.cons _ _) _ _
   refine XL.s rfl ?_
   refine Y.move (by rfl) ?_
   refine XL.s rfl ?_
   refine Y.assign (by rfl) ?_
   refine XL.s rfl ?_
   refine Y.assign (by rfl) ?_
   refine XL.nil ?_
   refine QN.next ?_
   refine XC.ret ?_
   refine QN.doneN (fn := Tryz.f24) (R := R) (.inl rfl) rfl rfl ?_
   refine hR _ _ ?_
   exact ⟨rfl, Ext.then hEE hC, tb, _, dvs, Fr, rfl, hXe.wider (fun b _ hb => by rcases hb with h | h; exact .inl h; exact .inr ⟨by have := h.1; omega, h.2⟩)⟩
end Go.Proofs.YtchammpamigonaaGreatX
end
section
set_option linter.unusedVariables false
set_option linter.unusedSimpArgs false
set_option maxRecDepth 10000
set_option maxHeartbeats 4000000
namespace Go.Proofs.YtchammpamigonaaGreatX
open Go Go.RowKit Go.Proofs
theorem getG_ok (G : Nat → Prop) (tv : Value) (K F n most : Nat) (ms : Nat → Fm) (U c : Nat → Nat) (w : World) (hS : StoreA 66 79 82 5 G w tv K F n most ms U c) (hm : most ≤ 65536) (hU : ∀ i, i < n → U i ≤ 65536) (nm : List UInt8) (hnm : 1 ≤ nm.length ∧ nm.length ≤ 16) (hk : 1 ≤ K) (hKF : K + 2 * F ≤ 7) (hnn : n = K + 2 * F) (l : List UInt8) (hl : l.length ≤ 512) (g : Nat → Bool) (hg : Goods ms nm n (fun i => (encP K n l).getD i []) g) (Sa : Nat → Prop) (ua : Value) (away : List Int) (haw : Zs Sa w ua away) (hc : K ≤ goodN g away n) : Rets Tryz.prog 14 #[tv, strV nm, ua] w fun v w' => v = .tuple #[strV l, .int .i64 0] ∧ Ext w w' := by
 subst hnn
 have he : ∀ i, i < K + 2 * F → 0 < ((encP K (K + 2 * F) l).getD i []).length := fun i hi => by rw [encP_getD_len K F l hk hi]; exact pieceN_pos l hk
 have ht := hg.there (away := away) he
 have hlen : K ≤ (thereP (shardsP ms nm away (K + 2 * F))).length := by rw [ht]; exact hc
 obtain ⟨B, h1, h2, h3, h4⟩ := dec_facts K F l hk hKF (shardsP ms nm away (K + 2 * F)) (by simp [shardsP]) (hg.same he) hlen
 exact sget_ok G tv K F _ most ms U c w hS hm hU hKF nm Sa ua away haw hnm hk rfl (hg.any (away := away) he (by omega)) l hl hlen (hg.same he) B h1 h2 h3 h4
theorem repG_short (G : Nat → Prop) (tv : Value) (K F n most : Nat) (ms : Nat → Fm) (U c : Nat → Nat) (w : World) (hS : StoreA 66 79 82 5 G w tv K F n most ms U c) (hm : most ≤ 65536) (hU : ∀ i, i < n → U i ≤ 65536) (nm : List UInt8) (hnm : 1 ≤ nm.length ∧ nm.length ≤ 16) (hk : 1 ≤ K) (hKF : K + 2 * F ≤ 7) (hnn : n = K + 2 * F) (l : List UInt8) (hl : l.length ≤ 512) (g : Nat → Bool) (hg : Goods ms nm n (fun i => (encP K n l).getD i []) g) (hc : goodN g [] n < K) : Rets Tryz.prog 24 #[tv, strV nm] w fun v w' => (∃ e : Int, v = .tuple #[.int .i64 0, .int .i64 e] ∧ e ≠ 0) ∧ Ext w w' := by
 subst hnn
 have he : ∀ i, i < K + 2 * F → 0 < ((encP K (K + 2 * F) l).getD i []).length := fun i hi => by rw [encP_getD_len K F l hk hi]; exact pieceN_pos l hk
 have ht := hg.there (away := []) he
 cases h0 : hasAny ms nm (K + 2 * F) with
 | false => exact (srep_none G tv K F _ most ms U c w hS hm hU hKF nm hnm hk rfl h0).mono fun v w' h => ⟨⟨5, h.1, by decide⟩, h.2⟩
 | true => exact (srep_short G tv K F _ most ms U c w hS hm hU hKF nm hnm hk rfl h0 (by rw [ht]; exact hc)).mono fun v w' h => ⟨⟨3, h.1, by decide⟩, h.2⟩
theorem repG_ok (G : Nat → Prop) (tv : Value) (K F n most : Nat) (ms : Nat → Fm) (U c : Nat → Nat) (w : World) (hS : StoreA 66 79 82 5 G w tv K F n most ms U c) (hm : most ≤ 65536) (hU : ∀ i, i < n → U i ≤ 65536) (nm : List UInt8) (hnm : 1 ≤ nm.length ∧ nm.length ≤ 16) (hk : 1 ≤ K) (hKF : K + 2 * F ≤ 7) (hnn : n = K + 2 * F) (l : List UInt8) (hl : l.length ≤ 512) (g : Nat → Bool) (hg : Goods ms nm n (fun i => (encP K n l).getD i []) g) (hc : K ≤ goodN g [] n) (hf : ∀ i, i < n → U i + (20 + pieceN K l) ≤ most) (ht' : ∀ i, i < n → ms i [116, 46] = none) (hGb : ∀ b, G b → b < w.heap.size) : Rets Tryz.prog 24 #[tv, strV nm] w fun v w' => v = .tuple #[.int .i64 (cntM ms nm (fun j => fileB j ((encP K n l).getD j [])) n : Nat), .int .i64 0] ∧ Chg G w w' ∧ StoreA 66 79 82 5 (Grow G w w') w' tv K F n most (fun j => mendP (ms j) nm (fileB j ((encP K n l).getD j []))) (fun j => U j + (20 + pieceN K l)) (fun j => c j + 1) := by
 subst hnn
 have he : ∀ i, i < K + 2 * F → 0 < ((encP K (K + 2 * F) l).getD i []).length := fun i hi => by rw [encP_getD_len K F l hk hi]; exact pieceN_pos l hk
 have ht := hg.there (away := []) he
 have hlen : K ≤ (thereP (shardsP ms nm [] (K + 2 * F))).length := by rw [ht]; exact hc
 obtain ⟨B, h1, h2, h3, h4⟩ := dec_facts K F l hk hKF (shardsP ms nm [] (K + 2 * F)) (by simp [shardsP]) (hg.same he) hlen
 exact srep_ok G tv K F _ most ms U c w hS hm hU hKF nm hnm hk rfl (hg.any (away := []) he (by omega)) l hl hlen (hg.same he) B h1 h2 h3 h4 hf ht' hGb
theorem newS (k F : Nat) (w : World) (hk : 1 ≤ k) (hF : k + 2 * F ≤ 7) (Sd : Nat → Prop) (u : Value) (dvs : List Value) (hr : Row Sd w u (k + 2 * F) dvs) (hdl : dvs.length = k + 2 * F) (Fd : Nat → Nat → Prop) (most : Nat) (ms : Nat → Fm) (U c : Nat) (hd : ∀ i d, dvs[i]? = some d → DiskA 79 82 5 (Fd i) w d most (ms i) U c) (hm : most ≤ 65536) (hU : U ≤ 65536) : Rets Tryz.prog 10 #[shapeV k F, u] w fun v w' => ∃ tv, v = .tuple #[tv, .int .i64 0] ∧ StoreS 66 79 82 5 w w' tv k F (k + 2 * F) most ms U c := by
 exact (snew_ok k F w hk hF Sd u _ dvs hr hdl rfl Fd most ms U c hd hm (by omega)).mono fun v w' ⟨tv, h1, h2, h3⟩ => ⟨tv, h1, h3, _, h2, fun b hb => hb⟩
theorem newD (k F : Nat) (w : World) (hk : 1 ≤ k) (hF : k + 2 * F ≤ 7) (u : Value) (lo most : Nat) (ms : Nat → Fm) (U c : Nat) (h : DRow 41 79 82 5 lo w most ms U c (k + 2 * F) u) (hm : most ≤ 65536) (hU : U ≤ 65536) : Rets Tryz.prog 10 #[shapeV k F, u] w fun v w' => ∃ tv, v = .tuple #[tv, .int .i64 0] ∧ StoreS 66 79 82 5 w w' tv k F (k + 2 * F) most ms U c := by
 obtain ⟨dvs, Fd, h1, h2, h3⟩ := h.out
 exact newS k F w hk hF _ u dvs h1 h2 Fd most ms U c h3 hm hU
theorem putS (w0 : World) (tv : Value) (K F n most : Nat) (ms : Nat → Fm) (U c : Nat) (w : World) (hS : StoreS 66 79 82 5 w0 w tv K F n most ms U c) (hm : most ≤ 65536) (hU : U ≤ 65536) (nm : List UInt8) (hnm : 1 ≤ nm.length ∧ nm.length ≤ 16) (hk : 1 ≤ K) (hKF : K + 2 * F ≤ 7) (hnn : n = K + 2 * F) (l : List UInt8) (hl : l.length ≤ 512) (hf : U + (20 + pieceN K l) ≤ most) (ht : ∀ i, i < n → ms i [116, 46] = none) : Rets Tryz.prog 13 #[tv, strV nm, strV l] w fun v w' => v = .int .i64 0 ∧ StoreS 66 79 82 5 w0 w' tv K F n most (fun i => upd (ms i) ([98, 46] ++ nm) (some (fileB i ((encP K n l).getD i []), 20 + pieceN K l))) (U + (20 + pieceN K l)) (c + 1) := by
 obtain ⟨h1, G, h2, h3⟩ := hS
 have hs := h1.size
 exact (sput_ok G tv K F n most ms _ _ w h2 hm (fun _ _ => hU) (by omega) nm l hk hKF hnm hl hnn (fun _ _ => hf) ht (fun b hb => (h3 b hb).2)).mono fun v w' ⟨e1, e2, e3⟩ => ⟨e1, StoreS.of h1 e2 (fun b hb => (h3 b hb).1) e3 (fun b hb => by rcases hb with h | h; exact (h3 b h).1; (have := h.1; omega)) (fun i _ => ⟨Nat.le_refl _, Nat.le_refl _⟩)⟩
theorem getS (w0 : World) (tv : Value) (K F n most : Nat) (ms : Nat → Fm) (U c : Nat) (w : World) (hS : StoreS 66 79 82 5 w0 w tv K F n most ms U c) (hm : most ≤ 65536) (hU : U ≤ 65536) (nm : List UInt8) (hnm : 1 ≤ nm.length ∧ nm.length ≤ 16) (hk : 1 ≤ K) (hKF : K + 2 * F ≤ 7) (hnn : n = K + 2 * F) (l : List UInt8) (hl : l.length ≤ 512) (g : Nat → Bool) (hg : Goods ms nm n (fun i => (encP K n l).getD i []) g) (Sa : Nat → Prop) (ua : Value) (away : List Int) (haw : Zs Sa w ua away) (hc : K ≤ goodN g away n) : Rets Tryz.prog 14 #[tv, strV nm, ua] w fun v w' => v = .tuple #[strV l, .int .i64 0] ∧ Ext w w' := by
 obtain ⟨h1, G, h2, h3⟩ := hS
 exact getG_ok G tv K F n most ms _ _ w h2 hm (fun _ _ => hU) nm hnm hk hKF hnn l hl g hg Sa ua away haw hc
theorem getS_none (w0 : World) (tv : Value) (K F n most : Nat) (ms : Nat → Fm) (U c : Nat) (w : World) (hS : StoreS 66 79 82 5 w0 w tv K F n most ms U c) (hm : most ≤ 65536) (hU : U ≤ 65536) (nm : List UInt8) (hnm : 1 ≤ nm.length ∧ nm.length ≤ 16) (hk : 1 ≤ K) (hKF : K + 2 * F ≤ 7) (hnn : n = K + 2 * F) (Sa : Nat → Prop) (ua : Value) (away : List Int) (haw : Zs Sa w ua away) (h0 : hasAny ms nm n = false) : Rets Tryz.prog 14 #[tv, strV nm, ua] w fun v w' => v = .tuple #[strV [], .int .i64 5] ∧ Ext w w' := by
 obtain ⟨h1, G, h2, h3⟩ := hS
 exact sget_none G tv K F n most ms _ _ w h2 hm (fun _ _ => hU) (by omega) nm Sa ua away haw hnm hk hnn h0
theorem repS_short (w0 : World) (tv : Value) (K F n most : Nat) (ms : Nat → Fm) (U c : Nat) (w : World) (hS : StoreS 66 79 82 5 w0 w tv K F n most ms U c) (hm : most ≤ 65536) (hU : U ≤ 65536) (nm : List UInt8) (hnm : 1 ≤ nm.length ∧ nm.length ≤ 16) (hk : 1 ≤ K) (hKF : K + 2 * F ≤ 7) (hnn : n = K + 2 * F) (l : List UInt8) (hl : l.length ≤ 512) (g : Nat → Bool) (hg : Goods ms nm n (fun i => (encP K n l).getD i []) g) (hc : goodN g [] n < K) : Rets Tryz.prog 24 #[tv, strV nm] w fun v w' => (∃ e : Int, v = .tuple #[.int .i64 0, .int .i64 e] ∧ e ≠ 0) ∧ Ext w w' := by
 obtain ⟨h1, G, h2, h3⟩ := hS
 exact repG_short G tv K F n most ms _ _ w h2 hm (fun _ _ => hU) nm hnm hk hKF hnn l hl g hg hc
theorem repS (w0 : World) (tv : Value) (K F n most : Nat) (ms : Nat → Fm) (U c : Nat) (w : World) (hS : StoreS 66 79 82 5 w0 w tv K F n most ms U c) (hm : most ≤ 65536) (hU : U ≤ 65536) (nm : List UInt8) (hnm : 1 ≤ nm.length ∧ nm.length ≤ 16) (hk : 1 ≤ K) (hKF : K + 2 * F ≤ 7) (hnn : n = K + 2 * F) (l : List UInt8) (hl : l.length ≤ 512) (g : Nat → Bool) (hg : Goods ms nm n (fun i => (encP K n l).getD i []) g) (hc : K ≤ goodN g [] n) (hf : U + (20 + pieceN K l) ≤ most) (ht' : ∀ i, i < n → ms i [116, 46] = none) : Rets Tryz.prog 24 #[tv, strV nm] w fun v w' => v = .tuple #[.int .i64 (cntM ms nm (fun j => fileB j ((encP K n l).getD j [])) n : Nat), .int .i64 0] ∧ StoreS 66 79 82 5 w0 w' tv K F n most (fun j => mendP (ms j) nm (fileB j ((encP K n l).getD j []))) (U + (20 + pieceN K l)) (c + 1) := by
 obtain ⟨h1, G, h2, h3⟩ := hS
 have hs := h1.size
 exact (repG_ok G tv K F n most ms _ _ w h2 hm (fun _ _ => hU) nm hnm hk hKF hnn l hl g hg hc (fun _ _ => hf) ht' (fun b hb => (h3 b hb).2)).mono fun v w' ⟨e1, e2, e3⟩ => ⟨e1, StoreS.of h1 e2 (fun b hb => (h3 b hb).1) e3 (fun b hb => by rcases hb with h | h; exact (h3 b h).1; (have := h.1; omega)) (fun i _ => ⟨Nat.le_refl _, Nat.le_refl _⟩)⟩
theorem diskS (w0 : World) (tv : Value) (K F n most : Nat) (ms : Nat → Fm) (U c : Nat) (w : World) (hS : StoreS 66 79 82 5 w0 w tv K F n most ms U c) (hm : most ≤ 65536) (hU : U ≤ 65536) (hn : n ≤ 7) (i : Nat) (hi : i < n) : Rets Tryz.prog 16 #[tv, .int .i64 i] w fun v w' => DiskA 79 82 5 (btw w.heap.size w'.heap.size) w' v most (ms i) U c ∧ Ext w w' := by
 obtain ⟨h1, G, h2, h3⟩ := hS
 exact sdisk_ok G tv K F n most ms _ _ w h2 hm (fun _ _ => hU) hn i hi
theorem diskS_no (w0 : World) (tv : Value) (K F n most : Nat) (ms : Nat → Fm) (U c : Nat) (w : World) (hS : StoreS 66 79 82 5 w0 w tv K F n most ms U c) (hm : most ≤ 65536) (hU : U ≤ 65536) (hn : n ≤ 7) : Rets Tryz.prog 16 #[tv, .int .i64 n] w fun v w' => v = .pointer none ∧ Ext w w' := by
 obtain ⟨h1, G, h2, h3⟩ := hS
 exact sdisk_no G tv K F n most ms _ _ w h2 hm (fun _ _ => hU) hn
theorem scrubS_clean (w0 : World) (tv : Value) (K F n most : Nat) (ms : Nat → Fm) (U c : Nat) (w : World) (hS : StoreS 66 79 82 5 w0 w tv K F n most ms U c) (hm : most ≤ 65536) (hU : U ≤ 65536) (hn : n ≤ 7) (i : Nat) (hi : i < n) (hc12 : c ≤ 12) (hnd : ∀ x, ms i x ≠ none → 1 ≤ x.length ∧ x.length ≤ 24) (hcl : ∀ x, ms i x ≠ none → badF i (ms i) x = false) : Rets Tryz.prog 22 #[tv, .int .i64 i] w fun v w' => v = .tuple #[.slice none 0 0, .int .i64 0] ∧ Ext w w' := by
 obtain ⟨h1, G, h2, h3⟩ := hS
 exact sscrub_clean G tv K F n most ms _ _ w h2 hm (fun _ _ => hU) hn i hi hc12 hnd hcl
theorem scrubS (w0 : World) (tv : Value) (K F n most : Nat) (ms : Nat → Fm) (U c : Nat) (w : World) (hS : StoreS 66 79 82 5 w0 w tv K F n most ms U c) (hm : most ≤ 65536) (hU : U ≤ 65536) (hn : n ≤ 7) (i : Nat) (hi : i < n) (hc12 : c ≤ 12) (hnd : ∀ x, ms i x ≠ none → 1 ≤ x.length ∧ x.length ≤ 24) : Rets Tryz.prog 22 #[tv, .int .i64 i] w fun v w' => ∃ ss : List (List UInt8), ss.Nodup ∧ (∀ x, x ∈ ss ↔ ms i x ≠ none) ∧ ∃ a, v = .tuple #[a, .int .i64 0] ∧ Row AnyB w' a (scrubO i (ms i) ss).length (strsV (scrubO i (ms i) ss)) ∧ StoreS 66 79 82 5 w0 w' tv K F n most (fun q => if q = i then scrubM i (ms i) ss else ms q) U c := by
 obtain ⟨h1, G, h2, h3⟩ := hS
 exact (sscrub_ok G tv K F n most ms _ _ w h2 hm (fun _ _ => hU) hn i hi hc12 hnd (fun b hb => (h3 b hb).2)).mono fun v w' ⟨ss, e1, e2, a, e3, e4, e5, e6⟩ => ⟨ss, e1, e2, a, e3, e4, StoreS.of h1 e5 (fun b hb => (h3 b hb).1) e6 (fun b hb => (h3 b hb).1) (fun i _ => ⟨Nat.le_refl _, Nat.le_refl _⟩)⟩
end Go.Proofs.YtchammpamigonaaGreatX
end
section
set_option linter.unusedVariables false
set_option linter.unusedSimpArgs false
set_option maxRecDepth 10000
set_option maxHeartbeats 4000000
namespace Go.Proofs.YtchammpamigonaaGreatX
open Go Go.RowKit Go.Proofs
theorem awake_ok (w : World) :
  Rets Tryz.prog 8 #[] w fun v w' => v = .bool true ∧ Ext w w' := by
 refine Rets.enter (args := []) (n := 90) Tryz.func8 rfl rfl rfl ?_
 intro R hR
 show XC _ _ _ _ [] _
 refine XC.seq ?_
 refine XC.region ?_
 show XL _ _ _ _ (List.cons _ _) _ _
 refine XL.s rfl ?_
 refine Y.assign (by rfl) ?_
 refine XL.nil ?_
 refine QN.next ?_
 refine XC.seq ?_
 refine XC.region ?_
 show XL _ _ _ _ (List.cons _ _) _ _
 refine XL.s rfl ?_
 refine Y.build (by rfl) (v := .agg #[.int .i64 1, .int .i64 1]) (fun _ => by kernel_rfl) ?_
 refine XL.s rfl ?_
 refine Y.alloc zt23 ?_
 intro b1 w1 hb1 hz1 hE1
 refine XL.o ?_
 refine Y.storeA agg23 (by rfl) (by rfl) hb1 rfl rfl (by intro c hc; simp at hc; rcases hc with rfl | rfl <;> rfl) ?_
 intro w2 hb2 hC2 hz2
 have hE2 := hE1.chgNew hC2 (fun x hx => by omega)
 refine XL.nil ?_
 refine QN.next ?_
 refine XC.seq ?_
 apply XC.drop [2, 7, 13, 14, 15, 16, 17, 18, 19, 20, 21, 22, 23, 24, 25, 26, 27, 28, 29, 30, 31, 32, 33, 34, 35, 36, 37, 38, 39, 40, 41, 42, 43, 44, 45, 46, 47, 48, 49, 50, 51, 52, 53, 54, 55, 56, 57, 58, 59, 60, 61, 62, 63, 64, 65, 66, 67, 68, 69, 70, 71, 72, 73, 74, 75, 76, 77, 78, 79, 80, 81, 82, 83, 84, 85, 86, 87, 88, 89]
 ·repeat (first | apply DropTo.nil | apply DropTo.skip rfl | apply DropTo.keep rfl)
 refine XC.drawL 7 [[], [], [0, 1], [0, 1, 2], [0, 1, 2, 3], [0, 1, 2, 3], [0, 1, 2, 3, 4], [0, 1, 2, 3, 4, 5, 6]] _ (Chg NoB) (Steady.chg NoB) [] [(0, (fun v _ => v = shapeV ((1 : Nat) : Int) ((1 : Nat) : Int))), (1, (fun v w' => DRow 41 79 82 5 0 w' (min 500 65536) (fun _ _ => none) 0 0 3 v)), (2, (fun v w' => ∃ tv, v = .tuple #[tv, .int .i64 0] ∧ StoreS 66 79 82 5 w2 w' tv 1 1 (1 + 2 * 1) (min 500 65536) (fun _ _ => none) 0 0))] [0, 1, 2, 3, 4, 5, 6] fol (by kernel_rfl) (by rfl) (by rfl) ⟨(fun _ _ _ _ h => h), (fun v w1 w2 hE h => h.ext hE), (fun v w1 w2 hE ⟨tv, h1, h2⟩ => ⟨tv, h1, h2.ext hE⟩), trivial⟩ ⟨?_, ?_, ?_, ?_, ?_, ?_, ?_, trivial⟩ ?_
 ·intro aD2 wD2 haD2 hCD2 hrD2
  replace hb2 := hb2.ext hCD2
  refine ⟨rfl, ?_⟩
  refine XD.start haD2 ?_
  refine XD.stepI ?_
  refine Y.loadA agg23 (by rfl) rfl (fun j u hu => cell_arr hb2 (by rw [Nat.zero_add]; exact hu)) ?_
  exact ⟨Chg.refl _ _, rfl⟩
 ·intro aD2 wD2 haD2 hCD2 hrD2
  replace hb2 := hb2.ext hCD2
  refine ⟨rfl, ?_⟩
  refine XD.start haD2 ?_
  refine XD.stepI ?_
  refine Y.call (by rfl) ok11 (disks_ok 3 500 _ (by decide)) ?_
  rintro v16 w16 ⟨hD16, hE16⟩
  exact ⟨hE16, hD16.lower (Nat.zero_le _)⟩
 ·intro aD2 wD2 haD2 hCD2 hrD2
  obtain ⟨r0, r1, -⟩ := hrD2
  replace hb2 := hb2.ext hCD2
  refine ⟨rfl, ?_⟩
  refine XD.start haD2 ?_
  refine XD.imp r0 ?_
  rintro _ rfl
  refine XD.imp r1 ?_
  rintro v16 hD16
  refine XD.stepI ?_
  refine Y.call (by rfl) ok10 (newD 1 1 _ (by decide) (by decide) _ 0 _ (fun _ _ => none) 0 0 hD16 (by decide) (by decide)) ?_
  rintro v17 w17 ⟨tv, rfl, hS17⟩
  exact ⟨hS17.1, tv, rfl, hS17.older hCD2⟩
 ·intro aD2 wD2 haD2 hCD2 hrD2
  obtain ⟨r0, r1, r2, -⟩ := hrD2
  replace hb2 := hb2.ext hCD2
  refine ⟨rfl, ?_⟩
  refine XD.start haD2 ?_
  refine XD.imp r0 ?_
  rintro _ rfl
  refine XD.imp r1 ?_
  rintro v16 hD16
  refine XD.imp r2 ?_
  rintro _ ⟨tv, rfl, hS⟩
  apply XD.stepP rfl
  intro w3
  refine Y.move (by rfl) ?_
  exact ⟨rfl, rfl⟩
 ·intro aD2 wD2 haD2 hCD2 hrD2
  obtain ⟨r0, r1, r2, r3, -⟩ := hrD2
  replace hb2 := hb2.ext hCD2
  refine ⟨rfl, ?_⟩
  refine XD.start haD2 ?_
  refine XD.imp r0 ?_
  rintro _ rfl
  refine XD.imp r1 ?_
  rintro v16 hD16
  refine XD.imp r2 ?_
  rintro _ ⟨tv, rfl, hS⟩
  refine XD.pure r3 ?_
  refine Y.move (by rfl) ?_
  apply XD.stepP rfl
  intro w3
  refine Y.extract (by rfl) (by rfl) ?_
  exact ⟨rfl, rfl⟩
 ·intro aD2 wD2 haD2 hCD2 hrD2
  obtain ⟨r0, r1, r2, r3, -⟩ := hrD2
  replace hb2 := hb2.ext hCD2
  refine ⟨rfl, ?_⟩
  refine XD.start haD2 ?_
  refine XD.imp r0 ?_
  rintro _ rfl
  refine XD.imp r1 ?_
  rintro v16 hD16
  refine XD.imp r2 ?_
  rintro _ ⟨tv, rfl, hS⟩
  refine XD.pure r3 ?_
  refine Y.move (by rfl) ?_
  apply XD.stepP rfl
  intro w3
  refine Y.extract (by rfl) (by rfl) ?_
  exact ⟨rfl, rfl⟩
 ·intro aD2 wD2 haD2 hCD2 hrD2
  obtain ⟨r0, r1, r2, r3, r4, -⟩ := hrD2
  replace hb2 := hb2.ext hCD2
  refine ⟨rfl, ?_⟩
  refine XD.start haD2 ?_
  refine XD.imp r0 ?_
  rintro _ rfl
  refine XD.imp r1 ?_
  rintro v16 hD16
  refine XD.imp r2 ?_
  rintro _ ⟨tv, rfl, hS⟩
  refine XD.pure r3 ?_
  refine Y.move (by rfl) ?_
  refine XD.pure r4 ?_
  refine Y.extract (by rfl) (by rfl) ?_
  apply XD.stepP rfl
  intro w3
  refine Y.assign (by rfl) ?_
  exact ⟨rfl, rfl⟩
 intro aD2 wD2 haD2 hCD2 hrD2
 obtain ⟨r0, r1, r2, r3, r4, r5, r6, -⟩ := hrD2
 replace hb2 := hb2.ext hCD2
 refine XD.start haD2 ?_
 refine XD.imp r0 ?_
 rintro _ rfl
 refine XD.imp r1 ?_
 rintro v16 hD16
 refine XD.imp r2 ?_
 rintro _ ⟨tv, rfl, hS⟩
 refine XD.pure r3 ?_
 refine Y.move (by rfl) ?_
 refine XD.pure r4 ?_
 refine Y.extract (by rfl) (by rfl) ?_
 refine XD.pure r5 ?_
 refine Y.extract (by rfl) (by rfl) ?_
 refine XD.pure r6 ?_
 refine Y.assign (by rfl) ?_
 refine XD.fin haD2 ?_
 obtain ⟨tb, rfl⟩ := hS.ptr
 show XL _ _ _ _ (List.cons _ _) _ _
 refine XL.s rfl ?_
 refine Y.assign (by rfl) ?_
 refine XL.nil ?_
 refine QN.next ?_
 refine XC.seq ?_
 refine XC.seq ?_
 refine XC.region ?_
 show XL _ _ _ _ (List.cons _ _) _ _
 refine XL.s rfl ?_
 refine Y.move (by rfl) ?_
 refine XL.s rfl ?_
 refine Y.neq (by rfl) (by rfl) ?_
 refine XL.s rfl ?_
 refine Y.move (by rfl) ?_
 refine XL.gt rfl rfl rfl rfl ?_
 refine Y.move (by rfl) ?_
 refine XL.gt rfl rfl rfl rfl ?_
 refine Y.eqlP Tryz.underlying27 (by rfl) (by rfl) ?_
 refine XL.s rfl ?_
 refine Y.pickF (by rfl) rfl (by rfl) ?_
 refine XL.nil ?_
 refine QN.next ?_
 refine XC.condF rfl ya ?_
 refine XC.skip ?_
 refine QN.next ?_
 refine XC.seq ?_
 refine XC.region ?_
 show XL _ _ _ _ (List.cons _ _) _ _
 refine XL.s rfl ?_
 refine Y.move (by rfl) ?_
 refine XL.s rfl ?_
 refine Y.call (by rfl) ok13 (putS w2 _ 1 1 _ _ _ 0 0 _ hS (by decide) (by decide) [97] (by decide) (by decide) (by decide) rfl [98, 108, 111, 98] (by decide) (by decide) (fun _ _ => rfl)) ?_
 rintro v27 w27 ⟨rfl, hS27⟩
 have hlen : ∀ i, i < 1 + 2 * 1 → ((encP 1 (1 + 2 * 1) [98, 108, 111, 98]).getD i []).length = 8 := fun i hi => by rw [encP_getD_len 1 1 _ (by decide) hi]; decide
 have hP : 20 + pieceN 1 [98, 108, 111, 98] = 28 := by decide
 have hG := put_goods (ms := fun _ _ => none) (nm := [97]) (n := 1 + 2 * 1) (L := 20 + pieceN 1 [98, 108, 111, 98]) (e := fun i => (encP 1 (1 + 2 * 1) [98, 108, 111, 98]).getD i []) (fun i hi => by show ((encP 1 (1 + 2 * 1) [98, 108, 111, 98]).getD i []).length ≤ _; rw [hlen i hi]; omega) (by decide)
 refine XL.s rfl ?_
 refine Y.assign (by rfl) ?_
 refine XL.nil ?_
 refine QN.next ?_
 refine XC.seq ?_
 refine XC.region ?_
 show XL _ _ _ _ (List.cons _ _) _ _
 refine XL.s rfl ?_
 refine Y.move (by rfl) ?_
 refine XL.s rfl ?_
 refine Y.buildSlice st49 (by rfl) (by rfl) (by omega) (by simp [Value.oneCell', byteV, strV]) ?_
 intro v30 w30 hN30
 replace hS27 := hS27.ext hN30.1
 refine XL.s rfl ?_
 refine Y.call (by rfl) ok14 (getS w2 _ 1 1 _ _ _ _ _ _ hS27 (by decide) (by decide) [97] (by decide) (by decide) (by decide) rfl [98, 108, 111, 98] (by decide) _ hG _ _ [0, 2] hN30.row (by decide)) ?_
 rintro v31 w31 ⟨rfl, hE31⟩
 replace hS27 := hS27.ext hE31
 refine XL.s rfl ?_
 refine Y.move (by rfl) ?_
 refine XL.s rfl ?_
 refine Y.extract (by rfl) (by rfl) ?_
 refine XL.s rfl ?_
 refine Y.extract (by rfl) (by rfl) ?_
 refine XL.s rfl ?_
 refine Y.assign (by rfl) ?_
 refine XL.s rfl ?_
 refine Y.assign (by rfl) ?_
 refine XL.nil ?_
 refine QN.next ?_
 refine XC.seq ?_
 refine XC.region ?_
 show XL _ _ _ _ (List.cons _ _) _ _
 refine XL.s rfl ?_
 refine Y.move (by rfl) ?_
 refine XL.s rfl ?_
 refine Y.call (by rfl) ok14 (getS_none w2 _ 1 1 _ _ _ _ _ _ hS27 (by decide) (by decide) [98] (by decide) (by decide) (by decide) rfl AnyB _ [] (Row.nil AnyB _) (by decide)) ?_
 rintro v36 w36 ⟨rfl, hE36⟩
 replace hS27 := hS27.ext hE36
 have hkey : ∀ (i : Nat) (x : List UInt8), upd ((fun _ _ => none : Nat → Fm) i) ([98, 46] ++ [97]) (some (fileB i ((encP 1 (1 + 2 * 1) [98, 108, 111, 98]).getD i []), 20 + pieceN 1 [98, 108, 111, 98])) x ≠ none → x = [98, 46, 97] := fun i x h => by simp only [upd] at h; split at h; (rename_i e; exact e); exact absurd rfl h
 have hcl : ∀ x, (fun i => upd ((fun _ _ => none : Nat → Fm) i) ([98, 46] ++ [97]) (some (fileB i ((encP 1 (1 + 2 * 1) [98, 108, 111, 98]).getD i []), 20 + pieceN 1 [98, 108, 111, 98]))) 1 x ≠ none → badF 1 ((fun i => upd ((fun _ _ => none : Nat → Fm) i) ([98, 46] ++ [97]) (some (fileB i ((encP 1 (1 + 2 * 1) [98, 108, 111, 98]).getD i []), 20 + pieceN 1 [98, 108, 111, 98]))) 1) x = false := fun x h => by
  have e := hkey 1 x h
  subst e
  have hsh := shardP_good 1 ((encP 1 (1 + 2 * 1) [98, 108, 111, 98]).getD 1 []) (by decide) (by rw [hlen 1 (by decide)]; omega)
  have hu : upd ((fun _ _ => none : Nat → Fm) 1) ([98, 46] ++ [97]) (some (fileB 1 ((encP 1 (1 + 2 * 1) [98, 108, 111, 98]).getD 1 []), 20 + pieceN 1 [98, 108, 111, 98])) [98, 46, 97] = some (fileB 1 ((encP 1 (1 + 2 * 1) [98, 108, 111, 98]).getD 1 []), 20 + pieceN 1 [98, 108, 111, 98]) := upd_same _ _ _
  simp only [badF, hu, hsh, hlen 1 (by decide)]; rfl
 refine XL.s rfl ?_
 refine Y.move (by rfl) ?_
 refine XL.s rfl ?_
 refine Y.extract (by rfl) (by rfl) ?_
 refine XL.s rfl ?_
 refine Y.extract (by rfl) (by rfl) ?_
 refine XL.s rfl ?_
 refine Y.assign (by rfl) ?_
 refine XL.s rfl ?_
 refine Y.assign (by rfl) ?_
 refine XL.nil ?_
 refine QN.next ?_
 refine XC.seq ?_
 refine XC.region ?_
 show XL _ _ _ _ (List.cons _ _) _ _
 refine XL.s rfl ?_
 refine Y.move (by rfl) ?_
 refine XL.s rfl ?_
 refine Y.call (by rfl) ok22 (scrubS_clean w2 _ 1 1 _ _ _ _ _ _ hS27 (by decide) (by decide) (by decide) 1 (by decide) (by decide) (fun x h => by rw [hkey 1 x h]; decide) hcl) ?_
 rintro v41 w41 ⟨rfl, hE41⟩
 replace hS27 := hS27.ext hE41
 refine XL.s rfl ?_
 refine Y.move (by rfl) ?_
 refine XL.s rfl ?_
 refine Y.extract (by rfl) (by rfl) ?_
 refine XL.s rfl ?_
 refine Y.extract (by rfl) (by rfl) ?_
 refine XL.s rfl ?_
 refine Y.assign (by rfl) ?_
 refine XL.s rfl ?_
 refine Y.assign (by rfl) ?_
 refine XL.nil ?_
 refine QN.next ?_
 refine XC.seq ?_
 refine XC.region ?_
 show XL _ _ _ _ (List.cons _ _) _ _
 refine XL.s rfl ?_
 refine Y.move (by rfl) ?_
 refine XL.s rfl ?_
 refine Y.call (by rfl) ok24 (repS w2 _ 1 1 _ _ _ _ _ _ hS27 (by decide) (by decide) [97] (by decide) (by decide) (by decide) rfl [98, 108, 111, 98] (by decide) _ hG (by decide) (by decide) (fun i _ => by rw [upd_other _ _ (by decide)])) ?_
 rintro v46 w46 ⟨rfl, hS46⟩
 have hcnt : cntM (fun i => upd ((fun _ _ => none : Nat → Fm) i) ([98, 46] ++ [97]) (some (fileB i ((encP 1 (1 + 2 * 1) [98, 108, 111, 98]).getD i []), 20 + pieceN 1 [98, 108, 111, 98]))) [97] (fun j => fileB j ((encP 1 (1 + 2 * 1) [98, 108, 111, 98]).getD j [])) (1 + 2 * 1) = 0 := cntM_zero fun i _ => by rw [upd_same]; rfl
 refine XL.s rfl ?_
 refine Y.move (by rfl) ?_
 refine XL.s rfl ?_
 refine Y.extract (by rfl) (by rfl) ?_
 refine XL.s rfl ?_
 refine Y.extract (by rfl) (by rfl) ?_
 refine XL.s rfl ?_
 refine Y.assign (by rfl) ?_
 refine XL.s rfl ?_
 refine Y.assign (by rfl) ?_
 refine XL.nil ?_
 refine QN.next ?_
 refine XC.seq ?_
 refine XC.region ?_
 show XL _ _ _ _ (List.cons _ _) _ _
 refine XL.s rfl ?_
 refine Y.move (by rfl) ?_
 refine XL.s rfl ?_
 refine Y.eql (by rfl) (by rfl) ?_
 refine XL.s rfl ?_
 refine Y.move (by rfl) ?_
 refine XL.gt rfl rfl rfl rfl ?_
 refine Y.move (by rfl) ?_
 refine XL.gt rfl rfl rfl rfl ?_
 refine Y.eql (by rfl) (by rfl) ?_
 refine XL.s rfl ?_
 refine Y.pickT (by rfl) rfl (by rfl) ?_
 refine XL.s rfl ?_
 refine Y.move (by rfl) ?_
 refine XL.gt rfl rfl rfl rfl ?_
 refine Y.move (by rfl) ?_
 refine XL.gt rfl rfl rfl rfl ?_
 refine Y.eqlS (by rfl) (by rfl) ?_
 refine XL.s rfl ?_
 refine Y.pickT (by rfl) rfl (by rfl) ?_
 refine XL.s rfl ?_
 refine Y.move (by rfl) ?_
 refine XL.gt rfl rfl ya rfl ?_
 refine Y.move (by rfl) ?_
 refine XL.gt rfl rfl ya rfl ?_
 refine Y.eql (by rfl) (by rfl) ?_
 refine XL.s rfl ?_
 refine Y.pickT (by rfl) ya (by rfl) ?_
 refine XL.s rfl ?_
 refine Y.move (by rfl) ?_
 refine XL.gt rfl rfl rfl rfl ?_
 refine Y.move (by rfl) ?_
 refine XL.gt rfl rfl rfl rfl ?_
 refine Y.eql (by rfl) (by rfl) ?_
 refine XL.s rfl ?_
 refine Y.pickT (by rfl) rfl (by rfl) ?_
 refine XL.s rfl ?_
 refine Y.move (by rfl) ?_
 refine XL.gt rfl rfl rfl rfl ?_
 refine Y.move (by rfl) ?_
 refine XL.gt rfl rfl rfl rfl ?_
 refine Y.len Tryz.underlying56 (by rfl) (Row.nil AnyB _) ?_
 refine XL.gt rfl rfl rfl rfl ?_
 refine Y.eql (by rfl) (by rfl) ?_
 refine XL.s rfl ?_
 refine Y.pickT (by rfl) rfl (by rfl) ?_
 refine XL.s rfl ?_
 refine Y.move (by rfl) ?_
 refine XL.gt rfl rfl rfl rfl ?_
 refine Y.move (by rfl) ?_
 refine XL.gt rfl rfl rfl rfl ?_
 refine Y.eql (by rfl) (by rfl) ?_
 refine XL.s rfl ?_
 refine Y.pickT (by rfl) rfl (by rfl) ?_
 refine XL.s rfl ?_
 refine Y.move (by rfl) ?_
 refine XL.gt rfl rfl (by rw [hcnt]; rfl) rfl ?_
 refine Y.move (by rfl) ?_
 refine XL.gt rfl rfl (by rw [hcnt]; rfl) rfl ?_
 refine Y.eql (by rfl) (by rfl) ?_
 refine XL.s rfl ?_
 refine Y.pickT (by rfl) (by rw [hcnt]; rfl) (by rfl) ?_
 refine XL.s rfl ?_
 refine Y.move (by rfl) ?_
 refine XL.gt rfl rfl rfl rfl ?_
 refine Y.move (by rfl) ?_
 refine XL.gt rfl rfl rfl rfl ?_
 refine Y.call (by rfl) ok16 (diskS_no w2 _ 1 1 _ _ _ _ _ _ hS46 (by decide) (by decide) (by decide)) ?_
 rintro v82 w82 ⟨rfl, hE82⟩
 refine XL.gt rfl rfl rfl rfl ?_
 refine Y.eqlP Tryz.underlying41 (by rfl) (by rfl) ?_
 refine XL.s rfl ?_
 refine Y.pickT (by rfl) rfl (by rfl) ?_
 refine XL.s rfl ?_
 refine Y.move (by rfl) ?_
 refine XL.gt rfl rfl ya rfl ?_
 refine Y.move (by rfl) ?_
 refine XL.gt rfl rfl ya rfl ?_
 refine Y.call (by rfl) ok16 (diskS w2 _ 1 1 _ _ _ _ _ _ (hS46.ext hE82) (by decide) (by decide) (by decide) 0 (by decide)) ?_
 rintro v87 w87 ⟨hD87, hE87⟩
 obtain ⟨db, rfl⟩ := hD87.ptr
 refine XL.gt rfl rfl ya rfl ?_
 refine Y.neqP Tryz.underlying41 (by rfl) (by rfl) ?_
 refine XL.s rfl ?_
 refine Y.pickT (by rfl) ya (by rfl) ?_
 refine XL.s rfl ?_
 refine Y.assign (by rfl) ?_
 refine XL.nil ?_
 refine QN.next ?_
 refine XC.ret ?_
 refine QN.done1 (fn := Tryz.f8) (R := R) (.inl rfl) rfl rfl ?_
 refine hR _ _ ?_
 exact ⟨rfl, hE2.trans ((hS46.ext hE82).ext hE87).1⟩
end Go.Proofs.YtchammpamigonaaGreatX
end
section
namespace Go.Proofs.YtchammpamigonaaGreatX
open Go Go.RowKit
def spGi (ss : List Sp) (i : Nat) : Bool := spG (ss.getD i ⟨0, 0, 0⟩)
theorem spG_get (ss : List Sp) (n : Nat) (hn : n ≤ ss.length) : ∀ i, i < n → (boolsV ((ss.take n).map spG))[i]? = some (.bool (spGi ss i)) := fun i hi => by
  have h1 : i < ((ss.take n).map spG).length := by simp; omega
  rw [boolsV_get _ _ h1]
  simp [spGi, List.getD_eq_getElem?_getD, show i < ss.length by omega]
theorem spG_act {s : Sp} (h : spG s = true) : s.act.toNat % 5 ≠ 4 := by
  unfold spG at h
  split at h
  · omega
  · simp at h; omega
theorem countP_good (ss : List Sp) : ∀ n, n ≤ ss.length → countP ((ss.take n).map spG) = goodN (spGi ss) [] n
  | 0, _ => rfl
  | n + 1, h => by
    rw [goodN_succ, ← countP_good ss n (by omega)]
    have h1 : (ss.take (n + 1)).map spG = (ss.take n).map spG ++ [spGi ss n] := by
      rw [List.take_succ_eq_append_getElem (by omega), List.map_append]
      refine congrArg (_ ++ ·) ?_
      simp [spGi, List.getD_eq_getElem?_getD, show n < ss.length by omega]
    rw [h1]
    simp only [countP, List.filter_append, List.length_append]
    congr 1
    cases spGi ss n <;> simp
end Go.Proofs.YtchammpamigonaaGreatX
end
section
namespace Go.Proofs.YtchammpamigonaaGreatX
open Go Go.RowKit
def sqM (m : Fm) (nm : List UInt8) (g : Bool) : Fm := if g then m else upd (upd m ([98, 46] ++ nm) none) ([113, 46] ++ nm) (m ([98, 46] ++ nm))
theorem key_ne (nm nm' : List UInt8) : ([113, 46] ++ nm : List UInt8) ≠ [98, 46] ++ nm' := by simp
section
variable {m : Fm} {nm : List UInt8} {g : Bool} {i : Nat}
theorem sqM_q (h1 : ∀ x, m x ≠ none → x = [98, 46] ++ nm) : sqM m nm g ([113, 46] ++ nm) = if g then none else m ([98, 46] ++ nm) := by
  unfold sqM
  cases g with
  | true =>
    simp only [if_true]
    cases h : m ([113, 46] ++ nm) with
    | none => rfl
    | some v => exact absurd (h1 _ (by rw [h]; simp)) (key_ne nm nm)
  | false => simp only [Bool.false_eq_true, if_false]; exact upd_same _ _ _
theorem sqM_b : sqM m nm g ([98, 46] ++ nm) = if g then m ([98, 46] ++ nm) else none := by
  unfold sqM
  cases g with
  | true => rfl
  | false => simp only [Bool.false_eq_true, if_false]; rw [upd_other _ _ (key_ne nm nm).symm, upd_same]
theorem sqM_o {x : List UInt8} (h1 : ∀ x, m x ≠ none → x = [98, 46] ++ nm) (hx : sqM m nm g x ≠ none) : x = [98, 46] ++ nm ∨ x = [113, 46] ++ nm := by
  by_cases e1 : x = [113, 46] ++ nm
  · exact .inr e1
  by_cases e2 : x = [98, 46] ++ nm
  · exact .inl e2
  refine .inl (h1 x ?_)
  unfold sqM at hx
  cases g with
  | true => exact hx
  | false => simp only [Bool.false_eq_true, if_false] at hx; rwa [upd_other _ _ e1, upd_other _ _ e2] at hx
theorem scrub_sp (h1 : ∀ x, m x ≠ none → x = [98, 46] ++ nm) (hb : m ([98, 46] ++ nm) ≠ none → badF i m ([98, 46] ++ nm) = !g) (hg : g = true → m ([98, 46] ++ nm) ≠ none) {ss : List (List UInt8)} (hn : ss.Nodup) (hm : ∀ x, x ∈ ss ↔ m x ≠ none) :
    scrubM i m ss = sqM m nm g ∧ scrubO i m ss = if !g && (m ([98, 46] ++ nm)).isSome then [nm] else [] := by
  by_cases hk : m ([98, 46] ++ nm) = none
  · have hs : ss = [] := by
      cases ss with
      | nil => rfl
      | cons a r => exact absurd hk (by have := (hm a).1 (by simp); rwa [h1 a this] at this)
    have hgf : g = false := by
      cases g with
      | true => exact absurd hk (hg rfl)
      | false => rfl
    subst hs; subst hgf
    refine ⟨?_, by rw [hk]; rfl⟩
    funext x
    show m x = _
    by_cases e1 : x = [113, 46] ++ nm
    · subst e1
      rw [sqM_q h1, hk]
      cases h : m ([113, 46] ++ nm) with
      | none => rfl
      | some v => exact absurd (h1 _ (by rw [h]; simp)) (key_ne nm nm)
    · by_cases e2 : x = [98, 46] ++ nm
      · subst e2; rw [sqM_b, hk]; rfl
      · unfold sqM; simp only [Bool.false_eq_true, if_false]; rw [upd_other _ _ e1, upd_other _ _ e2]
  · have hs : ss = [[98, 46] ++ nm] := by
      have hin := (hm _).2 hk
      cases ss with
      | nil => simp at hin
      | cons a r =>
        have ha := h1 a ((hm a).1 (by simp))
        subst ha
        cases r with
        | nil => rfl
        | cons b r' =>
          have hb' := h1 b ((hm b).1 (by simp))
          subst hb'
          simp at hn
    subst hs
    have hb' := hb hk
    obtain ⟨v, hv⟩ := Option.ne_none_iff_exists'.1 hk
    cases g with
    | true =>
      simp only [scrubM, List.foldl_cons, List.foldl_nil, scrub1, scrubO, hb']
      exact ⟨rfl, rfl⟩
    | false =>
      simp only [scrubM, List.foldl_cons, List.foldl_nil, scrub1, scrubO, hb', hv]
      exact ⟨by unfold sqM; rw [hv]; rfl, rfl⟩
end
def sqMs (k F : Nat) (nm bl : List UInt8) (ss : List Sp) (i q : Nat) : Fm := if q < i then sqM (spMs k F nm bl ss q) nm (spGi ss q) else spMs k F nm bl ss q
section
variable {k F : Nat} {nm bl : List UInt8} {ss : List Sp} {i : Nat}
theorem sqMs_zero : sqMs k F nm bl ss 0 = spMs k F nm bl ss := by funext q; simp [sqMs]
theorem sqMs_self : sqMs k F nm bl ss i i = spMs k F nm bl ss i := by simp [sqMs]
theorem sqMs_done : sqMs k F nm bl ss (i + 1) i = sqM (spMs k F nm bl ss i) nm (spGi ss i) := by simp [sqMs]
theorem sp_one {x : List UInt8} (h : spMs k F nm bl ss i x ≠ none) : x = [98, 46] ++ nm := by
  simp only [spMs, spM] at h
  by_cases e : x = [98, 46] ++ nm
  · exact e
  · rw [if_neg e] at h; exact absurd rfl h
theorem sp_key : spMs k F nm bl ss i ([98, 46] ++ nm) = none ↔ (ss.getD i ⟨0, 0, 0⟩).act.toNat % 5 = 4 := by
  simp only [spMs, spM, if_true]; exact spF_none _ _
theorem sp_good (hg : spGi ss i = true) : spMs k F nm bl ss i ([98, 46] ++ nm) ≠ none := fun h => spG_act hg (sp_key.1 h)
theorem sp_badF (hk : 1 ≤ k) (hF : k + 2 * F ≤ 7) (hbl : bl.length ≤ 512) (hi : i < k + 2 * F) (h : spMs k F nm bl ss i ([98, 46] ++ nm) ≠ none) : badF i (spMs k F nm bl ss i) ([98, 46] ++ nm) = !spGi ss i := by
  have h1 := spMs_goods k F nm bl ss hk hF hbl i hi
  obtain ⟨⟨d, s⟩, hd⟩ := Option.ne_none_iff_exists'.1 h
  have hl : 0 < ((encP k (k + 2 * F) bl).getD i []).length := by rw [encP_getD_len k F bl hk hi]; exact pieceN_pos bl hk
  simp only [shardAt] at h1
  rw [hd] at h1
  simp only at h1
  have hp : hasP ([98, 46] ++ nm) [98, 46] = true := by simp [hasP]
  unfold badF
  rw [hd, hp]
  simp only [Bool.true_and, h1]
  show decide (List.length (if spGi ss i = true then _ else _) = 0) = _
  cases hg : spGi ss i with
  | true => simp only [if_true]; exact decide_eq_false (by omega)
  | false => rfl
theorem sq_scrub (hk : 1 ≤ k) (hF : k + 2 * F ≤ 7) (hbl : bl.length ≤ 512) (hi : i < k + 2 * F) {sn : List (List UInt8)} (hn : sn.Nodup) (hm : ∀ x, x ∈ sn ↔ sqMs k F nm bl ss i i x ≠ none) :
    scrubO i (sqMs k F nm bl ss i i) sn = (if !spGi ss i && !decide ((ss.getD i ⟨0, 0, 0⟩).act.toNat % 5 = 4) then [nm] else []) ∧ ∀ q, (if q = i then scrubM i (sqMs k F nm bl ss i i) sn else sqMs k F nm bl ss i q) = sqMs k F nm bl ss (i + 1) q := by
  rw [sqMs_self] at hm ⊢
  obtain ⟨h1, h2⟩ := scrub_sp (i := i) (g := spGi ss i) (fun x => sp_one (i := i)) (sp_badF hk hF hbl hi) sp_good hn hm
  refine ⟨?_, fun q => ?_⟩
  · rw [h2]
    have : (spMs k F nm bl ss i ([98, 46] ++ nm)).isSome = !decide ((ss.getD i ⟨0, 0, 0⟩).act.toNat % 5 = 4) := by
      by_cases e : (ss.getD i ⟨0, 0, 0⟩).act.toNat % 5 = 4
      · rw [sp_key.2 e, decide_eq_true e]; rfl
      · rw [decide_eq_false e]
        obtain ⟨v, hv⟩ := Option.ne_none_iff_exists'.1 (fun h => e ((sp_key (k := k) (F := F) (nm := nm) (bl := bl)).1 h))
        rw [hv]; rfl
    rw [this]
  · by_cases e : q = i
    · subst e; rw [if_pos rfl, h1, sqMs_done]
    · rw [if_neg e]
      unfold sqMs
      by_cases h : q < i
      · rw [if_pos h, if_pos (by omega)]
      · rw [if_neg h, if_neg (by omega)]
theorem sq_len (hnm : nm.length ≤ 16) {x : List UInt8} (h : sqMs k F nm bl ss i i x ≠ none) : 1 ≤ x.length ∧ x.length ≤ 24 := by
  rw [sqMs_self] at h; rw [sp_one h]; simp; omega
end
end Go.Proofs.YtchammpamigonaaGreatX
end
section
namespace Go.Proofs.YtchammpamigonaaGreatX
open Go Go.RowKit
theorem mendP_q (m : Fm) (nm want : List UInt8) : mendP m nm want ([113, 46] ++ nm) = none := by
  unfold mendP
  split
  · exact upd_same _ _ _
  · rw [upd_other _ _ (key_ne nm nm), upd_same]
theorem mendP_o (m : Fm) (nm want : List UInt8) {x : List UInt8} (h1 : x ≠ [98, 46] ++ nm) (h2 : x ≠ [113, 46] ++ nm) : mendP m nm want x = m x := by
  unfold mendP
  split
  · rw [upd_other _ _ h2]
  · rw [upd_other _ _ h1, upd_other _ _ h2]
section
variable {k F : Nat} {nm bl : List UInt8} {ss : List Sp} {i q : Nat}
theorem sqMs_b (k F : Nat) (nm bl : List UInt8) (ss : List Sp) (i q : Nat) : sqMs k F nm bl ss i q ([98, 46] ++ nm) = if q < i then (if spGi ss q then spMs k F nm bl ss q ([98, 46] ++ nm) else none) else spMs k F nm bl ss q ([98, 46] ++ nm) := by
  unfold sqMs
  split
  · exact sqM_b
  · rfl
theorem sqMs_goods (hk : 1 ≤ k) (hF : k + 2 * F ≤ 7) (hbl : bl.length ≤ 512) : Goods (sqMs k F nm bl ss i) nm (k + 2 * F) (fun j => (encP k (k + 2 * F) bl).getD j []) (spGi ss) := by
  intro q hq
  have h : shardAt (spMs k F nm bl ss q) nm q = if spGi ss q = true then (encP k (k + 2 * F) bl).getD q [] else [] := spMs_goods k F nm bl ss hk hF hbl q hq
  show shardAt _ nm q = if spGi ss q = true then (encP k (k + 2 * F) bl).getD q [] else []
  unfold shardAt at h ⊢
  rw [sqMs_b]
  by_cases hqi : q < i
  · rw [if_pos hqi]
    cases hg : spGi ss q with
    | true =>
      rw [hg] at h
      simpa using h
    | false => rfl
  · rw [if_neg hqi]; exact h
theorem sqMs_t : sqMs k F nm bl ss i q [116, 46] = none := by
  by_cases h : sqMs k F nm bl ss i q [116, 46] = none
  · exact h
  · exfalso
    unfold sqMs at h
    split at h
    · rcases sqM_o (fun x => sp_one (i := q)) h with e | e <;> simp at e
    · have := sp_one h; simp at this
theorem sqMs_g (hk : 1 ≤ k) (hF : k + 2 * F ≤ 7) (hbl : bl.length ≤ 512) (hq : q < k + 2 * F) (hg : spGi ss q = true) : sqMs k F nm bl ss i q ([98, 46] ++ nm) = some (fileB q ((encP k (k + 2 * F) bl).getD q []), (fileB q ((encP k (k + 2 * F) bl).getD q [])).length) := by
  have h : spMs k F nm bl ss q ([98, 46] ++ nm) = some (fileB q ((encP k (k + 2 * F) bl).getD q []), (fileB q ((encP k (k + 2 * F) bl).getD q [])).length) := by
    simp only [spMs, spM, if_true]
    exact spF_good _ _ hg (by rw [fileB_length]; omega)
  rw [sqMs_b, hg, h]; simp
theorem sqMs_n (hk : 1 ≤ k) (hF : k + 2 * F ≤ 7) (hbl : bl.length ≤ 512) (hq : q < k + 2 * F) (hg : spGi ss q = false) : (sqMs k F nm bl ss i q ([98, 46] ++ nm)).map (·.1) ≠ some (fileB q ((encP k (k + 2 * F) bl).getD q [])) := by
  intro h
  have hG := sqMs_goods (nm := nm) (ss := ss) (i := i) hk hF hbl q hq
  rw [hg] at hG
  simp only [shardAt] at hG
  have hl : ((encP k (k + 2 * F) bl).getD q []).length = pieceN k bl := encP_getD_len k F bl hk hq
  have hp := pieceN_pos bl hk
  have hpl := padB_le bl hk
  have hql := pieceN_le bl hk
  cases hm : sqMs k F nm bl ss i q ([98, 46] ++ nm) with
  | none => rw [hm] at h; simp at h
  | some v =>
    obtain ⟨d, y⟩ := v
    rw [hm] at h hG
    have e : d = fileB q ((encP k (k + 2 * F) bl).getD q []) := by simpa using h
    subst e
    have h2 := shardP_good q ((encP k (k + 2 * F) bl).getD q []) (by omega) (by omega)
    have h3 : (encP k (k + 2 * F) bl).getD q [] = [] := h2.symm.trans (by simpa using hG)
    rw [h3] at hl
    simp at hl; omega
theorem sq_cnt (hk : 1 ≤ k) (hF : k + 2 * F ≤ 7) (hbl : bl.length ≤ 512) : ∀ n, n ≤ k + 2 * F → cntM (sqMs k F nm bl ss i) nm (fun j => fileB j ((encP k (k + 2 * F) bl).getD j [])) n + goodN (spGi ss) [] n = n
  | 0, _ => rfl
  | n + 1, h => by
    have ih := sq_cnt hk hF hbl n (by omega)
    rw [cntM_succ, goodN_succ]
    cases hg : spGi ss n with
    | true =>
      have e : mendC (sqMs k F nm bl ss i n) nm (fileB n ((encP k (k + 2 * F) bl).getD n [])) = 0 := by
        unfold mendC; rw [sqMs_g hk hF hbl (by omega) hg]; exact if_pos rfl
      rw [e, if_pos (by simp)]; omega
    | false =>
      have e : mendC (sqMs k F nm bl ss i n) nm (fileB n ((encP k (k + 2 * F) bl).getD n [])) = 1 := by
        unfold mendC; exact if_neg (sqMs_n hk hF hbl (by omega) hg)
      rw [e, if_neg (by simp)]; omega
theorem sq_mend (hk : 1 ≤ k) (hF : k + 2 * F ≤ 7) (hbl : bl.length ≤ 512) (hq : q < k + 2 * F) : mendP (sqMs k F nm bl ss i q) nm (fileB q ((encP k (k + 2 * F) bl).getD q [])) ([98, 46] ++ nm) = some (fileB q ((encP k (k + 2 * F) bl).getD q []), (fileB q ((encP k (k + 2 * F) bl).getD q [])).length) := by
  unfold mendP
  cases hg : spGi ss q with
  | true => rw [if_pos (by rw [sqMs_g hk hF hbl hq hg]; rfl), upd_other _ _ (key_ne nm nm).symm, sqMs_g hk hF hbl hq hg]
  | false => rw [if_neg (sqMs_n hk hF hbl hq hg)]; exact upd_same _ _ _
theorem goods_of (ms : Nat → Fm) (hk : 1 ≤ k) (hF : k + 2 * F ≤ 7) (hbl : bl.length ≤ 512) (h : ∀ q, q < k + 2 * F → (ms q ([98, 46] ++ nm)).map (·.1) = some (fileB q ((encP k (k + 2 * F) bl).getD q []))) : Goods ms nm (k + 2 * F) (fun j => (encP k (k + 2 * F) bl).getD j []) (fun _ => true) := by
  intro q hq
  have hl : ((encP k (k + 2 * F) bl).getD q []).length = pieceN k bl := encP_getD_len k F bl hk hq
  have hpl := padB_le bl hk
  have hql := pieceN_le bl hk
  have h1 := h q hq
  simp only [shardAt, if_true]
  cases hm : ms q ([98, 46] ++ nm) with
  | none => rw [hm] at h1; simp at h1
  | some v =>
    obtain ⟨d, y⟩ := v
    rw [hm] at h1
    have e : d = fileB q ((encP k (k + 2 * F) bl).getD q []) := by simpa using h1
    subst e
    exact shardP_good q _ (by omega) (by omega)
end
end Go.Proofs.YtchammpamigonaaGreatX
end
section
set_option linter.unusedVariables false
set_option linter.unusedSimpArgs false
set_option maxRecDepth 10000
set_option maxHeartbeats 4000000
namespace Go.Proofs.YtchammpamigonaaGreatX
open Go Go.RowKit Go.Proofs
theorem repairs_ok (a b : UInt8) (bl : List UInt8) (ss : List Sp) (first : Bool) (w : World) (hss : ss.length = 7) (hbl : bl.length ≤ 9223372036854775807) :
  Rets Tryz.prog 7 #[byteV a, byteV b, strV bl, .agg (spCs ss).toArray, .bool first] w fun v w' => v = .bool true ∧ Ext w w' := by
 refine Rets.enter (args := [byteV a, byteV b, strV bl, .agg (spCs ss).toArray, .bool first]) (n := 145) Tryz.func7 rfl rfl rfl ?_
 intro R hR
 show XC _ _ _ _ [(0, byteV a), (1, byteV b), (2, strV bl), (3, .agg (spCs ss).toArray), (4, .bool first)] _
 refine XC.seq ?_
 refine XC.region ?_
 show XL _ _ _ _ (List.cons _ _) _ _
 refine XL.s rfl ?_
 refine Y.box (by rfl) ?_
 intro b8 w8 hb8 hz8 hE8
 have hbB : HB w8 b8 (.cells (spCs ss).toArray 48 (0, 0)) := hb8
 refine XL.s rfl ?_
 refine Y.assign (by rfl) ?_
 refine XL.nil ?_
 refine QN.next ?_
 refine XC.seq ?_
 refine XC.region ?_
 show XL _ _ _ _ (List.cons _ _) _ _
 refine XL.s rfl ?_
 refine Y.move (by rfl) ?_
 refine XL.s rfl ?_
 refine Y.move (by rfl) ?_
 refine XL.s rfl ?_
 refine Y.call (by rfl) ok19 (shape_ok a b _) ?_
 rintro vS wS ⟨k, F, hk, hF, rfl, hES⟩
 refine XL.s rfl ?_
 refine Y.alloc zt23 ?_
 intro b11 w11 hb11 hz11 hE11
 refine XL.o ?_
 refine Y.storeA (cs := [.int .i64 (k : Int), .int .i64 (F : Int)]) agg23 (by rfl) (by rfl) hb11 rfl rfl (by intro c hc; simp at hc; rcases hc with rfl | rfl <;> rfl) ?_
 intro w2 hb2 hC2 hz2
 have hE2 : Ext w w2 := ((hE8.trans hES).trans hE11).chgNew hC2 (fun x hx => by have := hE8.size; have := hES.size; omega)
 have hsh : HB w2 b11 (.cells (Value.cells (shapeV (k : Int) (F : Int))) 23 (0, 0)) := hb2
 have hbB2 : HB w2 b8 (.cells (spCs ss).toArray 48 (0, 0)) := ((hbB.ext hES).ext hE11).chg hC2 (fun h => by have := hbB.lt; have := hES.size; omega)
 refine XL.nil ?_
 refine QN.next ?_
 refine XC.seq ?_
 refine XC.seq ?_
 by_cases hl1 : bl.length ≤ 512
 ·skip
  refine XC.region ?_
  show XL _ _ _ _ (List.cons _ _) _ _
  refine XL.s rfl ?_
  refine Y.call (by rfl) ok8 (awake_ok _) ?_
  rintro vA wA ⟨rfl, hEA⟩
  refine XL.s rfl ?_
  refine Y.not (by rfl) ?_
  refine XL.s rfl ?_
  refine Y.move (by rfl) ?_
  refine XL.gt rfl rfl rfl rfl ?_
  refine Y.move (by rfl) ?_
  refine XL.gt rfl rfl rfl rfl ?_
  refine Y.lenS Tryz.underlying9 (by rfl) ?_
  refine XL.gt rfl rfl rfl rfl ?_
  refine Y.gtr (by rfl) (by rfl) ?_
  refine XL.s rfl ?_
  refine Y.pickF (by rfl) rfl (by rfl) ?_
  refine XL.nil ?_
  refine QN.next ?_
  refine XC.condF rfl ya ?_
  have hE0 := hE2.trans hEA
  refine XC.skip ?_
  refine QN.next ?_
  refine XC.seq ?_
  refine XC.region ?_
  show XL _ _ _ _ (List.cons _ _) _ _
  refine XL.s rfl ?_
  refine Y.loadA agg23 (by rfl) rfl (shapeA (hsh.ext hEA)) ?_
  refine XL.s rfl ?_
  refine Y.move (by rfl) ?_
  refine XL.s rfl ?_
  refine Y.loadA agg48 (by rfl) (by rw [spCs_length, hss]) (fun j u hu => cell_arr (hbB2.ext hEA) (by rw [Nat.zero_add]; exact hu)) ?_
  refine XL.s rfl ?_
  refine Y.call (by rfl) ok20 (spoilt_ok k F [98, 108, 111, 98] bl ss _ hk hF (by decide) hl1 hss) ?_
  rintro v4 w4 ⟨da, gv, rfl, hDB, hE4⟩
  obtain ⟨dvs, Fd, hdr, hdl, hdd, hgr, hgl⟩ := hDB.out
  refine XL.s rfl ?_
  refine Y.move (by rfl) ?_
  refine XL.s rfl ?_
  refine Y.extract (by rfl) (by rfl) ?_
  refine XL.s rfl ?_
  refine Y.extract (by rfl) (by rfl) ?_
  refine XL.s rfl ?_
  refine Y.assign (by rfl) ?_
  refine XL.s rfl ?_
  refine Y.assign (by rfl) ?_
  refine XL.nil ?_
  refine QN.next ?_
  refine XC.seq ?_
  refine XC.region ?_
  show XL _ _ _ _ (List.cons _ _) _ _
  refine XL.s rfl ?_
  refine Y.loadA agg23 (by rfl) rfl (shapeA ((hsh.ext hEA).ext hE4)) ?_
  refine XL.s rfl ?_
  refine Y.move (by rfl) ?_
  refine XL.s rfl ?_
  refine Y.call (by rfl) ok10 (newS k F _ hk hF _ _ dvs hdr hdl Fd 6000 (spMs k F [98, 108, 111, 98] bl ss) 700 1 hdd (by omega) (by omega)) ?_
  rintro v5 w5 ⟨tv, rfl, hS⟩
  obtain ⟨tb, rfl⟩ := hS.ptr
  have hgi := spG_get ss (k + 2 * F) (by omega)
  have hsh5 := ((hsh.ext hEA).ext hE4).ext hS.1
  have hbB5 := ((hbB2.ext hEA).ext hE4).ext hS.1
  have hgr5 := hgr.ext hS.1
  have hE5 := (hE0.trans hE4).trans hS.1
  have hG := spMs_goods k F [98, 108, 111, 98] bl ss hk hF hl1
  refine XL.s rfl ?_
  refine Y.move (by rfl) ?_
  refine XL.s rfl ?_
  refine Y.extract (by rfl) (by rfl) ?_
  refine XL.s rfl ?_
  refine Y.extract (by rfl) (by rfl) ?_
  refine XL.s rfl ?_
  refine Y.assign (by rfl) ?_
  refine XL.s rfl ?_
  refine Y.assign (by rfl) ?_
  refine XL.nil ?_
  refine QN.next ?_
  refine XC.seq ?_
  refine XC.seq ?_
  refine XC.region ?_
  show XL _ _ _ _ (List.cons _ _) _ _
  refine XL.s rfl ?_
  refine Y.move (by rfl) ?_
  refine XL.s rfl ?_
  refine Y.neq (by rfl) (by rfl) ?_
  refine XL.s rfl ?_
  refine Y.move (by rfl) ?_
  refine XL.gt rfl rfl rfl rfl ?_
  refine Y.move (by rfl) ?_
  refine XL.gt rfl rfl rfl rfl ?_
  refine Y.eqlP Tryz.underlying27 (by rfl) (by rfl) ?_
  refine XL.s rfl ?_
  refine Y.pickF (by rfl) rfl (by rfl) ?_
  refine XL.nil ?_
  refine QN.next ?_
  refine XC.condF rfl ya ?_
  rw [← sqMs_zero] at hS
  have hE04 := hE0.trans hE4
  have hshF := (hsh.ext hEA).ext hE4
  refine XC.skip ?_
  refine QN.next ?_
  refine XC.seq ?_
  refine XC.seq ?_
  refine XC.region ?_
  show XL _ _ _ _ (List.cons _ _) _ _
  refine XL.s rfl ?_
  refine Y.assign (by rfl) ?_
  refine XL.nil ?_
  refine QN.next ?_
  refine XC.block ?_
  refine XC.loop (α := Nat) (fun i => [(2, strV bl), (4, .bool first), (11, .pointer (some ⟨b11, 0, none⟩)), (13, gv), (14, .pointer (some ⟨tb, 0, none⟩)), (16, .int .i64 i)]) (fun i wr => i ≤ k + 2 * F ∧ StoreS 66 79 82 5 w4 wr (.pointer (some ⟨tb, 0, none⟩)) k F (k + 2 * F) 6000 (sqMs k F [98, 108, 111, 98] bl ss i) 700 1) (fun i => k + 2 * F - i) (0) ?_ ?_ ?_
  ·exact ⟨rfl, rfl, rfl, rfl, rfl, rfl, trivial⟩
  ·exact ⟨by omega, hS⟩
  ·rintro i wr hI
   obtain ⟨hi, hSx⟩ := hI
   refine XC.seq ?_
   refine XC.seq ?_
   by_cases hi' : i < k + 2 * F
   ·skip
    by_cases hf : first = true
    ·skip
     refine XC.region ?_
     show XL _ _ _ _ (List.cons _ _) _ _
     refine XL.s rfl ?_
     refine Y.move (by rfl) ?_
     refine XL.s rfl ?_
     refine Y.move (by rfl) ?_
     refine XL.s rfl ?_
     refine Y.len Tryz.underlying51 (by rfl) (hgr.ext hSx.1) ?_
     refine XL.s rfl ?_
     refine Y.lss (by rfl) (by rfl) ?_
     refine XL.s rfl ?_
     refine Y.move (by rfl) ?_
     refine XL.gt rfl rfl ya rfl ?_
     refine Y.move (by rfl) ?_
     refine XL.s rfl ?_
     refine Y.pickT (by rfl) ya (by rfl) ?_
     refine XL.nil ?_
     refine QN.next ?_
     refine XC.condT rfl ya ?_
     refine XC.skip ?_
     refine QN.next ?_
     refine XC.seq ?_
     refine XC.block ?_
     refine XC.region ?_
     show XL _ _ _ _ (List.cons _ _) _ _
     refine XL.s rfl ?_
     refine Y.move (by rfl) ?_
     refine XL.s rfl ?_
     refine Y.move (by rfl) ?_
     refine XL.s rfl ?_
     refine Y.call (by rfl) ok22 (scrubS w4 _ k F _ _ _ _ _ _ hSx (by omega) (by omega) hF i hi' (by omega) (fun x h => sq_len (by decide) h)) ?_
     rintro v68 w68 ⟨sn, hsn, hsm, qa, rfl, hrow, hS68⟩
     obtain ⟨e1, e2⟩ := sq_scrub (nm := [98, 108, 111, 98]) hk hF hl1 hi' hsn hsm
     replace hS68 := hS68.cast (fun q _ => e2 q)
     refine XL.nil ?_
     refine QN.blk ?_
     refine QN.next ?_
     refine XC.region ?_
     show XL _ _ _ _ (List.cons _ _) _ _
     refine XL.s rfl ?_
     refine Y.move (by rfl) ?_
     refine XL.s rfl ?_
     refine Y.add (by rfl) (by rfl) (wrap64 (by omega) (by omega)) ?_
     refine XL.s rfl ?_
     refine Y.assign (by rfl) ?_
     refine XL.nil ?_
     refine QN.again (i + 1) ?_ ?_ ?_
     ·exact ⟨rfl, rfl, rfl, rfl, rfl, rfl, trivial⟩
     ·exact ⟨by omega, hS68⟩
     ·first | omega | (simp only []; omega) | (simp; omega)
    ·skip
     refine XC.region ?_
     show XL _ _ _ _ (List.cons _ _) _ _
     refine XL.s rfl ?_
     refine Y.move (by rfl) ?_
     refine XL.s rfl ?_
     refine Y.move (by rfl) ?_
     refine XL.s rfl ?_
     refine Y.len Tryz.underlying51 (by rfl) (hgr.ext hSx.1) ?_
     refine XL.s rfl ?_
     refine Y.lss (by rfl) (by rfl) ?_
     refine XL.s rfl ?_
     refine Y.move (by rfl) ?_
     refine XL.gt rfl rfl ya rfl ?_
     refine Y.move (by rfl) ?_
     refine XL.s rfl ?_
     refine Y.pickT (by rfl) ya (by rfl) ?_
     refine XL.nil ?_
     refine QN.next ?_
     refine XC.condF rfl (by simpa using hf) ?_
     have hSR := hSx
     have hcnt := sq_cnt (i := i) (nm := [98, 108, 111, 98]) (ss := ss) hk hF hl1 (k + 2 * F) (Nat.le_refl _)
     have hgle := goodN_le (spGi ss) [] (k + 2 * F)
     have hpl := padB_le bl hk
     have hql := pieceN_le bl hk
     have hcp := countP_good ss (k + 2 * F) (by omega)
     have hGs := sqMs_goods (nm := [98, 108, 111, 98]) (ss := ss) (i := i) hk hF hl1
     refine XC.exit ?_
     refine QN.thenE ?_
     refine QN.thenE ?_
     refine QN.hit ?_
     refine QN.next ?_
     refine XC.seq ?_
     by_cases hgk : k ≤ goodN (spGi ss) [] (k + 2 * F)
     ·skip
      refine XC.region ?_
      show XL _ _ _ _ (List.cons _ _) _ _
      refine XL.s rfl ?_
      refine Y.move (by rfl) ?_
      refine XL.s rfl ?_
      refine Y.call (by rfl) ok24 (repS w4 _ k F _ _ _ _ _ _ hSR (by omega) (by omega) [98, 108, 111, 98] (by decide) hk hF rfl bl hl1 _ hGs hgk (by omega) (fun q _ => sqMs_t)) ?_
      rintro v71 w71 ⟨rfl, hS71⟩
      have hsh7 := hshF.ext hS71.1
      have hgr7 := hgr.ext hS71.1
      have hgB7 : Bools (fun b => wA.heap.size ≤ b) w71 gv ((ss.take (k + 2 * F)).map spG) := by rw [Bools, hgl]; exact hgr7
      refine XL.s rfl ?_
      refine Y.move (by rfl) ?_
      refine XL.s rfl ?_
      refine Y.extract (by rfl) (by rfl) ?_
      refine XL.s rfl ?_
      refine Y.extract (by rfl) (by rfl) ?_
      refine XL.s rfl ?_
      refine Y.assign (by rfl) ?_
      refine XL.s rfl ?_
      refine Y.assign (by rfl) ?_
      refine XL.nil ?_
      refine QN.next ?_
      refine XC.seq ?_
      refine XC.seq ?_
      apply XC.drop [23, 27, 28, 29, 30, 31, 32, 33, 34, 35, 36, 37, 38, 39, 40, 41, 42, 43, 44, 45, 46, 47, 48, 49, 50, 51, 52, 53, 54, 55, 56, 57, 58, 59, 60, 61, 62, 63, 64, 65, 66, 67, 68, 69, 70, 71, 72, 73, 74, 75, 76, 77, 78, 79, 80, 81, 82, 83, 84, 85, 86, 87, 88, 89, 90, 91, 92, 93, 94, 95, 96, 97, 98, 99, 100, 101, 102, 103, 104, 105, 106, 107, 108, 109, 110, 111, 112, 113, 114, 115, 116, 117, 118, 119, 120, 121, 122, 123, 124, 125, 126, 127, 128, 129, 130, 131, 132, 133, 134, 135, 136, 137, 138, 139, 140, 141, 142, 143, 144]
      ·repeat (first | apply DropTo.nil | apply DropTo.skip rfl | apply DropTo.keep rfl)
      refine XC.drawL 4 [[], [0], [], [2], [0, 1, 2, 3]] _ (Chg NoB) (Steady.chg NoB) [] [(1, (fun v _ => v = .int .i64 ((goodN (spGi ss) [] (k + 2 * F) : Nat) : Int))), (3, (fun v _ => v = .int .i64 (k : Int)))] [0, 1, 2, 3] fol (by kernel_rfl) (by rfl) (by rfl) ⟨(fun _ _ _ _ h => h), (fun _ _ _ _ h => h), trivial⟩ ⟨?_, ?_, ?_, ?_, trivial⟩ ?_
      ·intro aD13 wD13 haD13 hCD13 hrD13
       refine ⟨rfl, ?_⟩
       refine XD.start haD13 ?_
       apply XD.stepP rfl
       intro w3
       refine Y.move (by rfl) ?_
       exact ⟨rfl, rfl⟩
      ·intro aD13 wD13 haD13 hCD13 hrD13
       obtain ⟨r0, -⟩ := hrD13
       replace hgr7 := hgr7.ext hCD13
       replace hsh7 := hsh7.ext hCD13
       replace hgB7 := hgB7.ext hCD13
       refine ⟨rfl, ?_⟩
       refine XD.start haD13 ?_
       refine XD.pure r0 ?_
       refine Y.move (by rfl) ?_
       refine XD.stepI ?_
       refine Y.call (by rfl) ok25 (count_ok _ _ ((ss.take (k + 2 * F)).map spG) _ hgB7) ?_
       rintro v75 w75 ⟨rfl, rfl⟩
       exact ⟨Chg.refl _ _, by rw [hcp]⟩
      ·intro aD13 wD13 haD13 hCD13 hrD13
       refine ⟨rfl, ?_⟩
       refine XD.start haD13 ?_
       apply XD.stepP rfl
       intro w3
       refine Y.fieldAddr fld23_0 (by rfl) ?_
       exact ⟨rfl, rfl⟩
      ·intro aD13 wD13 haD13 hCD13 hrD13
       obtain ⟨r2, -⟩ := hrD13
       replace hgr7 := hgr7.ext hCD13
       replace hsh7 := hsh7.ext hCD13
       replace hgB7 := hgB7.ext hCD13
       refine ⟨rfl, ?_⟩
       refine XD.start haD13 ?_
       refine XD.pure r2 ?_
       refine Y.fieldAddr fld23_0 (by rfl) ?_
       refine XD.stepI ?_
       refine Y.load one3 (by rfl) (cell_arr (o := 0 + 0) (cs := [.int .i64 (k : Int), .int .i64 (F : Int)]) hsh7 rfl) ?_
       exact ⟨Chg.refl _ _, rfl⟩
      intro aD13 wD13 haD13 hCD13 hrD13
      obtain ⟨r0, r1, r2, r3, -⟩ := hrD13
      replace hgr7 := hgr7.ext hCD13
      replace hsh7 := hsh7.ext hCD13
      replace hgB7 := hgB7.ext hCD13
      refine XD.start haD13 ?_
      refine XD.pure r0 ?_
      refine Y.move (by rfl) ?_
      refine XD.imp r1 ?_
      rintro _ rfl
      refine XD.pure r2 ?_
      refine Y.fieldAddr fld23_0 (by rfl) ?_
      refine XD.imp r3 ?_
      rintro _ rfl
      refine XD.fin haD13 ?_
      show XL _ _ _ _ (List.cons _ _) _ _
      refine XL.s rfl ?_
      refine Y.lss (by rfl) (by rfl) ?_
      refine XL.nil ?_
      refine QN.next ?_
      refine XC.condF rfl ya ?_
      refine XC.skip ?_
      refine QN.next ?_
      refine XC.seq ?_
      refine XC.seq ?_
      refine XC.region ?_
      show XL _ _ _ _ (List.cons _ _) _ _
      refine XL.s rfl ?_
      refine Y.move (by rfl) ?_
      refine XL.s rfl ?_
      refine Y.neq (by rfl) (by rfl) ?_
      refine XL.s rfl ?_
      refine Y.move (by rfl) ?_
      refine XL.gt rfl rfl rfl rfl ?_
      refine Y.move (by rfl) ?_
      refine XL.gt rfl rfl rfl rfl ?_
      refine Y.move (by rfl) ?_
      refine XL.gt rfl rfl rfl rfl ?_
      refine Y.len Tryz.underlying51 (by rfl) hgr7 ?_
      refine XL.gt rfl rfl rfl rfl ?_
      refine Y.move (by rfl) ?_
      refine XL.gt rfl rfl rfl rfl ?_
      refine Y.call (by rfl) ok25 (count_ok _ _ ((ss.take (k + 2 * F)).map spG) _ hgB7) ?_
      rintro v92 w92 ⟨rfl, rfl⟩
      refine XL.gt rfl rfl rfl rfl ?_
      refine Y.sub (by rfl) (by rfl) (wrap64 (by omega) (by omega)) ?_
      refine XL.gt rfl rfl rfl rfl ?_
      refine Y.neq (by rfl) (by rfl) ?_
      refine XL.s rfl ?_
      refine Y.pickF (by rfl) rfl (by rfl) ?_
      refine XL.nil ?_
      refine QN.next ?_
      refine XC.condF rfl ya ?_
      refine XC.skip ?_
      refine QN.next ?_
      refine XC.seq ?_
      refine XC.region ?_
      show XL _ _ _ _ (List.cons _ _) _ _
      refine XL.s rfl ?_
      refine Y.loadA agg23 (by rfl) rfl (shapeA hsh7) ?_
      refine XL.s rfl ?_
      refine Y.move (by rfl) ?_
      refine XL.s rfl ?_
      refine Y.call (by rfl) ok15 (rfiles_ok k F bl _ hk hF (by omega)) ?_
      rintro v98 w98 ⟨hM, hE98⟩
      rw [encR_eq k (k + 2 * F) bl (by omega) (by omega) (by omega)] at hM
      have hfl := files_len k F bl
      obtain ⟨qf, capf, rfl⟩ := hM.rows.val
      have hS98 := (hS71.ext hCD13).ext hE98
      refine XL.s rfl ?_
      refine Y.assign (by rfl) ?_
      refine XL.nil ?_
      refine QN.next ?_
      refine XC.seq ?_
      refine XC.seq ?_
      refine XC.region ?_
      show XL _ _ _ _ (List.cons _ _) _ _
      refine XL.s rfl ?_
      refine Y.assign (by rfl) ?_
      refine XL.nil ?_
      refine QN.next ?_
      refine XC.block ?_
      refine XC.loop (α := Nat) (fun j => [(13, gv), (14, .pointer (some ⟨tb, 0, none⟩)), (19, .slice qf (filesP (encP k (k + 2 * F) bl)).length capf), (20, .int .i64 j)]) (fun j wr => j ≤ k + 2 * F ∧ Ext w98 wr) (fun j => k + 2 * F - j) (0) ?_ ?_ ?_
      ·exact ⟨rfl, rfl, rfl, rfl, trivial⟩
      ·exact ⟨by omega, Chg.refl _ _⟩
      ·rintro j wr hI
       obtain ⟨hj, hE⟩ := hI
       have hSj := hS98.ext hE
       refine XC.seq ?_
       refine XC.seq ?_
       refine XC.region ?_
       show XL _ _ _ _ (List.cons _ _) _ _
       refine XL.s rfl ?_
       refine Y.move (by rfl) ?_
       refine XL.s rfl ?_
       refine Y.move (by rfl) ?_
       refine XL.s rfl ?_
       refine Y.len Tryz.underlying51 (by rfl) (hgr.ext hSj.1) ?_
       refine XL.s rfl ?_
       refine Y.lss (by rfl) (by rfl) ?_
       refine XL.nil ?_
       refine QN.next ?_
       refine XC.condS rfl ?_ ?_
       ·intro hc
        try simp only [decide_eq_true_eq, decide_eq_false_iff_not, Bool.not_eq_true', Bool.not_eq_false', Bool.not_eq_eq_eq_not, Bool.not_true, Bool.not_false, Bool.or_eq_true, Bool.and_eq_true, Bool.or_eq_false_iff] at hc
        have hj' : j < k + 2 * F := by omega
        refine XC.skip ?_
        refine QN.next ?_
        refine XC.seq ?_
        refine XC.block ?_
        refine XC.seq ?_
        refine XC.region ?_
        show XL _ _ _ _ (List.cons _ _) _ _
        refine XL.s rfl ?_
        refine Y.move (by rfl) ?_
        refine XL.s rfl ?_
        refine Y.move (by rfl) ?_
        refine XL.s rfl ?_
        refine Y.call (by rfl) ok16 (diskS w4 _ k F _ _ _ _ _ _ hSj (by omega) (by omega) hF j hj') ?_
        rintro v108 w108 ⟨hD108, hE108⟩
        refine XL.s rfl ?_
        refine Y.call (by rfl) ok17 (syncedA_yes _ _ _ _ _ _ [98, 46, 98, 108, 111, 98] _ hD108 _ _ (sq_mend (nm := [98, 108, 111, 98]) hk hF hl1 hj') (by omega)) ?_
        rintro v109 w109 ⟨b109, rfl, hN109⟩
        rw [List.take_of_length_le (Nat.le_refl _)] at hN109
        have hSk := (hSj.ext hE108).ext hN109.1
        refine XL.s rfl ?_
        refine Y.move (by rfl) ?_
        refine XL.s rfl ?_
        refine Y.extract (by rfl) (by rfl) ?_
        refine XL.s rfl ?_
        refine Y.extract (by rfl) (by rfl) ?_
        refine XL.s rfl ?_
        refine Y.assign (by rfl) ?_
        refine XL.s rfl ?_
        refine Y.assign (by rfl) ?_
        refine XL.nil ?_
        refine QN.next ?_
        refine XC.seq ?_
        refine XC.region ?_
        show XL _ _ _ _ (List.cons _ _) _ _
        refine XL.s rfl ?_
        refine Y.move (by rfl) ?_
        refine XL.s rfl ?_
        refine Y.move (by rfl) ?_
        refine XL.s rfl ?_
        refine Y.call (by rfl) ok16 (diskS w4 _ k F _ _ _ _ _ _ hSk (by omega) (by omega) hF j hj') ?_
        rintro v115 w115 ⟨hD115, hE115⟩
        refine XL.s rfl ?_
        refine Y.call (by rfl) ok23 (readA_no _ _ _ _ _ _ [113, 46, 98, 108, 111, 98] _ hD115 (mendP_q _ [98, 108, 111, 98] _)) ?_
        rintro v116 w116 ⟨rfl, hE116⟩
        have hSl := (hSk.ext hE115).ext hE116
        refine XL.s rfl ?_
        refine Y.move (by rfl) ?_
        refine XL.s rfl ?_
        refine Y.extract (by rfl) (by rfl) ?_
        refine XL.s rfl ?_
        refine Y.extract (by rfl) (by rfl) ?_
        refine XL.s rfl ?_
        refine Y.assign (by rfl) ?_
        refine XL.s rfl ?_
        refine Y.assign (by rfl) ?_
        refine XL.nil ?_
        refine QN.next ?_
        refine XC.seq ?_
        refine XC.region ?_
        show XL _ _ _ _ (List.cons _ _) _ _
        refine XL.s rfl ?_
        refine Y.move (by rfl) ?_
        refine XL.s rfl ?_
        refine Y.neq (by rfl) (by rfl) ?_
        refine XL.s rfl ?_
        refine Y.move (by rfl) ?_
        refine XL.gt rfl rfl rfl rfl ?_
        refine Y.move (by rfl) ?_
        refine XL.gt rfl rfl rfl rfl ?_
        refine Y.neq (by rfl) (by rfl) ?_
        refine XL.s rfl ?_
        refine Y.pickF (by rfl) rfl (by rfl) ?_
        refine XL.s rfl ?_
        refine Y.move (by rfl) ?_
        obtain ⟨vs2, hvs2, hvl2, hqs2⟩ := (((((hM.rows.ext hE).ext hE108).ext hN109.1).ext hE115).ext hE116).get
        obtain ⟨q2, hq2, hb2⟩ := hqs2 j (by omega)
        rw [files_get] at hb2
        refine XL.gt rfl rfl rfl rfl ?_
        refine Y.move (by rfl) ?_
        refine XL.gt rfl rfl rfl rfl ?_
        refine Y.move (by rfl) ?_
        refine XL.gt rfl rfl rfl rfl ?_
        refine Y.move (by rfl) ?_
        refine XL.gt rfl rfl rfl rfl ?_
        refine Y.indexR st37 (by rfl) (by rfl) hvs2 ⟨by omega, by omega⟩ (by rw [Int.toNat_natCast]; exact hq2) ?_
        intro b129 o129 hs129 hc129
        refine XL.gt rfl rfl rfl rfl ?_
        refine Y.load one39 (by rfl) (by assumption) ?_
        refine XL.gt rfl rfl rfl rfl ?_
        refine Y.call (by rfl) ok18 (rsame_ok _ _ _ _ _ _ _ (((hN109.bs).ext hE115).ext hE116) hb2) ?_
        rintro v131 w131 ⟨rfl, hE131⟩
        refine XL.gt rfl rfl rfl rfl ?_
        refine Y.not (by rfl) ?_
        refine XL.s rfl ?_
        refine Y.pickF (by rfl) rfl (by rfl) ?_
        refine XL.nil ?_
        refine QN.next ?_
        refine XC.condF rfl (by simp) ?_
        refine XC.skip ?_
        refine QN.blk ?_
        refine QN.next ?_
        refine XC.region ?_
        show XL _ _ _ _ (List.cons _ _) _ _
        refine XL.s rfl ?_
        refine Y.move (by rfl) ?_
        refine XL.s rfl ?_
        refine Y.add (by rfl) (by rfl) (wrap64 (by omega) (by omega)) ?_
        refine XL.s rfl ?_
        refine Y.assign (by rfl) ?_
        refine XL.nil ?_
        refine QN.again (j + 1) ?_ ?_ ?_
        ·exact ⟨rfl, rfl, rfl, rfl, trivial⟩
        ·exact ⟨by omega, ((((hE.trans hE108).trans hN109.1).trans hE115).trans hE116).trans hE131⟩
        ·first | omega | (simp only []; omega) | (simp; omega)
       ·intro hc
        try simp only [decide_eq_true_eq, decide_eq_false_iff_not, Bool.not_eq_true', Bool.not_eq_false', Bool.not_eq_eq_eq_not, Bool.not_true, Bool.not_false, Bool.or_eq_true, Bool.and_eq_true, Bool.or_eq_false_iff] at hc
        have hG2 := goods_of (nm := [98, 108, 111, 98]) (fun j => mendP (sqMs k F [98, 108, 111, 98] bl ss i j) [98, 108, 111, 98] (fileB j ((encP k (k + 2 * F) bl).getD j []))) hk hF hl1 (fun q hq => by show (mendP _ _ _ _).map _ = _; rw [sq_mend hk hF hl1 hq]; rfl)
        refine XC.exit ?_
        refine QN.thenE ?_
        refine QN.thenE ?_
        refine QN.hit ?_
        refine QN.next ?_
        refine XC.seq ?_
        refine XC.region ?_
        show XL _ _ _ _ (List.cons _ _) _ _
        refine XL.s rfl ?_
        refine Y.move (by rfl) ?_
        refine XL.s rfl ?_
        refine Y.call (by rfl) ok24 (repS w4 _ k F _ _ _ _ _ _ hSj (by omega) (by omega) [98, 108, 111, 98] (by decide) hk hF rfl bl hl1 _ hG2 (goodN_true _ _ (by omega)) (by omega) (fun q _ => (mendP_o _ _ _ (by decide) (by decide)).trans sqMs_t)) ?_
        rintro v136 w136 ⟨rfl, hS136⟩
        have hz : cntM (fun j => mendP (sqMs k F [98, 108, 111, 98] bl ss i j) [98, 108, 111, 98] (fileB j ((encP k (k + 2 * F) bl).getD j []))) [98, 108, 111, 98] (fun j => fileB j ((encP k (k + 2 * F) bl).getD j [])) (k + 2 * F) = 0 := cntM_zero fun q hq => by show (mendP _ _ _ _).map _ = _; rw [sq_mend hk hF hl1 hq]; rfl
        refine XL.s rfl ?_
        refine Y.move (by rfl) ?_
        refine XL.s rfl ?_
        refine Y.extract (by rfl) (by rfl) ?_
        refine XL.s rfl ?_
        refine Y.extract (by rfl) (by rfl) ?_
        refine XL.s rfl ?_
        refine Y.assign (by rfl) ?_
        refine XL.s rfl ?_
        refine Y.assign (by rfl) ?_
        refine XL.nil ?_
        refine QN.next ?_
        refine XC.seq ?_
        refine XC.region ?_
        show XL _ _ _ _ (List.cons _ _) _ _
        refine XL.s rfl ?_
        refine Y.move (by rfl) ?_
        refine XL.s rfl ?_
        refine Y.eql (by rfl) (by rfl) ?_
        refine XL.s rfl ?_
        refine Y.move (by rfl) ?_
        refine XL.gt rfl rfl (by rw [hz]; rfl) rfl ?_
        refine Y.move (by rfl) ?_
        refine XL.gt rfl rfl (by rw [hz]; rfl) rfl ?_
        refine Y.eql (by rfl) (by rfl) ?_
        refine XL.s rfl ?_
        refine Y.pickT (by rfl) (by rw [hz]; rfl) (by rfl) ?_
        refine XL.s rfl ?_
        refine Y.assign (by rfl) ?_
        refine XL.nil ?_
        refine QN.next ?_
        refine XC.ret ?_
        refine QN.done1 (fn := Tryz.f7) (R := R) (.inl rfl) rfl rfl ?_
        refine hR _ _ ?_
        exact ⟨rfl, hE04.trans hS136.1⟩
     ·skip
      refine XC.region ?_
      show XL _ _ _ _ (List.cons _ _) _ _
      refine XL.s rfl ?_
      refine Y.move (by rfl) ?_
      refine XL.s rfl ?_
      refine Y.call (by rfl) ok24 (repS_short w4 _ k F _ _ _ _ _ _ hSR (by omega) (by omega) [98, 108, 111, 98] (by decide) hk hF rfl bl hl1 _ hGs (by omega)) ?_
      rintro v71 w71 ⟨⟨er, rfl, her⟩, hE71⟩
      have hS71 := hSR.ext hE71
      have hsh7 := hshF.ext hS71.1
      have hgr7 := hgr.ext hS71.1
      have hgB7 : Bools (fun b => wA.heap.size ≤ b) w71 gv ((ss.take (k + 2 * F)).map spG) := by rw [Bools, hgl]; exact hgr7
      refine XL.s rfl ?_
      refine Y.move (by rfl) ?_
      refine XL.s rfl ?_
      refine Y.extract (by rfl) (by rfl) ?_
      refine XL.s rfl ?_
      refine Y.extract (by rfl) (by rfl) ?_
      refine XL.s rfl ?_
      refine Y.assign (by rfl) ?_
      refine XL.s rfl ?_
      refine Y.assign (by rfl) ?_
      refine XL.nil ?_
      refine QN.next ?_
      refine XC.seq ?_
      refine XC.seq ?_
      apply XC.drop [23, 27, 28, 29, 30, 31, 32, 33, 34, 35, 36, 37, 38, 39, 40, 41, 42, 43, 44, 45, 46, 47, 48, 49, 50, 51, 52, 53, 54, 55, 56, 57, 58, 59, 60, 61, 62, 63, 64, 65, 66, 67, 68, 69, 70, 71, 72, 73, 74, 75, 76, 77, 78, 79, 80, 81, 82, 83, 84, 85, 86, 87, 88, 89, 90, 91, 92, 93, 94, 95, 96, 97, 98, 99, 100, 101, 102, 103, 104, 105, 106, 107, 108, 109, 110, 111, 112, 113, 114, 115, 116, 117, 118, 119, 120, 121, 122, 123, 124, 125, 126, 127, 128, 129, 130, 131, 132, 133, 134, 135, 136, 137, 138, 139, 140, 141, 142, 143, 144]
      ·repeat (first | apply DropTo.nil | apply DropTo.skip rfl | apply DropTo.keep rfl)
      refine XC.drawL 4 [[], [0], [], [2], [0, 1, 2, 3]] _ (Chg NoB) (Steady.chg NoB) [] [(1, (fun v _ => v = .int .i64 ((goodN (spGi ss) [] (k + 2 * F) : Nat) : Int))), (3, (fun v _ => v = .int .i64 (k : Int)))] [0, 1, 2, 3] fol (by kernel_rfl) (by rfl) (by rfl) ⟨(fun _ _ _ _ h => h), (fun _ _ _ _ h => h), trivial⟩ ⟨?_, ?_, ?_, ?_, trivial⟩ ?_
      ·intro aD13 wD13 haD13 hCD13 hrD13
       refine ⟨rfl, ?_⟩
       refine XD.start haD13 ?_
       apply XD.stepP rfl
       intro w3
       refine Y.move (by rfl) ?_
       exact ⟨rfl, rfl⟩
      ·intro aD13 wD13 haD13 hCD13 hrD13
       obtain ⟨r0, -⟩ := hrD13
       replace hgr7 := hgr7.ext hCD13
       replace hsh7 := hsh7.ext hCD13
       replace hgB7 := hgB7.ext hCD13
       refine ⟨rfl, ?_⟩
       refine XD.start haD13 ?_
       refine XD.pure r0 ?_
       refine Y.move (by rfl) ?_
       refine XD.stepI ?_
       refine Y.call (by rfl) ok25 (count_ok _ _ ((ss.take (k + 2 * F)).map spG) _ hgB7) ?_
       rintro v75 w75 ⟨rfl, rfl⟩
       exact ⟨Chg.refl _ _, by rw [hcp]⟩
      ·intro aD13 wD13 haD13 hCD13 hrD13
       refine ⟨rfl, ?_⟩
       refine XD.start haD13 ?_
       apply XD.stepP rfl
       intro w3
       refine Y.fieldAddr fld23_0 (by rfl) ?_
       exact ⟨rfl, rfl⟩
      ·intro aD13 wD13 haD13 hCD13 hrD13
       obtain ⟨r2, -⟩ := hrD13
       replace hgr7 := hgr7.ext hCD13
       replace hsh7 := hsh7.ext hCD13
       replace hgB7 := hgB7.ext hCD13
       refine ⟨rfl, ?_⟩
       refine XD.start haD13 ?_
       refine XD.pure r2 ?_
       refine Y.fieldAddr fld23_0 (by rfl) ?_
       refine XD.stepI ?_
       refine Y.load one3 (by rfl) (cell_arr (o := 0 + 0) (cs := [.int .i64 (k : Int), .int .i64 (F : Int)]) hsh7 rfl) ?_
       exact ⟨Chg.refl _ _, rfl⟩
      intro aD13 wD13 haD13 hCD13 hrD13
      obtain ⟨r0, r1, r2, r3, -⟩ := hrD13
      replace hgr7 := hgr7.ext hCD13
      replace hsh7 := hsh7.ext hCD13
      replace hgB7 := hgB7.ext hCD13
      refine XD.start haD13 ?_
      refine XD.pure r0 ?_
      refine Y.move (by rfl) ?_
      refine XD.imp r1 ?_
      rintro _ rfl
      refine XD.pure r2 ?_
      refine Y.fieldAddr fld23_0 (by rfl) ?_
      refine XD.imp r3 ?_
      rintro _ rfl
      refine XD.fin haD13 ?_
      show XL _ _ _ _ (List.cons _ _) _ _
      refine XL.s rfl ?_
      refine Y.lss (by rfl) (by rfl) ?_
      refine XL.nil ?_
      refine QN.next ?_
      refine XC.condT rfl ya ?_
      refine XC.seq ?_
      refine XC.region ?_
      show XL _ _ _ _ (List.cons _ _) _ _
      refine XL.s rfl ?_
      refine Y.move (by rfl) ?_
      refine XL.s rfl ?_
      refine Y.eql (by rfl) (by rfl) ?_
      refine XL.s rfl ?_
      refine Y.move (by rfl) ?_
      refine XL.gt rfl rfl rfl rfl ?_
      refine Y.move (by rfl) ?_
      refine XL.gt rfl rfl rfl rfl ?_
      refine Y.neq (by rfl) (by rfl) ?_
      refine XL.s rfl ?_
      refine Y.pickT (by rfl) rfl (by rfl) ?_
      refine XL.s rfl ?_
      refine Y.assign (by rfl) ?_
      refine XL.nil ?_
      refine QN.next ?_
      refine XC.ret ?_
      refine QN.done1 (fn := Tryz.f7) (R := R) (.inl rfl) rfl rfl ?_
      refine hR _ _ ?_
      exact ⟨by simp [her], hE04.trans (hS71.ext hCD13).1⟩
   ·skip
    refine XC.region ?_
    show XL _ _ _ _ (List.cons _ _) _ _
    refine XL.s rfl ?_
    refine Y.move (by rfl) ?_
    refine XL.s rfl ?_
    refine Y.move (by rfl) ?_
    refine XL.s rfl ?_
    refine Y.len Tryz.underlying51 (by rfl) (hgr.ext hSx.1) ?_
    refine XL.s rfl ?_
    refine Y.lss (by rfl) (by rfl) ?_
    refine XL.s rfl ?_
    refine Y.move (by rfl) ?_
    have hSR := hSx
    have hcnt := sq_cnt (i := i) (nm := [98, 108, 111, 98]) (ss := ss) hk hF hl1 (k + 2 * F) (Nat.le_refl _)
    have hgle := goodN_le (spGi ss) [] (k + 2 * F)
    have hpl := padB_le bl hk
    have hql := pieceN_le bl hk
    have hcp := countP_good ss (k + 2 * F) (by omega)
    have hGs := sqMs_goods (nm := [98, 108, 111, 98]) (ss := ss) (i := i) hk hF hl1
    refine XL.gf rfl rfl ya rfl ?_
    refine XL.s rfl ?_
    refine Y.pickF (by rfl) ya (by rfl) ?_
    refine XL.nil ?_
    refine QN.next ?_
    by_cases hgk : k ≤ goodN (spGi ss) [] (k + 2 * F)
    ·skip
     refine XC.condF rfl rfl ?_
     refine XC.exit ?_
     refine QN.thenE ?_
     refine QN.thenE ?_
     refine QN.hit ?_
     refine QN.next ?_
     refine XC.seq ?_
     refine XC.region ?_
     show XL _ _ _ _ (List.cons _ _) _ _
     refine XL.s rfl ?_
     refine Y.move (by rfl) ?_
     refine XL.s rfl ?_
     refine Y.call (by rfl) ok24 (repS w4 _ k F _ _ _ _ _ _ hSR (by omega) (by omega) [98, 108, 111, 98] (by decide) hk hF rfl bl hl1 _ hGs hgk (by omega) (fun q _ => sqMs_t)) ?_
     rintro v71 w71 ⟨rfl, hS71⟩
     have hsh7 := hshF.ext hS71.1
     have hgr7 := hgr.ext hS71.1
     have hgB7 : Bools (fun b => wA.heap.size ≤ b) w71 gv ((ss.take (k + 2 * F)).map spG) := by rw [Bools, hgl]; exact hgr7
     refine XL.s rfl ?_
     refine Y.move (by rfl) ?_
     refine XL.s rfl ?_
     refine Y.extract (by rfl) (by rfl) ?_
     refine XL.s rfl ?_
     refine Y.extract (by rfl) (by rfl) ?_
     refine XL.s rfl ?_
     refine Y.assign (by rfl) ?_
     refine XL.s rfl ?_
     refine Y.assign (by rfl) ?_
     refine XL.nil ?_
     refine QN.next ?_
     refine XC.seq ?_
     refine XC.seq ?_
     apply XC.drop [23, 27, 28, 29, 30, 31, 32, 33, 34, 35, 36, 37, 38, 39, 40, 41, 42, 43, 44, 45, 46, 47, 48, 49, 50, 51, 52, 53, 54, 55, 56, 57, 58, 59, 60, 61, 62, 63, 64, 65, 66, 67, 68, 69, 70, 71, 72, 73, 74, 75, 76, 77, 78, 79, 80, 81, 82, 83, 84, 85, 86, 87, 88, 89, 90, 91, 92, 93, 94, 95, 96, 97, 98, 99, 100, 101, 102, 103, 104, 105, 106, 107, 108, 109, 110, 111, 112, 113, 114, 115, 116, 117, 118, 119, 120, 121, 122, 123, 124, 125, 126, 127, 128, 129, 130, 131, 132, 133, 134, 135, 136, 137, 138, 139, 140, 141, 142, 143, 144]
     ·repeat (first | apply DropTo.nil | apply DropTo.skip rfl | apply DropTo.keep rfl)
     refine XC.drawL 4 [[], [0], [], [2], [0, 1, 2, 3]] _ (Chg NoB) (Steady.chg NoB) [] [(1, (fun v _ => v = .int .i64 ((goodN (spGi ss) [] (k + 2 * F) : Nat) : Int))), (3, (fun v _ => v = .int .i64 (k : Int)))] [0, 1, 2, 3] fol (by kernel_rfl) (by rfl) (by rfl) ⟨(fun _ _ _ _ h => h), (fun _ _ _ _ h => h), trivial⟩ ⟨?_, ?_, ?_, ?_, trivial⟩ ?_
     ·intro aD13 wD13 haD13 hCD13 hrD13
      refine ⟨rfl, ?_⟩
      refine XD.start haD13 ?_
      apply XD.stepP rfl
      intro w3
      refine Y.move (by rfl) ?_
      exact ⟨rfl, rfl⟩
     ·intro aD13 wD13 haD13 hCD13 hrD13
      obtain ⟨r0, -⟩ := hrD13
      replace hgr7 := hgr7.ext hCD13
      replace hsh7 := hsh7.ext hCD13
      replace hgB7 := hgB7.ext hCD13
      refine ⟨rfl, ?_⟩
      refine XD.start haD13 ?_
      refine XD.pure r0 ?_
      refine Y.move (by rfl) ?_
      refine XD.stepI ?_
      refine Y.call (by rfl) ok25 (count_ok _ _ ((ss.take (k + 2 * F)).map spG) _ hgB7) ?_
      rintro v75 w75 ⟨rfl, rfl⟩
      exact ⟨Chg.refl _ _, by rw [hcp]⟩
     ·intro aD13 wD13 haD13 hCD13 hrD13
      refine ⟨rfl, ?_⟩
      refine XD.start haD13 ?_
      apply XD.stepP rfl
      intro w3
      refine Y.fieldAddr fld23_0 (by rfl) ?_
      exact ⟨rfl, rfl⟩
     ·intro aD13 wD13 haD13 hCD13 hrD13
      obtain ⟨r2, -⟩ := hrD13
      replace hgr7 := hgr7.ext hCD13
      replace hsh7 := hsh7.ext hCD13
      replace hgB7 := hgB7.ext hCD13
      refine ⟨rfl, ?_⟩
      refine XD.start haD13 ?_
      refine XD.pure r2 ?_
      refine Y.fieldAddr fld23_0 (by rfl) ?_
      refine XD.stepI ?_
      refine Y.load one3 (by rfl) (cell_arr (o := 0 + 0) (cs := [.int .i64 (k : Int), .int .i64 (F : Int)]) hsh7 rfl) ?_
      exact ⟨Chg.refl _ _, rfl⟩
     intro aD13 wD13 haD13 hCD13 hrD13
     obtain ⟨r0, r1, r2, r3, -⟩ := hrD13
     replace hgr7 := hgr7.ext hCD13
     replace hsh7 := hsh7.ext hCD13
     replace hgB7 := hgB7.ext hCD13
     refine XD.start haD13 ?_
     refine XD.pure r0 ?_
     refine Y.move (by rfl) ?_
     refine XD.imp r1 ?_
     rintro _ rfl
     refine XD.pure r2 ?_
     refine Y.fieldAddr fld23_0 (by rfl) ?_
     refine XD.imp r3 ?_
     rintro _ rfl
     refine XD.fin haD13 ?_
     show XL _ _ _ _ (List.cons _ _) _ _
     refine XL.s rfl ?_
     refine Y.lss (by rfl) (by rfl) ?_
     refine XL.nil ?_
     refine QN.next ?_
     refine XC.condF rfl ya ?_
     refine XC.skip ?_
     refine QN.next ?_
     refine XC.seq ?_
     refine XC.seq ?_
     refine XC.region ?_
     show XL _ _ _ _ (List.cons _ _) _ _
     refine XL.s rfl ?_
     refine Y.move (by rfl) ?_
     refine XL.s rfl ?_
     refine Y.neq (by rfl) (by rfl) ?_
     refine XL.s rfl ?_
     refine Y.move (by rfl) ?_
     refine XL.gt rfl rfl rfl rfl ?_
     refine Y.move (by rfl) ?_
     refine XL.gt rfl rfl rfl rfl ?_
     refine Y.move (by rfl) ?_
     refine XL.gt rfl rfl rfl rfl ?_
     refine Y.len Tryz.underlying51 (by rfl) hgr7 ?_
     refine XL.gt rfl rfl rfl rfl ?_
     refine Y.move (by rfl) ?_
     refine XL.gt rfl rfl rfl rfl ?_
     refine Y.call (by rfl) ok25 (count_ok _ _ ((ss.take (k + 2 * F)).map spG) _ hgB7) ?_
     rintro v92 w92 ⟨rfl, rfl⟩
     refine XL.gt rfl rfl rfl rfl ?_
     refine Y.sub (by rfl) (by rfl) (wrap64 (by omega) (by omega)) ?_
     refine XL.gt rfl rfl rfl rfl ?_
     refine Y.neq (by rfl) (by rfl) ?_
     refine XL.s rfl ?_
     refine Y.pickF (by rfl) rfl (by rfl) ?_
     refine XL.nil ?_
     refine QN.next ?_
     refine XC.condF rfl ya ?_
     refine XC.skip ?_
     refine QN.next ?_
     refine XC.seq ?_
     refine XC.region ?_
     show XL _ _ _ _ (List.cons _ _) _ _
     refine XL.s rfl ?_
     refine Y.loadA agg23 (by rfl) rfl (shapeA hsh7) ?_
     refine XL.s rfl ?_
     refine Y.move (by rfl) ?_
     refine XL.s rfl ?_
     refine Y.call (by rfl) ok15 (rfiles_ok k F bl _ hk hF (by omega)) ?_
     rintro v98 w98 ⟨hM, hE98⟩
     rw [encR_eq k (k + 2 * F) bl (by omega) (by omega) (by omega)] at hM
     have hfl := files_len k F bl
     obtain ⟨qf, capf, rfl⟩ := hM.rows.val
     have hS98 := (hS71.ext hCD13).ext hE98
     refine XL.s rfl ?_
     refine Y.assign (by rfl) ?_
     refine XL.nil ?_
     refine QN.next ?_
     refine XC.seq ?_
     refine XC.seq ?_
     refine XC.region ?_
     show XL _ _ _ _ (List.cons _ _) _ _
     refine XL.s rfl ?_
     refine Y.assign (by rfl) ?_
     refine XL.nil ?_
     refine QN.next ?_
     refine XC.block ?_
     refine XC.loop (α := Nat) (fun j => [(13, gv), (14, .pointer (some ⟨tb, 0, none⟩)), (19, .slice qf (filesP (encP k (k + 2 * F) bl)).length capf), (20, .int .i64 j)]) (fun j wr => j ≤ k + 2 * F ∧ Ext w98 wr) (fun j => k + 2 * F - j) (0) ?_ ?_ ?_
     ·exact ⟨rfl, rfl, rfl, rfl, trivial⟩
     ·exact ⟨by omega, Chg.refl _ _⟩
     ·rintro j wr hI
      obtain ⟨hj, hE⟩ := hI
      have hSj := hS98.ext hE
      refine XC.seq ?_
      refine XC.seq ?_
      refine XC.region ?_
      show XL _ _ _ _ (List.cons _ _) _ _
      refine XL.s rfl ?_
      refine Y.move (by rfl) ?_
      refine XL.s rfl ?_
      refine Y.move (by rfl) ?_
      refine XL.s rfl ?_
      refine Y.len Tryz.underlying51 (by rfl) (hgr.ext hSj.1) ?_
      refine XL.s rfl ?_
      refine Y.lss (by rfl) (by rfl) ?_
      refine XL.nil ?_
      refine QN.next ?_
      refine XC.condS rfl ?_ ?_
      ·intro hc
       try simp only [decide_eq_true_eq, decide_eq_false_iff_not, Bool.not_eq_true', Bool.not_eq_false', Bool.not_eq_eq_eq_not, Bool.not_true, Bool.not_false, Bool.or_eq_true, Bool.and_eq_true, Bool.or_eq_false_iff] at hc
       have hj' : j < k + 2 * F := by omega
       refine XC.skip ?_
       refine QN.next ?_
       refine XC.seq ?_
       refine XC.block ?_
       refine XC.seq ?_
       refine XC.region ?_
       show XL _ _ _ _ (List.cons _ _) _ _
       refine XL.s rfl ?_
       refine Y.move (by rfl) ?_
       refine XL.s rfl ?_
       refine Y.move (by rfl) ?_
       refine XL.s rfl ?_
       refine Y.call (by rfl) ok16 (diskS w4 _ k F _ _ _ _ _ _ hSj (by omega) (by omega) hF j hj') ?_
       rintro v108 w108 ⟨hD108, hE108⟩
       refine XL.s rfl ?_
       refine Y.call (by rfl) ok17 (syncedA_yes _ _ _ _ _ _ [98, 46, 98, 108, 111, 98] _ hD108 _ _ (sq_mend (nm := [98, 108, 111, 98]) hk hF hl1 hj') (by omega)) ?_
       rintro v109 w109 ⟨b109, rfl, hN109⟩
       rw [List.take_of_length_le (Nat.le_refl _)] at hN109
       have hSk := (hSj.ext hE108).ext hN109.1
       refine XL.s rfl ?_
       refine Y.move (by rfl) ?_
       refine XL.s rfl ?_
       refine Y.extract (by rfl) (by rfl) ?_
       refine XL.s rfl ?_
       refine Y.extract (by rfl) (by rfl) ?_
       refine XL.s rfl ?_
       refine Y.assign (by rfl) ?_
       refine XL.s rfl ?_
       refine Y.assign (by rfl) ?_
       refine XL.nil ?_
       refine QN.next ?_
       refine XC.seq ?_
       refine XC.region ?_
       show XL _ _ _ _ (List.cons _ _) _ _
       refine XL.s rfl ?_
       refine Y.move (by rfl) ?_
       refine XL.s rfl ?_
       refine Y.move (by rfl) ?_
       refine XL.s rfl ?_
       refine Y.call (by rfl) ok16 (diskS w4 _ k F _ _ _ _ _ _ hSk (by omega) (by omega) hF j hj') ?_
       rintro v115 w115 ⟨hD115, hE115⟩
       refine XL.s rfl ?_
       refine Y.call (by rfl) ok23 (readA_no _ _ _ _ _ _ [113, 46, 98, 108, 111, 98] _ hD115 (mendP_q _ [98, 108, 111, 98] _)) ?_
       rintro v116 w116 ⟨rfl, hE116⟩
       have hSl := (hSk.ext hE115).ext hE116
       refine XL.s rfl ?_
       refine Y.move (by rfl) ?_
       refine XL.s rfl ?_
       refine Y.extract (by rfl) (by rfl) ?_
       refine XL.s rfl ?_
       refine Y.extract (by rfl) (by rfl) ?_
       refine XL.s rfl ?_
       refine Y.assign (by rfl) ?_
       refine XL.s rfl ?_
       refine Y.assign (by rfl) ?_
       refine XL.nil ?_
       refine QN.next ?_
       refine XC.seq ?_
       refine XC.region ?_
       show XL _ _ _ _ (List.cons _ _) _ _
       refine XL.s rfl ?_
       refine Y.move (by rfl) ?_
       refine XL.s rfl ?_
       refine Y.neq (by rfl) (by rfl) ?_
       refine XL.s rfl ?_
       refine Y.move (by rfl) ?_
       refine XL.gt rfl rfl rfl rfl ?_
       refine Y.move (by rfl) ?_
       refine XL.gt rfl rfl rfl rfl ?_
       refine Y.neq (by rfl) (by rfl) ?_
       refine XL.s rfl ?_
       refine Y.pickF (by rfl) rfl (by rfl) ?_
       refine XL.s rfl ?_
       refine Y.move (by rfl) ?_
       obtain ⟨vs2, hvs2, hvl2, hqs2⟩ := (((((hM.rows.ext hE).ext hE108).ext hN109.1).ext hE115).ext hE116).get
       obtain ⟨q2, hq2, hb2⟩ := hqs2 j (by omega)
       rw [files_get] at hb2
       refine XL.gt rfl rfl rfl rfl ?_
       refine Y.move (by rfl) ?_
       refine XL.gt rfl rfl rfl rfl ?_
       refine Y.move (by rfl) ?_
       refine XL.gt rfl rfl rfl rfl ?_
       refine Y.move (by rfl) ?_
       refine XL.gt rfl rfl rfl rfl ?_
       refine Y.indexR st37 (by rfl) (by rfl) hvs2 ⟨by omega, by omega⟩ (by rw [Int.toNat_natCast]; exact hq2) ?_
       intro b129 o129 hs129 hc129
       refine XL.gt rfl rfl rfl rfl ?_
       refine Y.load one39 (by rfl) (by assumption) ?_
       refine XL.gt rfl rfl rfl rfl ?_
       refine Y.call (by rfl) ok18 (rsame_ok _ _ _ _ _ _ _ (((hN109.bs).ext hE115).ext hE116) hb2) ?_
       rintro v131 w131 ⟨rfl, hE131⟩
       refine XL.gt rfl rfl rfl rfl ?_
       refine Y.not (by rfl) ?_
       refine XL.s rfl ?_
       refine Y.pickF (by rfl) rfl (by rfl) ?_
       refine XL.nil ?_
       refine QN.next ?_
       refine XC.condF rfl (by simp) ?_
       refine XC.skip ?_
       refine QN.blk ?_
       refine QN.next ?_
       refine XC.region ?_
       show XL _ _ _ _ (List.cons _ _) _ _
       refine XL.s rfl ?_
       refine Y.move (by rfl) ?_
       refine XL.s rfl ?_
       refine Y.add (by rfl) (by rfl) (wrap64 (by omega) (by omega)) ?_
       refine XL.s rfl ?_
       refine Y.assign (by rfl) ?_
       refine XL.nil ?_
       refine QN.again (j + 1) ?_ ?_ ?_
       ·exact ⟨rfl, rfl, rfl, rfl, trivial⟩
       ·exact ⟨by omega, ((((hE.trans hE108).trans hN109.1).trans hE115).trans hE116).trans hE131⟩
       ·first | omega | (simp only []; omega) | (simp; omega)
      ·intro hc
       try simp only [decide_eq_true_eq, decide_eq_false_iff_not, Bool.not_eq_true', Bool.not_eq_false', Bool.not_eq_eq_eq_not, Bool.not_true, Bool.not_false, Bool.or_eq_true, Bool.and_eq_true, Bool.or_eq_false_iff] at hc
       have hG2 := goods_of (nm := [98, 108, 111, 98]) (fun j => mendP (sqMs k F [98, 108, 111, 98] bl ss i j) [98, 108, 111, 98] (fileB j ((encP k (k + 2 * F) bl).getD j []))) hk hF hl1 (fun q hq => by show (mendP _ _ _ _).map _ = _; rw [sq_mend hk hF hl1 hq]; rfl)
       refine XC.exit ?_
       refine QN.thenE ?_
       refine QN.thenE ?_
       refine QN.hit ?_
       refine QN.next ?_
       refine XC.seq ?_
       refine XC.region ?_
       show XL _ _ _ _ (List.cons _ _) _ _
       refine XL.s rfl ?_
       refine Y.move (by rfl) ?_
       refine XL.s rfl ?_
       refine Y.call (by rfl) ok24 (repS w4 _ k F _ _ _ _ _ _ hSj (by omega) (by omega) [98, 108, 111, 98] (by decide) hk hF rfl bl hl1 _ hG2 (goodN_true _ _ (by omega)) (by omega) (fun q _ => (mendP_o _ _ _ (by decide) (by decide)).trans sqMs_t)) ?_
       rintro v136 w136 ⟨rfl, hS136⟩
       have hz : cntM (fun j => mendP (sqMs k F [98, 108, 111, 98] bl ss i j) [98, 108, 111, 98] (fileB j ((encP k (k + 2 * F) bl).getD j []))) [98, 108, 111, 98] (fun j => fileB j ((encP k (k + 2 * F) bl).getD j [])) (k + 2 * F) = 0 := cntM_zero fun q hq => by show (mendP _ _ _ _).map _ = _; rw [sq_mend hk hF hl1 hq]; rfl
       refine XL.s rfl ?_
       refine Y.move (by rfl) ?_
       refine XL.s rfl ?_
       refine Y.extract (by rfl) (by rfl) ?_
       refine XL.s rfl ?_
       refine Y.extract (by rfl) (by rfl) ?_
       refine XL.s rfl ?_
       refine Y.assign (by rfl) ?_
       refine XL.s rfl ?_
       refine Y.assign (by rfl) ?_
       refine XL.nil ?_
       refine QN.next ?_
       refine XC.seq ?_
       refine XC.region ?_
       show XL _ _ _ _ (List.cons _ _) _ _
       refine XL.s rfl ?_
       refine Y.move (by rfl) ?_
       refine XL.s rfl ?_
       refine Y.eql (by rfl) (by rfl) ?_
       refine XL.s rfl ?_
       refine Y.move (by rfl) ?_
       refine XL.gt rfl rfl (by rw [hz]; rfl) rfl ?_
       refine Y.move (by rfl) ?_
       refine XL.gt rfl rfl (by rw [hz]; rfl) rfl ?_
       refine Y.eql (by rfl) (by rfl) ?_
       refine XL.s rfl ?_
       refine Y.pickT (by rfl) (by rw [hz]; rfl) (by rfl) ?_
       refine XL.s rfl ?_
       refine Y.assign (by rfl) ?_
       refine XL.nil ?_
       refine QN.next ?_
       refine XC.ret ?_
       refine QN.done1 (fn := Tryz.f7) (R := R) (.inl rfl) rfl rfl ?_
       refine hR _ _ ?_
       exact ⟨rfl, hE04.trans hS136.1⟩
    ·skip
     refine XC.condF rfl rfl ?_
     refine XC.exit ?_
     refine QN.thenE ?_
     refine QN.thenE ?_
     refine QN.hit ?_
     refine QN.next ?_
     refine XC.seq ?_
     refine XC.region ?_
     show XL _ _ _ _ (List.cons _ _) _ _
     refine XL.s rfl ?_
     refine Y.move (by rfl) ?_
     refine XL.s rfl ?_
     refine Y.call (by rfl) ok24 (repS_short w4 _ k F _ _ _ _ _ _ hSR (by omega) (by omega) [98, 108, 111, 98] (by decide) hk hF rfl bl hl1 _ hGs (by omega)) ?_
     rintro v71 w71 ⟨⟨er, rfl, her⟩, hE71⟩
     have hS71 := hSR.ext hE71
     have hsh7 := hshF.ext hS71.1
     have hgr7 := hgr.ext hS71.1
     have hgB7 : Bools (fun b => wA.heap.size ≤ b) w71 gv ((ss.take (k + 2 * F)).map spG) := by rw [Bools, hgl]; exact hgr7
     refine XL.s rfl ?_
     refine Y.move (by rfl) ?_
     refine XL.s rfl ?_
     refine Y.extract (by rfl) (by rfl) ?_
     refine XL.s rfl ?_
     refine Y.extract (by rfl) (by rfl) ?_
     refine XL.s rfl ?_
     refine Y.assign (by rfl) ?_
     refine XL.s rfl ?_
     refine Y.assign (by rfl) ?_
     refine XL.nil ?_
     refine QN.next ?_
     refine XC.seq ?_
     refine XC.seq ?_
     apply XC.drop [23, 27, 28, 29, 30, 31, 32, 33, 34, 35, 36, 37, 38, 39, 40, 41, 42, 43, 44, 45, 46, 47, 48, 49, 50, 51, 52, 53, 54, 55, 56, 57, 58, 59, 60, 61, 62, 63, 64, 65, 66, 67, 68, 69, 70, 71, 72, 73, 74, 75, 76, 77, 78, 79, 80, 81, 82, 83, 84, 85, 86, 87, 88, 89, 90, 91, 92, 93, 94, 95, 96, 97, 98, 99, 100, 101, 102, 103, 104, 105, 106, 107, 108, 109, 110, 111, 112, 113, 114, 115, 116, 117, 118, 119, 120, 121, 122, 123, 124, 125, 126, 127, 128, 129, 130, 131, 132, 133, 134, 135, 136, 137, 138, 139, 140, 141, 142, 143, 144]
     ·repeat (first | apply DropTo.nil | apply DropTo.skip rfl | apply DropTo.keep rfl)
     refine XC.drawL 4 [[], [0], [], [2], [0, 1, 2, 3]] _ (Chg NoB) (Steady.chg NoB) [] [(1, (fun v _ => v = .int .i64 ((goodN (spGi ss) [] (k + 2 * F) : Nat) : Int))), (3, (fun v _ => v = .int .i64 (k : Int)))] [0, 1, 2, 3] fol (by kernel_rfl) (by rfl) (by rfl) ⟨(fun _ _ _ _ h => h), (fun _ _ _ _ h => h), trivial⟩ ⟨?_, ?_, ?_, ?_, trivial⟩ ?_
     ·intro aD13 wD13 haD13 hCD13 hrD13
      refine ⟨rfl, ?_⟩
      refine XD.start haD13 ?_
      apply XD.stepP rfl
      intro w3
      refine Y.move (by rfl) ?_
      exact ⟨rfl, rfl⟩
     ·intro aD13 wD13 haD13 hCD13 hrD13
      obtain ⟨r0, -⟩ := hrD13
      replace hgr7 := hgr7.ext hCD13
      replace hsh7 := hsh7.ext hCD13
      replace hgB7 := hgB7.ext hCD13
      refine ⟨rfl, ?_⟩
      refine XD.start haD13 ?_
      refine XD.pure r0 ?_
      refine Y.move (by rfl) ?_
      refine XD.stepI ?_
      refine Y.call (by rfl) ok25 (count_ok _ _ ((ss.take (k + 2 * F)).map spG) _ hgB7) ?_
      rintro v75 w75 ⟨rfl, rfl⟩
      exact ⟨Chg.refl _ _, by rw [hcp]⟩
     ·intro aD13 wD13 haD13 hCD13 hrD13
      refine ⟨rfl, ?_⟩
      refine XD.start haD13 ?_
      apply XD.stepP rfl
      intro w3
      refine Y.fieldAddr fld23_0 (by rfl) ?_
      exact ⟨rfl, rfl⟩
     ·intro aD13 wD13 haD13 hCD13 hrD13
      obtain ⟨r2, -⟩ := hrD13
      replace hgr7 := hgr7.ext hCD13
      replace hsh7 := hsh7.ext hCD13
      replace hgB7 := hgB7.ext hCD13
      refine ⟨rfl, ?_⟩
      refine XD.start haD13 ?_
      refine XD.pure r2 ?_
      refine Y.fieldAddr fld23_0 (by rfl) ?_
      refine XD.stepI ?_
      refine Y.load one3 (by rfl) (cell_arr (o := 0 + 0) (cs := [.int .i64 (k : Int), .int .i64 (F : Int)]) hsh7 rfl) ?_
      exact ⟨Chg.refl _ _, rfl⟩
     intro aD13 wD13 haD13 hCD13 hrD13
     obtain ⟨r0, r1, r2, r3, -⟩ := hrD13
     replace hgr7 := hgr7.ext hCD13
     replace hsh7 := hsh7.ext hCD13
     replace hgB7 := hgB7.ext hCD13
     refine XD.start haD13 ?_
     refine XD.pure r0 ?_
     refine Y.move (by rfl) ?_
     refine XD.imp r1 ?_
     rintro _ rfl
     refine XD.pure r2 ?_
     refine Y.fieldAddr fld23_0 (by rfl) ?_
     refine XD.imp r3 ?_
     rintro _ rfl
     refine XD.fin haD13 ?_
     show XL _ _ _ _ (List.cons _ _) _ _
     refine XL.s rfl ?_
     refine Y.lss (by rfl) (by rfl) ?_
     refine XL.nil ?_
     refine QN.next ?_
     refine XC.condT rfl ya ?_
     refine XC.seq ?_
     refine XC.region ?_
     show XL _ _ _ _ (List.cons _ _) _ _
     refine XL.s rfl ?_
     refine Y.move (by rfl) ?_
     refine XL.s rfl ?_
     refine Y.eql (by rfl) (by rfl) ?_
     refine XL.s rfl ?_
     refine Y.move (by rfl) ?_
     refine XL.gt rfl rfl rfl rfl ?_
     refine Y.move (by rfl) ?_
     refine XL.gt rfl rfl rfl rfl ?_
     refine Y.neq (by rfl) (by rfl) ?_
     refine XL.s rfl ?_
     refine Y.pickT (by rfl) rfl (by rfl) ?_
     refine XL.s rfl ?_
     refine Y.assign (by rfl) ?_
     refine XL.nil ?_
     refine QN.next ?_
     refine XC.ret ?_
     refine QN.done1 (fn := Tryz.f7) (R := R) (.inl rfl) rfl rfl ?_
     refine hR _ _ ?_
     exact ⟨by simp [her], hE04.trans (hS71.ext hCD13).1⟩
 ·skip
  refine XC.region ?_
  show XL _ _ _ _ (List.cons _ _) _ _
  refine XL.s rfl ?_
  refine Y.call (by rfl) ok8 (awake_ok _) ?_
  rintro vA wA ⟨rfl, hEA⟩
  refine XL.s rfl ?_
  refine Y.not (by rfl) ?_
  refine XL.s rfl ?_
  refine Y.move (by rfl) ?_
  refine XL.gt rfl rfl rfl rfl ?_
  refine Y.move (by rfl) ?_
  refine XL.gt rfl rfl rfl rfl ?_
  refine Y.lenS Tryz.underlying9 (by rfl) ?_
  refine XL.gt rfl rfl rfl rfl ?_
  refine Y.gtr (by rfl) (by rfl) ?_
  refine XL.s rfl ?_
  refine Y.pickF (by rfl) rfl (by rfl) ?_
  refine XL.nil ?_
  refine QN.next ?_
  refine XC.condT rfl ya ?_
  refine XC.seq ?_
  refine XC.region ?_
  show XL _ _ _ _ (List.cons _ _) _ _
  refine XL.s rfl ?_
  refine Y.call (by rfl) ok8 (awake_ok _) ?_
  rintro vB wB ⟨rfl, hEB⟩
  refine XL.s rfl ?_
  refine Y.assign (by rfl) ?_
  refine XL.nil ?_
  refine QN.next ?_
  refine XC.ret ?_
  refine QN.done1 (fn := Tryz.f7) (R := R) (.inl rfl) rfl rfl ?_
  refine hR _ _ ?_
  exact ⟨rfl, (hE2.trans hEA).trans hEB⟩
end Go.Proofs.YtchammpamigonaaGreatX
end
section
namespace Go.Proofs.YtchammpamigonaaGreatX
open Go.ChangeShapes Go.WideShapes Go.ChangeAt Go.RowKit Go.Joins
theorem okWide_array {P : Program} {w : World} {r : Reach} {base n : Nat} {t e : TypeId} {v : Value} (ht : P.underlying t = some (.array n e)) (h : Value.okWide P w r base t v) : ∃ cs, v = .agg cs ∧ cs.size = P.cellsOf t := by
  simp only [Value.okWide, ht] at h
  obtain ⟨cs, h1, h2, _⟩ := h
  exact ⟨cs, h1, h2⟩
theorem wf_u8 {n : Int} (h : (Lit.int .u8 n).wf = true) : ∃ a : UInt8, n = (a.toNat : Int) := by
  have h' : 0 ≤ n ∧ n ≤ 255 := by simpa [Lit.wf, IntKind.min, IntKind.max, IntKind.signed, IntKind.bits] using h
  obtain ⟨k, rfl⟩ := Int.eq_ofNat_of_zero_le h'.1
  exact ⟨UInt8.ofNat k, by rw [UInt8.toNat_ofNat_of_lt' (by show k < 256; omega)]⟩
theorem wf_u16 {n : Int} (h : (Lit.int .u16 n).wf = true) : ∃ a : UInt16, n = (a.toNat : Int) := by
  have h' : 0 ≤ n ∧ n ≤ 65535 := by simpa [Lit.wf, IntKind.min, IntKind.max, IntKind.signed, IntKind.bits] using h
  obtain ⟨k, rfl⟩ := Int.eq_ofNat_of_zero_le h'.1
  exact ⟨UInt16.ofNat k, by rw [UInt16.toNat_ofNat_of_lt' (by show k < 65536; omega)]⟩
theorem chunks3 : ∀ (n : Nat) (cs : List Value), cs.length = 3 * n → (∀ i, i < n → ∃ s, (cs.drop (i * 3)).take 3 = spC s) → ∃ ss : List Sp, ss.length = n ∧ cs = spCs ss
  | 0, cs, hl, _ => ⟨[], rfl, List.eq_nil_of_length_eq_zero (by omega)⟩
  | n + 1, cs, hl, h => by
    obtain ⟨s, hs⟩ := h 0 (by omega)
    obtain ⟨ss, h1, h2⟩ := chunks3 n (cs.drop 3) (by rw [List.length_drop]; omega) (fun i hi => by
      obtain ⟨s', h'⟩ := h (i + 1) (by omega)
      exact ⟨s', by rw [List.drop_drop]; rw [show 3 + i * 3 = (i + 1) * 3 by omega]; exact h'⟩)
    refine ⟨s :: ss, by simp [h1], ?_⟩
    rw [Nat.zero_mul, List.drop_zero] at hs
    have e : spCs (s :: ss) = spC s ++ spCs ss := by simp [spCs]
    rw [e, ← h2, ← hs, List.take_append_drop]
section
variable {H : Type} {enc : TypeId × Value → H} {w : World} {base : Nat} {spare : Nat → Bool} {held : Bool}
theorem three {α : Type} : ∀ (l : List α), l.length = 3 → ∃ a b c, l = [a, b, c]
  | [a, b, c], _ => ⟨a, b, c, rfl⟩
set_option maxRecDepth 100000 in
theorem open_spoil {fuel : Nat} {cs : List Value} {x : DataW H × List MemPlace} (h : DataW.trod enc Tryz.prog w base spare held fuel 47 cs = some x) : ∃ s, cs = spC s := by
  obtain ⟨xs, m, _, _, hl, hxl, hf⟩ := DataW.trod_struct Tryz.underlying47 h
  have hl3 : cs.length = 3 := hl.trans (by kernel_rfl)
  obtain ⟨c0, c1, c2, rfl⟩ := three cs hl3
  obtain ⟨y0, y1, y2, rfl⟩ := three xs hxl
  have k5 : Tryz.prog.cellsOf 5 = 1 := by kernel_rfl
  have k24 : Tryz.prog.cellsOf 24 = 1 := by kernel_rfl
  have h0 := hf 0 _ rfl
  have h1 := hf 1 _ rfl
  have h2 := hf 2 _ rfl
  simp [k5, k24] at h0 h1 h2
  obtain ⟨n0, e0, _, w0⟩ := DataW.trod_int Tryz.underlying5 h0
  obtain ⟨n1, e1, _, w1⟩ := DataW.trod_int Tryz.underlying24 h1
  obtain ⟨n2, e2, _, w2⟩ := DataW.trod_int Tryz.underlying5 h2
  obtain ⟨a, rfl⟩ := wf_u8 w0
  obtain ⟨b, rfl⟩ := wf_u16 w1
  obtain ⟨c, rfl⟩ := wf_u8 w2
  simp at e0 e1 e2
  exact ⟨⟨a, b, c⟩, by rw [e0, e1, e2]; rfl⟩
set_option maxRecDepth 100000 in
theorem open_spoils {r : Reach} {b0 : Nat} {v : Value} {d : DataW H} {p : List MemPlace} (hv : Value.okWide Tryz.prog w r b0 48 v) (h : DataW.Trod enc Tryz.prog w base spare held 48 v d p) : ∃ ss : List Sp, ss.length = 7 ∧ v = .agg (spCs ss).toArray := by
  obtain ⟨cs, rfl, hsz⟩ := okWide_array Tryz.underlying48 hv
  obtain ⟨cs⟩ := cs
  obtain ⟨fuel, hf⟩ := h
  obtain ⟨xs, m, _, _, hl, hxl, hel⟩ := DataW.trod_array Tryz.underlying48 hf
  have k47 : Tryz.prog.cellsOf 47 = 3 := by kernel_rfl
  have hl' : cs.length = 3 * 7 := hsz.trans (by kernel_rfl)
  obtain ⟨ss, h1, h2⟩ := chunks3 7 cs hl' (fun i hi => by
    have hi' := hel i hi
    rw [k47, List.getElem?_eq_getElem (by omega)] at hi'
    exact open_spoil hi')
  exact ⟨ss, h1, by rw [h2]⟩
theorem open_away {fuel : Nat} {v : Value} {t : TypeId} {x : DataW H × List MemPlace} (ht : Tryz.prog.underlying t = some (.slice 3)) (h : DataW.trod enc Tryz.prog w base spare held fuel t (Value.cells v).toList = some x) (hv : ∃ a l c, v = .slice a l c) : ∃ zs, Zs AnyB w v zs := by
  obtain ⟨a, l, c, rfl⟩ := hv
  rcases open_ints ht Tryz.underlying3 (by kernel_rfl) h with ⟨hcs, _⟩ | ⟨x, l', c', zs, hcs, _, hl, hm, hz, _, hcell, hwz⟩
  · simp [Value.cells] at hcs
    obtain ⟨rfl, rfl, rfl⟩ := hcs
    exact ⟨[], Row.nil _ _⟩
  · simp [Value.cells] at hcs
    obtain ⟨rfl, rfl, rfl⟩ := hcs
    have hzl : l ≤ zs.length := by rw [hz]; split <;> omega
    have htl : (zs.take l).length = l := by rw [List.length_take]; omega
    refine ⟨zs.take l, ?_⟩
    show Row AnyB w _ (zs.take l).length _
    rw [htl]
    refine ⟨some x, c, rfl, hl, hm, fun h => by subst h; rfl, fun u hu => by obtain ⟨z, _, rfl⟩ := List.mem_map.1 hu; rfl, fun hne => ?_⟩
    have hl0 : 0 < l := by
      rcases Nat.eq_zero_or_pos l with h | h
      · subst h; exact absurd rfl hne
      · exact h
    obtain ⟨b, o, spot⟩ := x
    have h0 := hcell 0 (by omega)
    have hspot : spot = none := by simpa [Addr.add] using World.cell?_spot h0
    subst hspot
    have hblk : ∃ cur T fr, w.heap[b]? = some (.cells cur T fr) := by
      have h0 : w.cell? ⟨b, o, none⟩ = some (.int .i64 (zs.getD 0 0)) := by simpa [Addr.add] using h0
      simp only [World.cell?] at h0
      cases hb : w.heap[b]? with
      | none => rw [hb] at h0; simp at h0
      | some ob => cases ob <;> rw [hb] at h0 <;> first | exact ⟨_, _, _, rfl⟩ | simp at h0
    obtain ⟨cur, T, fr, hb⟩ := hblk
    refine ⟨b, o, cur, T, fr, rfl, trivial, hb, fun j hj => ?_⟩
    have hj' : j < l := by simp only [zsV, List.length_map, htl] at hj; exact hj
    have h1 := hcell j (by omega)
    have h2 : w.cell? ⟨b, o + j, none⟩ = some (.int .i64 (zs.getD j 0)) := by rw [Addr.add_lit] at h1; exact h1
    rw [cell_of_row w b (o + j) cur T fr hb] at h2
    rw [h2]
    have hjz : j < zs.length := by omega
    simp [zsV, List.getElem?_map, List.getElem?_take, hj', hjz, List.getD_eq_getElem?_getD]
end
end Go.Proofs.YtchammpamigonaaGreatX
end
section
namespace Go.Proofs.YtchammpamigonaaGreat.scrubRepairsDone
open Go.ChangeShapes Go.WideShapes Go.ChangeAt Go.RowKit Go.Joins
open Go.ChangeMaps (open_string shut_string)
open Go.Proofs.YtchammpamigonaaGreatX (byteV strV Rets Sp spCs wf_u8 open_spoils open_away Zs AnyB)
theorem own : ownKnob Tryz.prog.godebug = none := by kernel_rfl
theorem laidOut : laidOutB Tryz.prog = true := by kernel_rfl
theorem walk (x0 : UInt8) (x1 : UInt8) (x2 : ByteArray) (x3 : List Sp) (x4 : Bool) (w : World) (h2 : x2.size ≤ maxLen) (h3 : x3.length = 7) : Calls Tryz.prog 7 #[byteV x0, byteV x1, .string x2, .agg (spCs x3).toArray, .bool x4] w fun e w' => e = .returned (.bool true) ∧ Below w.heap.size w w' := by
  have hm : maxLen ≤ 9223372036854775807 := by decide
  have h := Go.Proofs.YtchammpamigonaaGreatX.repairs_ok x0 x1 x2.data.toList x3 x4 w h3 (by have := h2; simp only [ByteArray.size] at this; rw [Array.length_toList]; omega)
  exact Calls.mono h fun e w' ⟨v, he, hv, hE⟩ => ⟨by rw [he, hv], hE.below⟩
set_option maxRecDepth 100000 in
theorem lifted (os : Os) (started : os.Started) (H : Type) (enc : TypeId × Value → H) :
    ReturnsInHanded {} Tryz.checked os 7 .any (Rows.scrubRepairsSpec.pre6 enc Tryz.prog Tryz.f7 Rows.scrubRepairsRow.domain false) (Rows.scrubRepairsSpec.post enc Tryz.prog Tryz.f7 false true false false) := by
  refine returnsInHanded_of_change (C := Tryz.checked) own started (by kernel_rfl) Tryz.func7
    (ChangeSpec.witness6 (enc := enc) (C := Tryz.checked) false ⟨#[], #[.int .u8 0, .int .u8 0, .string ⟨#[]⟩, .agg #[.int .u8 0, .int .u16 0, .int .u8 0, .int .u8 0, .int .u16 0, .int .u8 0, .int .u8 0, .int .u16 0, .int .u8 0, .int .u8 0, .int .u16 0, .int .u8 0, .int .u8 0, .int .u16 0, .int .u8 0, .int .u8 0, .int .u16 0, .int .u8 0, .int .u8 0, .int .u16 0, .int .u8 0], .bool false], []⟩ 8 (by kernel_rfl) (by kernel_rfl) (by kernel_rfl) (by kernel_rfl)) ?_
  intro W base args ds gs before hval0 hW hcnd _
  have hval : ∀ (j : Nat) t v, Tryz.f7.params[j]? = some t → args[j]? = some v → Value.okWide Tryz.prog W .any base t v := hval0
  have hW' := hW
  obtain ⟨p, q, hA0, hV, rfl, hfz, hnd⟩ := hW
  have hA : DataW.TrodAll enc Tryz.prog W 0 (fun _ => true) true Tryz.f7.params.toList args.toList ds p := hA0
  rw [Tryz.params7] at hA hval
  obtain ⟨v0, vs0, d0, ds0, p0, q0, hargs, rfl, rfl, k0, r0⟩ := trodAll_cons hA
  obtain ⟨v1, vs1, d1, ds1, p1, q1, rfl, rfl, rfl, k1, r1⟩ := trodAll_cons r0
  obtain ⟨v2, vs2, d2, ds2, p2, q2, rfl, rfl, rfl, k2, r2⟩ := trodAll_cons r1
  obtain ⟨v3, vs3, d3, ds3, p3, q3, rfl, rfl, rfl, k3, r3⟩ := trodAll_cons r2
  obtain ⟨v4, vs4, d4, ds4, p4, q4, rfl, rfl, rfl, k4, r4⟩ := trodAll_cons r3
  obtain ⟨rfl, rfl, rfl⟩ := trodAll_nil r4
  obtain rfl : args = #[v0, v1, v2, v3, v4] := by cases args; simp_all
  obtain ⟨rfl, rfl⟩ := trodVars_none hV
  have lt0 : ∀ x ∈ p0, x.block < W.heap.size := by obtain ⟨m, hm⟩ := k0; exact DataW.trod_lt m _ _ _ hm
  have lt1 : ∀ x ∈ p1, x.block < W.heap.size := by obtain ⟨m, hm⟩ := k1; exact DataW.trod_lt m _ _ _ hm
  have lt2 : ∀ x ∈ p2, x.block < W.heap.size := by obtain ⟨m, hm⟩ := k2; exact DataW.trod_lt m _ _ _ hm
  have lt3 : ∀ x ∈ p3, x.block < W.heap.size := by obtain ⟨m, hm⟩ := k3; exact DataW.trod_lt m _ _ _ hm
  have lt4 : ∀ x ∈ p4, x.block < W.heap.size := by obtain ⟨m, hm⟩ := k4; exact DataW.trod_lt m _ _ _ hm
  obtain ⟨n0, rfl, _, _, w0⟩ := open_int Tryz.underlying5 (hval 0 5 v0 rfl rfl) k0
  obtain ⟨x0, rfl⟩ := wf_u8 w0
  obtain ⟨n1, rfl, _, _, w1⟩ := open_int Tryz.underlying5 (hval 1 5 v1 rfl rfl) k1
  obtain ⟨x1, rfl⟩ := wf_u8 w1
  obtain ⟨x2, rfl, _, _, w2⟩ := open_string Tryz.underlying9 (hval 2 9 v2 rfl rfl) k2
  obtain ⟨x3, w3, rfl⟩ := open_spoils (hval 3 48 v3 rfl rfl) k3
  obtain ⟨x4, rfl, _, _⟩ := open_bool Tryz.underlying4 (hval 4 4 v4 rfl rfl) k4
  clear hA0 hval0
  refine (walk x0 x1 x2 x3 x4 W w2 w3).mono fun e W' ⟨he, bel⟩ => ?_
  subst he
  exact ⟨_, rfl, _, _, _, [], _, [], hW', trodAll_mk1 (shut_bool Tryz.underlying4 _), (trodAll_cons_mk (Below.trod laidOut (by kernel_rfl) (of_decide_eq_true (by kernel_rfl)) k0 bel lt0) (trodAll_cons_mk (Below.trod laidOut (by kernel_rfl) (of_decide_eq_true (by kernel_rfl)) k1 bel lt1) (trodAll_cons_mk (Below.trod laidOut (by kernel_rfl) (of_decide_eq_true (by kernel_rfl)) k2 bel lt2) (trodAll_cons_mk (Below.trod laidOut (by kernel_rfl) (of_decide_eq_true (by kernel_rfl)) k3 bel lt3) (trodAll_cons_mk (Below.trod laidOut (by kernel_rfl) (of_decide_eq_true (by kernel_rfl)) k4 bel lt4) trodAll_mk0))))), rfl, bel.frame _, fun h => by cases h⟩
theorem over : Rows.scrubRepairsRow.holds Tryz.pinned (OpenSpec.ofChange Rows.scrubRepairsSpec) :=
  OpenClaim.holds_of_wide 7 Tryz.f7 rfl rfl rfl rfl rfl rfl rfl ⟨rfl, rfl, rfl, rfl, rfl⟩ rfl rfl rfl rfl rfl (by kernel_rfl) Tryz.func7 (by kernel_rfl)
    (of_decide_eq_true (by kernel_rfl)) (by unfold Func.isWrapper; first | (rw [if_pos (by decide +kernel)]; kernel_rfl) | (rw [if_neg (by decide +kernel)]; exact ⟨rfl, rfl⟩))
    (fun os started H enc _ => lifted os started H enc)
theorem proved : Rows.ScrubRepairsSaid := over
#print axioms proved
end Go.Proofs.YtchammpamigonaaGreat.scrubRepairsDone
end
