/- For every shape, two texts and seven spoils shardloglaw25.ScrubApart returns true and leaves what it was handed as it was; no condition. Part 2 of 6: joined by a program of this repo out of texts of its own. -/
import Derived.Test.YtchammpamigonaaGreatApart1
set_option linter.unusedVariables false
set_option linter.unusedSimpArgs false
section
namespace Go.Proofs.YtchammpamigonaaGreatX
open Go Go.RowKit
abbrev Mat := List (List UInt8)
def entry (m : Mat) (i j : Nat) : UInt8 := (m.getD i []).getD j 0
def Sq (n : Nat) (m : Mat) : Prop := m.length = n ∧ ∀ l ∈ m, l.length = n
theorem Sq.get {n : Nat} {m : Mat} (h : Sq n m) {i : Nat} (hi : i < n) : m[i]? = some (m.getD i []) ∧ (m.getD i []).length = n := by
  have hi' : i < m.length := by rw [h.1]; exact hi
  have e : m.getD i [] = m[i] := by simp [List.getD_eq_getElem?_getD, hi']
  rw [e]
  exact ⟨by simp [hi'], h.2 _ (List.getElem_mem hi')⟩
theorem Sq.set {n : Nat} {m : Mat} (h : Sq n m) {i : Nat} {l : List UInt8} (hl : l.length = n) : Sq n (m.set i l) :=
  ⟨by rw [List.length_set]; exact h.1, fun x hx => by
    rcases List.mem_or_eq_of_mem_set hx with hx | hx
    · exact h.2 x hx
    · rw [hx]; exact hl⟩
theorem Sq.ne {n : Nat} {m : Mat} (h : Sq n m) (hn : 0 < n) : m ≠ [] := by rintro rfl; simp [Sq] at h; omega
theorem entry_get {n : Nat} {m : Mat} (h : Sq n m) {i j : Nat} (hi : i < n) (hj : j < n) : (bytesV (m.getD i []))[j]? = some (byteV (entry m i j)) := by
  have := (h.get hi).2
  simp [bytesV, entry, List.getD_eq_getElem?_getD, show j < (m.getD i []).length by omega]
  have hj' : j < ((m[i]?).getD []).length := by simpa [List.getD_eq_getElem?_getD] using (show j < (m.getD i []).length by omega)
  simp [hj']
def swapP (m : Mat) (r c : Nat) : Mat := (m.set c (m.getD r [])).set r (m.getD c [])
theorem Sq.swap {n : Nat} {m : Mat} (h : Sq n m) {r c : Nat} (hr : r < n) (hc : c < n) : Sq n (swapP m r c) := (h.set (h.get hr).2).set (h.get hc).2
def clr (x : UInt8) (m : Mat) (i c : Nat) : Mat := if i ≠ c ∧ x ≠ 0 then m.set i (xorL (m.getD i []) ((m.getD c []).map (gmul x))) else m
theorem Sq.clear1 {n : Nat} {m : Mat} (h : Sq n m) {x : UInt8} {i c : Nat} (hi : i < n) (hc : c < n) : Sq n (clr x m i c) := by
  unfold clr
  split
  · exact h.set (by rw [xorL_length, List.length_map, (h.get hi).2, (h.get hc).2, Nat.min_self])
  · exact h
def clearStep (c : Nat) (ab : Mat × Mat) (i : Nat) : Mat × Mat := (clr (entry ab.1 i c) ab.1 i c, clr (entry ab.1 i c) ab.2 i c)
def clear0 (c : Nat) (ab : Mat × Mat) : Mat × Mat := (ab.1.set c ((ab.1.getD c []).map (gmul (ginv (entry ab.1 c c)))), ab.2.set c ((ab.2.getD c []).map (gmul (ginv (entry ab.1 c c)))))
def clearK (c k : Nat) (ab : Mat × Mat) : Mat × Mat := (List.range k).foldl (clearStep c) (clear0 c ab)
def clearP (c : Nat) (ab : Mat × Mat) : Mat × Mat := clearK c ab.1.length ab
theorem clearK_succ (c k : Nat) (ab : Mat × Mat) : clearK c (k + 1) ab = clearStep c (clearK c k ab) k := by rw [clearK, List.range_succ, List.foldl_append]; rfl
def Sq2 (n : Nat) (ab : Mat × Mat) : Prop := Sq n ab.1 ∧ Sq n ab.2
theorem Sq2.clear0 {n c : Nat} {ab : Mat × Mat} (h : Sq2 n ab) (hc : c < n) : Sq2 n (clear0 c ab) := ⟨h.1.set (by rw [List.length_map, (h.1.get hc).2]), h.2.set (by rw [List.length_map, (h.2.get hc).2])⟩
theorem Sq2.clearK {n c : Nat} {ab : Mat × Mat} (h : Sq2 n ab) (hc : c < n) : ∀ k, k ≤ n → Sq2 n (clearK c k ab)
  | 0, _ => h.clear0 hc
  | k + 1, hk => by
    rw [clearK_succ]
    have := Sq2.clearK h hc k (by omega)
    exact ⟨this.1.clear1 (by omega) hc, this.2.clear1 (by omega) hc⟩
def findP (m : Mat) (c : Nat) : Option Nat := (List.range m.length).find? fun i => decide (c ≤ i) && (entry m i c != 0)
def invStep (st : Option (Mat × Mat)) (c : Nat) : Option (Mat × Mat) := st.bind fun ab => (findP ab.1 c).map fun r => clearP c (swapP ab.1 r c, swapP ab.2 r c)
def invK (m : Mat) (k : Nat) : Option (Mat × Mat) := (List.range k).foldl invStep (some (m, codingP m.length m.length))
def invertP (m : Mat) : Option Mat := (invK m m.length).map (·.2)
theorem invK_succ (m : Mat) (k : Nat) : invK m (k + 1) = invStep (invK m k) k := by rw [invK, List.range_succ, List.foldl_append]; rfl
theorem invK_some {m : Mat} {k : Nat} (h : (invK m k).isSome = true) : ∀ j, j ≤ k → (invK m j).isSome = true := by
  induction k with
  | zero => intro j hj; obtain rfl : j = 0 := by omega
            exact h
  | succ k ih =>
    intro j hj
    by_cases e : j = k + 1
    · exact e ▸ h
    · refine ih ?_ j (by omega)
      rw [invK_succ] at h
      cases hk : invK m k with
      | none => rw [hk] at h; simp [invStep] at h
      | some x => rfl
theorem findP_spec {m : Mat} {c r : Nat} (h : findP m c = some r) : c ≤ r ∧ r < m.length ∧ entry m r c ≠ 0 ∧ ∀ j, c ≤ j → j < r → entry m j c = 0 := by
  unfold findP at h
  have h1 := List.find?_some h
  simp at h1
  have h2 := List.mem_of_find?_eq_some h
  refine ⟨h1.1, by simpa using h2, h1.2, fun j hj hjr => ?_⟩
  obtain ⟨_, as9, bs, hab, hno⟩ := List.find?_eq_some_iff_append.1 h
  have hlen : as9.length = r := by
    have hr : (List.range m.length)[as9.length]? = some r := by rw [hab]; simp
    have hlt : as9.length < m.length := by
      have := (List.getElem?_eq_some_iff.1 hr).1
      simpa using this
    rw [List.getElem?_range hlt] at hr
    simpa using hr
  have hmem : j ∈ as9 := by
    have hj2 : (List.range m.length)[j]? = some j := List.getElem?_range (by have := List.mem_range.1 h2; omega)
    rw [hab, List.getElem?_append_left (by omega)] at hj2
    exact List.mem_of_getElem? hj2
  have := hno j hmem
  simp [hj] at this
  exact this
structure MatX (TR TB : TypeId) (w : World) (g0 cap : Nat) (cur : Array Value) (fr : Nat × Nat) (us : List Value) (gs : List Nat) (m : Mat) : Prop where
  le : m.length ≤ cap
  cm : cap ≤ maxLen
  hb : HB w g0 (.cells cur TR fr)
  nf : nofr cur.size fr
  cs : cur.size = cap
  tk : cur.toList.take m.length = us
  rows : RowsOwn TB w us gs m
  out : g0 ∉ gs
theorem OMat.x {TR TB : TypeId} {F : Nat → Prop} {w : World} {v : Value} {m : Mat} (h : OMat TR TB F w v m) (hm : m ≠ []) : ∃ g0 cap cur fr us gs, v = .slice (some ⟨g0, 0, none⟩) m.length cap ∧ MatX TR TB w g0 cap cur fr us gs m ∧ F g0 ∧ ∀ g ∈ gs, F g := by
  obtain ⟨So, us, gs, h1, h2, h3, h4, h5, h6, h7⟩ := h
  obtain ⟨k0, k1, g0, cap, cur, fr, rfl, k2, k3, k4, k5, k6, k7, k8⟩ := h2 hm
  exact ⟨g0, cap, cur, fr, us, gs, rfl, ⟨k2, k3, k5, k6, by simpa using k7, by simpa using k8, h3, fun hg => h4 g0 hg k4⟩, h5 g0 k4, h6⟩
theorem RowsOwn.one {TB : TypeId} {w : World} {us : List Value} {gs : List Nat} {m : Mat} (h : RowsOwn TB w us gs m) : ∀ u ∈ us, u.oneCell' = true := by
  intro u hu
  obtain ⟨i, hi, rfl⟩ := List.mem_iff_getElem.1 hu
  have h1 : i < gs.length := by rw [h.lg, ← h.lu]; exact hi
  have h2 : i < m.length := by rw [← h.lu]; exact hi
  obtain ⟨a, cap, hv⟩ := (h.row i us[i] gs[i] m[i] (by simp [hi]) (by simp [h1]) (by simp [h2])).row.val
  rw [hv]; rfl
section
variable {TR TB : TypeId} {w w' : World} {g0 cap : Nat} {cur : Array Value} {fr : Nat × Nat} {us : List Value} {gs : List Nat} {m : Mat}
theorem MatX.omat {F : Nat → Prop} (h : MatX TR TB w g0 cap cur fr us gs m) (h0 : F g0) (hg : ∀ g ∈ gs, F g) : OMat TR TB F w (.slice (some ⟨g0, 0, none⟩) m.length cap) m := by
  have hO : Own (· = g0) w TR 1 (.slice (some ⟨g0, 0, none⟩) m.length cap) m.length us :=
    ⟨by rw [h.rows.lu, Nat.mul_one], h.rows.one, g0, cap, cur, fr, rfl, h.le, h.cm, rfl, h.hb, h.nf, by rw [h.cs, Nat.mul_one], by rw [Nat.mul_one]; exact h.tk⟩
  exact ⟨(· = g0), us, gs, hO.apd, fun _ => hO, h.rows, fun g hg e => h.out (e ▸ hg), fun b hb => by rw [show b = g0 from hb]; exact h0, hg, fun b hb => by rw [show b = g0 from hb]; exact h.hb.lt⟩
theorem MatX.chg {S : Nat → Prop} (h : MatX TR TB w g0 cap cur fr us gs m) (hC : Chg S w w') (h0 : ¬ S g0) (hg : ∀ g ∈ gs, ¬ S g) : MatX TR TB w' g0 cap cur fr us gs m :=
  ⟨h.le, h.cm, h.hb.chg hC h0, h.nf, h.cs, h.tk, h.rows.chg hC hg, h.out⟩
theorem MatX.ext (h : MatX TR TB w g0 cap cur fr us gs m) (hE : Ext w w') : MatX TR TB w' g0 cap cur fr us gs m := h.chg hE (fun h => h) fun _ _ h => h
theorem MatX.cell (h : MatX TR TB w g0 cap cur fr us gs m) {i : Nat} {u : Value} (hu : us[i]? = some u) : w.cell? ⟨g0, i, none⟩ = some u := by
  rw [cell_of_row w g0 i cur TR fr h.hb]
  rw [← h.tk, List.getElem?_take] at hu
  split at hu
  · simpa using hu
  · cases hu
theorem MatX.get (h : MatX TR TB w g0 cap cur fr us gs m) {i : Nat} (hi : i < m.length) : ∃ u g, us[i]? = some u ∧ gs[i]? = some g ∧ g ∈ gs ∧ Own (· = g) w TB 1 u (m.getD i []).length (bytesV (m.getD i [])) := by
  have h1 : i < us.length := by rw [h.rows.lu]; exact hi
  have h2 : i < gs.length := by rw [h.rows.lg]; exact hi
  have e : m.getD i [] = m[i] := by simp [List.getD_eq_getElem?_getD, hi]
  exact ⟨us[i], gs[i], by simp [h1], by simp [h2], List.getElem_mem h2, by rw [e]; exact h.rows.row i us[i] gs[i] m[i] (by simp [h1]) (by simp [h2]) (by simp [hi])⟩
theorem take_setb (cur : Array Value) (i n : Nat) (u : Value) : (cur.setIfInBounds i u).toList.take n = (cur.toList.take n).set i u := by rw [Array.toList_setIfInBounds, List.take_set]
theorem MatX.set (h : MatX TR TB w g0 cap cur fr us gs m) {i g : Nat} {u : Value} {l : List UInt8} (hb : HB w' g0 (.cells (cur.setIfInBounds i u) TR fr)) (hC : Chg (· = g0) w w') (ho : Own (· = g) w' TB 1 u l.length (bytesV l)) (hg : g ∉ gs) (hg0 : g ≠ g0) :
    MatX TR TB w' g0 cap (cur.setIfInBounds i u) fr (us.set i u) (gs.set i g) (m.set i l) :=
  ⟨by rw [List.length_set]; exact h.le, h.cm, hb, by simpa using h.nf, by simpa using h.cs, by rw [List.length_set, take_setb, h.tk],
   (h.rows.chg hC fun g hg e => h.out (e ▸ hg)).set (fun j hj => absurd (List.mem_of_getElem? hj) hg) ho, fun hm => by
    rcases List.mem_or_eq_of_mem_set hm with hm | hm
    · exact h.out hm
    · exact hg0 hm.symm⟩
theorem MatX.mut (h : MatX TR TB w g0 cap cur fr us gs m) {i g : Nat} {u : Value} {l : List UInt8} (hC : Chg (· = g) w w') (hu : us[i]? = some u) (hg : gs[i]? = some g) (ho : Own (· = g) w' TB 1 u l.length (bytesV l)) : MatX TR TB w' g0 cap cur fr us gs (m.set i l) := by
  have hgm := List.mem_of_getElem? hg
  have hn := List.pairwise_iff_getElem.1 h.rows.nodup
  have hlt := (List.getElem?_eq_some_iff.1 hg).1
  refine ⟨by rw [List.length_set]; exact h.le, h.cm, h.hb.chg hC (fun e => h.out (e ▸ hgm)), h.nf, h.cs, by rw [List.length_set]; exact h.tk, ⟨by rw [List.length_set]; exact h.rows.lu, by rw [List.length_set]; exact h.rows.lg, h.rows.nodup, ?_⟩, h.out⟩
  intro j u' g' l' h1 h2 h3
  by_cases e : i = j
  · subst e
    rw [h1] at hu; rw [h2] at hg
    cases hu; cases hg
    rw [List.getElem?_set] at h3
    simp only [if_true] at h3
    split at h3 <;> simp at h3
    subst h3
    exact ho
  · rw [List.getElem?_set, if_neg e] at h3
    refine (h.rows.row j u' g' l' h1 h2 h3).chg hC fun b _ hb hbg => ?_
    have hb' : b = g' := hb
    have hbg' : b = g := hbg
    obtain ⟨hj, hje⟩ := List.getElem?_eq_some_iff.1 h2
    obtain ⟨hi, hie⟩ := List.getElem?_eq_some_iff.1 hg
    rcases Nat.lt_or_gt_of_ne e with hij | hij
    · exact hn i j hi hj hij (by rw [hie, hje]; omega)
    · exact hn j i hj hi hij (by rw [hie, hje]; omega)
theorem MatX.swap (h : MatX TR TB w g0 cap cur fr us gs m) {r c : Nat} {ur uc : Value} (hr : us[r]? = some ur) (hc : us[c]? = some uc) (hb : HB w' g0 (.cells ((cur.setIfInBounds c ur).setIfInBounds r uc) TR fr)) (hC : Chg (· = g0) w w') :
    ∃ gs', (∀ g ∈ gs', g ∈ gs) ∧ MatX TR TB w' g0 cap ((cur.setIfInBounds c ur).setIfInBounds r uc) fr ((us.set c ur).set r uc) gs' (swapP m r c) := by
  have hrl : r < m.length := by rw [← h.rows.lu]; exact (List.getElem?_eq_some_iff.1 hr).1
  have hcl : c < m.length := by rw [← h.rows.lu]; exact (List.getElem?_eq_some_iff.1 hc).1
  obtain ⟨ur', gr, e1, hgr, hgrm, hor⟩ := h.get hrl
  obtain ⟨uc', gc, e2, hgc, hgcm, hoc⟩ := h.get hcl
  rw [hr] at e1; rw [hc] at e2
  cases e1; cases e2
  have hrows := h.rows.chg hC fun g hg e => h.out (e ▸ hg)
  have hsub : ∀ g ∈ (gs.set c gr).set r gc, g ∈ gs := by
    intro g hg
    rcases List.mem_or_eq_of_mem_set hg with hg | hg
    · rcases List.mem_or_eq_of_mem_set hg with hg | hg
      · exact hg
      · exact hg ▸ hgrm
    · exact hg ▸ hgcm
  have hor' := hor.chg hC fun b _ hb e => h.out (by rw [show g0 = gr from (show b = g0 from e) ▸ hb]; exact hgrm)
  have hoc' := hoc.chg hC fun b _ hb e => h.out (by rw [show g0 = gc from (show b = g0 from e) ▸ hb]; exact hgcm)
  have hat : ∀ k : Nat, ((gs.set c gr).set r gc)[k]? = if k < gs.length then gs[if k = r then c else if k = c then r else k]? else none := by
    intro k
    have hl : gs.length = m.length := h.rows.lg
    rw [List.getElem?_set, List.getElem?_set]
    simp only [List.length_set]
    by_cases e1 : r = k
    · subst e1; simp [hgc, hl, hrl]
    · rw [if_neg e1]
      by_cases e2 : c = k
      · subst e2; rw [if_pos rfl]; simp [show ¬ c = r from fun e => e1 e.symm, hgr, hl, hcl]
      · have h1 : ¬ k = r := fun e => e1 e.symm
        have h2 : ¬ k = c := fun e => e2 e.symm
        rw [if_neg e2]
        simp only [h1, h2, if_false]
        split
        · rfl
        · rename_i hk; rw [List.getElem?_eq_none (by omega)]
  refine ⟨(gs.set c gr).set r gc, hsub, ⟨by simp only [swapP, List.length_set]; exact h.le, h.cm, hb, by simpa using h.nf, by simpa using h.cs, by rw [take_setb, take_setb]; simp only [swapP, List.length_set]; rw [h.tk], ⟨by simp only [swapP, List.length_set]; exact h.rows.lu, by simp only [swapP, List.length_set]; exact h.rows.lg, ?_, ?_⟩, fun hg => h.out (hsub _ hg)⟩⟩
  · have hn := List.pairwise_iff_getElem.1 h.rows.nodup
    refine List.pairwise_iff_getElem.2 fun a b ha hb' hab he => ?_
    have ha' : a < gs.length := by simpa using ha
    have hb2 : b < gs.length := by simpa using hb'
    have A := hat a
    have B := hat b
    rw [if_pos ha', List.getElem?_eq_getElem ha] at A
    rw [if_pos hb2, List.getElem?_eq_getElem hb'] at B
    rw [he, B] at A
    have hl : gs.length = m.length := h.rows.lg
    have inj : ∀ x y : Nat, x < gs.length → gs[x]? = gs[y]? → x = y := by
      intro x y hx hxy
      rw [List.getElem?_eq_getElem hx] at hxy
      obtain ⟨hy, hye⟩ := List.getElem?_eq_some_iff.1 hxy.symm
      rcases Nat.lt_trichotomy x y with hlt | heq | hgt
      · exact absurd hye.symm (hn x y hx hy hlt)
      · exact heq
      · exact absurd hye (hn y x hy hx hgt)
    have hbnd : (if b = r then c else if b = c then r else b) < gs.length := by
      split
      · omega
      · split <;> omega
    have := inj _ _ hbnd A
    split at this <;> split at this <;> (try split at this) <;> (try split at this) <;> omega
  · intro k u g l h1 h2 h3
    simp only [swapP] at h3
    rw [List.getElem?_set] at h1 h2 h3
    by_cases e1 : r = k
    · subst e1
      simp only [if_true, List.length_set] at h1 h2 h3
      split at h1 <;> simp at h1
      split at h2 <;> simp at h2
      split at h3 <;> simp at h3
      all_goals first | (exact absurd hrl (by assumption)) | (subst h1; subst h2; rw [← h3, ← List.getD_eq_getElem?_getD]; exact hoc')
    · rw [if_neg e1] at h1 h2 h3
      rw [List.getElem?_set] at h1 h2 h3
      by_cases e2 : c = k
      · subst e2
        simp only [if_true] at h1 h2 h3
        split at h1 <;> simp at h1
        split at h2 <;> simp at h2
        split at h3 <;> simp at h3
        all_goals first | (exact absurd hcl (by assumption)) | (subst h1; subst h2; rw [← h3, ← List.getD_eq_getElem?_getD]; exact hor')
      · rw [if_neg e2] at h1 h2 h3
        exact hrows.row k u g l h1 h2 h3
end
section
variable {P : Program} {ρ : Env} {w : World} {G : Value → World → Prop} {d : Option Nat} {ty : TypeId} {pos : String} {af : Array Edge} {g : Option (Nat × Bool)}
theorem Y.indexL {x y : Operand} {t e : TypeId} {bytes : Nat} {z : Value} {b o n cap i : Nat} {k : IntKind} (ht : SliceT P t e 1 bytes z) (hx : ev ρ x = some (.slice (some ⟨b, o, none⟩) n cap)) (hy : ev ρ y = some (.int k (i : Int))) (hi : i < n) (h : G (.pointer (some ⟨b, o + i, none⟩)) w) :
    OpY P ⟨d, .indexAddr t x y, ty, pos, af, g⟩ ρ w G := by
  obtain ⟨ii, hinf, hsz, _, _⟩ := ht.get
  refine OpY.val (v := .pointer (some ⟨b, o + i, none⟩)) (w' := w) (fun e he => ?_) h
  simp only [execOp]; rw [he x _ hx, he y _ hy]
  simp [Instr.indexAt, asIntOf, run_underlying ht.und, hi, Go.sizeOf, typeInfo, hinf, hsz, Addr.add_lit]
end
end Go.Proofs.YtchammpamigonaaGreatX
end
section
namespace Go.Proofs.YtchammpamigonaaGreatX
open Go Go.RowKit
def padN (k L : Nat) : Nat := (k - L % k) % k
theorem mod_shift (k L j : Nat) : (L + j) % k = (L % k + j) % k := by simp
theorem padN_lt {k : Nat} (L : Nat) (hk : 0 < k) : padN k L < k := Nat.mod_lt _ hk
theorem padN_mod {k : Nat} (L : Nat) (hk : 0 < k) : (L + padN k L) % k = 0 := by
  rw [mod_shift]
  have hr := Nat.mod_lt L hk
  unfold padN
  by_cases h : L % k = 0
  · rw [h]; simp
  · rw [Nat.mod_eq_of_lt (show k - L % k < k by omega), show L % k + (k - L % k) = k by omega, Nat.mod_self]
theorem padN_stop {k L j : Nat} (hk : 0 < k) (hj : j ≤ padN k L) (h : (L + j) % k = 0) : j = padN k L := by
  rw [mod_shift] at h
  have hr := Nat.mod_lt L hk
  unfold padN at hj ⊢
  by_cases h0 : L % k = 0
  · rw [h0] at hj ⊢; simp at hj ⊢; omega
  · rw [Nat.mod_eq_of_lt (show k - L % k < k by omega)] at hj ⊢
    rcases Nat.lt_or_ge (L % k + j) k with h1 | h1
    · rw [Nat.mod_eq_of_lt h1] at h; omega
    · omega
def padB (k : Nat) (l : List UInt8) : List UInt8 := textB l ++ List.replicate (padN k (textB l).length) 0
theorem padB_length (k : Nat) (l : List UInt8) : (padB k l).length = (textB l).length + padN k (textB l).length := by simp [padB]
theorem padB_mod {k : Nat} (l : List UInt8) (hk : 0 < k) : (padB k l).length % k = 0 := by rw [padB_length]; exact padN_mod _ hk
def pieceN (k : Nat) (l : List UInt8) : Nat := (padB k l).length / k
theorem pieceN_mul {k : Nat} (l : List UInt8) (hk : 0 < k) : k * pieceN k l = (padB k l).length := by
  have := Nat.div_add_mod (padB k l).length k
  rw [padB_mod l hk] at this
  exact this
theorem pieceN_pos {k : Nat} (l : List UInt8) (hk : 0 < k) : 0 < pieceN k l := by
  have h1 := pieceN_mul l hk
  have h2 : 4 ≤ (padB k l).length := by rw [padB_length, textB_length]; omega
  rcases Nat.eq_zero_or_pos (pieceN k l) with h | h
  · rw [h] at h1; omega
  · exact h
theorem padB_le {k : Nat} (l : List UInt8) (hk : 0 < k) : (padB k l).length < 4 + l.length + k := by
  rw [padB_length, textB_length]
  have := padN_lt (4 + l.length) hk
  omega
theorem pieceN_le {k : Nat} (l : List UInt8) (hk : 0 < k) : pieceN k l ≤ (padB k l).length := Nat.div_le_self _ _
def pieceP (k : Nat) (l : List UInt8) (i : Nat) : List UInt8 := ((padB k l).drop (i * pieceN k l)).take (pieceN k l)
def piecesP (k : Nat) (l : List UInt8) : List (List UInt8) := (List.range k).map (pieceP k l)
theorem piece_end {k i : Nat} (l : List UInt8) (hk : 0 < k) (hi : i < k) : (i + 1) * pieceN k l ≤ (padB k l).length := by
  rw [← pieceN_mul l hk]; exact Nat.mul_le_mul_right _ hi
theorem pieceP_length {k i : Nat} (l : List UInt8) (hk : 0 < k) (hi : i < k) : (pieceP k l i).length = pieceN k l := by
  have h := piece_end l hk hi
  rw [Nat.add_mul] at h
  rw [pieceP, List.length_take, List.length_drop]; omega
theorem piecesP_length (k : Nat) (l : List UInt8) : (piecesP k l).length = k := by simp [piecesP]
theorem piecesP_all {k : Nat} (l : List UInt8) (hk : 0 < k) : ∀ p ∈ piecesP k l, p.length = pieceN k l := by
  intro p hp
  simp only [piecesP, List.mem_map, List.mem_range] at hp
  obtain ⟨i, hi, rfl⟩ := hp
  exact pieceP_length l hk hi
def encR (k n : Nat) (l : List UInt8) : List (List UInt8) := rmul (rcod k n) (piecesP k l)
def encP (k n : Nat) (l : List UInt8) : List (List UInt8) := matMul (codingP k n) (piecesP k l)
def fileB (i : Nat) (l : List UInt8) : List UInt8 := frameB (numB i ++ textB l)
theorem fileB_length (i : Nat) (l : List UInt8) : (fileB i l).length = 20 + l.length := by simp [fileB, frameB_length, numB_length, textB_length]; omega
def filesP (m : List (List UInt8)) : List (List UInt8) := m.zipIdx.map fun p => fileB p.2 p.1
theorem RowsAll.keep {w0 w w' : World} (hC : Chg (Since w0) w w') {R : Nat → Prop} (hlt : ∀ b, R b → b < w0.heap.size) {vs : List Value} {m : List (List UInt8)} (h : RowsAll R w vs m) : RowsAll R w' vs m := h.imp fun _ _ h => Row.keep hC h hlt
theorem mul64 (a b : Nat) (h : a * b ≤ 9223372036854775807) : IntKind.i64.wrap ((a : Int) * (b : Int)) = ((a * b : Nat) : Int) := by
  rw [← Int.natCast_mul]
  generalize a * b = c at h
  rw [wrap64 (by omega) (by omega)]
theorem piecesP_range (k : Nat) (l : List UInt8) : (List.range k).map (pieceP k l) = piecesP k l := rfl
theorem range_map_succ {α : Type} (f : Nat → α) (i : Nat) : (List.range (i + 1)).map f = (List.range i).map f ++ [f i] := by rw [List.range_succ, List.map_append]; rfl
theorem pieceP_cut {k i : Nat} (l : List UInt8) : ((padB k l).drop (i * pieceN k l)).take ((i + 1) * pieceN k l - i * pieceN k l) = pieceP k l i := by
  rw [pieceP, Nat.add_mul, Nat.one_mul, Nat.add_sub_cancel_left]
theorem pieceP_cut_len {k i : Nat} (l : List UInt8) : (((padB k l).drop (i * pieceN k l)).take ((i + 1) * pieceN k l - i * pieceN k l)).length = (pieceP k l i).length := by rw [pieceP_cut]
theorem filesP_length (m : List (List UInt8)) : (filesP m).length = m.length := by simp [filesP]
theorem filesP_take (m : List (List UInt8)) (i : Nat) (h : i < m.length) : filesP (m.take (i + 1)) = filesP (m.take i) ++ [fileB i m[i]] := by
  rw [filesP, List.take_succ_eq_append_getElem h, List.zipIdx_append, List.map_append]
  simp [filesP, Nat.min_eq_left (Nat.le_of_lt h)]
theorem encR_length (k n : Nat) (l : List UInt8) : (encR k n l).length = n := by simp [encR, rmul, rcod]
theorem encR_all {k n : Nat} (l : List UInt8) (hk : 0 < k) : ∀ p ∈ encR k n l, p.length = pieceN k l := by
  intro p hp
  simp only [encR, rmul, List.mem_map] at hp
  obtain ⟨r, -, rfl⟩ := hp
  have := headD_len (piecesP k l) (pieceN k l) (piecesP_all l hk) (by rw [piecesP_length]; exact hk)
  rw [List.length_map, List.length_range, this]
def thereP (m : List (List UInt8)) : List Nat := (List.range m.length).filter fun i => decide (0 < (m.getD i []).length)
def thereK (m : List (List UInt8)) (k : Nat) : List Nat := (List.range k).filter fun i => decide (0 < (m.getD i []).length)
theorem thereK_all (m : List (List UInt8)) : thereK m m.length = thereP m := rfl
theorem thereK_yes (m : List (List UInt8)) (k : Nat) (h : 0 < (m.getD k []).length) : thereK m (k + 1) = thereK m k ++ [k] := by
  rw [thereK, List.range_succ, List.filter_append]; simp only [List.filter_cons, h, decide_true, if_true, List.filter_nil]; rfl
theorem thereK_no (m : List (List UInt8)) (k : Nat) (h : ¬ 0 < (m.getD k []).length) : thereK m (k + 1) = thereK m k := by
  rw [thereK, List.range_succ, List.filter_append]; simp only [List.filter_cons, h, decide_false, List.filter_nil]; simp [thereK]
theorem thereK_length (m : List (List UInt8)) (k : Nat) : (thereK m k).length ≤ k := by
  have := List.length_filter_le (fun i => decide (0 < (m.getD i []).length)) (List.range k)
  simpa [thereK] using this
def zsV (l : List Int) : List Value := l.map fun z : Int => .int .i64 z
abbrev Zs (S : Nat → Prop) (w : World) (v : Value) (l : List Int) : Prop := Row S w v l.length (zsV l)
theorem zsV_get (l : List Int) (k : Nat) (h : k < l.length) : (zsV l)[k]? = some (.int .i64 l[k]) := by simp [zsV, h]
theorem mem_take_succ (l : List Int) (k : Nat) (h : k < l.length) (z : Int) : z ∈ l.take (k + 1) ↔ z ∈ l.take k ∨ z = l[k] := by
  rw [List.take_succ_eq_append_getElem h, List.mem_append]; simp
def boolsV (l : List Bool) : List Value := l.map Value.bool
theorem boolsV_get (l : List Bool) (k : Nat) (h : k < l.length) : (boolsV l)[k]? = some (.bool l[k]) := by simp [boolsV, h]
def hasP (s p : List UInt8) : Bool := decide (p.length ≤ s.length) && decide (s.take p.length = p)
theorem hasP_le {s p : List UInt8} (h : hasP s p = true) : p.length ≤ s.length := by simp [hasP] at h; exact h.1
def shardD (i : Nat) (d r : List UInt8) : List UInt8 :=
  if d.length < 4 then [] else
  if (d.drop 4).length < 4 then [] else
  if ((d.drop 4).drop 4).length < numOf ((d.drop 4).take 4) then [] else
  if 0 < r.length + (((d.drop 4).drop 4).drop (numOf ((d.drop 4).take 4))).length then [] else
  if numOf (d.take 4) ≠ i then [] else ((d.drop 4).drop 4).take (numOf ((d.drop 4).take 4))
def shardP (i : Nat) (x : List UInt8) : List UInt8 := match cutF x with | none => [] | some (d, r) => shardD i d r
end Go.Proofs.YtchammpamigonaaGreatX
end
section
namespace Go.Proofs.YtchammpamigonaaGreatX
open Go Go.RowKit
structure FileS where
  data : List UInt8
  syn : Nat
  own : Bool
abbrev FS := KV FileS
def FileAt (TF TB : TypeId) (Fk : Nat → Prop) (w : World) (fb : Nat) (f : FileS) : Prop :=
  ∃ sl Fd, HB w fb (.cells #[sl, .int .i64 (f.syn : Int)] TF (0, 0)) ∧ Apd Fd w TB 1 sl f.data.length (bytesV f.data) ∧ (f.own = true → Own Fd w TB 1 sl f.data.length (bytesV f.data)) ∧ f.syn ≤ f.data.length ∧ Fk fb ∧ ¬ Fd fb ∧ ∀ b, Fd b → Fk b
theorem FileAt.same {TF TB : TypeId} {Fk : Nat → Prop} {w w' : World} {fb : Nat} {f : FileS} (h : FileAt TF TB Fk w fb f) (hs : Same Fk w w') : FileAt TF TB Fk w' fb f := by
  obtain ⟨sl, Fd, h1, h2, h3, h4, h5, h6, h7⟩ := h
  have hd : Same Fd w w' := fun b hb hf => hs b hb (h7 b hf)
  exact ⟨sl, Fd, hs.heap h1 h5, h2.same hd, fun ho => (h3 ho).same hd, h4, h5, h6, h7⟩
structure DiskX (TD TF TB : TypeId) (w : World) (db r : Nat) (most : Nat) (Fs : List UInt8 → Nat → Prop) (es : KVs) (fs : FS) : Prop where
  cell : HB w db (.cells #[.map (some r), .int .i64 (most : Int)] TD (0, 0))
  map : MapB w r es
  ne : db ≠ r
  keys : es.map (·.1) = fs.map (·.1)
  file : ∀ k v, lookK k es = some v → ∃ fb f, v = .pointer (some ⟨fb, 0, none⟩) ∧ lookK k fs = some f ∧ FileAt TF TB (Fs k) w fb f
  out : ∀ k ∈ fs.map (·.1), ¬ Fs k db ∧ ¬ Fs k r
  dis : ∀ k ∈ fs.map (·.1), ∀ k' ∈ fs.map (·.1), k ≠ k' → ∀ b, Fs k b → ¬ Fs k' b
  bnd : ∀ k ∈ fs.map (·.1), ∀ b, Fs k b → b < w.heap.size
def DiskB (TD TF TB : TypeId) (F : Nat → Prop) (w : World) (d : Value) (most : Nat) (fs : FS) : Prop :=
  ∃ db r Fs es, d = .pointer (some ⟨db, 0, none⟩) ∧ DiskX TD TF TB w db r most Fs es fs ∧ F db ∧ F r ∧ ∀ k ∈ fs.map (·.1), ∀ b, Fs k b → F b
theorem lookK_mem {α : Type} {k : List UInt8} {v : α} : ∀ {es : KV α}, lookK k es = some v → k ∈ es.map (·.1)
  | [], h => by simp [lookK_nil] at h
  | (k2, v2) :: r, h => by
    rw [lookK_cons] at h
    split at h
    · rename_i e; simp [e]
    · simp only [List.map_cons, List.mem_cons]; exact .inr (lookK_mem h)
theorem lookK_some {α : Type} {k : List UInt8} : ∀ {es : KV α}, k ∈ es.map (·.1) → ∃ v, lookK k es = some v
  | [], h => by simp at h
  | (k2, v2) :: r, h => by
    rw [lookK_cons]
    by_cases e : k = k2
    · exact ⟨v2, if_pos e⟩
    · simp only [List.map_cons, List.mem_cons, e, false_or] at h
      rw [if_neg e]; exact lookK_some h
theorem DiskX.same {TD TF TB : TypeId} {w w' : World} {db r most : Nat} {Fs : List UInt8 → Nat → Prop} {es : KVs} {fs : FS} {S : Nat → Prop} (h : DiskX TD TF TB w db r most Fs es fs) (hC : Chg S w w') (h1 : ¬ S db) (h2 : ¬ S r) (h3 : ∀ k ∈ fs.map (·.1), ∀ b, Fs k b → ¬ S b) : DiskX TD TF TB w' db r most Fs es fs :=
  ⟨h.cell.chg hC h1, h.map.chg hC h2, h.ne, h.keys, fun k v hk => by
    obtain ⟨fb, f, a, b, c⟩ := h.file k v hk
    exact ⟨fb, f, a, b, c.same (hC.same fun x _ hx => h3 k (by rw [← h.keys]; exact lookK_mem hk) x hx)⟩, h.out, h.dis, fun k hk b hb => Nat.lt_of_lt_of_le (h.bnd k hk b hb) hC.size⟩
theorem DiskB.chg {TD TF TB : TypeId} {F S : Nat → Prop} {w w' : World} {d : Value} {most : Nat} {fs : FS} (h : DiskB TD TF TB F w d most fs) (hC : Chg S w w') (hd : ∀ b, F b → ¬ S b) : DiskB TD TF TB F w' d most fs := by
  obtain ⟨db, r, Fs, es, h1, h2, h3, h4, h5⟩ := h
  exact ⟨db, r, Fs, es, h1, h2.same hC (hd _ h3) (hd _ h4) (fun k hk b hb => hd b (h5 k hk b hb)), h3, h4, h5⟩
theorem DiskB.ext {TD TF TB : TypeId} {F : Nat → Prop} {w w' : World} {d : Value} {most : Nat} {fs : FS} (h : DiskB TD TF TB F w d most fs) (hE : Ext w w') : DiskB TD TF TB F w' d most fs := h.chg hE fun _ _ h => h
theorem DiskB.mono {TD TF TB : TypeId} {F F' : Nat → Prop} {w : World} {d : Value} {most : Nat} {fs : FS} (h : DiskB TD TF TB F w d most fs) (hF : ∀ b, F b → F' b) : DiskB TD TF TB F' w d most fs := by
  obtain ⟨db, r, Fs, es, h1, h2, h3, h4, h5⟩ := h
  exact ⟨db, r, Fs, es, h1, h2, hF _ h3, hF _ h4, fun k hk b hb => hF b (h5 k hk b hb)⟩
theorem two0 {w : World} {b : Nat} {x y : Value} {T : TypeId} (h : HB w b (.cells #[x, y] T (0, 0))) : w.cell? ⟨b, 0 + 0, none⟩ = some x := cell_arr (cs := [x, y]) h rfl
theorem two1 {w : World} {b : Nat} {x y : Value} {T : TypeId} (h : HB w b (.cells #[x, y] T (0, 0))) : w.cell? ⟨b, 0 + 1, none⟩ = some y := cell_arr (cs := [x, y]) h rfl
theorem DiskX.no {TD TF TB : TypeId} {w : World} {db r most : Nat} {Fs : List UInt8 → Nat → Prop} {es : KVs} {fs : FS} (h : DiskX TD TF TB w db r most Fs es fs) {k : List UInt8} (hk : lookK k fs = none) : lookK k es = none := by
  cases he : lookK k es with
  | none => rfl
  | some v => obtain ⟨_, f, _, hf, _⟩ := h.file k v he; rw [hk] at hf; cases hf
theorem DiskX.yes {TD TF TB : TypeId} {w : World} {db r most : Nat} {Fs : List UInt8 → Nat → Prop} {es : KVs} {fs : FS} (h : DiskX TD TF TB w db r most Fs es fs) {k : List UInt8} {f : FileS} (hk : lookK k fs = some f) : ∃ fb, lookK k es = some (.pointer (some ⟨fb, 0, none⟩)) ∧ FileAt TF TB (Fs k) w fb f := by
  obtain ⟨v, hv⟩ := lookK_some (es := es) (k := k) (by rw [h.keys]; exact lookK_mem hk)
  obtain ⟨fb, f', rfl, hf, hF⟩ := h.file k v hv
  rw [hk] at hf
  cases hf
  exact ⟨fb, hv, hF⟩
theorem DiskX.setFile {TD TF TB : TypeId} {w w' : World} {db r most : Nat} {Fs : List UInt8 → Nat → Prop} {es : KVs} {fs : FS} {S Fk : Nat → Prop} {k : List UInt8} {f' : FileS} {fb : Nat} (h : DiskX TD TF TB w db r most Fs es fs) (hC : Chg S w w') (hS : ∀ b, S b → Fs k b)
    (hk : lookK k es = some (.pointer (some ⟨fb, 0, none⟩))) (hF : FileAt TF TB Fk w' fb f') (hFk : ∀ b, Fk b → Fs k b ∨ w.heap.size ≤ b) (hFb : ∀ b, Fk b → b < w'.heap.size) : DiskX TD TF TB w' db r most (fun x => if x = k then Fk else Fs x) es (upK k f' fs) := by
  have hkm : k ∈ fs.map (·.1) := by rw [← h.keys]; exact lookK_mem hk
  have hkeys : (upK k f' fs).map (·.1) = fs.map (·.1) := by rw [keys_upK, if_pos hkm]
  have hout := h.out k hkm
  have hdbl := h.cell.lt
  have hrl : r < w.heap.size := by obtain ⟨_, _, hb, _⟩ := h.map; exact hb.lt
  refine ⟨h.cell.chg hC fun e => hout.1 (hS _ e), h.map.chg hC fun e => hout.2 (hS _ e), h.ne, by rw [hkeys]; exact h.keys, fun x v hx => ?_, fun x hx => ?_, fun x hx y hy hxy b hb => ?_, fun x hx b hb => ?_⟩
  · by_cases e : x = k
    · subst e
      rw [hk] at hx
      cases hx
      exact ⟨fb, f', rfl, by rw [lookK_upK, if_pos rfl], by simpa using hF⟩
    · obtain ⟨fb2, f2, a, b, c⟩ := h.file x v hx
      have hxm : x ∈ fs.map (·.1) := lookK_mem b
      refine ⟨fb2, f2, a, by rw [lookK_upK, if_neg e]; exact b, ?_⟩
      rw [if_neg e]
      exact c.same (hC.same fun y _ hy hs => h.dis x hxm k hkm e y hy (hS _ hs))
  · rw [hkeys] at hx
    by_cases e : x = k
    · rw [if_pos e]
      exact ⟨fun hb => (hFk _ hb).elim hout.1 (fun h => by omega), fun hb => (hFk _ hb).elim hout.2 (fun h => by omega)⟩
    · rw [if_neg e]; exact h.out x hx
  · rw [hkeys] at hx hy
    by_cases e : x = k
    · rw [if_pos e] at hb
      have ey : ¬ y = k := fun e' => hxy (e.trans e'.symm)
      rw [if_neg ey]
      rcases hFk b hb with hb | hb
      · exact h.dis k hkm y hy (fun e' => ey e'.symm) b hb
      · exact fun hb2 => by have := h.bnd y hy b hb2; omega
    · rw [if_neg e] at hb
      by_cases ey : y = k
      · rw [if_pos ey]
        intro hb2
        rcases hFk b hb2 with h2 | h2
        · exact h.dis x hx k hkm e b hb h2
        · have := h.bnd x hx b hb; omega
      · rw [if_neg ey]; exact h.dis x hx y hy hxy b hb
  · rw [hkeys] at hx
    by_cases e : x = k
    · rw [if_pos e] at hb; exact hFb b hb
    · rw [if_neg e] at hb; exact Nat.lt_of_lt_of_le (h.bnd x hx b hb) hC.size
theorem MapB.nd {w : World} {r : Nat} {es : KVs} (h : MapB w r es) : (es.map (·.1)).Nodup := let ⟨_, _, _, hA⟩ := h; hA.nd
theorem DiskX.nd {TD TF TB : TypeId} {w : World} {db r most : Nat} {Fs : List UInt8 → Nat → Prop} {es : KVs} {fs : FS} (h : DiskX TD TF TB w db r most Fs es fs) : (fs.map (·.1)).Nodup := by rw [← h.keys]; exact h.map.nd
theorem DiskX.del {TD TF TB : TypeId} {w w' : World} {db r most : Nat} {Fs : List UInt8 → Nat → Prop} {es : KVs} {fs : FS} {k : List UInt8} (h : DiskX TD TF TB w db r most Fs es fs) (hC : Chg (· = r) w w') (hm : MapB w' r (delK k es)) : DiskX TD TF TB w' db r most Fs (delK k es) (delK k fs) := by
  have hsub : ∀ x, x ∈ (delK k fs).map (·.1) → x ∈ fs.map (·.1) := fun x hx => by rw [keys_delK k fs h.nd] at hx; exact (List.mem_filter.1 hx).1
  refine ⟨h.cell.chg hC h.ne, hm, h.ne, ?_, fun x v hx => ?_, fun x hx => h.out x (hsub x hx), fun x hx y hy => h.dis x (hsub x hx) y (hsub y hy), fun x hx b hb => Nat.lt_of_lt_of_le (h.bnd x (hsub x hx) b hb) hC.size⟩
  · rw [keys_delK k es h.map.nd, keys_delK k fs h.nd, h.keys]
  · rw [lookK_delK k x es h.map.nd] at hx
    split at hx
    · cases hx
    · rename_i e
      obtain ⟨fb, f, a, b, c⟩ := h.file x v hx
      exact ⟨fb, f, a, by rw [lookK_delK k x fs h.nd, if_neg e]; exact b, c.same (hC.same fun y _ hy hyr => (h.out x (lookK_mem b)).2 (hyr ▸ hy))⟩
theorem DiskX.put {TD TF TB : TypeId} {w w' : World} {db r most : Nat} {Fs : List UInt8 → Nat → Prop} {es : KVs} {fs : FS} {k : List UInt8} {f : FileS} {fb : Nat} {Fk : Nat → Prop} (h : DiskX TD TF TB w db r most Fs es fs) (hC : Chg (· = r) w w') (hm : MapB w' r (upK k (.pointer (some ⟨fb, 0, none⟩)) es))
    (hF : FileAt TF TB Fk w fb f) (h1 : ¬ Fk db) (h2 : ¬ Fk r) (h3 : ∀ x ∈ fs.map (·.1), x ≠ k → ∀ b, Fk b → ¬ Fs x b) (h4 : ∀ b, Fk b → b < w.heap.size) : DiskX TD TF TB w' db r most (fun x => if x = k then Fk else Fs x) (upK k (.pointer (some ⟨fb, 0, none⟩)) es) (upK k f fs) := by
  have hkeys : ∀ x, x ∈ (upK k f fs).map (·.1) → x ≠ k → x ∈ fs.map (·.1) := fun x hx hxk => by
    rw [keys_upK] at hx
    split at hx
    · exact hx
    · rcases List.mem_append.1 hx with hx | hx
      · exact hx
      · simp at hx; exact absurd hx hxk
  refine ⟨h.cell.chg hC h.ne, hm, h.ne, by rw [keys_upK, keys_upK, h.keys], fun x v hx => ?_, fun x hx => ?_, fun x hx y hy hxy b hb => ?_, fun x hx b hb => ?_⟩
  · rw [lookK_upK] at hx
    by_cases e : x = k
    · rw [if_pos e] at hx
      cases hx
      exact ⟨fb, f, rfl, by rw [lookK_upK, if_pos e], by rw [if_pos e]; exact hF.same (hC.same fun y _ hy hyr => h2 (hyr ▸ hy))⟩
    · rw [if_neg e] at hx
      obtain ⟨fb2, f2, a, b, c⟩ := h.file x v hx
      exact ⟨fb2, f2, a, by rw [lookK_upK, if_neg e]; exact b, by rw [if_neg e]; exact c.same (hC.same fun y _ hy hyr => (h.out x (lookK_mem b)).2 (hyr ▸ hy))⟩
  · by_cases e : x = k
    · rw [if_pos e]; exact ⟨h1, h2⟩
    · rw [if_neg e]; exact h.out x (hkeys x hx e)
  · by_cases e : x = k
    · rw [if_pos e] at hb
      have ey : ¬ y = k := fun e' => hxy (e.trans e'.symm)
      rw [if_neg ey]
      exact h3 y (hkeys y hy ey) ey b hb
    · rw [if_neg e] at hb
      by_cases ey : y = k
      · rw [if_pos ey]; exact fun hb2 => h3 x (hkeys x hx e) e b hb2 hb
      · rw [if_neg ey]; exact h.dis x (hkeys x hx e) y (hkeys y hy ey) hxy b hb
  · by_cases e : x = k
    · rw [if_pos e] at hb; exact Nat.lt_of_lt_of_le (h4 b hb) hC.size
    · rw [if_neg e] at hb; exact Nat.lt_of_lt_of_le (h.bnd x (hkeys x hx e) b hb) hC.size
def usedP (fs : FS) : Nat := (fs.map fun p => p.2.data.length).sum
def lenAt (fs : FS) (k : List UInt8) : Nat := ((lookK k fs).map fun f => f.data.length).getD 0
def lenOf (fs : FS) (sn : KVs) : Nat := (sn.map fun p => lenAt fs p.1).sum
theorem perm_sum {l m : List Nat} (h : l.Perm m) : l.sum = m.sum := by
  induction h with
  | nil => rfl
  | cons x _ ih => simp [ih]
  | swap x y l => simp; omega
  | trans _ _ ih1 ih2 => exact ih1.trans ih2
theorem lenOf_perm {fs : FS} {a b : KVs} (h : a.Perm b) : lenOf fs a = lenOf fs b := perm_sum (h.map _)
theorem lenOf_append (fs : FS) (a b : KVs) : lenOf fs (a ++ b) = lenOf fs a + lenOf fs b := by simp [lenOf]
theorem usedP_eq : ∀ {fs : FS}, (fs.map (·.1)).Nodup → usedP fs = ((fs.map (·.1)).map (lenAt fs)).sum
  | [], _ => rfl
  | (k, f) :: r, h => by
    simp only [List.map_cons, List.nodup_cons] at h
    have ih := usedP_eq h.2
    have e1 : lenAt ((k, f) :: r) k = f.data.length := by simp [lenAt, lookK_cons]
    have e2 : (r.map (·.1)).map (lenAt ((k, f) :: r)) = (r.map (·.1)).map (lenAt r) := List.map_congr_left fun x hx => by
      have hne : ¬ x = k := fun e => h.1 (e ▸ hx)
      simp [lenAt, lookK_cons, hne]
    simp only [usedP, List.map_cons, List.sum_cons] at ih ⊢
    rw [e1, e2, ih]
theorem lenOf_all {fs : FS} {es : KVs} (hk : es.map (·.1) = fs.map (·.1)) (hn : (fs.map (·.1)).Nodup) : lenOf fs es = usedP fs := by
  rw [usedP_eq hn, ← hk, List.map_map]; rfl
theorem lookK_of_mem {α : Type} {p : List UInt8 × α} : ∀ {es : KV α}, (es.map (·.1)).Nodup → p ∈ es → lookK p.1 es = some p.2
  | [], _, h => by cases h
  | (k, v) :: r, hn, h => by
    simp only [List.map_cons, List.nodup_cons] at hn
    rw [lookK_cons]
    rcases List.mem_cons.1 h with h | h
    · subst h; simp
    · have hne : ¬ p.1 = k := fun e => hn.1 (e ▸ List.mem_map_of_mem (f := (·.1)) h)
      rw [if_neg hne]; exact lookK_of_mem hn.2 h
section
variable {P : Program} {ρ : Env} {w : World} {G : Value → World → Prop} {d : Option Nat} {ty : TypeId} {pos : String} {af : Array Edge} {g : Option (Nat × Bool)}
theorem Y.appendG {x y : Operand} {t u e e' : TypeId} {sz bytes : Nat} {z : Value} {v q : Value} {S R : Nat → Prop} {n m : Nat} {xs ys : List Value} (ht : SliceT P t e sz bytes z) (hu : P.underlying u = some (.slice e')) (hx : ev ρ x = some v) (hy : ev ρ y = some q)
    (hv : Apd S w e sz v n xs) (hq : Row R w q m ys) (hl : ys.length = m * sz) (hby : (n + m) * bytes ≤ 140737488355328) (hnm : n + m ≤ 9223372036854775807)
    (h : ∀ v' w', Apd (Grow S w w') w' e sz v' (n + m) (xs ++ ys) → (0 < m → Own (Grow S w w') w' e sz v' (n + m) (xs ++ ys)) → Chg S w w' → G v' w') : OpY P ⟨d, .call ⟨.builtin .append, #[x, y], #[t, u]⟩, ty, pos, af, g⟩ ρ w G := by
  have h1 : ∀ y ∈ ys, y.oneCell' = true := let ⟨_, _, _, _, _, _, h4, _⟩ := hq; h4
  obtain ⟨v', w', hrun, hA, hC, hO⟩ := run_append (P := P) (ty := ty) ht (.inl ⟨e', hu⟩) hv (run_lenOf hq) (fun w' hw' => run_firstCells (hq.same (w' := w') (fun b _ _ => by rw [hw'])) hl) hl h1 hby hnm
  refine OpY.val (v := v') (w' := w') (fun e he => ?_) (h _ _ hA hO hC)
  simp only [execOp, resolve, List.map_toArray, List.map_cons, List.map_nil]
  rw [he x _ hx, he y _ hy]
  simp [invoke, builtin, hrun]
end
theorem upK_upK {α : Type} (k : List UInt8) (v v' : α) : ∀ es : KV α, upK k v (upK k v' es) = upK k v es
  | [] => by simp [upK]
  | (k2, v2) :: r => by
    by_cases e : k = k2
    · simp [upK, e]
    · simp [upK, e, upK_upK k v v' r]
theorem two0' {w : World} {b : Nat} {x y : Value} {T : TypeId} (h : w.heap[b]? = some (.cells (Value.cells (.agg #[x, y])) T (0, 0))) : HB w b (.cells #[x, y] T (0, 0)) := h
theorem Row.apdN {S : Nat → Prop} {w : World} {T : TypeId} {sz : Nat} {a : Option Addr} {n : Nat} {xs : List Value} (h : Row S w (.slice a n n) n xs) (hl : xs.length = n * sz) : Apd S w T sz (.slice a n n) n xs := by
  obtain ⟨a', cap, hv, h1, h2, h3, h4, h5⟩ := h
  cases hv
  exact ⟨hl, h4, a, n, rfl, Nat.le_refl _, h2, .inl ⟨rfl, h5⟩⟩
section
variable {P : Program} {ρ : Env} {w : World} {G : Value → World → Prop} {d : Option Nat} {ty : TypeId} {pos : String} {af : Array Edge} {g : Option (Nat × Bool)}
theorem Y.slice3A {x y y' : Operand} {t e : TypeId} {bytes : Nat} {z : Value} {v : Value} {S : Nat → Prop} {l : List UInt8} {kk : IntKind} {i : Int} {k : Nat} (ht : SliceT P t e 1 bytes z) (hx : ev ρ x = some v) (hr : Bs S w v l) (hy : ev ρ y = some (.int kk i)) (hy' : ev ρ y' = some (.int kk i)) (hb : bnd 0 (some (.int kk i)) = some k) (hk : k ≤ l.length)
    (h : ∀ v', Apd S w e 1 v' k (bytesV (l.take k)) → G v' w) : OpY P ⟨d, .slice t x none (some y) (some y'), ty, pos, af, g⟩ ρ w G := by
  obtain ⟨ii, hinf, hsz, _, _⟩ := ht.get
  obtain ⟨a, cap, rfl, hc, hp⟩ := hr.part (sz := 1) (lo := 0) (hi := k) (by simp [bytesV]) (Nat.zero_le _) hk
  have hP := hp k (Nat.le_refl _) (by omega)
  have hP' : Row S w (.slice (if k = 0 then a else a.map (·.add (0 * 1))) k k) k (bytesV (l.take k)) := hP.cast (by omega) (by simp [bytesV, List.map_take])
  refine OpY.val (v := .slice (if k = 0 then a else a.map (·.add (0 * 1))) (k - 0) (k - 0)) (w' := w) (fun e he => ?_) (h _ (hP'.apdN (by simp [bytesV]; omega)))
  have hq := fun c (j : Nat) (hj : k ≤ j) => run_sliceBound (P := P) (w := w) (c := c) hb hj
  simp only [execOp]
  rw [he x _ hx]
  simp only [Option.map_some, Option.map_none, he y _ hy, he y' _ hy']
  simp [Instr.sliceAt, run_underlying ht.und, Instr.slice, Instr.sliceBounds, Go.sizeOf, typeInfo, hinf, hsz, hq _ cap (by omega), hq _ k (Nat.le_refl _)]
end
theorem FileAt.ext {TF TB : TypeId} {Fk : Nat → Prop} {w w' : World} {fb : Nat} {f : FileS} (h : FileAt TF TB Fk w fb f) (hE : Ext w w') : FileAt TF TB Fk w' fb f := h.same (hE.same Fk)
theorem FileAt.mono {TF TB : TypeId} {Fk Fk' : Nat → Prop} {w : World} {fb : Nat} {f : FileS} (h : FileAt TF TB Fk w fb f) (hF : ∀ b, b < w.heap.size → Fk b → Fk' b) : FileAt TF TB Fk' w fb f := by
  obtain ⟨sl, Fd, h1, h2, h3, h4, h5, h6, h7⟩ := h
  exact ⟨sl, fun b => Fd b ∧ b < w.heap.size, h1, h2.mono fun b hb h => ⟨h, hb⟩, fun ho => (h3 ho).mono fun b hb h => ⟨h, hb⟩, h4, hF _ h1.lt h5, fun h => h6 h.1, fun b h => hF b h.2 (h7 b h.1)⟩
def cpF (f : FileS) : FileS := ⟨f.data, f.syn, decide (0 < f.data.length)⟩
def cpS (fs : FS) (sn : KVs) : FS := sn.map fun p => (p.1, cpF ((lookK p.1 fs).getD ⟨[], 0, false⟩))
theorem cpS_keys (fs : FS) (sn : KVs) : (cpS fs sn).map (·.1) = sn.map (·.1) := by simp [cpS, Function.comp_def]
theorem cpS_snoc (fs : FS) (sn : KVs) (p : List UInt8 × Value) : cpS fs (sn ++ [p]) = cpS fs sn ++ [(p.1, cpF ((lookK p.1 fs).getD ⟨[], 0, false⟩))] := by simp [cpS]
theorem upK_new {α : Type} {k : List UInt8} {v : α} : ∀ {es : KV α}, k ∉ es.map (·.1) → upK k v es = es ++ [(k, v)]
  | [], _ => rfl
  | (k2, v2) :: r, h => by
    simp only [List.map_cons, List.mem_cons, not_or] at h
    simp [upK, h.1, upK_new h.2]
end Go.Proofs.YtchammpamigonaaGreatX
end
section
namespace Go.Proofs.YtchammpamigonaaGreatX
open Go Go.RowKit
theorem one0 {w : World} {b : Nat} {x : Value} {T : TypeId} (h : HB w b (.cells #[x] T (0, 0))) : w.cell? ⟨b, 0, none⟩ = some x := cell_arr (cs := [x]) h rfl
def strsV (ss : List (List UInt8)) : List Value := ss.map strV
theorem strsV_get {ss : List (List UInt8)} {j : Nat} (h : j < ss.length) : (strsV ss)[j]? = some (strV ss[j]) := by simp [strsV, h]
theorem strsV_set (ss : List (List UInt8)) (j : Nat) (s : List UInt8) : (strsV ss).set j (strV s) = strsV (ss.set j s) := by simp [strsV, List.map_set]
def swapS (ss : List (List UInt8)) (k : Nat) : List (List UInt8) := (ss.set (k + 1) (ss.getD k [])).set k (ss.getD (k + 1) [])
theorem swapS_perm : ∀ {ss : List (List UInt8)} {k : Nat}, k + 1 < ss.length → (swapS ss k).Perm ss
  | [], _, h => by simp at h
  | [_], _, h => by simp at h
  | a :: b :: r, 0, _ => by simpa [swapS] using List.Perm.swap a b r
  | a :: b :: r, k + 1, h => by
    have ih := swapS_perm (ss := b :: r) (k := k) (by simpa using h)
    have : swapS (a :: b :: r) (k + 1) = a :: swapS (b :: r) k := by simp [swapS]
    rw [this]; exact List.Perm.cons a ih
section
variable {P : Program} {ρ : Env} {w : World} {G : Value → World → Prop} {d : Option Nat} {ty : TypeId} {pos : String} {af : Array Edge} {g : Option (Nat × Bool)}
theorem Y.lssS {x y : Operand} {xt yt : TypeId} {a b : List UInt8} (hx : ev ρ x = some (strV a)) (hy : ev ρ y = some (strV b)) (h : G (.bool (Op.bytesLess a b)) w) : OpY P ⟨d, .binOp .lss xt x y yt, ty, pos, af, g⟩ ρ w G :=
  OpY.val (fun e he => by simp only [execOp]; rw [he x _ hx, he y _ hy]; simp [strV, eqGuard, binOp, Op.stringOp, ba_toList]) h
end
def keysK (sn : KVs) : List (List UInt8) := sn.map (·.1)
theorem keysK_snoc (sn : KVs) (p : List UInt8 × Value) : strsV (keysK (sn ++ [p])) = strsV (keysK sn) ++ [strV p.1] := by simp [keysK, strsV]
end Go.Proofs.YtchammpamigonaaGreatX
end
section
namespace Go.Proofs.YtchammpamigonaaGreatX
open Go Go.RowKit
section
variable {P : Program} {ρ : Env} {w : World} {G : Value → World → Prop} {d : Option Nat} {ty : TypeId} {pos : String} {af : Array Edge} {g : Option (Nat × Bool)}
theorem Y.slice3M {x yl y y' : Operand} {t e : TypeId} {bytes : Nat} {z : Value} {v : Value} {S : Nat → Prop} {l : List UInt8} {kk kl : IntKind} {i il : Int} {j k : Nat} (ht : SliceT P t e 1 bytes z) (hx : ev ρ x = some v) (hr : Bs S w v l) (hyl : ev ρ yl = some (.int kl il)) (hy : ev ρ y = some (.int kk i)) (hy' : ev ρ y' = some (.int kk i)) (hbl : bnd 0 (some (.int kl il)) = some j) (hb : bnd 0 (some (.int kk i)) = some k) (hk : j ≤ k ∧ k ≤ l.length)
    (h : ∀ v', Bs S w v' ((l.drop j).take (k - j)) → G v' w) : OpY P ⟨d, .slice t x (some yl) (some y) (some y'), ty, pos, af, g⟩ ρ w G := by
  obtain ⟨ii, hinf, hsz, _, _⟩ := ht.get
  obtain ⟨a, cap, rfl, hc, hp⟩ := hr.part (sz := 1) (lo := j) (hi := k) (by simp [bytesV]) hk.1 hk.2
  have hP := hp k (Nat.le_refl _) (by omega)
  refine OpY.val (v := .slice (if k = j then a else a.map (·.add (j * 1))) (k - j) (k - j)) (w' := w) (fun e he => ?_) (h _ (hP.cast (by simp; omega) (by simp [bytesV, List.map_take, List.map_drop])))
  have hq := fun c (m : Nat) (hm : k ≤ m) => run_sliceBound (P := P) (w := w) (c := c) hb hm
  have hq2 := fun c (m : Nat) (hm : j ≤ m) => run_sliceBound (P := P) (w := w) (c := c) hbl hm
  simp only [execOp]
  rw [he x _ hx]
  simp only [Option.map_some, he yl _ hyl, he y _ hy, he y' _ hy']
  simp [Instr.sliceAt, run_underlying ht.und, Instr.slice, Instr.sliceBounds, Go.sizeOf, typeInfo, hinf, hsz, hq _ cap (by omega), hq _ k (Nat.le_refl _), hq2 _ k hk.1]
end
theorem Y.minA {P : Program} {ρ : Env} {w : World} {G : Value → World → Prop} {d : Option Nat} {ty : TypeId} {pos : String} {af : Array Edge} {g : Option (Nat × Bool)} {x y : Operand} {t u : TypeId} {k : IntKind} {a b : Int} (hx : ev ρ x = some (.int k a)) (hy : ev ρ y = some (.int k b)) (hab : a ≤ b) (h : G (.int k a) w) : OpY P ⟨d, .call ⟨.builtin .min, #[x, y], #[t, u]⟩, ty, pos, af, g⟩ ρ w G :=
  Y.min hx hy (by rw [if_neg (by omega)]; exact h)
theorem Rows.row1 {S : Nat → Prop} {w : World} {v : Value} {m : List (List UInt8)} (h : Rows S w v m) : v.oneCell' = true := let ⟨_, h1, _⟩ := h; h1.oneC
theorem Y.sliceTake {P : Program} {ρ : Env} {w : World} {G : Value → World → Prop} {d : Option Nat} {ty : TypeId} {pos : String} {af : Array Edge} {g : Option (Nat × Bool)} {x y : Operand} {t e : TypeId} {bytes : Nat} {z v : Value} {S : Nat → Prop} {idx : List Nat} {kk : IntKind} {i : Nat} (ht : SliceT P t e 1 bytes z) (hx : ev ρ x = some v) (hr : Is S w v idx) (hy : ev ρ y = some (.int kk (i : Int))) (hk : i ≤ idx.length)
    (h : ∀ v', Is S w v' (idx.take i) → G v' w) : OpY P ⟨d, .slice t x none (some y) none, ty, pos, af, g⟩ ρ w G :=
  Y.slice ht hx hr (by simp [intsV]) (lv := none) (hv := some (.int kk (i : Int))) rfl (by simp [optEv, hy]) rfl (by simp [bnd]) ⟨Nat.zero_le _, hk⟩ fun v' hv' => h v' (hv'.cast (by simp; omega) (by simp [intsV, List.map_take]))
theorem numOf_numB {n : Nat} (h : n < 4294967296) : numOf (numB n) = n := by
  simp only [numOf, numB, List.foldl_cons, List.foldl_nil, UInt8.toNat_ofNat']
  omega
theorem padB_take4 (k : Nat) (l : List UInt8) : (padB k l).take 4 = numB l.length := by
  rw [padB, textB, List.append_assoc]; rfl
theorem padB_drop4 (k : Nat) (l : List UInt8) : (padB k l).drop 4 = l ++ List.replicate (padN k (textB l).length) 0 := by
  rw [padB, textB, List.append_assoc]; rfl
theorem flatten_pieceK (b : List UInt8) (N : Nat) : ∀ k, k * N ≤ b.length → ((List.range k).map fun i => (b.drop (i * N)).take N).flatten = b.take (k * N)
  | 0, _ => by simp
  | k + 1, h => by
    have h1 : k * N ≤ b.length := Nat.le_trans (Nat.mul_le_mul_right _ (by omega)) h
    rw [List.range_succ, List.map_append, List.flatten_append, flatten_pieceK b N k h1]
    simp only [List.map_cons, List.map_nil, List.flatten_cons, List.flatten_nil, List.append_nil]
    rw [Nat.succ_mul, List.take_add]
theorem piecesP_flatten {k : Nat} (l : List UInt8) (hk : 0 < k) : (piecesP k l).flatten = padB k l := by
  have := flatten_pieceK (padB k l) (pieceN k l) k (by rw [pieceN_mul l hk]; exact Nat.le_refl _)
  rw [piecesP]
  exact this.trans (by rw [pieceN_mul l hk, List.take_length])
theorem thereP_mem {m : List (List UInt8)} {i : Nat} : i ∈ thereP m ↔ i < m.length ∧ 0 < (m.getD i []).length := by simp [thereP]
end Go.Proofs.YtchammpamigonaaGreatX
end
section
namespace Go.Proofs.YtchammpamigonaaGreatX
open Go Go.RowKit
abbrev Fm := List UInt8 → Option (List UInt8 × Nat)
def fmapK (fs : FS) : Fm := fun k => (lookK k fs).map fun f => (f.data, f.syn)
def upd (m : Fm) (k : List UInt8) (v : Option (List UInt8 × Nat)) : Fm := fun x => if x = k then v else m x
structure LikeD (fs : FS) (m : Fm) (U c : Nat) : Prop where
  nd : (fs.map (·.1)).Nodup
  look : fmapK fs = m
  used : usedP fs ≤ U
  len : fs.length ≤ c
def DiskA (TD TF TB : TypeId) (F : Nat → Prop) (w : World) (d : Value) (most : Nat) (m : Fm) (U c : Nat) : Prop := ∃ fs, DiskB TD TF TB F w d most fs ∧ LikeD fs m U c
theorem lenAt_le {fs : FS} (hn : (fs.map (·.1)).Nodup) (k : List UInt8) : lenAt fs k ≤ usedP fs := by
  unfold lenAt
  cases h : lookK k fs with
  | none => simp
  | some f =>
    simp only [Option.map_some, Option.getD_some]
    have key : ∀ fs : FS, lookK k fs = some f → f.data.length ≤ usedP fs := by
      intro fs
      induction fs with
      | nil => intro h; simp [lookK_nil] at h
      | cons p r ih =>
        intro h
        obtain ⟨k2, f2⟩ := p
        rw [lookK_cons] at h
        simp only [usedP, List.map_cons, List.sum_cons]
        split at h
        · cases h; omega
        · have := ih h; simp only [usedP] at this; omega
    exact key fs h
theorem usedP_upK (k : List UInt8) (f : FileS) : ∀ fs : FS, usedP (upK k f fs) + lenAt fs k = usedP fs + f.data.length
  | [] => by simp [upK, usedP, lenAt, lookK_nil]
  | (k2, f2) :: r => by
    by_cases e : k = k2
    · subst e; simp [upK, usedP, lenAt, lookK_cons]; omega
    · have ih := usedP_upK k f r
      simp only [usedP, lenAt] at ih
      simp only [upK, if_neg e, usedP, lenAt, lookK_cons, List.map_cons, List.sum_cons]
      omega
theorem usedP_delK (k : List UInt8) : ∀ fs : FS, usedP (delK k fs) + lenAt fs k = usedP fs
  | [] => by simp [delK, usedP, lenAt, lookK_nil]
  | (k2, f2) :: r => by
    by_cases e : k = k2
    · subst e; simp [delK, usedP, lenAt, lookK_cons]; omega
    · have ih := usedP_delK k r
      simp only [usedP, lenAt] at ih
      simp only [delK, if_neg e, usedP, lenAt, lookK_cons, List.map_cons, List.sum_cons]
      omega
theorem length_upK (k : List UInt8) (f : FileS) (fs : FS) : (upK k f fs).length ≤ fs.length + 1 := by
  have h := congrArg List.length (keys_upK k f fs)
  rw [List.length_map] at h
  rw [h]
  split <;> simp
theorem length_delK (k : List UInt8) : ∀ fs : FS, (delK k fs).length ≤ fs.length
  | [] => by simp [delK]
  | (k2, f2) :: r => by
    by_cases e : k = k2
    · simp [delK, e]
    · have := length_delK k r; simp [delK, e]; omega
theorem fmapK_upK (k : List UInt8) (f : FileS) (fs : FS) : fmapK (upK k f fs) = upd (fmapK fs) k (some (f.data, f.syn)) := by
  funext x
  simp only [fmapK, upd, lookK_upK]
  split <;> rfl
theorem fmapK_delK (k : List UInt8) (fs : FS) (hn : (fs.map (·.1)).Nodup) : fmapK (delK k fs) = upd (fmapK fs) k none := by
  funext x
  simp only [fmapK, upd, lookK_delK k x fs hn]
  split <;> rfl
theorem fmapK_some {fs : FS} {k : List UInt8} {d : List UInt8} {s : Nat} (h : fmapK fs k = some (d, s)) : ∃ f, lookK k fs = some f ∧ f.data = d ∧ f.syn = s := by
  simp only [fmapK] at h
  cases hl : lookK k fs with
  | none => rw [hl] at h; cases h
  | some f => rw [hl] at h; simp at h; exact ⟨f, rfl, h.1, h.2⟩
theorem fmapK_none {fs : FS} {k : List UInt8} (h : fmapK fs k = none) : lookK k fs = none := by
  simp only [fmapK] at h
  cases hl : lookK k fs with
  | none => rfl
  | some f => rw [hl] at h; cases h
theorem fmapK_mem {fs : FS} {k : List UInt8} : k ∈ fs.map (·.1) ↔ fmapK fs k ≠ none := by
  constructor
  · intro h; obtain ⟨v, hv⟩ := lookK_some h; simp [fmapK, hv]
  · intro h
    cases hl : lookK k fs with
    | none => simp [fmapK, hl] at h
    | some f => exact lookK_mem hl
theorem LikeD.mono {fs : FS} {m : Fm} {U U' c c' : Nat} (h : LikeD fs m U c) (h1 : U ≤ U') (h2 : c ≤ c') : LikeD fs m U' c' := ⟨h.nd, h.look, by have := h.used; omega, by have := h.len; omega⟩
theorem LikeD.lenAt {fs : FS} {m : Fm} {U c : Nat} (h : LikeD fs m U c) {k d : List UInt8} {s : Nat} (hk : m k = some (d, s)) : d.length ≤ U := by
  have h1 := lenAt_le h.nd k
  rw [← h.look] at hk
  obtain ⟨f, hf, rfl, _⟩ := fmapK_some hk
  have h2 := h.used
  simp only [Go.Proofs.YtchammpamigonaaGreatX.lenAt, hf, Option.map_some, Option.getD_some] at h1
  omega
theorem LikeD.up {fs : FS} {m : Fm} {U c : Nat} (h : LikeD fs m U c) (k : List UInt8) (f : FileS) : LikeD (upK k f fs) (upd m k (some (f.data, f.syn))) (U + f.data.length) (c + 1) :=
  ⟨nodup_upK h.nd, by rw [fmapK_upK, h.look], by have := usedP_upK k f fs; have := h.used; omega, by have := length_upK k f fs; have := h.len; omega⟩
theorem LikeD.up' {fs : FS} {m : Fm} {U c : Nat} (h : LikeD fs m U c) {k : List UInt8} {f f0 : FileS} {a : Nat} (hk : lookK k fs = some f0) (hl : f.data.length ≤ f0.data.length + a) : LikeD (upK k f fs) (upd m k (some (f.data, f.syn))) (U + a) c :=
  ⟨nodup_upK h.nd, by rw [fmapK_upK, h.look], by have h3 := usedP_upK k f fs; have := h.used; simp only [Go.Proofs.YtchammpamigonaaGreatX.lenAt, hk, Option.map_some, Option.getD_some] at h3; omega, by
    have h1 := congrArg List.length (keys_upK k f fs)
    rw [if_pos (lookK_mem hk), List.length_map, List.length_map] at h1
    have := h.len; omega⟩
theorem LikeD.del {fs : FS} {m : Fm} {U c : Nat} (h : LikeD fs m U c) (k : List UInt8) : LikeD (delK k fs) (upd m k none) U c :=
  ⟨nodup_delK h.nd, by rw [fmapK_delK _ _ h.nd, h.look], by have := usedP_delK k fs; have := h.used; omega, by have := length_delK k fs; have := h.len; omega⟩
theorem LikeD.ren {fs : FS} {m : Fm} {U c : Nat} (h : LikeD fs m U c) {k k2 : List UInt8} {f : FileS} (hk : lookK k fs = some f) : LikeD (upK k2 f (delK k fs)) (upd (upd m k none) k2 (some (f.data, f.syn))) U c := by
  have h1 := h.del k
  refine ⟨nodup_upK h1.nd, by rw [fmapK_upK, h1.look], ?_, ?_⟩
  · have a := usedP_upK k2 f (delK k fs)
    have b := usedP_delK k fs
    have := h.used
    simp only [Go.Proofs.YtchammpamigonaaGreatX.lenAt, hk, Option.map_some, Option.getD_some] at b
    omega
  · have a := length_upK k2 f (delK k fs)
    have hc := congrArg List.length (keys_delK k fs h.nd)
    rw [List.length_map] at hc
    have hm : k ∈ fs.map (·.1) := lookK_mem hk
    have hlt : ((fs.map (·.1)).filter fun x => decide (x ≠ k)).length < (fs.map (·.1)).length := by
      have hne : ((fs.map (·.1)).filter fun x => decide (x ≠ k)).length ≠ (fs.map (·.1)).length := by
        intro e
        have := (List.length_filter_eq_length_iff.1 e) k hm
        simp at this
      have := List.length_filter_le (fun x => decide (x ≠ k)) (fs.map (·.1))
      omega
    rw [List.length_map] at hlt
    have := h.len
    omega
theorem lookK_cpS (fs : FS) (k : List UInt8) : ∀ sn : KVs, lookK k (cpS fs sn) = if k ∈ sn.map (·.1) then some (cpF ((lookK k fs).getD ⟨[], 0, false⟩)) else none
  | [] => by simp [cpS, lookK_nil]
  | p :: r => by
    have ih := lookK_cpS fs k r
    simp only [cpS, List.map_cons] at ih ⊢
    rw [lookK_cons]
    by_cases e : k = p.1
    · simp [e]
    · rw [if_neg e, ih]
      simp only [List.mem_cons, e, false_or]
theorem LikeD.cp {fs : FS} {m : Fm} {U c : Nat} (h : LikeD fs m U c) {sn : KVs} (hp : (sn.map (·.1)).Perm (fs.map (·.1))) : LikeD (cpS fs sn) m U c := by
  have hnd : ((cpS fs sn).map (·.1)).Nodup := by rw [cpS_keys]; exact hp.nodup_iff.2 h.nd
  refine ⟨hnd, ?_, ?_, ?_⟩
  · rw [← h.look]
    funext k
    simp only [fmapK, lookK_cpS]
    by_cases hk : k ∈ sn.map (·.1)
    · obtain ⟨v, hv⟩ := lookK_some (hp.mem_iff.1 hk)
      rw [if_pos hk, hv]; rfl
    · rw [if_neg hk, lookK_none (fun h' => hk (hp.mem_iff.2 h'))]; try rfl
  · rw [usedP_eq hnd, cpS_keys]
    have hl : ∀ x ∈ sn.map (·.1), Go.Proofs.YtchammpamigonaaGreatX.lenAt (cpS fs sn) x = Go.Proofs.YtchammpamigonaaGreatX.lenAt fs x := fun x hx => by
      obtain ⟨v, hv⟩ := lookK_some (hp.mem_iff.1 hx)
      simp only [Go.Proofs.YtchammpamigonaaGreatX.lenAt, lookK_cpS, if_pos hx, hv]; rfl
    rw [List.map_congr_left hl, perm_sum (hp.map _), ← usedP_eq h.nd]
    exact h.used
  · have := hp.length_eq
    simp only [List.length_map] at this
    simp only [cpS, List.length_map]
    have := h.len; omega
section
variable {TD TF TB : TypeId} {F F' S : Nat → Prop} {w w' : World} {d : Value} {most U U' c c' : Nat} {m : Fm}
theorem DiskA.ext (h : DiskA TD TF TB F w d most m U c) (hE : Ext w w') : DiskA TD TF TB F w' d most m U c := let ⟨fs, h1, h2⟩ := h; ⟨fs, h1.ext hE, h2⟩
theorem DiskA.chg (h : DiskA TD TF TB F w d most m U c) (hC : Chg S w w') (hd : ∀ b, F b → ¬ S b) : DiskA TD TF TB F w' d most m U c := let ⟨fs, h1, h2⟩ := h; ⟨fs, h1.chg hC hd, h2⟩
theorem DiskA.mono (h : DiskA TD TF TB F w d most m U c) (hF : ∀ b, F b → F' b) : DiskA TD TF TB F' w d most m U c := let ⟨fs, h1, h2⟩ := h; ⟨fs, h1.mono hF, h2⟩
theorem DiskA.more (h : DiskA TD TF TB F w d most m U c) (h1 : U ≤ U') (h2 : c ≤ c') : DiskA TD TF TB F w d most m U' c' := let ⟨fs, a, b⟩ := h; ⟨fs, a, b.mono h1 h2⟩
theorem DiskA.cast {m' : Fm} (h : DiskA TD TF TB F w d most m U c) (e : m = m') : DiskA TD TF TB F w d most m' U c := e ▸ h
theorem DiskB.val {fs : FS} (h : DiskB TD TF TB F w d most fs) : d.oneCell' = true := by obtain ⟨db, r, Fs, es, rfl, _⟩ := h; rfl
theorem DiskB.bnd {fs : FS} (h : DiskB TD TF TB F w d most fs) : DiskB TD TF TB (fun b => F b ∧ b < w.heap.size) w d most fs := by
  obtain ⟨db, r, Fs, es, h1, h2, h3, h4, h5⟩ := h
  refine ⟨db, r, Fs, es, h1, h2, ⟨h3, h2.cell.lt⟩, ⟨h4, ?_⟩, fun k hk b hb => ⟨h5 k hk b hb, h2.bnd k hk b hb⟩⟩
  obtain ⟨_, _, hb, _⟩ := h2.map; exact hb.lt
theorem DiskA.bnd (h : DiskA TD TF TB F w d most m U c) : DiskA TD TF TB (fun b => F b ∧ b < w.heap.size) w d most m U c := let ⟨fs, a, b⟩ := h; ⟨fs, a.bnd, b⟩
end
theorem upd_same (m : Fm) (k : List UInt8) (v : Option (List UInt8 × Nat)) : upd m k v k = v := by simp [upd]
theorem upd_other (m : Fm) {k x : List UInt8} (v : Option (List UInt8 × Nat)) (h : x ≠ k) : upd m k v x = m x := by simp [upd, h]
end Go.Proofs.YtchammpamigonaaGreatX
end
section
namespace Go.Proofs.YtchammpamigonaaGreatX
open Go Go.RowKit
structure StX (TS TD TF TB : TypeId) (G : Nat → Prop) (w : World) (tb : Nat) (av : Value) (dvs : List Value) (Fr : Nat → Prop) (K F n most : Nat) (ms : Nat → Fm) (U c : Nat → Nat) : Prop where
  cell : HB w tb (.cells #[.int .i64 (K : Int), .int .i64 (F : Int), av] TS (0, 0))
  row : Row Fr w av n dvs
  len : dvs.length = n
  gt : G tb
  gr : ∀ b, Fr b → G b ∧ b < w.heap.size
  rt : ¬ Fr tb
  disks : ∃ Fs : Nat → Nat → Prop, (∀ i d, dvs[i]? = some d → DiskA TD TF TB (Fs i) w d most (ms i) (U i) (c i)) ∧ (∀ i j, i ≠ j → ∀ b, Fs i b → ¬ Fs j b) ∧ (∀ i b, Fs i b → ¬ Fr b ∧ b ≠ tb ∧ G b ∧ b < w.heap.size)
section
variable {TS TD TF TB : TypeId} {G S : Nat → Prop} {w w' : World} {tb : Nat} {av : Value} {dvs : List Value} {Fr : Nat → Prop} {K F n most : Nat} {U U' c c' : Nat → Nat} {ms : Nat → Fm}
theorem three2 {w : World} {b : Nat} {x y z : Value} {T : TypeId} (h : HB w b (.cells #[x, y, z] T (0, 0))) : w.cell? ⟨b, 0 + 2, none⟩ = some z := cell_arr (cs := [x, y, z]) h rfl
theorem three01 {w : World} {b : Nat} {x y z : Value} {T : TypeId} (h : HB w b (.cells #[x, y, z] T (0, 0))) : ∀ j u, [x, y][j]? = some u → w.cell? ⟨b, 0 + 0 + j, none⟩ = some u := by
  intro j u hu
  match j, hu with
  | 0, hu => simp at hu; subst hu; exact cell_arr (cs := [x, y, z]) h rfl
  | 1, hu => simp at hu; subst hu; exact cell_arr (cs := [x, y, z]) h rfl
theorem StX.chg (h : StX TS TD TF TB G w tb av dvs Fr K F n most ms U c) (hC : Chg S w w') (hd : ∀ b, G b → ¬ S b) : StX TS TD TF TB G w' tb av dvs Fr K F n most ms U c := by
  obtain ⟨Fs, h1, h2, h3⟩ := h.disks
  have hs := hC.size
  exact ⟨h.cell.chg hC (hd _ h.gt), h.row.chg hC (fun b _ hb => hd b (h.gr b hb).1), h.len, h.gt, fun b hb => ⟨(h.gr b hb).1, by have := (h.gr b hb).2; omega⟩, h.rt, Fs, fun i d hi => (h1 i d hi).chg hC (fun b hb => hd b (h3 i b hb).2.2.1), h2, fun i b hb => ⟨(h3 i b hb).1, (h3 i b hb).2.1, (h3 i b hb).2.2.1, by have := (h3 i b hb).2.2.2; omega⟩⟩
theorem StX.ext (h : StX TS TD TF TB G w tb av dvs Fr K F n most ms U c) (hE : Ext w w') : StX TS TD TF TB G w' tb av dvs Fr K F n most ms U c := h.chg hE fun _ _ h => h
theorem StX.more (h : StX TS TD TF TB G w tb av dvs Fr K F n most ms U c) (h1 : ∀ i, i < n → U i ≤ U' i ∧ c i ≤ c' i) : StX TS TD TF TB G w tb av dvs Fr K F n most ms U' c' := by
  obtain ⟨Fs, a, b, d⟩ := h.disks
  exact ⟨h.cell, h.row, h.len, h.gt, h.gr, h.rt, Fs, fun i x hx => (a i x hx).more (h1 i (by rw [← h.len]; exact (List.getElem?_eq_some_iff.1 hx).1)).1 (h1 i (by rw [← h.len]; exact (List.getElem?_eq_some_iff.1 hx).1)).2, b, d⟩
theorem StX.wider {G' : Nat → Prop} (h : StX TS TD TF TB G w tb av dvs Fr K F n most ms U c) (hG : ∀ b, b < w.heap.size → G b → G' b) : StX TS TD TF TB G' w tb av dvs Fr K F n most ms U c := by
  obtain ⟨Fs, a, b, d⟩ := h.disks
  exact ⟨h.cell, h.row, h.len, hG _ h.cell.lt h.gt, fun b hb => ⟨hG b (h.gr b hb).2 (h.gr b hb).1, (h.gr b hb).2⟩, h.rt, Fs, a, b, fun i b hb => ⟨(d i b hb).1, (d i b hb).2.1, hG b (d i b hb).2.2.2 (d i b hb).2.2.1, (d i b hb).2.2.2⟩⟩
theorem StX.cast {ms' : Nat → Fm} (h : StX TS TD TF TB G w tb av dvs Fr K F n most ms U c) (e : ∀ i, i < n → ms i = ms' i) : StX TS TD TF TB G w tb av dvs Fr K F n most ms' U c := by
  obtain ⟨Fs, a, b, d⟩ := h.disks
  exact ⟨h.cell, h.row, h.len, h.gt, h.gr, h.rt, Fs, fun i x hx => (a i x hx).cast (e i (by rw [← h.len]; exact (List.getElem?_eq_some_iff.1 hx).1)), b, d⟩
theorem StX.get (h : StX TS TD TF TB G w tb av dvs Fr K F n most ms U c) {i : Nat} (hi : i < n) : ∃ d Fi, dvs[i]? = some d ∧ DiskA TD TF TB Fi w d most (ms i) (U i) (c i) ∧ (∀ b, Fi b → ¬ Fr b ∧ b ≠ tb ∧ G b ∧ b < w.heap.size) ∧
    ∀ (N : Nat → Prop) (w' : World) (m' : Fm) (U' c' : Nat), (∀ b, N b → w.heap.size ≤ b) → Chg Fi w w' → DiskA TD TF TB (fun b => Fi b ∨ N b) w' d most m' U' c' → StX TS TD TF TB (fun b => G b ∨ N b) w' tb av dvs Fr K F n most (fun j => if j = i then m' else ms j) (fun j => if j = i then U' else U j) (fun j => if j = i then c' else c j) := by
  obtain ⟨Fs, h1, h2, h3⟩ := h.disks
  have hlt : i < dvs.length := by rw [h.len]; exact hi
  refine ⟨dvs[i], Fs i, by simp [hlt], h1 i _ (by simp [hlt]), h3 i, ?_⟩
  intro N w' m' U' c' hN hC hD
  have hs := hC.size
  refine ⟨h.cell.chg hC (fun hb => (h3 i _ hb).2.1 rfl), h.row.chg hC (fun b _ hb hf => (h3 i b hf).1 hb), h.len, .inl h.gt, fun b hb => ⟨.inl (h.gr b hb).1, by have := (h.gr b hb).2; omega⟩, h.rt, fun j => if j = i then (fun b => (Fs i b ∨ N b) ∧ b < w'.heap.size) else Fs j, ?_, ?_, ?_⟩
  · intro j d hd
    by_cases e : j = i
    · subst e
      simp only [if_true]
      have hd' : dvs[j] = d := by rw [List.getElem?_eq_getElem hlt] at hd; exact Option.some.inj hd
      subst hd'
      exact hD.bnd
    · simp only [if_neg e]
      exact ((h1 j d hd).chg hC (fun b hb hf => h2 i j (fun e' => e e'.symm) b hf hb))
  · intro j k hjk b hb
    by_cases ej : j = i
    · have ek : ¬ k = i := fun e => hjk (ej.trans e.symm)
      simp only [if_pos ej] at hb
      simp only [if_neg ek]
      intro hk
      rcases hb.1 with hb | hb
      · exact h2 i k (fun e => ek e.symm) b hb hk
      · have := (h3 k b hk).2.2.2; have := hN b hb; omega
    · simp only [if_neg ej] at hb
      by_cases ek : k = i
      · simp only [if_pos ek]
        rintro ⟨hk | hk, _⟩
        · exact h2 i j (fun e => ej e.symm) b hk hb
        · have := (h3 j b hb).2.2.2; have := hN b hk; omega
      · simp only [if_neg ek]
        exact h2 j k hjk b hb
  · intro j b hb
    by_cases e : j = i
    · simp only [if_pos e] at hb
      rcases hb with ⟨hb | hb, hlt'⟩
      · exact ⟨(h3 i b hb).1, (h3 i b hb).2.1, .inl (h3 i b hb).2.2.1, hlt'⟩
      · refine ⟨fun hf => ?_, fun e => ?_, .inr hb, hlt'⟩
        · have := (h.gr b hf).2; have := hN b hb; omega
        · have := h.cell.lt; have := hN b hb; omega
    · simp only [if_neg e] at hb
      exact ⟨(h3 j b hb).1, (h3 j b hb).2.1, .inl (h3 j b hb).2.2.1, by have := (h3 j b hb).2.2.2; omega⟩
end
theorem encP_row (k F : Nat) (l : List UInt8) (hk : 0 < k) : ∀ r ∈ encP k (k + 2 * F) l, r.length = pieceN k l := by
  intro r hr
  simp only [encP, matMul, List.mem_map] at hr
  obtain ⟨q, _, rfl⟩ := hr
  rw [headD_len (piecesP k l) (pieceN k l) (piecesP_all l hk) (by rw [piecesP_length]; omega)]
  exact rowMul_length _ _ _ (piecesP_all l hk)
theorem encP_len (k F : Nat) (l : List UInt8) : (encP k (k + 2 * F) l).length = k + 2 * F := by rw [encP, matMul_length, codingP_length]
def shardAt (m : Fm) (nm : List UInt8) (i : Nat) : List UInt8 := match m ([98, 46] ++ nm) with | none => [] | some (d, _) => shardP i d
def shardOf (ms : Nat → Fm) (nm : List UInt8) (away : List Int) (i : Nat) : List UInt8 := if (i : Int) ∈ away then [] else shardAt (ms i) nm i
def shardsP (ms : Nat → Fm) (nm : List UInt8) (away : List Int) (n : Nat) : List (List UInt8) := (List.range n).map (shardOf ms nm away)
def hasAny (ms : Nat → Fm) (nm : List UInt8) (n : Nat) : Bool := (List.range n).any fun i => (ms i ([98, 46] ++ nm)).isSome
theorem hasAny_succ (ms : Nat → Fm) (nm : List UInt8) (i : Nat) : hasAny ms nm (i + 1) = (hasAny ms nm i || (ms i ([98, 46] ++ nm)).isSome) := by simp [hasAny, List.range_succ, List.any_append]
def shardsK (ms : Nat → Fm) (nm : List UInt8) (away : List Int) (n i : Nat) : List (List UInt8) := (List.range n).map fun j => if j < i then shardOf ms nm away j else []
theorem shardsK_all (ms : Nat → Fm) (nm : List UInt8) (away : List Int) (n : Nat) : shardsK ms nm away n n = shardsP ms nm away n := List.map_congr_left fun j hj => by rw [if_pos (List.mem_range.1 hj)]
theorem shardsK_nil {ms : Nat → Fm} {nm : List UInt8} {away : List Int} {n i : Nat} (h : shardOf ms nm away i = []) : shardsK ms nm away n (i + 1) = shardsK ms nm away n i := List.map_congr_left fun j _ => by
  by_cases e : j = i
  · subst e; simp [h]
  · by_cases e2 : j < i
    · rw [if_pos e2, if_pos (by omega)]
    · rw [if_neg e2, if_neg (by omega)]
theorem shardsK_set {ms : Nat → Fm} {nm : List UInt8} {away : List Int} {n i : Nat} (hi : i < n) : shardsK ms nm away n (i + 1) = (shardsK ms nm away n i).set i (shardOf ms nm away i) := by
  apply List.ext_getElem?
  intro j
  rw [List.getElem?_set]
  by_cases e : i = j
  · subst e; simp [shardsK, hi]
  · rw [if_neg e]
    simp only [shardsK, List.getElem?_map]
    cases h : (List.range n)[j]? with
    | none => rfl
    | some q =>
      have hq : q = j := by rw [List.getElem?_range (by have := (List.getElem?_eq_some_iff.1 h).1; simpa using this)] at h; exact (Option.some.inj h).symm
      subst hq
      simp only [Option.map_some]
      by_cases e2 : q < i
      · rw [if_pos e2, if_pos (by omega)]
      · rw [if_neg e2, if_neg (by omega)]
theorem RowsAll.nils (S : Nat → Prop) (w : World) : ∀ n, RowsAll S w (List.replicate n (.slice none 0 0)) (List.replicate n [])
  | 0 => trivial
  | n + 1 => ⟨Row.nil S w, RowsAll.nils S w n⟩
theorem shardsK_zero (ms : Nat → Fm) (nm : List UInt8) (away : List Int) (n : Nat) : shardsK ms nm away n 0 = List.replicate n [] := by simp [shardsK, List.map_const']
theorem zeros_nil (n : Nat) : ((List.range (n * 1)).map fun i => (Value.slice none 0 0).cells[i % 1]!).take (n * 1) = List.replicate n (.slice none 0 0) := by
  rw [Nat.mul_one, List.take_of_length_le (by simp)]
  have : ∀ i, (Value.slice none 0 0).cells[i % 1]! = .slice none 0 0 := fun i => by rw [Nat.mod_one]; rfl
  simp [this, List.map_const']
def badF (i : Nat) (m : Fm) (f : List UInt8) : Bool := hasP f [98, 46] && (match m f with | some (d, _) => decide ((shardP i d).length = 0) | none => true)
def scrub1 (i : Nat) (m : Fm) (f : List UInt8) : Fm := if badF i m f then upd (upd m f none) ([113, 46] ++ f.drop 2) (m f) else m
def scrubM (i : Nat) (m : Fm) (ss : List (List UInt8)) : Fm := ss.foldl (scrub1 i) m
def scrubO (i : Nat) (m : Fm) : List (List UInt8) → List (List UInt8)
  | [] => []
  | f :: r => (if badF i m f then [f.drop 2] else []) ++ scrubO i (scrub1 i m f) r
theorem scrubM_snoc (i : Nat) (m : Fm) (ss : List (List UInt8)) (f : List UInt8) : scrubM i m (ss ++ [f]) = scrub1 i (scrubM i m ss) f := by simp [scrubM]
theorem scrubO_snoc (i : Nat) : ∀ (m : Fm) (ss : List (List UInt8)) (f : List UInt8), scrubO i m (ss ++ [f]) = scrubO i m ss ++ (if badF i (scrubM i m ss) f then [f.drop 2] else [])
  | m, [], f => by simp [scrubO, scrubM]; rfl
  | m, g :: r, f => by simp [scrubO, scrubM, scrubO_snoc i (scrub1 i m g) r f]; rfl
theorem scrubO_length (i : Nat) : ∀ (m : Fm) (ss : List (List UInt8)), (scrubO i m ss).length ≤ ss.length
  | _, [] => by simp [scrubO]
  | m, f :: r => by have := scrubO_length i (scrub1 i m f) r; simp only [scrubO, List.length_append, List.length_cons]; split <;> simp <;> omega
theorem scrubM_there {i : Nat} {m : Fm} : ∀ {ss : List (List UInt8)} {f : List UInt8}, f ∉ ss → m f ≠ none → (∀ x ∈ ss, m x ≠ none) → ss.Nodup → scrubM i m ss f ≠ none
  | [], _, _, h, _, _ => h
  | g :: r, f, hf, h, ha, hn => by
    simp only [List.mem_cons, not_or] at hf
    simp only [List.nodup_cons] at hn
    have key : ∀ x, x ≠ g → m x ≠ none → scrub1 i m g x ≠ none := fun x hx hm => by
      unfold scrub1
      split
      · simp only [upd]; split
        · exact ha g (by simp)
        · rename_i h1 h2; first | exact hm | (rw [if_neg hx]; exact hm)
      · exact hm
    exact scrubM_there (m := scrub1 i m g) hf.2 (key f hf.1 h) (fun x hx => key x (fun e => hn.1 (e ▸ hx)) (ha x (by simp [hx]))) hn.2
def mendP (m : Fm) (nm want : List UInt8) : Fm := if (m ([98, 46] ++ nm)).map (·.1) = some want then upd m ([113, 46] ++ nm) none else upd (upd m ([113, 46] ++ nm) none) ([98, 46] ++ nm) (some (want, want.length))
def mendC (m : Fm) (nm want : List UInt8) : Nat := if (m ([98, 46] ++ nm)).map (·.1) = some want then 0 else 1
def cntM (ms : Nat → Fm) (nm : List UInt8) (want : Nat → List UInt8) : Nat → Nat
  | 0 => 0
  | i + 1 => cntM ms nm want i + mendC (ms i) nm (want i)
theorem cntM_succ (ms : Nat → Fm) (nm : List UInt8) (want : Nat → List UInt8) (i : Nat) : cntM ms nm want (i + 1) = cntM ms nm want i + mendC (ms i) nm (want i) := rfl
theorem cntM_le (ms : Nat → Fm) (nm : List UInt8) (want : Nat → List UInt8) : ∀ i, cntM ms nm want i ≤ i
  | 0 => Nat.le_refl _
  | i + 1 => by have := cntM_le ms nm want i; simp only [cntM, mendC]; split <;> omega
def StoreA (TS TD TF TB : TypeId) (G : Nat → Prop) (w : World) (tv : Value) (K F n most : Nat) (ms : Nat → Fm) (U c : Nat → Nat) : Prop := ∃ tb av dvs Fr, tv = .pointer (some ⟨tb, 0, none⟩) ∧ StX TS TD TF TB G w tb av dvs Fr K F n most ms U c
section
variable {TS TD TF TB : TypeId} {G G' S : Nat → Prop} {w w' : World} {tv : Value} {K F n most : Nat} {U U' c c' : Nat → Nat} {ms ms' : Nat → Fm}
theorem StoreA.chg (h : StoreA TS TD TF TB G w tv K F n most ms U c) (hC : Chg S w w') (hd : ∀ b, G b → ¬ S b) : StoreA TS TD TF TB G w' tv K F n most ms U c := let ⟨tb, av, dvs, Fr, e, h⟩ := h; ⟨tb, av, dvs, Fr, e, h.chg hC hd⟩
theorem StoreA.ext (h : StoreA TS TD TF TB G w tv K F n most ms U c) (hE : Ext w w') : StoreA TS TD TF TB G w' tv K F n most ms U c := h.chg hE fun _ _ h => h
theorem StoreA.more (h : StoreA TS TD TF TB G w tv K F n most ms U c) (h1 : ∀ i, i < n → U i ≤ U' i ∧ c i ≤ c' i) : StoreA TS TD TF TB G w tv K F n most ms U' c' := let ⟨tb, av, dvs, Fr, e, h⟩ := h; ⟨tb, av, dvs, Fr, e, h.more h1⟩
theorem StoreA.wider (h : StoreA TS TD TF TB G w tv K F n most ms U c) (hG : ∀ b, b < w.heap.size → G b → G' b) : StoreA TS TD TF TB G' w tv K F n most ms U c := let ⟨tb, av, dvs, Fr, e, h⟩ := h; ⟨tb, av, dvs, Fr, e, h.wider hG⟩
end
def NewI (TP TD TF TB : TypeId) (lo : Nat) (w : World) (tb : Nat) (most : Nat) (ms : Nat → Fm) (U c i : Nat) (av : Value) : Prop :=
  ∃ (So : Nat → Prop) (us : List Value) (Fs : Nat → Nat → Prop), Apd So w TP 1 av i us ∧ (∀ j d, us[j]? = some d → DiskA TD TF TB (Fs j) w d most (ms j) U c) ∧ (∀ j j', j ≠ j' → ∀ b, Fs j b → ¬ Fs j' b) ∧ (∀ j b, Fs j b → ¬ So b ∧ b ≠ tb ∧ lo ≤ b ∧ b < w.heap.size) ∧ (∀ b, So b → b ≠ tb ∧ lo ≤ b ∧ b < w.heap.size)
theorem NewI.stx {TS TP TD TF TB : TypeId} {lo : Nat} {w : World} {tb most : Nat} {ms : Nat → Fm} {U c i K F : Nat} {av : Value} (h : NewI TP TD TF TB lo w tb most ms U c i av) (hb : HB w tb (.cells #[.int .i64 (K : Int), .int .i64 (F : Int), av] TS (0, 0))) (hlo : lo ≤ tb) : StoreA TS TD TF TB (btw lo w.heap.size) w (.pointer (some ⟨tb, 0, none⟩)) K F i most ms (fun _ => U) (fun _ => c) := by
  obtain ⟨So, us, Fs, h1, h2, h3, h4, h5⟩ := h
  exact ⟨tb, av, us, So, rfl, hb, h1.row, by have := h1.1; omega, ⟨hlo, hb.lt⟩, fun b hb => ⟨(h5 b hb).2, (h5 b hb).2.2⟩, fun hs => (h5 tb hs).1 rfl, Fs, h2, h3, fun j b hb => ⟨(h4 j b hb).1, (h4 j b hb).2.1, (h4 j b hb).2.2, (h4 j b hb).2.2.2⟩⟩
theorem NewI.snoc {TP TD TF TB : TypeId} {lo : Nat} {w w' : World} {tb most : Nat} {ms : Nat → Fm} {U c i : Nat} {So So' Fi : Nat → Prop} {us : List Value} {q av' : Value} {Fs : Nat → Nat → Prop} (h2 : ∀ j d, us[j]? = some d → DiskA TD TF TB (Fs j) w d most (ms j) U c) (h3 : ∀ j j', j ≠ j' → ∀ b, Fs j b → ¬ Fs j' b) (h4 : ∀ j b, Fs j b → ¬ So b ∧ b ≠ tb ∧ lo ≤ b ∧ b < w.heap.size) (h5 : ∀ b, So b → b ≠ tb ∧ lo ≤ b ∧ b < w.heap.size) (hl : us.length = i) (htb : tb < w.heap.size) (hlo : lo ≤ w.heap.size)
    (hC : Chg (fun b => So b ∨ b = tb) w w') (hA : Apd So' w' TP 1 av' (i + 1) (us ++ [q])) (hD : DiskA TD TF TB Fi w' q most (ms i) U c) (hF : ∀ b, Fi b → w.heap.size ≤ b ∧ b < w'.heap.size ∧ ¬ So' b) (hS : ∀ b, So' b → (So b ∨ w.heap.size ≤ b) ∧ b < w'.heap.size) : NewI TP TD TF TB lo w' tb most ms U c (i + 1) av' := by
  have hs := hC.size
  refine ⟨So', us ++ [q], fun j => if j = i then Fi else Fs j, hA, ?_, ?_, ?_, ?_⟩
  · intro j d hd
    by_cases e : j = i
    · subst e
      rw [List.getElem?_append_right (by omega), hl] at hd
      simp at hd; subst hd
      simpa using hD
    · simp only [if_neg e]
      have hj : us[j]? = some d := by
        rcases Nat.lt_or_ge j us.length with h | h
        · rwa [List.getElem?_append_left h] at hd
        · have : j - us.length ≠ 0 := by omega
          rw [List.getElem?_append_right h] at hd
          cases hk : j - us.length with
          | zero => omega
          | succ k => rw [hk] at hd; simp at hd
      exact (h2 j d hj).chg hC fun b hb hc => hc.elim (h4 j b hb).1 (h4 j b hb).2.1
  · intro j j' hjj b hb
    by_cases e : j = i
    · simp only [if_pos e] at hb
      simp only [if_neg (show ¬ j' = i from fun e' => hjj (e.trans e'.symm))]
      intro hb'
      have := (hF b hb).1; have := (h4 j' b hb').2.2.2; omega
    · simp only [if_neg e] at hb
      by_cases e' : j' = i
      · simp only [if_pos e']
        intro hb'
        have := (hF b hb').1; have := (h4 j b hb).2.2.2; omega
      · simp only [if_neg e']; exact h3 j j' hjj b hb
  · intro j b hb
    by_cases e : j = i
    · simp only [if_pos e] at hb
      obtain ⟨a1, a2, a3⟩ := hF b hb
      exact ⟨a3, by omega, by omega, a2⟩
    · simp only [if_neg e] at hb
      obtain ⟨a1, a2, a3, a4⟩ := h4 j b hb
      exact ⟨fun hs' => by rcases (hS b hs').1 with h | h; exact a1 h; omega, a2, a3, by omega⟩
  · intro b hb
    obtain ⟨h | h, h'⟩ := hS b hb
    · exact ⟨(h5 b h).1, (h5 b h).2.1, h'⟩
    · exact ⟨by omega, by omega, h'⟩
end Go.Proofs.YtchammpamigonaaGreatX
end
section
namespace Go.Proofs.YtchammpamigonaaGreatX
open Go Go.RowKit
def expN : Nat := 0x8e47add86c361b83cfe9fa7db0582c160b8bcbebfbf3f7f5f47a3d90482412098a45ac562b9bc3eff9f279b259a251a653a7dde070381c0e078dc86432198241ae57a5dc6e3795c46231964babdbe3fff1f67bb3d7e5fc7e3f91c663bfd1e673b7d5e472399249aa55a452299a4da8542a158442219e4fa9da6db85c2e1785cc663397c5ec763b93c7edf87c3e1f81ce67bdd068341a0d884422118643afd9e271b65ba3dfe1fe7fb1d66bbbd3e7fdf0783c1e0f89ca65bc5e2f99c261be5fa1de6fb9d269ba5da05028140a058c46239fc1ee77b5d46a35944a259c4e279dc06030180c06038fc9ea75b45a2d984c261387cde8743a1d8040201008040201
def logN : Nat := 0xaf5850a8eaf4d674e8ade7e6e9d5ae4fd72c757aeb16f50b51a0a99cb05f59cb5a3eccbbb18660fbaa559d29523ba16cf66f0c7fec4917c476a47bb7d8432d1fa2416d4753393c849e5d2a14abd356f261befcdcb2978790cdcfbc955bd13f372e892023d99244117cb4b8267799a5e318fec531edde4a670d63808cf7c0700757a7f373ace5d44e2b79150a9f9b5eca3dba85fa54283a6b6e7e48c3a3b6421e404638835c13d2f1bddb968fce94d03688229110b32598e2fd30dd66628bbf06a672e44d78099ac9b9f9276a7dc2b51d458212f0da8e9335210f24e12f658a05714c08c8f869c11c81ef8d340ee064044bc7681bee33df03c61a320219010000
def exN (i : Nat) : Nat := (expN >>> (8 * i)) % 256
def lgN (x : Nat) : Nat := (logN >>> (8 * x)) % 256
theorem expT_eq (i : Nat) (h : i < 255) : expT.getD i 0 = UInt8.ofNat (exN i) := by
  have h1 : (List.range 255).all (fun i => decide (expT.getD i 0 = UInt8.ofNat (exN i))) = true := by decide +kernel
  simpa using List.all_eq_true.1 h1 i (List.mem_range.2 h)
theorem logT_eq (x : Nat) (h : x < 256) : logT.getD x 0 = lgN x := by
  have h1 : (List.range 256).all (fun x => decide (logT.getD x 0 = lgN x)) = true := by decide +kernel
  simpa using List.all_eq_true.1 h1 x (List.mem_range.2 h)
theorem exN_lt (i : Nat) : exN i < 256 := Nat.mod_lt _ (by decide)
theorem lg_lt (x : Nat) (h : x < 256) : lgN x < 255 := by
  have h1 : (List.range 256).all (fun x => decide (lgN x < 255)) = true := by decide +kernel
  simpa using List.all_eq_true.1 h1 x (List.mem_range.2 h)
theorem lg_ex (i : Nat) (h : i < 255) : lgN (exN i) = i ∧ exN i ≠ 0 := by
  have h1 : (List.range 255).all (fun i => decide (lgN (exN i) = i ∧ exN i ≠ 0)) = true := by decide +kernel
  simpa using List.all_eq_true.1 h1 i (List.mem_range.2 h)
theorem ex_lg (x : Nat) (h : x < 256) (h0 : x ≠ 0) : exN (lgN x) = x := by
  have h1 : (List.range 256).all (fun x => decide (x = 0 ∨ exN (lgN x) = x)) = true := by decide +kernel
  have := List.all_eq_true.1 h1 x (List.mem_range.2 h)
  simp only [decide_eq_true_eq] at this
  exact this.resolve_left h0
def xtN (x : Nat) : Nat := if x < 128 then x * 2 else x * 2 ^^^ 285
theorem ex_succ (i : Nat) (h : i < 255) : exN ((i + 1) % 255) = xtN (exN i) := by
  have h1 : (List.range 255).all (fun i => decide (exN ((i + 1) % 255) = xtN (exN i))) = true := by decide +kernel
  simpa using List.all_eq_true.1 h1 i (List.mem_range.2 h)
theorem xtN_xor (x y : Nat) (hx : x < 256) (hy : y < 256) : xtN (x ^^^ y) = xtN x ^^^ xtN y := by
  have h1 : (List.range 256).all (fun x => (List.range 256).all fun y => Nat.beq (xtN (x ^^^ y)) (xtN x ^^^ xtN y)) = true := by decide +kernel
  have h2 := List.all_eq_true.1 (List.all_eq_true.1 h1 x (List.mem_range.2 hx)) y (List.mem_range.2 hy)
  exact Nat.eq_of_beq_eq_true h2
theorem xtN_lt (x : Nat) (hx : x < 256) : xtN x < 256 := by
  have h1 : (List.range 256).all (fun x => decide (xtN x < 256)) = true := by decide +kernel
  simpa using List.all_eq_true.1 h1 x (List.mem_range.2 hx)
def mulN (a b : Nat) : Nat := if a = 0 then 0 else if b = 0 then 0 else exN ((lgN a + lgN b) % 255)
theorem mulN_lt (a b : Nat) : mulN a b < 256 := by unfold mulN; split; decide; split; decide; exact exN_lt _
theorem gmul_N (a b : UInt8) : gmul a b = UInt8.ofNat (mulN a.toNat b.toNat) := by
  have ha := a.toNat_lt
  have hb := b.toNat_lt
  unfold gmul mulN
  by_cases h1 : a = 0
  · subst h1; simp
  · by_cases h2 : b = 0
    · subst h2; simp
    · have e1 : ¬ a.toNat = 0 := fun e => h1 (UInt8.toNat_inj.1 (by rw [e]; rfl))
      have e2 : ¬ b.toNat = 0 := fun e => h2 (UInt8.toNat_inj.1 (by rw [e]; rfl))
      rw [if_neg h1, if_neg h2, if_neg e1, if_neg e2, logT_eq _ ha, logT_eq _ hb, expT_eq _ (Nat.mod_lt _ (by decide))]
theorem gmul_toNat (a b : UInt8) : (gmul a b).toNat = mulN a.toNat b.toNat := by rw [gmul_N, UInt8.toNat_ofNat']; exact Nat.mod_eq_of_lt (mulN_lt _ _)
def itN : Nat → Nat → Nat
  | 0, x => x
  | k + 1, x => xtN (itN k x)
theorem itN_lt (x : Nat) (hx : x < 256) : ∀ k, itN k x < 256
  | 0 => hx
  | k + 1 => xtN_lt _ (itN_lt x hx k)
theorem itN_xor (x y : Nat) (hx : x < 256) (hy : y < 256) : ∀ k, itN k (x ^^^ y) = itN k x ^^^ itN k y
  | 0 => rfl
  | k + 1 => by simp only [itN]; rw [itN_xor x y hx hy k, xtN_xor _ _ (itN_lt x hx k) (itN_lt y hy k)]
theorem itN_zero : ∀ k, itN k 0 = 0
  | 0 => rfl
  | k + 1 => by simp only [itN]; rw [itN_zero k]; rfl
theorem itN_ex (j : Nat) : ∀ k, itN k (exN (j % 255)) = exN ((k + j) % 255)
  | 0 => by simp [itN]
  | k + 1 => by
    simp only [itN]
    rw [itN_ex j k, ← ex_succ _ (Nat.mod_lt _ (by decide))]
    congr 1
    omega
theorem mulN_it (a b : Nat) (ha : a < 256) (hb : b < 256) (h0 : a ≠ 0) : mulN a b = itN (lgN a) b := by
  unfold mulN
  rw [if_neg h0]
  by_cases h2 : b = 0
  · rw [if_pos h2, h2, itN_zero]
  · rw [if_neg h2]
    have h3 := itN_ex (lgN b) (lgN a)
    rw [Nat.mod_eq_of_lt (lg_lt b hb), ex_lg b hb h2] at h3
    exact h3.symm
theorem xor_lt (x y : Nat) (hx : x < 256) (hy : y < 256) : x ^^^ y < 256 := Nat.xor_lt_two_pow (n := 8) hx hy
theorem mulN_xor (a b c : Nat) (ha : a < 256) (hb : b < 256) (hc : c < 256) : mulN a (b ^^^ c) = mulN a b ^^^ mulN a c := by
  by_cases h0 : a = 0
  · subst h0; simp [mulN]
  · rw [mulN_it a _ ha (xor_lt _ _ hb hc) h0, mulN_it a b ha hb h0, mulN_it a c ha hc h0, itN_xor b c hb hc]
theorem mulN_comm (a b : Nat) : mulN a b = mulN b a := by
  unfold mulN
  by_cases h1 : a = 0
  · by_cases h2 : b = 0
    · simp [h1, h2]
    · simp [h1, h2]
  · by_cases h2 : b = 0
    · simp [h1, h2]
    · simp only [if_neg h1, if_neg h2]; rw [Nat.add_comm]
theorem mulN_assoc (a b c : Nat) (ha : a < 256) (hb : b < 256) (hc : c < 256) : mulN a (mulN b c) = mulN (mulN a b) c := by
  by_cases h1 : a = 0
  · subst h1; simp [mulN]
  by_cases h2 : b = 0
  · subst h2; simp [mulN]
  by_cases h3 : c = 0
  · subst h3; simp [mulN]
  have e1 : mulN b c = exN ((lgN b + lgN c) % 255) := by simp [mulN, h2, h3]
  have e2 : mulN a b = exN ((lgN a + lgN b) % 255) := by simp [mulN, h1, h2]
  have k1 := lg_ex ((lgN b + lgN c) % 255) (Nat.mod_lt _ (by decide))
  have k2 := lg_ex ((lgN a + lgN b) % 255) (Nat.mod_lt _ (by decide))
  rw [e1, e2]
  unfold mulN
  rw [if_neg h1, if_neg k1.2, if_neg k2.2, if_neg h3, k1.1, k2.1]
  congr 1
  omega
theorem u8_xor (a b : UInt8) : (a ^^^ b).toNat = a.toNat ^^^ b.toNat := UInt8.toNat_xor a b
theorem gmul_xor (a b c : UInt8) : gmul a (b ^^^ c) = gmul a b ^^^ gmul a c := by
  apply UInt8.toNat_inj.1
  rw [u8_xor, gmul_toNat, gmul_toNat, gmul_toNat, u8_xor]
  exact mulN_xor _ _ _ a.toNat_lt b.toNat_lt c.toNat_lt
theorem gmul_comm (a b : UInt8) : gmul a b = gmul b a := by rw [gmul_N, gmul_N, mulN_comm]
theorem gmul_xor' (a b c : UInt8) : gmul (a ^^^ b) c = gmul a c ^^^ gmul b c := by rw [gmul_comm, gmul_xor, gmul_comm c a, gmul_comm c b]
theorem gmul_assoc (a b c : UInt8) : gmul a (gmul b c) = gmul (gmul a b) c := by
  apply UInt8.toNat_inj.1
  simp only [gmul_toNat]
  exact mulN_assoc _ _ _ a.toNat_lt b.toNat_lt c.toNat_lt
theorem gmul_one (a : UInt8) : gmul 1 a = a := by
  apply UInt8.toNat_inj.1
  rw [gmul_toNat]
  have h1 : (List.range 256).all (fun x => Nat.beq (mulN 1 x) x) = true := by decide +kernel
  exact Nat.eq_of_beq_eq_true (List.all_eq_true.1 h1 a.toNat (List.mem_range.2 a.toNat_lt))
def bitS (k : Nat) (b x : Nat) : Nat := match k with
  | 0 => 0
  | k + 1 => if (b / 2 ^ k) % 2 = 1 then bitS k b x ^^^ itN k x else bitS k b x
theorem bitS_lt (b x : Nat) (hx : x < 256) : ∀ k, bitS k b x < 256
  | 0 => by simp [bitS]
  | k + 1 => by simp only [bitS]; split; exact xor_lt _ _ (bitS_lt b x hx k) (itN_lt x hx k); exact bitS_lt b x hx k
theorem pK_eq (x b : Nat) (hx : x < 256) : ∀ k, pK k (x, b, 0) = (itN k x, b / 2 ^ k, bitS k b x)
  | 0 => by simp [pK, itN, bitS]
  | k + 1 => by
    rw [pK, pK_eq x b hx k, pstep]
    have hl := itN_lt x hx k
    simp only [itN, bitS]
    refine Prod.ext ?_ (Prod.ext ?_ ?_)
    · simp only [xtN]
      by_cases h : itN k x < 128
      · rw [if_neg (by omega), if_pos h]
      · rw [if_pos (by omega), if_neg h]
    · simp only []
      rw [Nat.pow_succ, Nat.div_div_eq_div_mul]
    · rfl
theorem bits_all (b : Nat) (hb : b < 256) : bitS 8 b 1 = b ∧ ∀ i, i < 8 → lgN (itN i 1) = i ∧ itN i 1 ≠ 0 := by
  have h1 : (List.range 256).all (fun b => Nat.beq (bitS 8 b 1) b) = true := by decide +kernel
  have h2 : (List.range 8).all (fun i => decide (lgN (itN i 1) = i ∧ itN i 1 ≠ 0)) = true := by decide +kernel
  refine ⟨Nat.eq_of_beq_eq_true (List.all_eq_true.1 h1 b (List.mem_range.2 hb)), fun i hi => ?_⟩
  simpa using List.all_eq_true.1 h2 i (List.mem_range.2 hi)
theorem bitS_mul (b x : Nat) (hb : b < 256) (hx : x < 256) : ∀ k, k ≤ 8 → bitS k b x = mulN (bitS k b 1) x
  | 0, _ => by simp [bitS, mulN]
  | k + 1, hk => by
    have ih := bitS_mul b x hb hx k (by omega)
    simp only [bitS]
    split
    · have h3 := (bits_all b hb).2 k (by omega)
      have hi := itN_lt 1 (by decide) k
      rw [mulN_comm, mulN_xor x _ _ hx (bitS_lt b 1 (by decide) k) hi, mulN_comm x, mulN_comm x, ← ih, mulN_it (itN k 1) x hi hx h3.2, h3.1]
    · exact ih
theorem pmul_eq (a b : UInt8) : pmul a b = gmul a b := by
  apply UInt8.toNat_inj.1
  rw [gmul_toNat, pmul, pK_eq _ _ a.toNat_lt]
  simp only []
  rw [UInt8.toNat_ofNat', Nat.mod_eq_of_lt (bitS_lt _ _ a.toNat_lt 8), bitS_mul _ _ b.toNat_lt a.toNat_lt 8 (Nat.le_refl _), (bits_all _ b.toNat_lt).1, mulN_comm]
end Go.Proofs.YtchammpamigonaaGreatX
end
section
namespace Go.Proofs.YtchammpamigonaaGreatX
open Go Go.RowKit
def sumX (f : Nat → UInt8) : Nat → UInt8
  | 0 => 0
  | k + 1 => sumX f k ^^^ f k
theorem sumX_congr {f g : Nat → UInt8} : ∀ {n : Nat}, (∀ k, k < n → f k = g k) → sumX f n = sumX g n
  | 0, _ => rfl
  | n + 1, h => by simp only [sumX]; rw [sumX_congr fun k hk => h k (by omega), h n (by omega)]
theorem gmul_zero (a : UInt8) : gmul a 0 = 0 := gmul_zero_right a
theorem gmul_sumX (a : UInt8) (f : Nat → UInt8) : ∀ n, gmul a (sumX f n) = sumX (fun k => gmul a (f k)) n
  | 0 => gmul_zero a
  | n + 1 => by simp only [sumX]; rw [gmul_xor, gmul_sumX a f n]
theorem sumX_gmul (f : Nat → UInt8) (a : UInt8) : ∀ n, gmul (sumX f n) a = sumX (fun k => gmul (f k) a) n
  | 0 => by rw [gmul_comm]; exact gmul_zero a
  | n + 1 => by simp only [sumX]; rw [gmul_xor', sumX_gmul f a n]
theorem sumX_xor (f g : Nat → UInt8) : ∀ n, sumX (fun k => f k ^^^ g k) n = sumX f n ^^^ sumX g n
  | 0 => by simp [sumX]
  | n + 1 => by
    simp only [sumX]
    rw [sumX_xor f g n]
    simp only [UInt8.xor_assoc]
    congr 1
    rw [← UInt8.xor_assoc, UInt8.xor_comm (sumX g n), UInt8.xor_assoc]
theorem sumX_zero : ∀ n, sumX (fun _ => 0) n = 0
  | 0 => rfl
  | n + 1 => by simp only [sumX]; rw [sumX_zero n]; rfl
theorem sumX_swap (f : Nat → Nat → UInt8) (m : Nat) : ∀ n, sumX (fun i => sumX (fun j => f i j) m) n = sumX (fun j => sumX (fun i => f i j) n) m
  | 0 => by simp only [sumX]; exact (sumX_zero m).symm
  | n + 1 => by simp only [sumX]; rw [sumX_swap f m n, ← sumX_xor]
theorem sumX_one (f : Nat → UInt8) (i : Nat) : ∀ n, (∀ k, k < n → k ≠ i → f k = 0) → sumX f n = if i < n then f i else 0
  | 0, _ => by simp [sumX]
  | n + 1, h => by
    simp only [sumX]
    rw [sumX_one f i n fun k hk => h k (by omega)]
    by_cases e : i = n
    · subst e; simp
    · rw [h n (by omega) (fun e' => e e'.symm)]
      by_cases e2 : i < n
      · rw [if_pos e2, if_pos (by omega)]; simp
      · rw [if_neg e2, if_neg (by omega)]; rfl
def ent (m : List (List UInt8)) (i j : Nat) : UInt8 := (m.getD i []).getD j 0
theorem xorL_getD (l m : List UInt8) (h : l.length = m.length) (j : Nat) : (xorL l m).getD j 0 = l.getD j 0 ^^^ m.getD j 0 := by
  simp only [List.getD_eq_getElem?_getD, xorL, List.getElem?_zipWith]
  rcases Nat.lt_or_ge j l.length with hj | hj
  · rw [List.getElem?_eq_getElem hj, List.getElem?_eq_getElem (by omega)]; rfl
  · rw [List.getElem?_eq_none hj, List.getElem?_eq_none (by omega)]; rfl
theorem rowMul_ent (n : Nat) (r : List UInt8) (B : List (List UInt8)) (hB : ∀ l ∈ B, l.length = n) (j : Nat) (hj : j < n) : ∀ k, k ≤ r.length → k ≤ B.length → (rowMul n (r.take k) (B.take k)).getD j 0 = sumX (fun q => gmul (r.getD q 0) (ent B q j)) k
  | 0, _, _ => by simp [rowMul, sumX, List.getD_eq_getElem?_getD, hj]
  | k + 1, h1, h2 => by
    rw [rowMul_succ n r B k (by omega) (by omega)]
    have hl := rowMul_length n (r.take k) (B.take k) fun l hl => hB l (List.mem_of_mem_take hl)
    have hbl := hB _ (List.getElem_mem (show k < B.length by omega))
    rw [xorL_getD _ _ (by rw [hl, List.length_map, hbl]), rowMul_ent n r B hB j hj k (by omega) (by omega)]
    simp only [sumX]
    congr 1
    have e1 : r.getD k 0 = r[k] := by simp [List.getD_eq_getElem?_getD, show k < r.length by omega]
    have e2 : B.getD k [] = B[k] := by simp [List.getD_eq_getElem?_getD, show k < B.length by omega]
    rw [e1, ent, e2]
    simp [List.getD_eq_getElem?_getD, show j < B[k].length by omega]
theorem matMul_ent (A B : List (List UInt8)) (n : Nat) (hA : ∀ r ∈ A, r.length = B.length) (hB : ∀ l ∈ B, l.length = n) (h0 : 0 < B.length) {i j : Nat} (hi : i < A.length) (hj : j < n) : ent (matMul A B) i j = sumX (fun q => gmul (ent A i q) (ent B q j)) B.length := by
  have e1 : (matMul A B).getD i [] = rowMul n A[i] B := by
    have hh := headD_len B n hB h0
    simp only [matMul, List.getD_eq_getElem?_getD, List.getElem?_map, List.getElem?_eq_getElem hi, Option.map_some, Option.getD_some, hh]
  have hr := hA _ (List.getElem_mem hi)
  have h2 := rowMul_ent n A[i] B hB j hj B.length (by omega) (Nat.le_refl _)
  rw [List.take_length] at h2
  have h3 : A[i].take B.length = A[i] := List.take_of_length_le (by omega)
  rw [h3] at h2
  rw [ent, e1, h2]
  have e4 : A.getD i [] = A[i] := by simp [List.getD_eq_getElem?_getD, hi]
  simp only [ent, e4]
def Dim (m n : Nat) (A : List (List UInt8)) : Prop := A.length = m ∧ ∀ r ∈ A, r.length = n
theorem Dim.mul {a b n : Nat} {A B : List (List UInt8)} (hA : Dim a b A) (hB : Dim b n B) (h0 : 0 < b) : Dim a n (matMul A B) := by
  refine ⟨by rw [matMul_length]; exact hA.1, fun r hr => ?_⟩
  simp only [matMul, List.mem_map] at hr
  obtain ⟨q, _, rfl⟩ := hr
  rw [headD_len B n hB.2 (by rw [hB.1]; exact h0)]
  exact rowMul_length n q B hB.2
theorem Dim.ext {m n : Nat} {A B : List (List UInt8)} (hA : Dim m n A) (hB : Dim m n B) (h : ∀ i j, i < m → j < n → ent A i j = ent B i j) : A = B := by
  apply List.ext_getElem (by rw [hA.1, hB.1])
  intro i h1 h2
  have l1 := hA.2 _ (List.getElem_mem h1)
  have l2 := hB.2 _ (List.getElem_mem h2)
  apply List.ext_getElem (by rw [l1, l2])
  intro j h3 h4
  have := h i j (by rw [← hA.1]; exact h1) (by omega)
  simpa [ent, List.getD_eq_getElem?_getD, h1, h2, h3, h4] using this
theorem Dim.row {m n : Nat} {A : List (List UInt8)} (hA : Dim m n A) {i : Nat} (hi : i < m) : (A.getD i []).length = n := by
  rw [List.getD_eq_getElem?_getD, List.getElem?_eq_getElem (by rw [hA.1]; exact hi)]
  exact hA.2 _ (List.getElem_mem _)
theorem matMul_assoc {a b c n : Nat} {A B C : List (List UInt8)} (hA : Dim a b A) (hB : Dim b c B) (hC : Dim c n C) (h1 : 0 < b) (h2 : 0 < c) : matMul A (matMul B C) = matMul (matMul A B) C := by
  have hBC := hB.mul hC h2
  have hAB := hA.mul hB h1
  refine (hA.mul hBC h1).ext (hAB.mul hC h2) fun i j hi hj => ?_
  rw [matMul_ent A (matMul B C) n (by rw [hBC.1]; exact hA.2) hBC.2 (by rw [hBC.1]; exact h1) (by rw [hA.1]; exact hi) hj, matMul_ent (matMul A B) C n (by rw [hC.1]; exact hAB.2) hC.2 (by rw [hC.1]; exact h2) (by rw [hAB.1]; exact hi) hj, hBC.1, hC.1]
  have e1 : sumX (fun q => gmul (ent A i q) (ent (matMul B C) q j)) b = sumX (fun q => sumX (fun l => gmul (gmul (ent A i q) (ent B q l)) (ent C l j)) c) b := sumX_congr fun q hq => by
    rw [matMul_ent B C n (by rw [hC.1]; exact hB.2) hC.2 (by rw [hC.1]; exact h2) (by rw [hB.1]; exact hq) hj, hC.1, gmul_sumX]
    exact sumX_congr fun l _ => gmul_assoc _ _ _
  have e2 : sumX (fun l => gmul (ent (matMul A B) i l) (ent C l j)) c = sumX (fun l => sumX (fun q => gmul (gmul (ent A i q) (ent B q l)) (ent C l j)) b) c := sumX_congr fun l hl => by
    rw [matMul_ent A B c (by rw [hB.1]; exact hA.2) hB.2 (by rw [hB.1]; exact h1) (by rw [hA.1]; exact hi) hl, hB.1, sumX_gmul]
  rw [e1, e2, sumX_swap]
theorem ent_coding (k n i j : Nat) (hi : i < n) (hj : j < k) : ent (codingP k n) i j = codingE k i j := by
  simp [ent, codingP, codingR, List.getD_eq_getElem?_getD, hi, hj]
theorem Dim.coding (k n : Nat) : Dim n k (codingP k n) := ⟨codingP_length k n, fun r hr => by
  simp only [codingP, List.mem_map] at hr
  obtain ⟨i, _, rfl⟩ := hr
  exact codingR_length k i⟩
theorem matMul_one {k n : Nat} {P : List (List UInt8)} (hP : Dim k n P) (hk : 0 < k) : matMul (codingP k k) P = P := by
  refine ((Dim.coding k k).mul hP hk).ext hP fun i j hi hj => ?_
  rw [matMul_ent (codingP k k) P n (by rw [hP.1]; exact (Dim.coding k k).2) hP.2 (by rw [hP.1]; exact hk) (by rw [codingP_length]; exact hi) hj, hP.1]
  have : sumX (fun q => gmul (ent (codingP k k) i q) (ent P q j)) k = sumX (fun q => if q = i then ent P i j else 0) k := sumX_congr fun q hq => by
    rw [ent_coding k k i q hi hq, codingE, if_neg (by omega)]
    by_cases e : i = q
    · subst e; rw [if_pos rfl, if_pos rfl, gmul_one]
    · rw [if_neg e, if_neg (fun e' => e e'.symm)]; exact gmul_zero_left _
  rw [this, sumX_one _ i k fun q _ hq => if_neg hq, if_pos hi, if_pos rfl]
theorem rowsP_dim {m n k : Nat} {M : List (List UInt8)} (hM : Dim m n M) {idx : List Nat} (hl : idx.length = k) (hi : ∀ i ∈ idx, i < m) : Dim k n (rowsP M idx) := ⟨by rw [rowsP, List.length_map, hl], fun r hr => by
  simp only [rowsP, List.mem_map] at hr
  obtain ⟨i, h, rfl⟩ := hr
  exact hM.row (hi i h)⟩
theorem rowsP_mul {m k n : Nat} {C P : List (List UInt8)} (hC : Dim m k C) {idx : List Nat} (hi : ∀ i ∈ idx, i < m) : rowsP (matMul C P) idx = matMul (rowsP C idx) P := by
  simp only [rowsP, matMul, List.map_map]
  refine List.map_congr_left fun i hm => ?_
  have h1 : i < C.length := by rw [hC.1]; exact hi i hm
  simp [List.getD_eq_getElem?_getD, h1]
theorem dotK_eq (r : List UInt8) (B : List (List UInt8)) (j : Nat) : ∀ k, dotK r B j k = sumX (fun q => gmul (r.getD q 0) (ent B q j)) k
  | 0 => rfl
  | k + 1 => by simp only [dotK, sumX, pmul_eq, ent]; rw [dotK_eq r B j k]; rfl
theorem rmul_eq {a b n : Nat} {A B : List (List UInt8)} (hA : Dim a b A) (hB : Dim b n B) (h0 : 0 < b) : rmul A B = matMul A B := by
  have hh := headD_len B n hB.2 (by rw [hB.1]; exact h0)
  have hd : Dim a n (rmul A B) := ⟨by rw [rmul, List.length_map, hA.1], fun r hr => by
    simp only [rmul, List.mem_map] at hr
    obtain ⟨q, _, rfl⟩ := hr
    rw [List.length_map, List.length_range, hh]⟩
  refine hd.ext (hA.mul hB h0) fun i j hi hj => ?_
  have hi' : i < A.length := by rw [hA.1]; exact hi
  rw [matMul_ent A B n (by rw [hB.1]; exact hA.2) hB.2 (by rw [hB.1]; exact h0) hi' hj]
  have e1 : (rmul A B).getD i [] = (List.range n).map fun j => dotK A[i] B j B.length := by
    simp only [rmul, List.getD_eq_getElem?_getD, List.getElem?_map, List.getElem?_eq_getElem hi', Option.map_some, Option.getD_some, hh]
  have e4 : A.getD i [] = A[i] := by simp [List.getD_eq_getElem?_getD, hi']
  have e2 : ((List.range n).map fun j => dotK A[i] B j B.length).getD j 0 = dotK A[i] B j B.length := by simp [List.getD_eq_getElem?_getD, hj]
  rw [ent, e1, e2, dotK_eq]
  refine sumX_congr fun q _ => ?_
  rw [show ent A i q = A[i].getD q 0 by rw [ent, e4]]
theorem rcod_eq (k n : Nat) (hk : k < 8) (hn : n < 8) : rcod k n = codingP k n := by
  have h1 : (List.range 8).all (fun k => (List.range 8).all fun n => decide (rcod k n = codingP k n)) = true := by decide +kernel
  simpa using List.all_eq_true.1 (List.all_eq_true.1 h1 k (List.mem_range.2 hk)) n (List.mem_range.2 hn)
theorem Dim.pieces (k : Nat) (l : List UInt8) (hk : 0 < k) : Dim k (pieceN k l) (piecesP k l) := ⟨piecesP_length k l, piecesP_all l hk⟩
theorem encR_eq (k n : Nat) (l : List UInt8) (hk : 0 < k) (hk2 : k < 8) (hn : n < 8) : encR k n l = encP k n l := by
  rw [encR, encP, rcod_eq k n hk2 hn]
  exact rmul_eq (Dim.coding k n) (Dim.pieces k l hk) hk
end Go.Proofs.YtchammpamigonaaGreatX
end
section
namespace Go.Proofs.YtchammpamigonaaGreatX
open Go Go.RowKit
section
variable (mul : UInt8 → UInt8 → UInt8) (inv : UInt8 → UInt8)
def rowMulG (n : Nat) (r : List UInt8) (B : List (List UInt8)) : List UInt8 := (List.zip r B).foldl (fun acc p => xorL acc (p.2.map (mul p.1))) (List.replicate n 0)
def matMulG (A B : List (List UInt8)) : List (List UInt8) := A.map fun r => rowMulG mul (B.headD []).length r B
def codingEG (K i j : Nat) : UInt8 := if K ≤ i then inv (UInt8.ofNat (i ^^^ j)) else if i = j then 1 else 0
def codingG (K N : Nat) : List (List UInt8) := (List.range N).map fun i => (List.range K).map (codingEG inv K i)
def clrG (x : UInt8) (m : Mat) (i c : Nat) : Mat := if i ≠ c ∧ x ≠ 0 then m.set i (xorL (m.getD i []) ((m.getD c []).map (mul x))) else m
def clearStepG (c : Nat) (ab : Mat × Mat) (i : Nat) : Mat × Mat := (clrG mul (entry ab.1 i c) ab.1 i c, clrG mul (entry ab.1 i c) ab.2 i c)
def clear0G (c : Nat) (ab : Mat × Mat) : Mat × Mat := (ab.1.set c ((ab.1.getD c []).map (mul (inv (entry ab.1 c c)))), ab.2.set c ((ab.2.getD c []).map (mul (inv (entry ab.1 c c)))))
def clearPG (c : Nat) (ab : Mat × Mat) : Mat × Mat := (List.range ab.1.length).foldl (clearStepG mul c) (clear0G mul inv c ab)
def invStepG (st : Option (Mat × Mat)) (c : Nat) : Option (Mat × Mat) := st.bind fun ab => (findP ab.1 c).map fun r => clearPG mul inv c (swapP ab.1 r c, swapP ab.2 r c)
def invertG (m : Mat) : Option Mat := ((List.range m.length).foldl (invStepG mul inv) (some (m, codingG inv m.length m.length))).map (·.2)
def selB (mask : List Bool) (N : Nat) : List Nat := (List.range N).filter fun i => mask.getD i false
def chkG (K N : Nat) (mask : List Bool) : Bool :=
  let idx := selB mask N
  if idx.length = K then
    match invertG mul inv (rowsP (codingG inv K N) idx) with
    | none => false
    | some B => decide (B.length = K) && B.all (fun r => decide (r.length = K)) && decide (matMulG mul B (rowsP (codingG inv K N) idx) = codingG inv K K)
  else true
end
def masks : Nat → List (List Bool)
  | 0 => [[]]
  | n + 1 => (masks n).flatMap fun m => [true :: m, false :: m]
def gmulF (a b : UInt8) : UInt8 := UInt8.ofNat (mulN a.toNat b.toNat)
def ginvF (a : UInt8) : UInt8 := if a = 0 then 0 else UInt8.ofNat (exN ((255 - lgN a.toNat) % 255))
theorem gmulF_eq : gmulF = gmul := by funext a b; exact (gmul_N a b).symm
theorem ginvF_eq : ginvF = ginv := by
  funext a
  unfold ginvF ginv
  split
  · rfl
  · rw [logT_eq _ a.toNat_lt, expT_eq _ (Nat.mod_lt _ (by decide))]
theorem chk_all : ([(1,1),(2,2),(3,3),(4,4),(5,5),(6,6),(7,7),(1,3),(2,4),(3,5),(4,6),(5,7),(1,5),(2,6),(3,7),(1,7)] : List (Nat × Nat)).all (fun p => (masks p.2).all (chkG gmulF ginvF p.1 p.2)) = true := by decide +kernel
theorem masks_all (p : Nat → Bool) : ∀ n, ∃ m ∈ masks n, ∀ i, i < n → m.getD i false = p i := by
  intro n
  induction n generalizing p with
  | zero => exact ⟨[], by simp [masks], fun i h => by omega⟩
  | succ n ih =>
    obtain ⟨m, hm, h⟩ := ih fun i => p (i + 1)
    refine ⟨p 0 :: m, ?_, fun i hi => ?_⟩
    · simp only [masks, List.mem_flatMap]
      exact ⟨m, hm, by cases p 0 <;> simp⟩
    · cases i with
      | zero => simp
      | succ i => simpa using h i (by omega)
theorem matMulG_eq : matMulG gmul = matMul := rfl
theorem codingG_eq : codingG ginv = codingP := rfl
theorem invertG_eq : invertG gmul ginv = invertP := rfl
theorem inverse_ok (k F : Nat) (hk : 1 ≤ k) (hF : k + 2 * F ≤ 7) (p : Nat → Bool) (hl : ((List.range (k + 2 * F)).filter p).length = k) :
    ∃ B, invertP (rowsP (codingP k (k + 2 * F)) ((List.range (k + 2 * F)).filter p)) = some B ∧ B.length = k ∧ (∀ r ∈ B, r.length = k) ∧ matMul B (rowsP (codingP k (k + 2 * F)) ((List.range (k + 2 * F)).filter p)) = codingP k k := by
  have hp : (k, k + 2 * F) ∈ ([(1,1),(2,2),(3,3),(4,4),(5,5),(6,6),(7,7),(1,3),(2,4),(3,5),(4,6),(5,7),(1,5),(2,6),(3,7),(1,7)] : List (Nat × Nat)) := by
    have h1 : F ≤ 3 := by omega
    have h2 : k ≤ 7 := by omega
    have key : (List.range 8).all (fun k => (List.range 4).all fun F => decide (1 ≤ k → k + 2 * F ≤ 7 → (k, k + 2 * F) ∈ ([(1,1),(2,2),(3,3),(4,4),(5,5),(6,6),(7,7),(1,3),(2,4),(3,5),(4,6),(5,7),(1,5),(2,6),(3,7),(1,7)] : List (Nat × Nat)))) = true := by decide +kernel
    have := List.all_eq_true.1 (List.all_eq_true.1 key k (List.mem_range.2 (by omega))) F (List.mem_range.2 (by omega))
    simp only [decide_eq_true_eq] at this
    exact this hk hF
  obtain ⟨m, hm, hmp⟩ := masks_all p (k + 2 * F)
  have hsel : selB m (k + 2 * F) = (List.range (k + 2 * F)).filter p := List.filter_congr fun i hi => hmp i (List.mem_range.1 hi)
  have hc := List.all_eq_true.1 (List.all_eq_true.1 chk_all _ hp) m hm
  simp only [] at hc
  rw [gmulF_eq, ginvF_eq] at hc
  simp only [chkG, hsel, hl, if_true, codingG_eq, invertG_eq, matMulG_eq] at hc
  split at hc
  · cases hc
  · rename_i B hB
    simp only [Bool.and_eq_true, decide_eq_true_eq, List.all_eq_true] at hc
    exact ⟨B, hB, hc.1.1, hc.1.2, hc.2⟩
end Go.Proofs.YtchammpamigonaaGreatX
end
section
namespace Go.Proofs.YtchammpamigonaaGreatX
open Go Go.RowKit
theorem filter_sub {l r : List Nat} (h : l.Sublist r) : r.Nodup → r.filter (fun x => decide (x ∈ l)) = l := by
  induction h with
  | slnil => intro _; rfl
  | @cons l r a h ih =>
    intro hn
    simp only [List.nodup_cons] at hn
    rw [List.filter_cons, if_neg (by simpa using fun ha => hn.1 (h.subset ha))]
    exact ih hn.2
  | @cons_cons l r a h ih =>
    intro hn
    simp only [List.nodup_cons] at hn
    rw [List.filter_cons, if_pos (by simp)]
    congr 1
    rw [← ih hn.2]
    refine List.filter_congr fun x hx => ?_
    have hxa : x ≠ a := fun e => hn.1 (e ▸ hx)
    rw [ih hn.2]
    simp [hxa]
theorem dec_facts (k F : Nat) (l : List UInt8) (hk : 1 ≤ k) (hF : k + 2 * F ≤ 7) (m : List (List UInt8)) (hm : m.length = k + 2 * F) (ha : ∀ i ∈ thereP m, m.getD i [] = (encP k (k + 2 * F) l).getD i []) (ht : k ≤ (thereP m).length) :
    ∃ B, invertP (rowsP (codingP k (k + 2 * F)) ((thereP m).take k)) = some B ∧ B.length = k ∧ (∀ r ∈ B, r.length = k) ∧ matMul B (rowsP m ((thereP m).take k)) = piecesP k l := by
  have hsub : ((thereP m).take k).Sublist (List.range (k + 2 * F)) := by
    have h1 : (thereP m).Sublist (List.range (k + 2 * F)) := by rw [← hm]; exact List.filter_sublist
    exact (List.take_sublist _ _).trans h1
  have hf := filter_sub hsub List.nodup_range
  have hl : ((thereP m).take k).length = k := by rw [List.length_take]; omega
  obtain ⟨B, h1, h2, h3, h4⟩ := inverse_ok k F hk hF (fun x => decide (x ∈ (thereP m).take k)) (by rw [hf]; exact hl)
  rw [hf] at h1 h4
  refine ⟨B, h1, h2, h3, ?_⟩
  have hlt : ∀ i ∈ (thereP m).take k, i < k + 2 * F := fun i hi => by have := (thereP_mem.1 (List.mem_of_mem_take hi)).1; omega
  have e1 : rowsP m ((thereP m).take k) = rowsP (encP k (k + 2 * F) l) ((thereP m).take k) := List.map_congr_left fun i hi => ha i (List.mem_of_mem_take hi)
  rw [e1, encP, rowsP_mul (n := 0) (Dim.coding k (k + 2 * F)) hlt, matMul_assoc (a := k) (b := k) (c := k) (n := pieceN k l) (⟨h2, h3⟩ : Dim k k B) (rowsP_dim (Dim.coding k (k + 2 * F)) hl hlt) (Dim.pieces k l hk) hk hk, h4, matMul_one (Dim.pieces k l hk) hk]
theorem bitC_inj (x y : BitVec 32) (h : bitC x = bitC y) : x = y := by
  have hx := x.isLt
  have hy := y.isLt
  have key : ∀ z : BitVec 32, bitC z = if z.toNat % 2 = 1 then (z >>> 1) ^^^ 2197175160 else z >>> 1 := fun z => by
    unfold bitC
    by_cases hz : z.toNat % 2 = 1
    · rw [if_pos ((one32 z).2 hz), if_pos hz]
    · rw [if_neg (fun h => hz ((one32 z).1 h)), if_neg hz]
  have top : ∀ z : BitVec 32, (z >>> 1).getLsbD 31 = false := fun z => by simp
  have c : (2197175160 : BitVec 32).getLsbD 31 = true := by decide
  rw [key, key] at h
  have hs : ∀ (u v : BitVec 32), u >>> 1 = v >>> 1 → u.toNat % 2 = v.toNat % 2 → u = v := fun u v e1 e2 => by
    apply BitVec.eq_of_toNat_eq
    have e3 := congrArg BitVec.toNat e1
    simp only [BitVec.toNat_ushiftRight, Nat.shiftRight_succ, Nat.shiftRight_zero] at e3
    omega
  by_cases h1 : x.toNat % 2 = 1
  · by_cases h2 : y.toNat % 2 = 1
    · rw [if_pos h1, if_pos h2] at h
      exact hs x y (by have := congrArg (· ^^^ (2197175160 : BitVec 32)) h; simpa [BitVec.xor_assoc] using this) (by omega)
    · rw [if_pos h1, if_neg h2] at h
      have := congrArg (fun z => z.getLsbD 31) h
      simp only [BitVec.getLsbD_xor, top, c] at this
      cases this
  · by_cases h2 : y.toNat % 2 = 1
    · rw [if_neg h1, if_pos h2] at h
      have := congrArg (fun z => z.getLsbD 31) h
      simp only [BitVec.getLsbD_xor, top, c] at this
      cases this
    · rw [if_neg h1, if_neg h2] at h
      exact hs x y h (by omega)
theorem bitsC_inj : ∀ (n : Nat) (x y : BitVec 32), bitsC n x = bitsC n y → x = y
  | 0, _, _, h => h
  | n + 1, x, y, h => bitsC_inj n x y (bitC_inj _ _ h)
theorem byteC_inj (x y : BitVec 32) (b : UInt8) (h : byteC x b = byteC y b) : x = y := by
  have := bitsC_inj 8 _ _ h
  have h2 := congrArg (· ^^^ (BitVec.ofNat 32 b.toNat)) this
  simpa [BitVec.xor_assoc] using h2
theorem byteC_inj' (x : BitVec 32) (a b : UInt8) (h : byteC x a = byteC x b) : a = b := by
  have h1 := bitsC_inj 8 _ _ h
  have h2 := congrArg (x ^^^ ·) h1
  simp only [← BitVec.xor_assoc, BitVec.xor_self, BitVec.zero_xor] at h2
  have h3 := congrArg BitVec.toNat h2
  simp only [BitVec.toNat_ofNat] at h3
  have ha := a.toNat_lt
  have hb := b.toNat_lt
  exact UInt8.toNat_inj.1 (by omega)
theorem runC_inj (l : List UInt8) : ∀ x y : BitVec 32, runC x l = runC y l → x = y := by
  induction l with
  | nil => intro x y h; exact h
  | cons b l ih => intro x y h; exact byteC_inj x y b (ih _ _ h)
theorem runC_set (a : UInt8) : ∀ (l : List UInt8) (p : Nat) (hp : p < l.length) (x : BitVec 32), runC x (l.set p a) = runC x l → a = l[p]
  | [], p, hp, _, _ => by simp at hp
  | b :: l, 0, _, x, h => by
    simp only [List.set_cons_zero, runC, List.foldl_cons] at h
    exact byteC_inj' x _ _ (runC_inj l _ _ h)
  | b :: l, p + 1, hp, x, h => by
    simp only [List.set_cons_succ, runC, List.foldl_cons] at h
    simpa using runC_set a l p (by simpa using hp) (byteC x b) h
theorem crc_set (l : List UInt8) (p : Nat) (hp : p < l.length) (a : UInt8) (ha : a ≠ l[p]) : sumB (l.set p a) ≠ sumB l := by
  intro h
  simp only [sumB] at h
  have h1 : (crc (l.set p a)).toNat = (crc l).toNat := by
    rw [← numOf_numB (crc (l.set p a)).isLt, ← numOf_numB (crc l).isLt, h]
  have h2 := BitVec.eq_of_toNat_eq h1
  have h3 := congrArg (· ^^^ (4294967295 : BitVec 32)) h2
  simp only [crc, BitVec.xor_assoc, BitVec.xor_self, BitVec.xor_zero] at h3
  exact ha (runC_set a l p hp _ h3)
end Go.Proofs.YtchammpamigonaaGreatX
end
section
namespace Go.Proofs.YtchammpamigonaaGreatX
open Go Go.RowKit
theorem frameB_take4 (r : List UInt8) : (frameB r).take 4 = numB r.length := by rw [frameB, List.append_assoc, List.append_assoc]; rfl
theorem frameB_take12 (r : List UInt8) : (frameB r).take 12 = numB r.length ++ sumB (numB r.length) ++ sumB r := by
  rw [frameB]
  have : (numB r.length ++ sumB (numB r.length) ++ sumB r).length = 12 := rfl
  rw [List.take_append_of_le_length (by omega), List.take_of_length_le (by omega)]
theorem frameB_drop12 (r : List UInt8) : (frameB r).drop 12 = r := by
  rw [frameB]
  have : (numB r.length ++ sumB (numB r.length) ++ sumB r).length = 12 := rfl
  rw [List.drop_append_of_le_length (by omega), List.drop_of_length_le (by omega)]; rfl
theorem cutF_good (r s : List UInt8) (h : r.length ≤ 65535) : cutF (frameB r ++ s) = some (r, s) := by
  have hl := frameB_length r
  have h4 : (frameB r ++ s).take 4 = numB r.length := by rw [List.take_append_of_le_length (by omega), frameB_take4]
  have hd : (frameB r ++ s).drop 12 = r ++ s := by rw [List.drop_append_of_le_length (by omega), frameB_drop12]
  have h12 : (frameB r ++ s).take 12 = numB r.length ++ sumB (numB r.length) ++ sumB r := by rw [List.take_append_of_le_length (by omega), frameB_take12]
  have hn := numOf_numB (n := r.length) (by omega)
  unfold cutF headOK
  rw [h4, hd, hn, h12, List.take_left, List.drop_left]
  simp [hl]
  omega
theorem cutF_bad {x : List UInt8} (h : headOK x = false) : cutF x = none := by
  unfold cutF
  split; rfl
  split; rfl
  split; rfl
  simp [h]
theorem headOK_set (r : List UInt8) (hr : r.length ≤ 65535) (p : Nat) (hp : p < 12 + r.length) (a : UInt8) (ha : a ≠ (frameB r).getD p 0) : headOK ((frameB r).set p a) = false := by
  have hl := frameB_length r
  have hn := numOf_numB (n := r.length) (by omega)
  rw [headOK, decide_eq_false_iff_not]
  intro h
  have t4 := frameB_take4 r
  have t12 := frameB_take12 r
  have d12 := frameB_drop12 r
  by_cases h1 : p < 4
  · -- the length
    have e4 : ((frameB r).set p a).take 4 = (numB r.length).set p a := by rw [List.take_set, t4]
    rw [e4] at h
    have e12 : ((frameB r).set p a).take 12 = (numB r.length ++ sumB (numB r.length) ++ sumB r).set p a := by rw [List.take_set, t12]
    rw [e12, List.append_assoc, List.set_append_left _ _ (by rw [numB_length]; exact h1), List.append_assoc] at h
    have h2 := List.append_cancel_left h
    have h3 := congrArg (List.take 4) h2
    rw [List.take_append_of_le_length (by rw [sumB_length]; omega), List.take_append_of_le_length (by rw [sumB_length]; omega), List.take_of_length_le (by rw [sumB_length]; omega), List.take_of_length_le (by rw [sumB_length]; omega)] at h3
    refine crc_set (numB r.length) p (by rw [numB_length]; exact h1) a (fun e => ha ?_) h3.symm
    rw [e, frameB, List.append_assoc, List.append_assoc, List.getD_eq_getElem?_getD, List.getElem?_append_left (by rw [numB_length]; exact h1), List.getElem?_eq_getElem (by rw [numB_length]; exact h1)]
    rfl
  · have e4 : ((frameB r).set p a).take 4 = numB r.length := by rw [List.take_set_of_le (by omega), t4]
    rw [e4, hn] at h
    by_cases h2 : p < 12
    · -- a sum
      have ed : ((frameB r).set p a).drop 12 = r := by rw [List.drop_set_of_lt (by omega), d12]
      rw [ed, List.take_length, ← t12, List.take_set] at h
      have hpl : p < ((frameB r).take 12).length := by rw [List.length_take]; omega
      have h3 : (((frameB r).take 12).set p a)[p]? = ((frameB r).take 12)[p]? := by rw [h]
      rw [List.getElem?_set_self hpl, List.getElem?_take_of_lt h2] at h3
      exact ha (by rw [List.getD_eq_getElem?_getD, ← h3]; rfl)
    · -- the record
      have ed : ((frameB r).set p a).drop 12 = r.set (p - 12) a := by
        rw [List.drop_set, if_neg (by omega), d12]
      have et : ((frameB r).set p a).take 12 = (frameB r).take 12 := List.take_set_of_le (by omega)
      rw [ed, et, t12] at h
      have h3 := List.append_cancel_left h
      rw [List.take_of_length_le (by simp)] at h3
      refine crc_set r (p - 12) (by omega) a (fun e => ha ?_) h3.symm
      rw [e, List.getD_eq_getElem?_getD]
      have : (frameB r)[p]? = r[p - 12]? := by rw [← d12, List.getElem?_drop]; congr 1; omega
      rw [this]
      simp [show p - 12 < r.length by omega]
theorem cutF_short {r : List UInt8} (hr : r.length ≤ 65535) {n : Nat} (h : n < 12 + r.length) : cutF ((frameB r).take n) = none := by
  have hl := frameB_length r
  unfold cutF
  by_cases h1 : n < 12
  · rw [if_pos (by rw [List.length_take]; omega)]
  · rw [if_neg (by rw [List.length_take]; omega)]
    have e4 : ((frameB r).take n).take 4 = numB r.length := by rw [List.take_take, Nat.min_eq_left (by omega), frameB_take4]
    rw [e4, numOf_numB (by omega), if_neg (by omega), if_pos (by rw [List.length_drop, List.length_take]; omega)]
theorem shardD_rest (i : Nat) (d r : List UInt8) (h : 0 < r.length) : shardD i d r = [] := by
  unfold shardD
  split; rfl
  split; rfl
  split; rfl
  rw [if_pos (by omega)]
theorem shardD_good (i : Nat) (l : List UInt8) (hi : i ≤ 1000) (hl : l.length ≤ 60000) : shardD i (numB i ++ textB l) [] = l := by
  have e1 : (numB i ++ textB l).drop 4 = textB l := rfl
  have e2 : (numB i ++ textB l).take 4 = numB i := rfl
  have e3 : (textB l).drop 4 = l := rfl
  have e4 : (textB l).take 4 = numB l.length := rfl
  have h5 := textB_length l
  unfold shardD
  rw [e1, e2, e3, e4, numOf_numB (by omega), numOf_numB (by omega), List.drop_length, List.take_length]
  rw [if_neg (by rw [List.length_append, numB_length]; omega), if_neg (by omega), if_neg (by omega), if_neg (by simp), if_neg (by simp)]
theorem fileB_rec (i : Nat) (l : List UInt8) : fileB i l = frameB (numB i ++ textB l) := rfl
theorem rec_length (i : Nat) (l : List UInt8) : (numB i ++ textB l).length = 8 + l.length := by rw [List.length_append, numB_length, textB_length]; omega
theorem shardP_good (i : Nat) (l : List UInt8) (hi : i ≤ 1000) (hl : l.length ≤ 60000) : shardP i (fileB i l) = l := by
  have h := cutF_good (numB i ++ textB l) [] (by rw [rec_length]; omega)
  rw [List.append_nil] at h
  rw [shardP, fileB_rec, h]
  exact shardD_good i l hi hl
theorem shardP_more (i : Nat) (l s : List UInt8) (hl : l.length ≤ 60000) (hs : 0 < s.length) : shardP i (fileB i l ++ s) = [] := by
  rw [shardP, fileB_rec, cutF_good _ s (by rw [rec_length]; omega)]
  exact shardD_rest _ _ _ hs
theorem shardP_less (i : Nat) (l : List UInt8) (hl : l.length ≤ 60000) (n : Nat) (h : n < (fileB i l).length) : shardP i ((fileB i l).take n) = [] := by
  rw [shardP, fileB_rec, cutF_short (by rw [rec_length]; omega) (by rw [fileB_rec, frameB_length] at h; exact h)]
theorem shardP_set (i : Nat) (l : List UInt8) (hl : l.length ≤ 60000) (p : Nat) (h : p < (fileB i l).length) (a : UInt8) (ha : a ≠ (fileB i l).getD p 0) : shardP i ((fileB i l).set p a) = [] := by
  rw [shardP, fileB_rec, cutF_bad (headOK_set _ (by rw [rec_length]; omega) p (by rw [fileB_rec, frameB_length] at h; exact h) a (by rw [fileB_rec] at ha; exact ha))]
structure Sp where
  act : UInt8
  at_ : UInt16
  turn : UInt8
def spF (x : List UInt8) (s : Sp) : Option (List UInt8 × Nat) :=
  if s.act.toNat % 5 = 1 then some (x.set (s.at_.toNat % x.length) (x.getD (s.at_.toNat % x.length) 0 ^^^ s.turn), x.length) else
  if s.act.toNat % 5 = 2 then some (x ++ [s.turn], x.length) else
  if s.act.toNat % 5 = 3 then some (x.take (s.at_.toNat % x.length), min x.length (s.at_.toNat % x.length)) else
  if s.act.toNat % 5 = 4 then none else some (x, x.length)
def spG (s : Sp) : Bool := if s.act.toNat % 5 = 1 then decide (s.turn = 0) else decide (s.act.toNat % 5 = 0)
theorem xor_self0 (a t : UInt8) : a ^^^ t = a ↔ t = 0 := by
  constructor
  · intro h
    have := congrArg (a ^^^ ·) h
    simpa [← UInt8.xor_assoc] using this
  · rintro rfl; simp
theorem spF_good (x : List UInt8) (s : Sp) (h : spG s = true) (hx : 0 < x.length) : spF x s = some (x, x.length) := by
  unfold spG at h
  unfold spF
  by_cases h1 : s.act.toNat % 5 = 1
  · rw [if_pos h1] at h ⊢
    have h2 : s.turn = 0 := by simpa using h
    have hp := Nat.mod_lt s.at_.toNat hx
    rw [h2, UInt8.xor_zero]
    congr 2
    rw [List.getD_eq_getElem?_getD, List.getElem?_eq_getElem hp, Option.getD_some, List.set_getElem_self]
  · rw [if_neg h1] at h ⊢
    have h2 : s.act.toNat % 5 = 0 := by simpa using h
    rw [if_neg (by omega), if_neg (by omega), if_neg (by omega)]
theorem spF_bad (i : Nat) (l : List UInt8) (s : Sp) (hl : l.length ≤ 60000) (h : spG s = false) : (s.act.toNat % 5 = 4 ∧ spF (fileB i l) s = none) ∨ (s.act.toNat % 5 ≠ 4 ∧ ∃ d y, spF (fileB i l) s = some (d, y) ∧ shardP i d = [] ∧ d.length ≤ (fileB i l).length + 1) := by
  have hx : 0 < (fileB i l).length := by rw [fileB_length]; omega
  have hp := Nat.mod_lt s.at_.toNat hx
  unfold spG at h
  unfold spF
  by_cases h1 : s.act.toNat % 5 = 1
  · rw [if_pos h1] at h ⊢
    have h2 : s.turn ≠ 0 := by simpa using h
    exact .inr ⟨by omega, _, _, rfl, shardP_set i l hl _ hp _ (fun e => h2 ((xor_self0 _ _).1 e)), by simp⟩
  · rw [if_neg h1] at h ⊢
    have h2 : s.act.toNat % 5 ≠ 0 := by simpa using h
    by_cases h3 : s.act.toNat % 5 = 2
    · rw [if_pos h3]
      exact .inr ⟨by omega, _, _, rfl, shardP_more i l _ hl (by simp), by simp⟩
    · rw [if_neg h3]
      by_cases h4 : s.act.toNat % 5 = 3
      · rw [if_pos h4]
        exact .inr ⟨by omega, _, _, rfl, shardP_less i l hl _ hp, by rw [List.length_take]; omega⟩
      · rw [if_neg h4]
        exact .inl ⟨by omega, by rw [if_pos (by omega)]⟩
end Go.Proofs.YtchammpamigonaaGreatX
end
section
namespace Go.Proofs.YtchammpamigonaaGreatX
open Go Go.RowKit
section
variable {P : Program} {ρ : Env} {w : World} {G : Value → World → Prop} {d : Option Nat} {ty : TypeId} {pos : String} {af : Array Edge} {g : Option (Nat × Bool)}
theorem Y.storeA {x y : Operand} {t T : TypeId} {b sz : Nat} {cur : Array Value} {cs : List Value} (ht : AggT P t sz) (hx : ev ρ x = some (.pointer (some ⟨b, 0, none⟩))) (hy : ev ρ y = some (.agg cs.toArray)) (hb : HB w b (.cells cur T (0, 0))) (hl : cs.length = sz) (hc : cur.size = sz) (h1 : ∀ c ∈ cs, c.oneCell' = true)
    (h : ∀ w', HB w' b (.cells cs.toArray T (0, 0)) → Chg (· = b) w w' → w'.heap.size = w.heap.size → G undef w') : OpY P ⟨d, .store t x y, ty, pos, af, g⟩ ρ w G := by
  have hst := run_storeCells_gen (P := P) b 0 T (0, 0) cs 0 cur w hb (nofr0 _) (by omega) h1
  have hcur : (cur.toList.take (0 + 0) ++ cs ++ cur.toList.drop (0 + 0 + cs.length)).toArray = cs.toArray := by
    rw [List.drop_of_length_le (by simp; omega)]; simp
  rw [hcur] at hst
  refine OpY.un (w' := w.setRow b cs.toArray) (fun ee he => ?_) (h _ (setRow_heap w b cur _ T (0, 0) hb) (Chg.setRow w b _ rfl) (by simp))
  have hcell : (Value.agg cs.toArray).cells = cs.toArray := rfl
  simp only [execOp]; rw [he x _ hx, he y _ hy]
  simp [Instr.storeAt, Instr.sureAddr, storeVar, ht.sizeOf, hcell, hl, hst]
end
theorem QN.doneC {P : Program} {fn : Func} {Q : Exit → Act → World → Prop} {e : Exit} {R : Value → World → Prop} {n : Slots} {ρ : Env} {w : World} {a b sz : Nat} {t : TypeId} {cs : List Value} (he : e = .ret ∨ e = .normal) (hQ : Q e = bodyPost P fn (fun e w' => ∃ v, e = .returned v ∧ R v w') e)
    (hr : fn.results = #[.cell a t]) (hb : ρ.get? a = some (.pointer (some ⟨b, 0, none⟩))) (ht : AggT P t sz) (hl : cs.length = sz) (hc : ∀ j u, cs[j]? = some u → w.cell? ⟨b, 0 + j, none⟩ = some u) (h : R (.agg cs.toArray) w) (hds : n.ds = [] := by rfl) : QN Q e n ρ w := by
  refine QN.of fun act ha => ?_
  rw [hQ]
  have h1 : (loadCells ⟨b, 0, none⟩ sz).run P w = .ok cs.toArray w := by
    rw [← hl]; exact run_loadCells_list w _ cs (fun j u hu => by rw [Addr.add_lit]; exact hc j u hu)
  have h2 : act.tmps.getD a undef = .pointer (some ⟨b, 0, none⟩) := ha.sat (.tmp a) _ hb
  have hrun : (results fn act.tmps).run P w = .ok (.agg cs.toArray) w := by
    unfold results
    rw [hr]
    simp only [Array.mapM_eq_mapM_toList, List.mapM_cons, List.mapM_nil, h2]
    have h3 : (loadCellsFrom ⟨b, 0, none⟩ 0 sz #[]).run P w = .ok cs.toArray w := h1
    simp [go_sem, asAddr, loadVar, ht.run, ht.sizeOf, h3]
  rcases he with rfl | rfl
  · exact ⟨ha.defers.trans hds, _, hrun, _, rfl, h⟩
  · exact ⟨ha.defers.trans hds, _, hrun, _, rfl, h⟩
def DRow (TP TD TF TB : TypeId) (lo : Nat) (w : World) (most : Nat) (ms : Nat → Fm) (U c i : Nat) (av : Value) : Prop :=
  ∃ (So : Nat → Prop) (dvs : List Value) (Fd : Nat → Nat → Prop), Apd So w TP 1 av i dvs ∧ (∀ j d, dvs[j]? = some d → DiskA TD TF TB (Fd j) w d most (ms j) U c) ∧ (∀ j b, Fd j b → ¬ So b ∧ b < w.heap.size) ∧ (∀ b, So b → lo ≤ b ∧ b < w.heap.size)
section
variable {TP TD TF TB : TypeId} {lo : Nat} {w w' : World} {most : Nat} {ms : Nat → Fm} {U c i : Nat} {av av' : Value}
theorem DRow.nil : DRow TP TD TF TB lo w most ms U c 0 (.slice none 0 0) := ⟨NoB, [], fun _ _ => False, Apd.nil _ _ _ _, fun j d h => by simp at h, fun _ _ h => h.elim, fun _ h => h.elim⟩
theorem DRow.ext (h : DRow TP TD TF TB lo w most ms U c i av) (hE : Ext w w') : DRow TP TD TF TB lo w' most ms U c i av := by
  obtain ⟨So, dvs, Fd, h1, h2, h3, h4⟩ := h
  have := hE.size
  exact ⟨So, dvs, Fd, h1.ext hE, fun j d hd => (h2 j d hd).ext hE, fun j b hb => ⟨(h3 j b hb).1, by have := (h3 j b hb).2; omega⟩, fun b hb => ⟨(h4 b hb).1, by have := (h4 b hb).2; omega⟩⟩
theorem DRow.snoc {So Fi : Nat → Prop} {dvs : List Value} {q : Value} {Fd : Nat → Nat → Prop} (h1 : dvs.length = i) (h2 : ∀ j d, dvs[j]? = some d → DiskA TD TF TB (Fd j) w d most (ms j) U c) (h3 : ∀ j b, Fd j b → ¬ So b ∧ b < w.heap.size) (h4 : ∀ b, So b → lo ≤ b ∧ b < w.heap.size) (hlo : lo ≤ w.heap.size)
    (hC : Chg So w w') (hA : Apd (Grow So w w') w' TP 1 av' (i + 1) (dvs ++ [q])) (hD : DiskA TD TF TB Fi w q most (ms i) U c) (hF : ∀ b, Fi b → ¬ So b ∧ b < w.heap.size) : DRow TP TD TF TB lo w' most ms U c (i + 1) av' := by
  have hs := hC.size
  refine ⟨fun b => Grow So w w' b ∧ b < w'.heap.size, dvs ++ [q], fun j => if j = i then Fi else Fd j, hA.mono (fun b hb h => ⟨h, hb⟩), ?_, ?_, ?_⟩
  · intro j d hd
    by_cases e : j = i
    · subst e
      rw [List.getElem?_append_right (by omega), h1] at hd
      simp at hd; subst hd
      simpa using hD.chg hC fun b hb => (hF b hb).1
    · simp only [if_neg e]
      have hj : dvs[j]? = some d := by
        rcases Nat.lt_or_ge j dvs.length with h | h
        · rwa [List.getElem?_append_left h] at hd
        · have : j - dvs.length ≠ 0 := by omega
          rw [List.getElem?_append_right h] at hd
          cases hk : j - dvs.length with
          | zero => omega
          | succ k => rw [hk] at hd; simp at hd
      exact (h2 j d hj).chg hC fun b hb => (h3 j b hb).1
  · intro j b hb
    have key : ¬ So b ∧ b < w.heap.size := by
      by_cases e : j = i
      · simp only [if_pos e] at hb; exact hF b hb
      · simp only [if_neg e] at hb; exact h3 j b hb
    exact ⟨fun hs' => by rcases hs'.1 with h | h; exact key.1 h; (have := h.1; have := key.2; omega), by have := key.2; omega⟩
  · rintro b ⟨h | h, hb⟩
    · exact ⟨(h4 b h).1, hb⟩
    · exact ⟨by have := h.1; omega, hb⟩
theorem DRow.lower {lo' : Nat} (h : DRow TP TD TF TB lo w most ms U c i av) (hl : lo' ≤ lo) : DRow TP TD TF TB lo' w most ms U c i av := by
  obtain ⟨So, dvs, Fd, h1, h2, h3, h4⟩ := h
  exact ⟨So, dvs, Fd, h1, h2, h3, fun b hb => ⟨by have := (h4 b hb).1; omega, (h4 b hb).2⟩⟩
theorem DRow.out (h : DRow TP TD TF TB lo w most ms U c i av) : ∃ (dvs : List Value) (Fd : Nat → Nat → Prop), Row (fun b => lo ≤ b) w av i dvs ∧ dvs.length = i ∧ (∀ j d, dvs[j]? = some d → DiskA TD TF TB (Fd j) w d most (ms j) U c) := by
  obtain ⟨So, dvs, Fd, h1, h2, _, h4⟩ := h
  exact ⟨dvs, Fd, h1.row.mono fun b _ hb => (h4 b hb).1, by have := h1.1; omega, h2⟩
end
def DRowB (TP TD TF TB TQ : TypeId) (lo : Nat) (w : World) (most : Nat) (ms : Nat → Fm) (U c i : Nat) (av bv : Value) (gs : List Bool) : Prop :=
  ∃ (So Sb : Nat → Prop) (dvs : List Value) (Fd : Nat → Nat → Prop), Apd So w TP 1 av i dvs ∧ (∀ j d, dvs[j]? = some d → DiskA TD TF TB (Fd j) w d most (ms j) U c) ∧ (∀ j b, Fd j b → ¬ So b ∧ ¬ Sb b ∧ b < w.heap.size) ∧ (∀ b, So b → lo ≤ b ∧ b < w.heap.size ∧ ¬ Sb b) ∧ Apd Sb w TQ 1 bv i (boolsV gs) ∧ (∀ b, Sb b → lo ≤ b ∧ b < w.heap.size)
section
variable {TP TD TF TB TQ : TypeId} {lo : Nat} {w w1 w2 w' : World} {most : Nat} {ms : Nat → Fm} {U c i : Nat} {av av' bv bv' : Value} {gs : List Bool}
theorem DRowB.nil : DRowB TP TD TF TB TQ lo w most ms U c 0 (.slice none 0 0) (.slice none 0 0) [] := ⟨NoB, NoB, [], fun _ _ => False, Apd.nil _ _ _ _, fun j d h => by simp at h, fun _ _ h => h.elim, fun _ h => h.elim, Apd.nil _ _ _ _, fun _ h => h.elim⟩
theorem DRowB.snoc {So Sb Fi : Nat → Prop} {dvs : List Value} {q : Value} {g : Bool} {Fd : Nat → Nat → Prop} (h1 : dvs.length = i) (h2 : ∀ j d, dvs[j]? = some d → DiskA TD TF TB (Fd j) w d most (ms j) U c) (h3 : ∀ j b, Fd j b → ¬ So b ∧ ¬ Sb b ∧ b < w.heap.size) (h4 : ∀ b, So b → lo ≤ b ∧ b < w.heap.size ∧ ¬ Sb b) (h6 : ∀ b, Sb b → lo ≤ b ∧ b < w.heap.size) (hlo : lo ≤ w.heap.size)
    (hC : Chg So w w1) (hA : Apd (Grow So w w1) w1 TP 1 av' (i + 1) (dvs ++ [q])) (hD : DiskA TD TF TB Fi w q most (ms i) U c) (hF : ∀ b, Fi b → ¬ So b ∧ ¬ Sb b ∧ b < w.heap.size)
    (hE : Ext w1 w2) (hC2 : Chg Sb w2 w') (hB : Apd (Grow Sb w2 w') w' TQ 1 bv' (i + 1) (boolsV gs ++ [.bool g])) : DRowB TP TD TF TB TQ lo w' most ms U c (i + 1) av' bv' (gs ++ [g]) := by
  have hs := hC.size
  have hs1 := hE.size
  have hs2 := hC2.size
  have key : ∀ j b, (if j = i then Fi else Fd j) b → ¬ So b ∧ ¬ Sb b ∧ b < w.heap.size := fun j b hb => by
    by_cases e : j = i
    · simp only [if_pos e] at hb; exact hF b hb
    · simp only [if_neg e] at hb; exact h3 j b hb
  refine ⟨fun b => Grow So w w1 b ∧ b < w1.heap.size, fun b => Grow Sb w2 w' b ∧ b < w'.heap.size, dvs ++ [q], fun j => if j = i then Fi else Fd j, ?_, ?_, ?_, ?_, ?_, ?_⟩
  · refine ((hA.mono (fun b hb h => (⟨h, hb⟩ : Grow So w w1 b ∧ b < w1.heap.size))).ext hE).chg hC2 fun b _ hb hsb => ?_
    rcases hb.1 with h | h
    · exact (h4 b h).2.2 hsb
    · have := h.1; have := (h6 b hsb).2; omega
  · intro j d hd
    by_cases e : j = i
    · subst e
      rw [List.getElem?_append_right (by omega), h1] at hd
      simp at hd; subst hd
      simpa using ((hD.chg hC fun b hb => (hF b hb).1).ext hE).chg hC2 fun b hb => (hF b hb).2.1
    · simp only [if_neg e]
      have hj : dvs[j]? = some d := by
        rcases Nat.lt_or_ge j dvs.length with h | h
        · rwa [List.getElem?_append_left h] at hd
        · have : j - dvs.length ≠ 0 := by omega
          rw [List.getElem?_append_right h] at hd
          cases hk : j - dvs.length with
          | zero => omega
          | succ k => rw [hk] at hd; simp at hd
      exact (((h2 j d hj).chg hC fun b hb => (h3 j b hb).1).ext hE).chg hC2 fun b hb => (h3 j b hb).2.1
  · intro j b hb
    obtain ⟨k1, k2, k3⟩ := key j b hb
    exact ⟨fun h => by rcases h.1 with h | h; exact k1 h; (have := h.1; omega), fun h => by rcases h.1 with h | h; exact k2 h; (have := h.1; omega), by omega⟩
  · rintro b ⟨h, hb⟩
    refine ⟨by rcases h with h | h; exact (h4 b h).1; (have := h.1; omega), by omega, fun hb2 => ?_⟩
    rcases hb2.1 with h' | h'
    · rcases h with h | h
      · exact (h4 b h).2.2 h'
      · have := (h6 b h').2; have := h.1; omega
    · have := h'.1; omega
  · have e : boolsV (gs ++ [g]) = boolsV gs ++ [.bool g] := by simp [boolsV]
    rw [e]
    exact hB.mono fun b hb h => ⟨h, hb⟩
  · rintro b ⟨h, hb⟩
    exact ⟨by rcases h with h | h; exact (h6 b h).1; (have := h.1; omega), hb⟩
theorem DRowB.lower {lo' : Nat} (h : DRowB TP TD TF TB TQ lo w most ms U c i av bv gs) (hl : lo' ≤ lo) : DRowB TP TD TF TB TQ lo' w most ms U c i av bv gs := by
  obtain ⟨So, Sb, dvs, Fd, h1, h2, h3, h4, h5, h6⟩ := h
  exact ⟨So, Sb, dvs, Fd, h1, h2, h3, fun b hb => ⟨by have := (h4 b hb).1; omega, (h4 b hb).2⟩, h5, fun b hb => ⟨by have := (h6 b hb).1; omega, (h6 b hb).2⟩⟩
theorem DRowB.out (h : DRowB TP TD TF TB TQ lo w most ms U c i av bv gs) : ∃ (dvs : List Value) (Fd : Nat → Nat → Prop), Row (fun b => lo ≤ b) w av i dvs ∧ dvs.length = i ∧ (∀ j d, dvs[j]? = some d → DiskA TD TF TB (Fd j) w d most (ms j) U c) ∧ Row (fun b => lo ≤ b) w bv i (boolsV gs) ∧ gs.length = i := by
  obtain ⟨So, Sb, dvs, Fd, h1, h2, _, h4, h5, h6⟩ := h
  exact ⟨dvs, Fd, h1.row.mono fun b _ hb => (h4 b hb).1, by have := h1.1; omega, h2, h5.row.mono fun b _ hb => (h6 b hb).1, by have := h5.1; simp [boolsV] at this; omega⟩
end
def spC (s : Sp) : List Value := [.int .u8 (s.act.toNat : Int), .int .u16 (s.at_.toNat : Int), byteV s.turn]
def spCs (l : List Sp) : List Value := l.flatMap spC
theorem spCs_length (l : List Sp) : (spCs l).length = 3 * l.length := by
  induction l with
  | nil => rfl
  | cons s l ih => simp only [spCs, List.flatMap_cons, List.length_append, List.length_cons] at ih ⊢; rw [ih]; simp [spC]; omega
theorem spCs_get : ∀ (l : List Sp) (i : Nat) (hi : i < l.length) (j : Nat), j < 3 → (spCs l)[3 * i + j]? = (spC l[i])[j]?
  | [], i, hi, _, _ => by simp at hi
  | s :: l, 0, _, j, hj => by
    simp only [spCs, List.flatMap_cons]
    rw [List.getElem?_append_left (by simp [spC]; omega)]; simp
  | s :: l, i + 1, hi, j, hj => by
    have ih := spCs_get l i (by simpa using hi) j hj
    simp only [spCs, List.flatMap_cons] at ih ⊢
    rw [List.getElem?_append_right (by simp [spC]; omega)]
    have : 3 * (i + 1) + j - (spC s).length = 3 * i + j := by simp [spC]; omega
    rw [this, ih]; simp
theorem spC_one (s : Sp) : ∀ c ∈ spC s, c.oneCell' = true := by intro c hc; simp [spC] at hc; rcases hc with rfl | rfl | rfl <;> rfl
def spM (nm : List UInt8) (x : List UInt8) (s : Sp) : Fm := fun k => if k = [98, 46] ++ nm then spF x s else none
theorem keyEq {α : Type} (k : List UInt8) (v v' : α) : upK k v [(k, v')] = [(k, v)] := by simp [upK]
theorem keyDel {α : Type} (k : List UInt8) (v : α) : delK k [(k, v)] = [] := by simp [delK]
theorem keyLook {α : Type} (k : List UInt8) (v : α) : lookK k [(k, v)] = some v := by rw [lookK_cons]; simp
theorem likeOne (k : List UInt8) (f : FileS) : LikeD [(k, f)] (fun x => if x = k then some (f.data, f.syn) else none) f.data.length 1 := ⟨by simp, by funext x; simp only [fmapK, lookK_cons, lookK_nil]; split <;> rfl, by simp [usedP], by simp⟩
theorem LikeD.castm {fs : FS} {m m' : Fm} {U c : Nat} (h : LikeD fs m U c) (e : m = m') : LikeD fs m' U c := e ▸ h
theorem likeNil (U c : Nat) : LikeD [] (fun _ => none) U c := ⟨by simp, rfl, by simp [usedP], by simp⟩
theorem Rows.rowv {S : Nat → Prop} {w : World} {v : Value} {m : List (List UInt8)} (h : Rows S w v m) : Row S w v m.length (Classical.choose h) := (Classical.choose_spec h).1
end Go.Proofs.YtchammpamigonaaGreatX
end
section
namespace Go.Proofs.YtchammpamigonaaGreatX
open Go Go.RowKit
def Goods (ms : Nat → Fm) (nm : List UInt8) (n : Nat) (e : Nat → List UInt8) (g : Nat → Bool) : Prop := ∀ i, i < n → shardAt (ms i) nm i = if g i then e i else []
def goodL (g : Nat → Bool) (away : List Int) (n : Nat) : List Nat := (List.range n).filter fun i => g i && !decide ((i : Int) ∈ away)
def goodN (g : Nat → Bool) (away : List Int) (n : Nat) : Nat := (goodL g away n).length
theorem goodN_succ (g : Nat → Bool) (away : List Int) (n : Nat) : goodN g away (n + 1) = goodN g away n + (if g n && !decide ((n : Int) ∈ away) then 1 else 0) := by
  simp only [goodN, goodL, List.range_succ, List.filter_append, List.length_append]
  congr 1
  rw [List.filter_cons]
  split <;> rfl
theorem goodN_all {g : Nat → Bool} : ∀ {n : Nat}, (∀ i, i < n → g i = true) → goodN g [] n = n
  | 0, _ => rfl
  | n + 1, h => by rw [goodN_succ, goodN_all fun i hi => h i (by omega), h n (by omega)]; rfl
section
variable {ms : Nat → Fm} {nm : List UInt8} {n : Nat} {e : Nat → List UInt8} {g : Nat → Bool} {away : List Int}
theorem shardsP_get {i : Nat} (hi : i < n) : (shardsP ms nm away n).getD i [] = shardOf ms nm away i := by simp [shardsP, List.getD_eq_getElem?_getD, hi]
theorem Goods.of (h : Goods ms nm n e g) {i : Nat} (hi : i < n) : shardOf ms nm away i = if g i && !decide ((i : Int) ∈ away) then e i else [] := by
  unfold shardOf
  rw [h i hi]
  by_cases ha : (i : Int) ∈ away
  · simp [ha]
  · simp [ha]
theorem Goods.there (h : Goods ms nm n e g) (he : ∀ i, i < n → 0 < (e i).length) : thereP (shardsP ms nm away n) = goodL g away n := by
  have hl : (shardsP ms nm away n).length = n := by simp [shardsP]
  unfold thereP goodL
  rw [hl]
  refine List.filter_congr fun i hi => ?_
  have hi' := List.mem_range.1 hi
  rw [shardsP_get hi', h.of hi']
  have := he i hi'
  by_cases hg : (g i && !decide ((i : Int) ∈ away)) = true
  · rw [if_pos hg, hg]; exact decide_eq_true this
  · rw [if_neg hg]; have hg' : (g i && !decide ((i : Int) ∈ away)) = false := by simpa using hg
    rw [hg']; rfl
theorem Goods.same (h : Goods ms nm n e g) (he : ∀ i, i < n → 0 < (e i).length) : ∀ i ∈ thereP (shardsP ms nm away n), (shardsP ms nm away n).getD i [] = e i := fun i hi => by
  rw [h.there he] at hi
  obtain ⟨h1, h2⟩ := List.mem_filter.1 hi
  have h1' := List.mem_range.1 h1
  rw [shardsP_get h1', h.of h1', if_pos h2]
theorem hasAny_iff : hasAny ms nm n = true ↔ ∃ i, i < n ∧ ms i ([98, 46] ++ nm) ≠ none := by
  simp only [hasAny, List.any_eq_true, List.mem_range, Option.isSome_iff_ne_none]
theorem Goods.any (h : Goods ms nm n e g) (he : ∀ i, i < n → 0 < (e i).length) (hg : 0 < goodN g away n) : hasAny ms nm n = true := by
  obtain ⟨i, hi⟩ := List.exists_mem_of_length_pos hg
  obtain ⟨h1, h2⟩ := List.mem_filter.1 hi
  have h1' := List.mem_range.1 h1
  refine hasAny_iff.2 ⟨i, h1', fun hn => ?_⟩
  have h3 := h i h1'
  have h4 : g i = true := by simp at h2; exact h2.1
  rw [if_pos h4] at h3
  have h5 := he i h1'
  rw [← h3] at h5
  have hz : shardAt (ms i) nm i = [] := by unfold shardAt; rw [hn]
  rw [hz] at h5
  simp at h5
end
theorem encP_getD_len (k F : Nat) (l : List UInt8) (hk : 0 < k) {i : Nat} (hi : i < k + 2 * F) : ((encP k (k + 2 * F) l).getD i []).length = pieceN k l := Dim.row (m := k + 2 * F) (n := pieceN k l) ⟨encP_len k F l, encP_row k F l hk⟩ hi
def spMs (k F : Nat) (nm bl : List UInt8) (ss : List Sp) : Nat → Fm := fun j => spM nm (fileB j ((encP k (k + 2 * F) bl).getD j [])) (ss.getD j ⟨0, 0, 0⟩)
theorem spMs_goods (k F : Nat) (nm bl : List UInt8) (ss : List Sp) (hk : 1 ≤ k) (hF : k + 2 * F ≤ 7) (hbl : bl.length ≤ 512) : Goods (spMs k F nm bl ss) nm (k + 2 * F) (fun i => (encP k (k + 2 * F) bl).getD i []) (fun i => spG (ss.getD i ⟨0, 0, 0⟩)) := by
  intro i hi
  have hl := encP_getD_len k F bl hk hi
  have hpl := padB_le bl hk
  have hql := pieceN_le bl hk
  simp only [shardAt, spMs, spM, if_true]
  cases hg : spG (ss.getD i ⟨0, 0, 0⟩) with
  | true =>
    rw [spF_good _ _ hg (by rw [fileB_length]; omega)]
    simp only [if_true]
    exact shardP_good i _ (by omega) (by omega)
  | false =>
    rcases spF_bad i ((encP k (k + 2 * F) bl).getD i []) (ss.getD i ⟨0, 0, 0⟩) (by omega) hg with ⟨_, h⟩ | ⟨_, d, y, h, h2, _⟩
    · rw [h]; rfl
    · rw [h]; simpa using h2
theorem files_len (k F : Nat) (l : List UInt8) : (filesP (encP k (k + 2 * F) l)).length = k + 2 * F := by rw [filesP_length, encP_len]
theorem files_get (k F : Nat) (l : List UInt8) {j : Nat} (hj : j < (filesP (encP k (k + 2 * F) l)).length) : (filesP (encP k (k + 2 * F) l))[j] = fileB j ((encP k (k + 2 * F) l).getD j []) := by
  have : j < (encP k (k + 2 * F) l).length := by rw [encP_len]; rwa [files_len] at hj
  simp [filesP, List.getD_eq_getElem?_getD, this]
theorem goodN_true (n k : Nat) (h : k ≤ n) : k ≤ goodN (fun _ => true) [] n := by rw [goodN_all fun _ _ => rfl]; exact h
def StoreS (TS TD TF TB : TypeId) (w0 w : World) (tv : Value) (K F n most : Nat) (ms : Nat → Fm) (U c : Nat) : Prop := Ext w0 w ∧ ∃ G, StoreA TS TD TF TB G w tv K F n most ms (fun _ => U) (fun _ => c) ∧ ∀ b, G b → w0.heap.size ≤ b ∧ b < w.heap.size
section
variable {TS TD TF TB : TypeId} {w0 w w' : World} {tv : Value} {K F n most U c : Nat} {ms ms' : Nat → Fm}
theorem StoreS.ext (h : StoreS TS TD TF TB w0 w tv K F n most ms U c) (hE : Ext w w') : StoreS TS TD TF TB w0 w' tv K F n most ms U c := by
  obtain ⟨h1, G, h2, h3⟩ := h
  exact ⟨h1.trans hE, G, h2.ext hE, fun b hb => ⟨(h3 b hb).1, Nat.lt_of_lt_of_le (h3 b hb).2 hE.size⟩⟩
theorem StoreS.older {w1 : World} (hE : Ext w0 w1) (h : StoreS TS TD TF TB w1 w tv K F n most ms U c) : StoreS TS TD TF TB w0 w tv K F n most ms U c := by
  obtain ⟨h1, G, h2, h3⟩ := h
  exact ⟨hE.trans h1, G, h2, fun b hb => ⟨Nat.le_trans hE.size (h3 b hb).1, (h3 b hb).2⟩⟩
theorem StoreS.of {S : Nat → Prop} {U' c' : Nat → Nat} {G : Nat → Prop} (h1 : Ext w0 w) (hC : Chg S w w') (hS : ∀ b, S b → w0.heap.size ≤ b) (h : StoreA TS TD TF TB G w' tv K F n most ms U' c') (hG : ∀ b, G b → w0.heap.size ≤ b) (hU : ∀ i, i < n → U' i ≤ U ∧ c' i ≤ c) : StoreS TS TD TF TB w0 w' tv K F n most ms U c :=
  ⟨h1.chgNew hC hS, fun b => G b ∧ b < w'.heap.size, (h.wider (fun b hb hg => ⟨hg, hb⟩)).more hU, fun b hb => ⟨hG b hb.1, hb.2⟩⟩
theorem StoreA.ptr {G : Nat → Prop} {U c : Nat → Nat} (h : StoreA TS TD TF TB G w tv K F n most ms U c) : ∃ tb, tv = .pointer (some ⟨tb, 0, none⟩) := let ⟨tb, _, _, _, e, _⟩ := h; ⟨tb, e⟩
theorem StoreS.ptr (h : StoreS TS TD TF TB w0 w tv K F n most ms U c) : ∃ tb, tv = .pointer (some ⟨tb, 0, none⟩) := let ⟨_, _, h, _⟩ := h; h.ptr
end
theorem DiskA.ptr {TD TF TB : TypeId} {F : Nat → Prop} {w : World} {d : Value} {most U c : Nat} {m : Fm} (h : DiskA TD TF TB F w d most m U c) : ∃ b, d = .pointer (some ⟨b, 0, none⟩) := by obtain ⟨fs, ⟨db, _, _, _, e, _⟩, _⟩ := h; exact ⟨db, e⟩
theorem put_goods {ms : Nat → Fm} {nm : List UInt8} {n L : Nat} {e : Nat → List UInt8} (he : ∀ i, i < n → (e i).length ≤ 60000) (hn : n ≤ 1000) : Goods (fun i => upd (ms i) ([98, 46] ++ nm) (some (fileB i (e i), L))) nm n e (fun _ => true) := by
  intro i hi
  simp only [shardAt, upd_same, if_true]
  exact shardP_good i _ (by omega) (he i hi)
theorem cntM_zero {ms : Nat → Fm} {nm : List UInt8} {want : Nat → List UInt8} : ∀ {n : Nat}, (∀ i, i < n → (ms i ([98, 46] ++ nm)).map (·.1) = some (want i)) → cntM ms nm want n = 0
  | 0, _ => rfl
  | n + 1, h => by rw [cntM_succ, cntM_zero fun i hi => h i (by omega), mendC, if_pos (h n (by omega))]
end Go.Proofs.YtchammpamigonaaGreatX
end
section
set_option linter.unusedVariables false
set_option linter.unusedSimpArgs false
set_option maxRecDepth 10000
set_option maxHeartbeats 4000000
namespace Go.Proofs.YtchammpamigonaaGreatX
open Go Go.RowKit Go.Proofs
theorem indexI_ok (S : Nat → Prop) (u : Value) (l : List Int) (z : Int) (w : World) (hr : Zs S w u l) :
  Rets Tryz.prog 83 #[u, .int .i64 z] w fun v w' => ∃ t : Int, v = .int .i64 t ∧ (0 ≤ t ↔ z ∈ l) ∧ w' = w := by
 refine Rets.enter (args := [u, .int .i64 z]) (n := 19) Tryz.func83 rfl rfl rfl ?_
 intro R hR
 show XC _ _ _ _ [(0, u), (1, .int .i64 z)] _
 have hln := hr.le
 refine XC.seq ?_
 refine XC.region ?_
 show XL _ _ _ _ (List.cons _ _) _ _
 refine XL.s rfl ?_
 refine Y.assign (by rfl) ?_
 refine XL.nil ?_
 refine QN.next ?_
 refine XC.seq ?_
 refine XC.seq ?_
 refine XC.region ?_
 show XL _ _ _ _ (List.cons _ _) _ _
 refine XL.s rfl ?_
 refine Y.move (by rfl) ?_
 refine XL.s rfl ?_
 first | refine Y.lenV Tryz.underlying49 (by rfl) ?_ | refine Y.len Tryz.underlying49 (by rfl) (by first | assumption | exact Apd.row (by assumption) | exact New.row (by assumption)) ?_
 refine XL.s rfl ?_
 refine Y.move (by rfl) ?_
 refine XL.nil ?_
 refine QN.next ?_
 refine XC.block ?_
 refine XC.loop (α := Nat) (fun k => [(0, u), (1, .int .i64 z), (7, .int .i64 (l.length : Nat)), (8, .int .i64 k)]) (fun k wr => k ≤ l.length ∧ w = wr ∧ z ∉ l.take k) (fun k => l.length - k) (0) ?_ ?_ ?_
 ·exact ⟨rfl, rfl, rfl, rfl, trivial⟩
 ·exact ⟨by omega, rfl, by simp⟩
 ·rintro k wr hI
  obtain ⟨hk, rfl, hno⟩ := hI
  refine XC.seq ?_
  refine XC.region ?_
  show XL _ _ _ _ (List.cons _ _) _ _
  refine XL.s rfl ?_
  refine Y.lss (by rfl) (by rfl) ?_
  refine XL.nil ?_
  refine QN.next ?_
  refine XC.seq ?_
  refine XC.condS rfl ?_ ?_
  ·intro hc
   try simp only [decide_eq_true_eq, decide_eq_false_iff_not, Bool.not_eq_true', Bool.not_eq_false', Bool.not_eq_eq_eq_not, Bool.not_true, Bool.not_false, Bool.or_eq_true, Bool.and_eq_true, Bool.or_eq_false_iff] at hc
   have hk' : k < l.length := by omega
   refine XC.skip ?_
   refine QN.next ?_
   refine XC.seq ?_
   refine XC.block ?_
   refine XC.seq ?_
   refine XC.region ?_
   show XL _ _ _ _ (List.cons _ _) _ _
   refine XL.s rfl ?_
   refine Y.move (by rfl) ?_
   refine XL.s rfl ?_
   refine Y.assign (by rfl) ?_
   refine XL.nil ?_
   refine QN.next ?_
   refine XC.seq ?_
   refine XC.region ?_
   show XL _ _ _ _ (List.cons _ _) _ _
   refine XL.s rfl ?_
   refine Y.move (by rfl) ?_
   refine XL.s rfl ?_
   refine Y.move (by rfl) ?_
   refine XL.s rfl ?_
   refine Y.move (by rfl) ?_
   refine XL.s rfl ?_
   refine Y.indexR st49 (by rfl) (by rfl) hr ⟨by omega, by omega⟩ (by rw [Int.toNat_natCast]; exact zsV_get _ _ hk') ?_
   intro b14 o14 hs14 hc14
   refine XL.s rfl ?_
   refine Y.load one3 (by rfl) (by assumption) ?_
   refine XL.s rfl ?_
   refine Y.eql (by rfl) (by rfl) ?_
   refine XL.nil ?_
   refine QN.next ?_
   refine XC.condS rfl ?_ ?_
   ·intro hx
    try simp only [decide_eq_true_eq, decide_eq_false_iff_not, Bool.not_eq_true', Bool.not_eq_false', Bool.not_eq_eq_eq_not, Bool.not_true, Bool.not_false, Bool.or_eq_true, Bool.and_eq_true, Bool.or_eq_false_iff] at hx
    refine XC.seq ?_
    refine XC.region ?_
    show XL _ _ _ _ (List.cons _ _) _ _
    refine XL.s rfl ?_
    refine Y.move (by rfl) ?_
    refine XL.s rfl ?_
    refine Y.assign (by rfl) ?_
    refine XL.nil ?_
    refine QN.next ?_
    refine XC.ret ?_
    refine QN.done1 (fn := Tryz.f83) (R := R) (.inl rfl) rfl rfl ?_
    refine hR _ _ ?_
    exact ⟨_, rfl, ⟨fun _ => by rw [hx]; exact List.getElem_mem hk', fun _ => by omega⟩, rfl⟩
   ·intro hx
    try simp only [decide_eq_true_eq, decide_eq_false_iff_not, Bool.not_eq_true', Bool.not_eq_false', Bool.not_eq_eq_eq_not, Bool.not_true, Bool.not_false, Bool.or_eq_true, Bool.and_eq_true, Bool.or_eq_false_iff] at hx
    refine XC.skip ?_
    refine QN.blk ?_
    refine QN.next ?_
    refine XC.region ?_
    show XL _ _ _ _ (List.cons _ _) _ _
    refine XL.s rfl ?_
    refine Y.add (by rfl) (by rfl) (wrap64 (by omega) (by omega)) ?_
    refine XL.s rfl ?_
    refine Y.move (by rfl) ?_
    refine XL.nil ?_
    refine QN.again (k + 1) ?_ ?_ ?_
    ·exact ⟨rfl, rfl, rfl, rfl, trivial⟩
    ·exact ⟨by omega, rfl, fun h => ((mem_take_succ l k hk' z).1 h).elim hno hx⟩
    ·first | omega | (simp only []; omega) | (simp; omega)
  ·intro hc
   try simp only [decide_eq_true_eq, decide_eq_false_iff_not, Bool.not_eq_true', Bool.not_eq_false', Bool.not_eq_eq_eq_not, Bool.not_true, Bool.not_false, Bool.or_eq_true, Bool.and_eq_true, Bool.or_eq_false_iff] at hc
   obtain rfl : k = l.length := by omega
   rw [List.take_length] at hno
   refine XC.exit ?_
   refine QN.thenE ?_
   refine QN.thenE ?_
   refine QN.hit ?_
   refine QN.next ?_
   refine XC.seq ?_
   refine XC.region ?_
   show XL _ _ _ _ (List.cons _ _) _ _
   refine XL.s rfl ?_
   refine Y.assign (by rfl) ?_
   refine XL.nil ?_
   refine QN.next ?_
   refine XC.ret ?_
   refine QN.done1 (fn := Tryz.f83) (R := R) (.inl rfl) rfl rfl ?_
   refine hR _ _ ?_
   exact ⟨_, rfl, ⟨fun h => by omega, fun h => absurd h hno⟩, rfl⟩
theorem containsI_ok (S : Nat → Prop) (u : Value) (l : List Int) (z : Int) (w : World) (hr : Zs S w u l) :
  Rets Tryz.prog 54 #[u, .int .i64 z] w fun v w' => v = .bool (decide (z ∈ l)) ∧ w' = w := by
 refine Rets.enter (args := [u, .int .i64 z]) (n := 9) Tryz.func54 rfl rfl rfl ?_
 intro R hR
 show XC _ _ _ _ [(0, u), (1, .int .i64 z)] _
 refine XC.seq ?_
 refine XC.region ?_
 show XL _ _ _ _ (List.cons _ _) _ _
 refine XL.s rfl ?_
 refine Y.assign (by rfl) ?_
 refine XL.nil ?_
 refine QN.next ?_
 refine XC.seq ?_
 refine XC.region ?_
 show XL _ _ _ _ (List.cons _ _) _ _
 refine XL.s rfl ?_
 refine Y.move (by rfl) ?_
 refine XL.s rfl ?_
 refine Y.move (by rfl) ?_
 refine XL.s rfl ?_
 refine Y.call (by rfl) ok83 (indexI_ok S u l z _ hr) ?_
 rintro v7 w7 ⟨t, rfl, ht, rfl⟩
 refine XL.s rfl ?_
 refine Y.geq (by rfl) (by rfl) ?_
 refine XL.s rfl ?_
 refine Y.assign (by rfl) ?_
 refine XL.nil ?_
 refine QN.next ?_
 refine XC.ret ?_
 refine QN.done1 (fn := Tryz.f54) (R := R) (.inl rfl) rfl rfl ?_
 refine hR _ _ ?_
 exact ⟨congrArg Value.bool (decide_eq_decide.2 ht), rfl⟩
theorem hasPrefix_ok (s p : List UInt8) (w : World) (hs : s.length ≤ 9223372036854775807) (hp : p.length ≤ 9223372036854775807) :
  Rets Tryz.prog 96 #[strV s, strV p] w fun v w' => v = .bool (hasP s p) ∧ w' = w := by
 refine Rets.enter (args := [strV s, strV p]) (n := 18) Tryz.func96 rfl rfl rfl ?_
 intro R hR
 show XC _ _ _ _ [(0, strV s), (1, strV p)] _
 refine XC.seq ?_
 refine XC.region ?_
 show XL _ _ _ _ (List.cons _ _) _ _
 refine XL.s rfl ?_
 refine Y.assign (by rfl) ?_
 refine XL.nil ?_
 refine QN.next ?_
 refine XC.seq ?_
 refine XC.region ?_
 show XL _ _ _ _ (List.cons _ _) _ _
 refine XL.s rfl ?_
 refine Y.move (by rfl) ?_
 refine XL.s rfl ?_
 refine Y.lenS Tryz.underlying9 (by rfl) ?_
 refine XL.s rfl ?_
 refine Y.move (by rfl) ?_
 refine XL.s rfl ?_
 refine Y.lenS Tryz.underlying9 (by rfl) ?_
 refine XL.s rfl ?_
 refine Y.geq (by rfl) (by rfl) ?_
 refine XL.s rfl ?_
 refine Y.move (by rfl) ?_
 refine XL.splitAt (t := 10) rfl ?_ ?_
 ·intro h1
  have h1' := h1
  try simp only [decide_eq_true_eq, decide_eq_false_iff_not, Bool.not_eq_true', Bool.not_eq_false', Bool.not_eq_eq_eq_not, Bool.not_true, Bool.not_false] at h1'
  refine XL.gt rfl rfl h1 rfl ?_
  refine Y.move (by rfl) ?_
  refine XL.gt rfl rfl h1 rfl ?_
  refine Y.move (by rfl) ?_
  refine XL.gt rfl rfl h1 rfl ?_
  refine Y.lenS Tryz.underlying9 (by rfl) ?_
  refine XL.gt rfl rfl h1 rfl ?_
  refine Y.sliceS Tryz.underlying9 (by rfl) (by rfl) (by rfl) (by first | rfl | exact bnd_nat) (by first | rfl | exact bnd_nat) ⟨by omega, by omega⟩ ?_
  refine XL.gt rfl rfl h1 rfl ?_
  refine Y.move (by rfl) ?_
  refine XL.gt rfl rfl h1 rfl ?_
  refine Y.eqlS (by rfl) (by rfl) ?_
  refine XL.s rfl ?_
  refine Y.pickT (by rfl) h1 (by rfl) ?_
  refine XL.s rfl ?_
  refine Y.assign (by rfl) ?_
  refine XL.nil ?_
  refine QN.next ?_
  refine XC.ret ?_
  refine QN.done1 (fn := Tryz.f96) (R := R) (.inl rfl) rfl rfl ?_
  refine hR _ _ ?_
  exact ⟨by unfold hasP; rw [decide_eq_true (show p.length ≤ s.length by omega), List.drop_zero, Nat.sub_zero, Bool.true_and, Int.toNat_natCast], rfl⟩
 ·intro h1
  have h1' := h1
  try simp only [decide_eq_true_eq, decide_eq_false_iff_not, Bool.not_eq_true', Bool.not_eq_false', Bool.not_eq_eq_eq_not, Bool.not_true, Bool.not_false] at h1'
  refine XL.gf rfl rfl h1 rfl ?_
  refine XL.gf rfl rfl h1 rfl ?_
  refine XL.gf rfl rfl h1 rfl ?_
  refine XL.gf rfl rfl h1 rfl ?_
  refine XL.gf rfl rfl h1 rfl ?_
  refine XL.gf rfl rfl h1 rfl ?_
  refine XL.s rfl ?_
  refine Y.pickF (by rfl) h1 (by rfl) ?_
  refine XL.s rfl ?_
  refine Y.assign (by rfl) ?_
  refine XL.nil ?_
  refine QN.next ?_
  refine XC.ret ?_
  refine QN.done1 (fn := Tryz.f96) (R := R) (.inl rfl) rfl rfl ?_
  refine hR _ _ ?_
  exact ⟨by unfold hasP; rw [decide_eq_false (show ¬ p.length ≤ s.length by omega)]; rfl, rfl⟩
theorem cutPrefixL_yes (s p : List UInt8) (w : World) (hs : s.length ≤ 9223372036854775807) (hp : p.length ≤ 9223372036854775807) (h : hasP s p = true) :
  Rets Tryz.prog 71 #[strV s, strV p] w fun v w' => v = .tuple #[strV (s.drop p.length), .bool true] ∧ w' = w := by
 refine Rets.enter (args := [strV s, strV p]) (n := 15) Tryz.func71 rfl rfl rfl ?_
 intro R hR
 show XC _ _ _ _ [(0, strV s), (1, strV p)] _
 refine XC.seq ?_
 refine XC.region ?_
 show XL _ _ _ _ (List.cons _ _) _ _
 refine XL.s rfl ?_
 refine Y.assign (by rfl) ?_
 refine XL.s rfl ?_
 refine Y.assign (by rfl) ?_
 refine XL.nil ?_
 refine QN.next ?_
 refine XC.seq ?_
 refine XC.seq ?_
 refine XC.region ?_
 show XL _ _ _ _ (List.cons _ _) _ _
 refine XL.s rfl ?_
 refine Y.move (by rfl) ?_
 refine XL.s rfl ?_
 refine Y.move (by rfl) ?_
 refine XL.s rfl ?_
 refine Y.call (by rfl) ok96 (hasPrefix_ok s p _ hs hp) ?_
 rintro v8 w8 ⟨rfl, rfl⟩
 refine XL.s rfl ?_
 refine Y.not (by rfl) ?_
 refine XL.nil ?_
 refine QN.next ?_
 refine XC.condF rfl (by rw [h]; rfl) ?_
 refine XC.skip ?_
 refine QN.next ?_
 refine XC.seq ?_
 refine XC.region ?_
 show XL _ _ _ _ (List.cons _ _) _ _
 refine XL.s rfl ?_
 refine Y.move (by rfl) ?_
 refine XL.s rfl ?_
 refine Y.move (by rfl) ?_
 refine XL.s rfl ?_
 refine Y.lenS Tryz.underlying9 (by rfl) ?_
 refine XL.s rfl ?_
 refine Y.sliceS Tryz.underlying9 (by rfl) (by rfl) (by rfl) (by first | rfl | exact bnd_nat) (by first | rfl | exact bnd_nat) ⟨hasP_le h, Nat.le_refl _⟩ ?_
 refine XL.s rfl ?_
 refine Y.assign (by rfl) ?_
 refine XL.s rfl ?_
 refine Y.assign (by rfl) ?_
 refine XL.nil ?_
 refine QN.next ?_
 refine XC.ret ?_
 refine QN.doneN (fn := Tryz.f71) (R := R) (.inl rfl) rfl rfl ?_
 refine hR _ _ ?_
 exact ⟨by rw [List.take_of_length_le (by simp)], rfl⟩
theorem cutPrefixL_no (s p : List UInt8) (w : World) (hs : s.length ≤ 9223372036854775807) (hp : p.length ≤ 9223372036854775807) (h : hasP s p = false) :
  Rets Tryz.prog 71 #[strV s, strV p] w fun v w' => v = .tuple #[strV s, .bool false] ∧ w' = w := by
 refine Rets.enter (args := [strV s, strV p]) (n := 15) Tryz.func71 rfl rfl rfl ?_
 intro R hR
 show XC _ _ _ _ [(0, strV s), (1, strV p)] _
 refine XC.seq ?_
 refine XC.region ?_
 show XL _ _ _ _ (List.cons _ _) _ _
 refine XL.s rfl ?_
 refine Y.assign (by rfl) ?_
 refine XL.s rfl ?_
 refine Y.assign (by rfl) ?_
 refine XL.nil ?_
 refine QN.next ?_
 refine XC.seq ?_
 refine XC.seq ?_
 refine XC.region ?_
 show XL _ _ _ _ (List.cons _ _) _ _
 refine XL.s rfl ?_
 refine Y.move (by rfl) ?_
 refine XL.s rfl ?_
 refine Y.move (by rfl) ?_
 refine XL.s rfl ?_
 refine Y.call (by rfl) ok96 (hasPrefix_ok s p _ hs hp) ?_
 rintro v8 w8 ⟨rfl, rfl⟩
 refine XL.s rfl ?_
 refine Y.not (by rfl) ?_
 refine XL.nil ?_
 refine QN.next ?_
 refine XC.condT rfl (by rw [h]; rfl) ?_
 refine XC.seq ?_
 refine XC.region ?_
 show XL _ _ _ _ (List.cons _ _) _ _
 refine XL.s rfl ?_
 refine Y.move (by rfl) ?_
 refine XL.s rfl ?_
 refine Y.assign (by rfl) ?_
 refine XL.s rfl ?_
 refine Y.assign (by rfl) ?_
 refine XL.nil ?_
 refine QN.next ?_
 refine XC.ret ?_
 refine QN.doneN (fn := Tryz.f71) (R := R) (.inl rfl) rfl rfl ?_
 refine hR _ _ ?_
 exact ⟨rfl, rfl⟩
theorem cutPrefix_yes (s p : List UInt8) (w : World) (hs : s.length ≤ 9223372036854775807) (hp : p.length ≤ 9223372036854775807) (h : hasP s p = true) :
  Rets Tryz.prog 44 #[strV s, strV p] w fun v w' => v = .tuple #[strV (s.drop p.length), .bool true] ∧ w' = w := by
 refine Rets.enter (args := [strV s, strV p]) (n := 11) Tryz.func44 rfl rfl rfl ?_
 intro R hR
 show XC _ _ _ _ [(0, strV s), (1, strV p)] _
 refine XC.seq ?_
 refine XC.region ?_
 show XL _ _ _ _ (List.cons _ _) _ _
 refine XL.s rfl ?_
 refine Y.assign (by rfl) ?_
 refine XL.s rfl ?_
 refine Y.assign (by rfl) ?_
 refine XL.nil ?_
 refine QN.next ?_
 refine XC.seq ?_
 refine XC.region ?_
 show XL _ _ _ _ (List.cons _ _) _ _
 refine XL.s rfl ?_
 refine Y.move (by rfl) ?_
 refine XL.s rfl ?_
 refine Y.move (by rfl) ?_
 refine XL.s rfl ?_
 refine Y.call (by rfl) ok71 (cutPrefixL_yes s p _ hs hp h) ?_
 rintro v8 w8 ⟨rfl, rfl⟩
 refine XL.s rfl ?_
 refine Y.extract (by rfl) (by rfl) ?_
 refine XL.s rfl ?_
 refine Y.extract (by rfl) (by rfl) ?_
 refine XL.s rfl ?_
 refine Y.assign (by rfl) ?_
 refine XL.s rfl ?_
 refine Y.assign (by rfl) ?_
 refine XL.nil ?_
 refine QN.next ?_
 refine XC.ret ?_
 refine QN.doneN (fn := Tryz.f44) (R := R) (.inl rfl) rfl rfl ?_
 refine hR _ _ ?_
 exact ⟨rfl, rfl⟩
theorem cutPrefix_no (s p : List UInt8) (w : World) (hs : s.length ≤ 9223372036854775807) (hp : p.length ≤ 9223372036854775807) (h : hasP s p = false) :
  Rets Tryz.prog 44 #[strV s, strV p] w fun v w' => v = .tuple #[strV s, .bool false] ∧ w' = w := by
 refine Rets.enter (args := [strV s, strV p]) (n := 11) Tryz.func44 rfl rfl rfl ?_
 intro R hR
 show XC _ _ _ _ [(0, strV s), (1, strV p)] _
 refine XC.seq ?_
 refine XC.region ?_
 show XL _ _ _ _ (List.cons _ _) _ _
 refine XL.s rfl ?_
 refine Y.assign (by rfl) ?_
 refine XL.s rfl ?_
 refine Y.assign (by rfl) ?_
 refine XL.nil ?_
 refine QN.next ?_
 refine XC.seq ?_
 refine XC.region ?_
 show XL _ _ _ _ (List.cons _ _) _ _
 refine XL.s rfl ?_
 refine Y.move (by rfl) ?_
 refine XL.s rfl ?_
 refine Y.move (by rfl) ?_
 refine XL.s rfl ?_
 refine Y.call (by rfl) ok71 (cutPrefixL_no s p _ hs hp h) ?_
 rintro v8 w8 ⟨rfl, rfl⟩
 refine XL.s rfl ?_
 refine Y.extract (by rfl) (by rfl) ?_
 refine XL.s rfl ?_
 refine Y.extract (by rfl) (by rfl) ?_
 refine XL.s rfl ?_
 refine Y.assign (by rfl) ?_
 refine XL.s rfl ?_
 refine Y.assign (by rfl) ?_
 refine XL.nil ?_
 refine QN.next ?_
 refine XC.ret ?_
 refine QN.doneN (fn := Tryz.f44) (R := R) (.inl rfl) rfl rfl ?_
 refine hR _ _ ?_
 exact ⟨rfl, rfl⟩
theorem dnamed_ok (l : List UInt8) (w : World) (hl : l.length ≤ 9223372036854775807) :
  Rets Tryz.prog 67 #[strV l] w fun v w' => v = .bool (decide (1 ≤ l.length ∧ l.length ≤ 24)) ∧ w' = w := by
 refine Rets.enter (args := [strV l]) (n := 11) Tryz.func67 rfl rfl rfl ?_
 intro R hR
 show XC _ _ _ _ [(0, strV l)] _
 refine XC.seq ?_
 refine XC.region ?_
 show XL _ _ _ _ (List.cons _ _) _ _
 refine XL.s rfl ?_
 refine Y.assign (by rfl) ?_
 refine XL.nil ?_
 refine QN.next ?_
 refine XC.seq ?_
 refine XC.region ?_
 show XL _ _ _ _ (List.cons _ _) _ _
 refine XL.s rfl ?_
 refine Y.move (by rfl) ?_
 refine XL.s rfl ?_
 refine Y.lenS Tryz.underlying9 (by rfl) ?_
 refine XL.s rfl ?_
 refine Y.geq (by rfl) (by rfl) ?_
 refine XL.s rfl ?_
 refine Y.move (by rfl) ?_
 refine XL.splitAt (t := 6) rfl ?_ ?_
 ·intro h1
  have h1' := h1
  try simp only [decide_eq_true_eq, decide_eq_false_iff_not, Bool.not_eq_true', Bool.not_eq_false', Bool.not_eq_eq_eq_not, Bool.not_true, Bool.not_false] at h1'
  refine XL.gt rfl rfl h1 rfl ?_
  refine Y.move (by rfl) ?_
  refine XL.gt rfl rfl h1 rfl ?_
  refine Y.lenS Tryz.underlying9 (by rfl) ?_
  refine XL.gt rfl rfl h1 rfl ?_
  refine Y.leq (by rfl) (by rfl) ?_
  refine XL.s rfl ?_
  refine Y.pickT (by rfl) h1 (by rfl) ?_
  refine XL.s rfl ?_
  refine Y.assign (by rfl) ?_
  refine XL.nil ?_
  refine QN.next ?_
  refine XC.ret ?_
  refine QN.done1 (fn := Tryz.f67) (R := R) (.inl rfl) rfl rfl ?_
  refine hR _ _ ?_
  exact ⟨congrArg Value.bool (decide_eq_decide.2 ⟨fun h => ⟨by omega, by omega⟩, fun h => by omega⟩), rfl⟩
 ·intro h1
  have h1' := h1
  try simp only [decide_eq_true_eq, decide_eq_false_iff_not, Bool.not_eq_true', Bool.not_eq_false', Bool.not_eq_eq_eq_not, Bool.not_true, Bool.not_false] at h1'
  refine XL.gf rfl rfl h1 rfl ?_
  refine XL.gf rfl rfl h1 rfl ?_
  refine XL.gf rfl rfl h1 rfl ?_
  refine XL.s rfl ?_
  refine Y.pickF (by rfl) h1 (by rfl) ?_
  refine XL.s rfl ?_
  refine Y.assign (by rfl) ?_
  refine XL.nil ?_
  refine QN.next ?_
  refine XC.ret ?_
  refine QN.done1 (fn := Tryz.f67) (R := R) (.inl rfl) rfl rfl ?_
  refine hR _ _ ?_
  exact ⟨by rw [decide_eq_false (by omega)], rfl⟩
theorem snamed_ok (l : List UInt8) (w : World) (hl : l.length ≤ 9223372036854775807) :
  Rets Tryz.prog 29 #[strV l] w fun v w' => v = .bool (decide (1 ≤ l.length ∧ l.length ≤ 16)) ∧ w' = w := by
 refine Rets.enter (args := [strV l]) (n := 11) Tryz.func29 rfl rfl rfl ?_
 intro R hR
 show XC _ _ _ _ [(0, strV l)] _
 refine XC.seq ?_
 refine XC.region ?_
 show XL _ _ _ _ (List.cons _ _) _ _
 refine XL.s rfl ?_
 refine Y.assign (by rfl) ?_
 refine XL.nil ?_
 refine QN.next ?_
 refine XC.seq ?_
 refine XC.region ?_
 show XL _ _ _ _ (List.cons _ _) _ _
 refine XL.s rfl ?_
 refine Y.move (by rfl) ?_
 refine XL.s rfl ?_
 refine Y.lenS Tryz.underlying9 (by rfl) ?_
 refine XL.s rfl ?_
 refine Y.geq (by rfl) (by rfl) ?_
 refine XL.s rfl ?_
 refine Y.move (by rfl) ?_
 refine XL.splitAt (t := 6) rfl ?_ ?_
 ·intro h1
  have h1' := h1
  try simp only [decide_eq_true_eq, decide_eq_false_iff_not, Bool.not_eq_true', Bool.not_eq_false', Bool.not_eq_eq_eq_not, Bool.not_true, Bool.not_false] at h1'
  refine XL.gt rfl rfl h1 rfl ?_
  refine Y.move (by rfl) ?_
  refine XL.gt rfl rfl h1 rfl ?_
  refine Y.lenS Tryz.underlying9 (by rfl) ?_
  refine XL.gt rfl rfl h1 rfl ?_
  refine Y.leq (by rfl) (by rfl) ?_
  refine XL.s rfl ?_
  refine Y.pickT (by rfl) h1 (by rfl) ?_
  refine XL.s rfl ?_
  refine Y.assign (by rfl) ?_
  refine XL.nil ?_
  refine QN.next ?_
  refine XC.ret ?_
  refine QN.done1 (fn := Tryz.f29) (R := R) (.inl rfl) rfl rfl ?_
  refine hR _ _ ?_
  exact ⟨congrArg Value.bool (decide_eq_decide.2 ⟨fun h => ⟨by omega, by omega⟩, fun h => by omega⟩), rfl⟩
 ·intro h1
  have h1' := h1
  try simp only [decide_eq_true_eq, decide_eq_false_iff_not, Bool.not_eq_true', Bool.not_eq_false', Bool.not_eq_eq_eq_not, Bool.not_true, Bool.not_false] at h1'
  refine XL.gf rfl rfl h1 rfl ?_
  refine XL.gf rfl rfl h1 rfl ?_
  refine XL.gf rfl rfl h1 rfl ?_
  refine XL.s rfl ?_
  refine Y.pickF (by rfl) h1 (by rfl) ?_
  refine XL.s rfl ?_
  refine Y.assign (by rfl) ?_
  refine XL.nil ?_
  refine QN.next ?_
  refine XC.ret ?_
  refine QN.done1 (fn := Tryz.f29) (R := R) (.inl rfl) rfl rfl ?_
  refine hR _ _ ?_
  exact ⟨by rw [decide_eq_false (by omega)], rfl⟩
theorem there_ok (S : Nat → Prop) (u : Value) (m : List (List UInt8)) (w : World) (hr : Rows S w u m) (hn : m.length ≤ 1000000) :
  Rets Tryz.prog 55 #[u] w fun v w' => New w w' 3 1 v (thereP m).length (intsV (thereP m)) := by
 refine Rets.enter (args := [u]) (n := 22) Tryz.func55 rfl rfl rfl ?_
 intro R hR
 show XC _ _ _ _ [(0, u)] _
 obtain ⟨cu, capu, rfl⟩ := hr.val
 obtain ⟨vs, hvs, hvl, hqs⟩ := hr.get
 refine XC.seq ?_
 refine XC.region ?_
 show XL _ _ _ _ (List.cons _ _) _ _
 refine XL.s rfl ?_
 refine Y.assign (by rfl) ?_
 refine XL.nil ?_
 refine QN.next ?_
 refine XC.seq ?_
 refine XC.region ?_
 show XL _ _ _ _ (List.cons _ _) _ _
 refine XL.s rfl ?_
 refine Y.assign (by rfl) ?_
 refine XL.nil ?_
 refine QN.next ?_
 refine XC.seq ?_
 refine XC.seq ?_
 refine XC.region ?_
 show XL _ _ _ _ (List.cons _ _) _ _
 refine XL.s rfl ?_
 refine Y.move (by rfl) ?_
 refine XL.s rfl ?_
 first | refine Y.lenV Tryz.underlying37 (by rfl) ?_ | refine Y.len Tryz.underlying37 (by rfl) (by first | assumption | exact Apd.row (by assumption) | exact New.row (by assumption)) ?_
 refine XL.s rfl ?_
 refine Y.move (by rfl) ?_
 refine XL.nil ?_
 refine QN.next ?_
 refine XC.block ?_
 refine XC.loop (α := Nat × Value) (fun (k, a) => [(6, .slice cu m.length capu), (7, .int .i64 (m.length : Nat)), (8, .int .i64 k), (3, a)]) (fun (k, a) wr => k ≤ m.length ∧ New w wr 3 1 a (thereK m k).length (intsV (thereK m k))) (fun (k, a) => m.length - k) ((0, .slice none 0 0)) ?_ ?_ ?_
 ·exact ⟨rfl, rfl, rfl, rfl, trivial⟩
 ·exact ⟨by omega, New.nil _ _ _⟩
 ·rintro ⟨k, a⟩ wr hI
  obtain ⟨hk, hN⟩ := hI
  refine XC.seq ?_
  refine XC.region ?_
  show XL _ _ _ _ (List.cons _ _) _ _
  refine XL.s rfl ?_
  refine Y.lss (by rfl) (by rfl) ?_
  refine XL.nil ?_
  refine QN.next ?_
  refine XC.seq ?_
  refine XC.condS rfl ?_ ?_
  ·intro hc
   try simp only [decide_eq_true_eq, decide_eq_false_iff_not, Bool.not_eq_true', Bool.not_eq_false', Bool.not_eq_eq_eq_not, Bool.not_true, Bool.not_false, Bool.or_eq_true, Bool.and_eq_true, Bool.or_eq_false_iff] at hc
   have hk' : k < m.length := by omega
   obtain ⟨q, hq, hb⟩ := hqs k hk'
   have hgd : m.getD k [] = m[k] := by simp [List.getD_eq_getElem?_getD, hk']
   have htl := thereK_length m k
   refine XC.skip ?_
   refine QN.next ?_
   refine XC.seq ?_
   refine XC.block ?_
   refine XC.seq ?_
   refine XC.region ?_
   show XL _ _ _ _ (List.cons _ _) _ _
   refine XL.s rfl ?_
   refine Y.move (by rfl) ?_
   refine XL.s rfl ?_
   refine Y.indexR st37 (by rfl) (by rfl) (hvs.ext hN.1) ⟨by omega, by omega⟩ (by rw [Int.toNat_natCast]; exact hq) ?_
   intro b11 o11 hs11 hc11
   refine XL.s rfl ?_
   refine Y.load one39 (by rfl) (by assumption) ?_
   refine XL.s rfl ?_
   refine Y.assign (by rfl) ?_
   refine XL.s rfl ?_
   refine Y.assign (by rfl) ?_
   refine XL.nil ?_
   refine QN.next ?_
   refine XC.seq ?_
   refine XC.region ?_
   show XL _ _ _ _ (List.cons _ _) _ _
   refine XL.s rfl ?_
   refine Y.move (by rfl) ?_
   refine XL.s rfl ?_
   refine Y.len Tryz.underlying39 (by rfl) (hb.ext hN.1) ?_
   refine XL.s rfl ?_
   refine Y.gtr (by rfl) (by rfl) ?_
   refine XL.nil ?_
   refine QN.next ?_
   refine XC.condS rfl ?_ ?_
   ·intro hx
    try simp only [decide_eq_true_eq, decide_eq_false_iff_not, Bool.not_eq_true', Bool.not_eq_false', Bool.not_eq_eq_eq_not, Bool.not_true, Bool.not_false, Bool.or_eq_true, Bool.and_eq_true, Bool.or_eq_false_iff] at hx
    have hy := thereK_yes m k (by rw [hgd]; omega)
    refine XC.region ?_
    show XL _ _ _ _ (List.cons _ _) _ _
    refine XL.s rfl ?_
    refine Y.move (by rfl) ?_
    refine XL.s rfl ?_
    refine Y.move (by rfl) ?_
    refine XL.s rfl ?_
    refine Y.buildSlice st49 (by rfl) (by rfl) (by omega) (by simp [Value.oneCell', byteV, strV]) ?_
    intro v18 w18 hN18
    replace hN := hN.ext hN18.1
    refine XL.s rfl ?_
    refine Y.appendN st49 Tryz.underlying49 (by rfl) (by rfl) hN hN18.row (by simp) (by omega) (by omega) ?_
    intro v19 w19 hN19 hC19
    refine XL.s rfl ?_
    refine Y.assign (by rfl) ?_
    refine XL.nil ?_
    refine QN.blk ?_
    refine QN.next ?_
    refine XC.region ?_
    show XL _ _ _ _ (List.cons _ _) _ _
    refine XL.s rfl ?_
    refine Y.add (by rfl) (by rfl) (wrap64 (by omega) (by omega)) ?_
    refine XL.s rfl ?_
    refine Y.move (by rfl) ?_
    refine XL.nil ?_
    refine QN.again ((k + 1, v19)) ?_ ?_ ?_
    ·exact ⟨rfl, rfl, rfl, rfl, trivial⟩
    ·exact ⟨by omega, hN19.cast (by rw [hy]; simp) (by rw [hy]; simp [intsV])⟩
    ·first | omega | (simp only []; omega) | (simp; omega)
   ·intro hx
    try simp only [decide_eq_true_eq, decide_eq_false_iff_not, Bool.not_eq_true', Bool.not_eq_false', Bool.not_eq_eq_eq_not, Bool.not_true, Bool.not_false, Bool.or_eq_true, Bool.and_eq_true, Bool.or_eq_false_iff] at hx
    have hy := thereK_no m k (by rw [hgd]; omega)
    refine XC.skip ?_
    refine QN.blk ?_
    refine QN.next ?_
    refine XC.region ?_
    show XL _ _ _ _ (List.cons _ _) _ _
    refine XL.s rfl ?_
    refine Y.add (by rfl) (by rfl) (wrap64 (by omega) (by omega)) ?_
    refine XL.s rfl ?_
    refine Y.move (by rfl) ?_
    refine XL.nil ?_
    refine QN.again ((k + 1, a)) ?_ ?_ ?_
    ·exact ⟨rfl, rfl, rfl, rfl, trivial⟩
    ·exact ⟨by omega, hN.cast (by rw [hy]) (by rw [hy])⟩
    ·first | omega | (simp only []; omega) | (simp; omega)
  ·intro hc
   try simp only [decide_eq_true_eq, decide_eq_false_iff_not, Bool.not_eq_true', Bool.not_eq_false', Bool.not_eq_eq_eq_not, Bool.not_true, Bool.not_false, Bool.or_eq_true, Bool.and_eq_true, Bool.or_eq_false_iff] at hc
   obtain rfl : k = m.length := by omega
   rw [thereK_all] at hN
   refine XC.exit ?_
   refine QN.thenE ?_
   refine QN.thenE ?_
   refine QN.hit ?_
   refine QN.next ?_
   refine XC.seq ?_
   refine XC.region ?_
   show XL _ _ _ _ (List.cons _ _) _ _
   refine XL.s rfl ?_
   refine Y.move (by rfl) ?_
   refine XL.s rfl ?_
   refine Y.assign (by rfl) ?_
   refine XL.nil ?_
   refine QN.next ?_
   refine XC.ret ?_
   refine QN.done1 (fn := Tryz.f55) (R := R) (.inl rfl) rfl rfl ?_
   refine hR _ _ ?_
   exact hN
end Go.Proofs.YtchammpamigonaaGreatX
end
section
set_option linter.unusedVariables false
set_option linter.unusedSimpArgs false
set_option maxRecDepth 10000
set_option maxHeartbeats 4000000
namespace Go.Proofs.YtchammpamigonaaGreatX
open Go Go.RowKit Go.Proofs
theorem num_ok (n : Nat) (h1 : n ≤ 4294967295) (w : World) :
  Rets Tryz.prog 52 #[.int .i64 n] w fun v w' => NewB 5 w w' v (numB n) := by
 refine Rets.enter (args := [.int .i64 n]) (n := 21) Tryz.func52 rfl rfl rfl ?_
 intro R hR
 show XC _ _ _ _ [(0, .int .i64 n)] _
 refine XC.seq ?_
 refine XC.region ?_
 show XL _ _ _ _ (List.cons _ _) _ _
 refine XL.s rfl ?_
 refine Y.assign (by rfl) ?_
 refine XL.nil ?_
 refine QN.next ?_
 refine XC.seq ?_
 refine XC.seq ?_
 refine XC.region ?_
 show XL _ _ _ _ (List.cons _ _) _ _
 refine XL.s rfl ?_
 refine Y.move (by rfl) ?_
 refine XL.s rfl ?_
 refine Y.lss (by rfl) (by rfl) ?_
 refine XL.s rfl ?_
 refine Y.move (by rfl) ?_
 refine XL.gt rfl rfl ya rfl ?_
 refine Y.move (by rfl) ?_
 refine XL.gt rfl rfl ya rfl ?_
 refine Y.gtr (by rfl) (by rfl) ?_
 refine XL.s rfl ?_
 refine Y.pickF (by rfl) ya (by rfl) ?_
 refine XL.nil ?_
 refine QN.next ?_
 refine XC.condF rfl ya ?_
 refine XC.skip ?_
 refine QN.next ?_
 refine XC.seq ?_
 refine XC.region ?_
 show XL _ _ _ _ (List.cons _ _) _ _
 refine XL.s rfl ?_
 refine Y.move (by rfl) ?_
 refine XL.s rfl ?_
 refine Y.shr (by rfl) (by rfl) (by omega) (fdiv_nat n 24) ?_
 refine XL.s rfl ?_
 refine Y.convI Tryz.underlying3 Tryz.underlying5 (by rfl) (byte_of _) ?_
 refine XL.s rfl ?_
 refine Y.move (by rfl) ?_
 refine XL.s rfl ?_
 refine Y.shr (by rfl) (by rfl) (by omega) (fdiv_nat n 16) ?_
 refine XL.s rfl ?_
 refine Y.convI Tryz.underlying3 Tryz.underlying5 (by rfl) (byte_of _) ?_
 refine XL.s rfl ?_
 refine Y.move (by rfl) ?_
 refine XL.s rfl ?_
 refine Y.shr (by rfl) (by rfl) (by omega) (fdiv_nat n 8) ?_
 refine XL.s rfl ?_
 refine Y.convI Tryz.underlying3 Tryz.underlying5 (by rfl) (byte_of _) ?_
 refine XL.s rfl ?_
 refine Y.move (by rfl) ?_
 refine XL.s rfl ?_
 refine Y.convI Tryz.underlying3 Tryz.underlying5 (by rfl) (byte_of _) ?_
 refine XL.s rfl ?_
 refine Y.buildSlice st39 (by rfl) (by rfl) (by omega) (by simp [Value.oneCell', byteV, strV]) ?_
 intro v20 w20 hN20
 refine XL.s rfl ?_
 refine Y.assign (by rfl) ?_
 refine XL.nil ?_
 refine QN.next ?_
 refine XC.ret ?_
 refine QN.done1 (fn := Tryz.f52) (R := R) (.inl rfl) rfl rfl ?_
 refine hR _ _ ?_
 exact hN20
theorem text_ok (l : List UInt8) (h1 : l.length ≤ 4294967295) (w : World) :
  Rets Tryz.prog 53 #[strV l] w fun v w' => NewB 5 w w' v (textB l) := by
 refine Rets.enter (args := [strV l]) (n := 8) Tryz.func53 rfl rfl rfl ?_
 intro R hR
 show XC _ _ _ _ [(0, strV l)] _
 refine XC.seq ?_
 refine XC.region ?_
 show XL _ _ _ _ (List.cons _ _) _ _
 refine XL.s rfl ?_
 refine Y.assign (by rfl) ?_
 refine XL.nil ?_
 refine QN.next ?_
 refine XC.seq ?_
 refine XC.region ?_
 show XL _ _ _ _ (List.cons _ _) _ _
 refine XL.s rfl ?_
 refine Y.move (by rfl) ?_
 refine XL.s rfl ?_
 refine Y.lenS Tryz.underlying9 (by rfl) ?_
 refine XL.s rfl ?_
 refine Y.call (by rfl) ok52 (num_ok l.length (by omega) _) ?_
 rintro v5 w5 hN5
 have hnl := numB_length l.length
 refine XL.s rfl ?_
 refine Y.move (by rfl) ?_
 refine XL.s rfl ?_
 refine Y.appendSN st39 Tryz.underlying9 (by rfl) (by rfl) (by assumption) (by omega) (by omega) ?_
 intro v7 w7 hN7 hC7
 refine XL.s rfl ?_
 refine Y.assign (by rfl) ?_
 refine XL.nil ?_
 refine QN.next ?_
 refine XC.ret ?_
 refine QN.done1 (fn := Tryz.f53) (R := R) (.inl rfl) rfl rfl ?_
 refine hR _ _ ?_
 exact hN7.cast (by simp [textB]) (by simp [textB, bytesV])
theorem cloneB_ok (S : Nat → Prop) (v : Value) (n : Nat) (xs : List Value) (w : World) (hr : Row S w v n xs) (hx : xs.length = n) (hn : n ≤ 140737488355328) :
  Rets Tryz.prog 37 #[v] w fun v w' => New w w' 5 1 v n xs := by
 refine Rets.enter (args := [v]) (n := 8) Tryz.func37 rfl rfl rfl ?_
 intro R hR
 show XC _ _ _ _ [(0, v)] _
 obtain ⟨a, cap, rfl⟩ := hr.val
 refine XC.seq ?_
 refine XC.region ?_
 show XL _ _ _ _ (List.cons _ _) _ _
 refine XL.s rfl ?_
 refine Y.assign (by rfl) ?_
 refine XL.nil ?_
 refine QN.next ?_
 refine XC.seq ?_
 refine XC.seq ?_
 refine XC.region ?_
 show XL _ _ _ _ (List.cons _ _) _ _
 refine XL.s rfl ?_
 refine Y.move (by rfl) ?_
 refine XL.s rfl ?_
 refine Y.eqlN Tryz.underlying39 (by rfl) (by rfl) ?_
 refine XL.nil ?_
 refine QN.next ?_
 refine XC.condS rfl ?_ ?_
 ·intro hc
  try simp only [decide_eq_true_eq, decide_eq_false_iff_not, Bool.not_eq_true', Bool.not_eq_false', Bool.not_eq_eq_eq_not, Bool.not_true, Bool.not_false, Bool.or_eq_true, Bool.and_eq_true, Bool.or_eq_false_iff] at hc
  cases a with
  | some a => simp at hc
  | none =>
  have := hr.nilN; subst this; simp at hx; subst hx
  refine XC.seq ?_
  refine XC.region ?_
  show XL _ _ _ _ (List.cons _ _) _ _
  refine XL.s rfl ?_
  refine Y.assign (by rfl) ?_
  refine XL.nil ?_
  refine QN.next ?_
  refine XC.ret ?_
  refine QN.done1 (fn := Tryz.f37) (R := R) (.inl rfl) rfl rfl ?_
  refine hR _ _ ?_
  exact New.nil _ _ _
 ·intro hc
  try simp only [decide_eq_true_eq, decide_eq_false_iff_not, Bool.not_eq_true', Bool.not_eq_false', Bool.not_eq_eq_eq_not, Bool.not_true, Bool.not_false, Bool.or_eq_true, Bool.and_eq_true, Bool.or_eq_false_iff] at hc
  refine XC.skip ?_
  refine QN.next ?_
  refine XC.seq ?_
  refine XC.region ?_
  show XL _ _ _ _ (List.cons _ _) _ _
  refine XL.s rfl ?_
  refine Y.buildSlice st39 (by rfl) (by rfl) (by omega) (by simp [Value.oneCell', byteV, strV]) ?_
  intro v5 w5 hN5
  replace hr := hr.ext hN5.1
  refine XL.s rfl ?_
  refine Y.move (by rfl) ?_
  refine XL.s rfl ?_
  refine Y.appendN st39 Tryz.underlying39 (by rfl) (by rfl) hN5 hr (by simp [hx]) (by omega) (by omega) ?_
  intro v7 w7 hN7 hC7
  refine XL.s rfl ?_
  refine Y.assign (by rfl) ?_
  refine XL.nil ?_
  refine QN.next ?_
  refine XC.ret ?_
  refine QN.done1 (fn := Tryz.f37) (R := R) (.inl rfl) rfl rfl ?_
  refine hR _ _ ?_
  simpa using hN7
theorem cloneO_ok (S : Nat → Prop) (v : Value) (n : Nat) (xs : List Value) (w : World) (hr : Row S w v n xs) (hx : xs.length = n) (hn : n ≤ 140737488355328) (h0 : 0 < n) :
  Rets Tryz.prog 37 #[v] w fun v w' => NewO w w' 5 1 v n xs := by
 refine Rets.enter (args := [v]) (n := 8) Tryz.func37 rfl rfl rfl ?_
 intro R hR
 show XC _ _ _ _ [(0, v)] _
 obtain ⟨a, cap, rfl⟩ := hr.val
 refine XC.seq ?_
 refine XC.region ?_
 show XL _ _ _ _ (List.cons _ _) _ _
 refine XL.s rfl ?_
 refine Y.assign (by rfl) ?_
 refine XL.nil ?_
 refine QN.next ?_
 refine XC.seq ?_
 refine XC.seq ?_
 refine XC.region ?_
 show XL _ _ _ _ (List.cons _ _) _ _
 refine XL.s rfl ?_
 refine Y.move (by rfl) ?_
 refine XL.s rfl ?_
 refine Y.eqlN Tryz.underlying39 (by rfl) (by rfl) ?_
 refine XL.nil ?_
 refine QN.next ?_
 refine XC.condS rfl ?_ ?_
 ·intro hc
  try simp only [decide_eq_true_eq, decide_eq_false_iff_not, Bool.not_eq_true', Bool.not_eq_false', Bool.not_eq_eq_eq_not, Bool.not_true, Bool.not_false, Bool.or_eq_true, Bool.and_eq_true, Bool.or_eq_false_iff] at hc
  cases a with
  | some a => simp at hc
  | none =>
  have := hr.nilN; subst this; have hF : False := by simp at hx; omega
  refine XC.seq ?_
  refine XC.region ?_
  show XL _ _ _ _ (List.cons _ _) _ _
  refine XL.s rfl ?_
  refine Y.assign (by rfl) ?_
  refine XL.nil ?_
  refine QN.next ?_
  refine XC.ret ?_
  refine QN.done1 (fn := Tryz.f37) (R := R) (.inl rfl) rfl rfl ?_
  refine hR _ _ ?_
  exact hF.elim
 ·intro hc
  try simp only [decide_eq_true_eq, decide_eq_false_iff_not, Bool.not_eq_true', Bool.not_eq_false', Bool.not_eq_eq_eq_not, Bool.not_true, Bool.not_false, Bool.or_eq_true, Bool.and_eq_true, Bool.or_eq_false_iff] at hc
  refine XC.skip ?_
  refine QN.next ?_
  refine XC.seq ?_
  refine XC.region ?_
  show XL _ _ _ _ (List.cons _ _) _ _
  refine XL.s rfl ?_
  refine Y.buildSlice st39 (by rfl) (by rfl) (by omega) (by simp [Value.oneCell', byteV, strV]) ?_
  intro v5 w5 hN5
  replace hr := hr.ext hN5.1
  refine XL.s rfl ?_
  refine Y.move (by rfl) ?_
  refine XL.s rfl ?_
  refine Y.appendO st39 Tryz.underlying39 (by rfl) (by rfl) hN5 hr (by omega) (by simp [hx]) (by omega) (by omega) ?_
  intro v7 w7 hO7 hC7
  refine XL.s rfl ?_
  refine Y.assign (by rfl) ?_
  refine XL.nil ?_
  refine QN.next ?_
  refine XC.ret ?_
  refine QN.done1 (fn := Tryz.f37) (R := R) (.inl rfl) rfl rfl ?_
  refine hR _ _ ?_
  simpa using hO7
theorem cutNum_no (S : Nat → Prop) (v : Value) (l : List UInt8) (w : World) (hr : Bs S w v l) (hl : l.length < 4) :
  Rets Tryz.prog 73 #[v] w fun v w' => v = .tuple #[.int .i64 0, .slice none 0 0, .bool false] ∧ Ext w w' := by
 refine Rets.enter (args := [v]) (n := 28) Tryz.func73 rfl rfl rfl ?_
 intro R hR
 show XC _ _ _ _ [(0, v)] _
 refine XC.seq ?_
 refine XC.region ?_
 show XL _ _ _ _ (List.cons _ _) _ _
 refine XL.s rfl ?_
 refine Y.assign (by rfl) ?_
 refine XL.s rfl ?_
 refine Y.assign (by rfl) ?_
 refine XL.s rfl ?_
 refine Y.assign (by rfl) ?_
 refine XL.nil ?_
 refine QN.next ?_
 refine XC.seq ?_
 refine XC.seq ?_
 refine XC.region ?_
 show XL _ _ _ _ (List.cons _ _) _ _
 refine XL.s rfl ?_
 refine Y.move (by rfl) ?_
 refine XL.s rfl ?_
 first | refine Y.lenV Tryz.underlying39 (by rfl) ?_ | refine Y.len Tryz.underlying39 (by rfl) (by first | assumption | exact Apd.row (by assumption) | exact New.row (by assumption)) ?_
 refine XL.s rfl ?_
 refine Y.lss (by rfl) (by rfl) ?_
 refine XL.nil ?_
 refine QN.next ?_
 refine XC.condT rfl ya ?_
 refine XC.seq ?_
 refine XC.region ?_
 show XL _ _ _ _ (List.cons _ _) _ _
 refine XL.s rfl ?_
 refine Y.assign (by rfl) ?_
 refine XL.s rfl ?_
 refine Y.assign (by rfl) ?_
 refine XL.s rfl ?_
 refine Y.assign (by rfl) ?_
 refine XL.nil ?_
 refine QN.next ?_
 refine XC.ret ?_
 refine QN.doneN (fn := Tryz.f73) (R := R) (.inl rfl) rfl rfl ?_
 refine hR _ _ ?_
 exact ⟨rfl, Chg.refl _ _⟩
theorem cutNum_yes (S : Nat → Prop) (v : Value) (l : List UInt8) (w : World) (hr : Bs S w v l) (hl : 4 ≤ l.length) (hn : l.length ≤ 140737488355328) :
  Rets Tryz.prog 73 #[v] w fun v w' => ∃ u, v = .tuple #[.int .i64 (numOf (l.take 4) : Nat), u, .bool true] ∧ NewB 5 w w' u (l.drop 4) := by
 refine Rets.enter (args := [v]) (n := 28) Tryz.func73 rfl rfl rfl ?_
 intro R hR
 show XC _ _ _ _ [(0, v)] _
 refine XC.seq ?_
 refine XC.region ?_
 show XL _ _ _ _ (List.cons _ _) _ _
 refine XL.s rfl ?_
 refine Y.assign (by rfl) ?_
 refine XL.s rfl ?_
 refine Y.assign (by rfl) ?_
 refine XL.s rfl ?_
 refine Y.assign (by rfl) ?_
 refine XL.nil ?_
 refine QN.next ?_
 refine XC.seq ?_
 refine XC.seq ?_
 refine XC.region ?_
 show XL _ _ _ _ (List.cons _ _) _ _
 refine XL.s rfl ?_
 refine Y.move (by rfl) ?_
 refine XL.s rfl ?_
 first | refine Y.lenV Tryz.underlying39 (by rfl) ?_ | refine Y.len Tryz.underlying39 (by rfl) (by first | assumption | exact Apd.row (by assumption) | exact New.row (by assumption)) ?_
 refine XL.s rfl ?_
 refine Y.lss (by rfl) (by rfl) ?_
 refine XL.nil ?_
 refine QN.next ?_
 refine XC.condF rfl ya ?_
 refine XC.skip ?_
 refine QN.next ?_
 refine XC.seq ?_
 refine XC.region ?_
 show XL _ _ _ _ (List.cons _ _) _ _
 refine XL.s rfl ?_
 refine Y.assign (by rfl) ?_
 refine XL.nil ?_
 refine QN.next ?_
 refine XC.seq ?_
 refine XC.seq ?_
 refine XC.region ?_
 show XL _ _ _ _ (List.cons _ _) _ _
 refine XL.s rfl ?_
 refine Y.move (by rfl) ?_
 refine XL.s rfl ?_
 refine Y.sliceToB st39 (by rfl) (by first | assumption | exact Apd.row (by assumption) | exact New.row (by assumption)) (by rfl) (by first | rfl | exact bnd_nat) (by omega) ?_
 intro v12 hr12
 try simp only [Int.toNat_natCast, Int.reduceToNat] at hr12
 refine XL.s rfl ?_
 refine Y.len Tryz.underlying39 (by rfl) (hr12.cast (by simp; omega : _ = 4) rfl) ?_
 refine XL.s rfl ?_
 refine Y.move (by rfl) ?_
 refine XL.nil ?_
 refine QN.next ?_
 refine XC.block ?_
 refine XC.loop (α := Nat) (fun k => [(0, v), (12, v12), (13, .int .i64 4), (14, .int .i64 k), (5, .int .i64 (numOf (l.take k) : Nat))]) (fun k wr => k ≤ 4 ∧ w = wr) (fun k => 4 - k) (0) ?_ ?_ ?_
 ·exact ⟨rfl, rfl, rfl, rfl, rfl, trivial⟩
 ·exact ⟨by omega, rfl⟩
 ·rintro k wr hI
  obtain ⟨hk, rfl⟩ := hI
  refine XC.seq ?_
  refine XC.region ?_
  show XL _ _ _ _ (List.cons _ _) _ _
  refine XL.s rfl ?_
  refine Y.lss (by rfl) (by rfl) ?_
  refine XL.nil ?_
  refine QN.next ?_
  refine XC.seq ?_
  refine XC.condS rfl ?_ ?_
  ·intro hc
   try simp only [decide_eq_true_eq, decide_eq_false_iff_not, Bool.not_eq_true', Bool.not_eq_false', Bool.not_eq_eq_eq_not, Bool.not_true, Bool.not_false, Bool.or_eq_true, Bool.and_eq_true, Bool.or_eq_false_iff] at hc
   have hk4 : k < 4 := by omega
   have hlt : numOf (l.take k) < 16777216 := Nat.lt_of_lt_of_le (numOf_lt _) (by rw [List.length_take]; exact Nat.pow_le_pow_right (by omega) (by omega : min k l.length ≤ 3))
   have hbt := (l[k]'(by omega)).toNat_lt
   have hu : (bytesV (l.take 4))[((k : Int)).toNat]? = some (.int .u8 ((l[k]'(by omega)).toNat : Int)) := by rw [Int.toNat_natCast, bytesV_get _ _ (by simp; omega)]; simp
   refine XC.skip ?_
   refine QN.next ?_
   refine XC.seq ?_
   refine XC.block ?_
   refine XC.seq ?_
   refine XC.region ?_
   show XL _ _ _ _ (List.cons _ _) _ _
   refine XL.s rfl ?_
   refine Y.indexR st39 (by rfl) (by rfl) hr12 ⟨by omega, by simp; omega⟩ hu ?_
   intro b16 o16 hs16 hc16
   refine XL.s rfl ?_
   refine Y.load one5 (by rfl) (by assumption) ?_
   refine XL.s rfl ?_
   refine Y.assign (by rfl) ?_
   refine XL.nil ?_
   refine QN.next ?_
   refine XC.region ?_
   show XL _ _ _ _ (List.cons _ _) _ _
   refine XL.s rfl ?_
   refine Y.move (by rfl) ?_
   refine XL.s rfl ?_
   refine Y.shl (by rfl) (by rfl) (by omega) (show IntKind.i64.wrap _ = ((numOf (l.take k) * 256 : Nat) : Int) from by rw [show (2 : Int) ^ (min (8 : Int).toNat IntKind.i64.bits) = 256 from rfl, wrap64 (by omega) (by omega)]; simp) ?_
   refine XL.s rfl ?_
   refine Y.move (by rfl) ?_
   refine XL.s rfl ?_
   refine Y.convI Tryz.underlying5 Tryz.underlying3 (by rfl) (wrap64 (by omega) (by omega)) ?_
   refine XL.s rfl ?_
   refine Y.or (by rfl) (by rfl) (or_byte _ _ (by omega)) ?_
   refine XL.s rfl ?_
   refine Y.assign (by rfl) ?_
   refine XL.nil ?_
   refine QN.blk ?_
   refine QN.next ?_
   refine XC.region ?_
   show XL _ _ _ _ (List.cons _ _) _ _
   refine XL.s rfl ?_
   refine Y.add (by rfl) (by rfl) (wrap64 (by omega) (by omega)) ?_
   refine XL.s rfl ?_
   refine Y.move (by rfl) ?_
   refine XL.nil ?_
   refine QN.again (k + 1) ?_ ?_ ?_
   ·exact ⟨rfl, rfl, rfl, rfl, by rw [take_succ_getD _ _ (by omega), numOf_snoc]; rfl, trivial⟩
   ·exact ⟨by omega, rfl⟩
   ·first | omega | (simp only []; omega) | (simp; omega)
  ·intro hc
   try simp only [decide_eq_true_eq, decide_eq_false_iff_not, Bool.not_eq_true', Bool.not_eq_false', Bool.not_eq_eq_eq_not, Bool.not_true, Bool.not_false, Bool.or_eq_true, Bool.and_eq_true, Bool.or_eq_false_iff] at hc
   obtain rfl : k = 4 := by omega
   refine XC.exit ?_
   refine QN.thenE ?_
   refine QN.thenE ?_
   refine QN.hit ?_
   refine QN.next ?_
   refine XC.seq ?_
   refine XC.region ?_
   show XL _ _ _ _ (List.cons _ _) _ _
   refine XL.s rfl ?_
   refine Y.move (by rfl) ?_
   refine XL.s rfl ?_
   refine Y.move (by rfl) ?_
   refine XL.s rfl ?_
   refine Y.sliceFromB st39 (by rfl) (by first | assumption | exact Apd.row (by assumption) | exact New.row (by assumption)) (by rfl) (by first | rfl | exact bnd_nat) (by omega) ?_
   intro v26 hr26
   try simp only [Int.toNat_natCast, Int.reduceToNat] at hr26
   refine XL.s rfl ?_
   refine Y.call (by rfl) ok37 (cloneB_ok _ _ _ _ _ hr26 (by simp [bytesV]) (by simp; omega)) ?_
   rintro v27 w27 hN27
   refine XL.s rfl ?_
   refine Y.assign (by rfl) ?_
   refine XL.s rfl ?_
   refine Y.assign (by rfl) ?_
   refine XL.s rfl ?_
   refine Y.assign (by rfl) ?_
   refine XL.nil ?_
   refine QN.next ?_
   refine XC.ret ?_
   refine QN.doneN (fn := Tryz.f73) (R := R) (.inl rfl) rfl rfl ?_
   refine hR _ _ ?_
   exact ⟨_, rfl, hN27⟩
theorem cutText_short (S : Nat → Prop) (v : Value) (l : List UInt8) (w : World) (hr : Bs S w v l) (hl : l.length < 4) :
  Rets Tryz.prog 74 #[v] w fun v w' => v = .tuple #[strV [], .slice none 0 0, .bool false] ∧ Ext w w' := by
 refine Rets.enter (args := [v]) (n := 29) Tryz.func74 rfl rfl rfl ?_
 intro R hR
 show XC _ _ _ _ [(0, v)] _
 refine XC.seq ?_
 refine XC.region ?_
 show XL _ _ _ _ (List.cons _ _) _ _
 refine XL.s rfl ?_
 refine Y.assign (by rfl) ?_
 refine XL.s rfl ?_
 refine Y.assign (by rfl) ?_
 refine XL.s rfl ?_
 refine Y.assign (by rfl) ?_
 refine XL.nil ?_
 refine QN.next ?_
 refine XC.seq ?_
 refine XC.region ?_
 show XL _ _ _ _ (List.cons _ _) _ _
 refine XL.s rfl ?_
 refine Y.move (by rfl) ?_
 refine XL.s rfl ?_
 refine Y.call (by rfl) ok73 (cutNum_no _ _ _ _ hr hl) ?_
 rintro v10 w10 ⟨rfl, hE10⟩
 refine XL.s rfl ?_
 refine Y.move (by rfl) ?_
 refine XL.s rfl ?_
 refine Y.extract (by rfl) (by rfl) ?_
 refine XL.s rfl ?_
 refine Y.extract (by rfl) (by rfl) ?_
 refine XL.s rfl ?_
 refine Y.extract (by rfl) (by rfl) ?_
 refine XL.s rfl ?_
 refine Y.assign (by rfl) ?_
 refine XL.s rfl ?_
 refine Y.assign (by rfl) ?_
 refine XL.s rfl ?_
 refine Y.assign (by rfl) ?_
 refine XL.nil ?_
 refine QN.next ?_
 refine XC.seq ?_
 refine XC.seq ?_
 refine XC.region ?_
 show XL _ _ _ _ (List.cons _ _) _ _
 refine XL.s rfl ?_
 refine Y.move (by rfl) ?_
 refine XL.s rfl ?_
 refine Y.not (by rfl) ?_
 refine XL.s rfl ?_
 refine Y.move (by rfl) ?_
 refine XL.gf rfl rfl rfl rfl ?_
 refine XL.gf rfl rfl rfl rfl ?_
 refine XL.gf rfl rfl rfl rfl ?_
 refine XL.gf rfl rfl rfl rfl ?_
 refine XL.s rfl ?_
 refine Y.pickT (by rfl) rfl (by rfl) ?_
 refine XL.nil ?_
 refine QN.next ?_
 refine XC.condT rfl rfl ?_
 refine XC.seq ?_
 refine XC.region ?_
 show XL _ _ _ _ (List.cons _ _) _ _
 refine XL.s rfl ?_
 refine Y.assign (by rfl) ?_
 refine XL.s rfl ?_
 refine Y.assign (by rfl) ?_
 refine XL.s rfl ?_
 refine Y.assign (by rfl) ?_
 refine XL.nil ?_
 refine QN.next ?_
 refine XC.ret ?_
 refine QN.doneN (fn := Tryz.f74) (R := R) (.inl rfl) rfl rfl ?_
 refine hR _ _ ?_
 exact ⟨rfl, hE10⟩
theorem cutText_no (S : Nat → Prop) (v : Value) (l : List UInt8) (w : World) (hr : Bs S w v l) (hl : 4 ≤ l.length) (hn : l.length ≤ 140737488355328) (hno : (l.drop 4).length < numOf (l.take 4)) :
  Rets Tryz.prog 74 #[v] w fun v w' => v = .tuple #[strV [], .slice none 0 0, .bool false] ∧ Ext w w' := by
 refine Rets.enter (args := [v]) (n := 29) Tryz.func74 rfl rfl rfl ?_
 intro R hR
 show XC _ _ _ _ [(0, v)] _
 refine XC.seq ?_
 refine XC.region ?_
 show XL _ _ _ _ (List.cons _ _) _ _
 refine XL.s rfl ?_
 refine Y.assign (by rfl) ?_
 refine XL.s rfl ?_
 refine Y.assign (by rfl) ?_
 refine XL.s rfl ?_
 refine Y.assign (by rfl) ?_
 refine XL.nil ?_
 refine QN.next ?_
 refine XC.seq ?_
 refine XC.region ?_
 show XL _ _ _ _ (List.cons _ _) _ _
 refine XL.s rfl ?_
 refine Y.move (by rfl) ?_
 refine XL.s rfl ?_
 refine Y.call (by rfl) ok73 (cutNum_yes _ _ _ _ hr hl hn) ?_
 rintro v10 w10 ⟨u, rfl, hN⟩
 refine XL.s rfl ?_
 refine Y.move (by rfl) ?_
 refine XL.s rfl ?_
 refine Y.extract (by rfl) (by rfl) ?_
 refine XL.s rfl ?_
 refine Y.extract (by rfl) (by rfl) ?_
 refine XL.s rfl ?_
 refine Y.extract (by rfl) (by rfl) ?_
 refine XL.s rfl ?_
 refine Y.assign (by rfl) ?_
 refine XL.s rfl ?_
 refine Y.assign (by rfl) ?_
 refine XL.s rfl ?_
 refine Y.assign (by rfl) ?_
 refine XL.nil ?_
 refine QN.next ?_
 refine XC.seq ?_
 refine XC.seq ?_
 refine XC.region ?_
 show XL _ _ _ _ (List.cons _ _) _ _
 refine XL.s rfl ?_
 refine Y.move (by rfl) ?_
 refine XL.s rfl ?_
 refine Y.not (by rfl) ?_
 refine XL.s rfl ?_
 refine Y.move (by rfl) ?_
 refine XL.gt rfl rfl rfl rfl ?_
 refine Y.move (by rfl) ?_
 refine XL.gt rfl rfl rfl rfl ?_
 refine Y.move (by rfl) ?_
 refine XL.gt rfl rfl rfl rfl ?_
 first | refine Y.lenV Tryz.underlying39 (by rfl) ?_ | refine Y.len Tryz.underlying39 (by rfl) (by first | assumption | exact Apd.row (by assumption) | exact New.row (by assumption)) ?_
 refine XL.gt rfl rfl rfl rfl ?_
 refine Y.gtr (by rfl) (by rfl) ?_
 refine XL.s rfl ?_
 refine Y.pickF (by rfl) rfl (by rfl) ?_
 refine XL.nil ?_
 refine QN.next ?_
 refine XC.condT rfl ya ?_
 refine XC.seq ?_
 refine XC.region ?_
 show XL _ _ _ _ (List.cons _ _) _ _
 refine XL.s rfl ?_
 refine Y.assign (by rfl) ?_
 refine XL.s rfl ?_
 refine Y.assign (by rfl) ?_
 refine XL.s rfl ?_
 refine Y.assign (by rfl) ?_
 refine XL.nil ?_
 refine QN.next ?_
 refine XC.ret ?_
 refine QN.doneN (fn := Tryz.f74) (R := R) (.inl rfl) rfl rfl ?_
 refine hR _ _ ?_
 exact ⟨rfl, hN.1⟩
theorem cutText_yes (S : Nat → Prop) (v : Value) (l : List UInt8) (w : World) (hr : Bs S w v l) (hl : 4 ≤ l.length) (hn : l.length ≤ 140737488355328) (hno : numOf (l.take 4) ≤ (l.drop 4).length) :
  Rets Tryz.prog 74 #[v] w fun v w' => ∃ u, v = .tuple #[strV ((l.drop 4).take (numOf (l.take 4))), u, .bool true] ∧ Ext w w' ∧ Bs (Since w) w' u ((l.drop 4).drop (numOf (l.take 4))) := by
 refine Rets.enter (args := [v]) (n := 29) Tryz.func74 rfl rfl rfl ?_
 intro R hR
 show XC _ _ _ _ [(0, v)] _
 refine XC.seq ?_
 refine XC.region ?_
 show XL _ _ _ _ (List.cons _ _) _ _
 refine XL.s rfl ?_
 refine Y.assign (by rfl) ?_
 refine XL.s rfl ?_
 refine Y.assign (by rfl) ?_
 refine XL.s rfl ?_
 refine Y.assign (by rfl) ?_
 refine XL.nil ?_
 refine QN.next ?_
 refine XC.seq ?_
 refine XC.region ?_
 show XL _ _ _ _ (List.cons _ _) _ _
 refine XL.s rfl ?_
 refine Y.move (by rfl) ?_
 refine XL.s rfl ?_
 refine Y.call (by rfl) ok73 (cutNum_yes _ _ _ _ hr hl hn) ?_
 rintro v10 w10 ⟨u, rfl, hN⟩
 refine XL.s rfl ?_
 refine Y.move (by rfl) ?_
 refine XL.s rfl ?_
 refine Y.extract (by rfl) (by rfl) ?_
 refine XL.s rfl ?_
 refine Y.extract (by rfl) (by rfl) ?_
 refine XL.s rfl ?_
 refine Y.extract (by rfl) (by rfl) ?_
 refine XL.s rfl ?_
 refine Y.assign (by rfl) ?_
 refine XL.s rfl ?_
 refine Y.assign (by rfl) ?_
 refine XL.s rfl ?_
 refine Y.assign (by rfl) ?_
 refine XL.nil ?_
 refine QN.next ?_
 refine XC.seq ?_
 refine XC.seq ?_
 refine XC.region ?_
 show XL _ _ _ _ (List.cons _ _) _ _
 refine XL.s rfl ?_
 refine Y.move (by rfl) ?_
 refine XL.s rfl ?_
 refine Y.not (by rfl) ?_
 refine XL.s rfl ?_
 refine Y.move (by rfl) ?_
 refine XL.gt rfl rfl rfl rfl ?_
 refine Y.move (by rfl) ?_
 refine XL.gt rfl rfl rfl rfl ?_
 refine Y.move (by rfl) ?_
 refine XL.gt rfl rfl rfl rfl ?_
 first | refine Y.lenV Tryz.underlying39 (by rfl) ?_ | refine Y.len Tryz.underlying39 (by rfl) (by first | assumption | exact Apd.row (by assumption) | exact New.row (by assumption)) ?_
 refine XL.gt rfl rfl rfl rfl ?_
 refine Y.gtr (by rfl) (by rfl) ?_
 refine XL.s rfl ?_
 refine Y.pickF (by rfl) rfl (by rfl) ?_
 refine XL.nil ?_
 refine QN.next ?_
 refine XC.condF rfl ya ?_
 refine XC.skip ?_
 refine QN.next ?_
 refine XC.seq ?_
 apply XC.drop [2, 8, 9, 10, 11, 12, 13, 14, 15, 16, 17, 18, 19, 20, 21, 22, 23, 24, 25, 26, 27, 28]
 ·repeat (first | apply DropTo.nil | apply DropTo.skip rfl | apply DropTo.keep rfl)
 refine XC.drawL 8 [[], [], [0, 1], [0, 1, 2], [], [], [4, 5], [0, 1, 2, 3], [0, 1, 2, 3, 4, 5, 6, 7], [0, 1, 2, 3, 4, 5, 6, 7, 8]] _ (Chg NoB) (Steady.chg NoB) [] [(2, (fun v w' => Bs (Since w) w' v ((l.drop 4).take (numOf (l.take 4))))), (3, (fun v _ => v = strV ((l.drop 4).take (numOf (l.take 4))))), (6, (fun v w' => Bs (Since w) w' v ((l.drop 4).drop (numOf (l.take 4)))))] [0, 1, 2, 3, 4, 5, 6, 7] fol (by kernel_rfl) (by rfl) (by rfl) ⟨(fun v w1 w2 hE h => h.ext hE), (fun _ _ _ _ h => h), (fun v w1 w2 hE h => h.ext hE), trivial⟩ ⟨?_, ?_, ?_, ?_, ?_, ?_, ?_, ?_, trivial⟩ ?_
 ·intro aD4 wD4 haD4 hCD4 hrD4
  refine ⟨rfl, ?_⟩
  refine XD.start haD4 ?_
  apply XD.stepP rfl
  intro w3
  refine Y.move (by rfl) ?_
  exact ⟨rfl, rfl⟩
 ·intro aD4 wD4 haD4 hCD4 hrD4
  refine ⟨rfl, ?_⟩
  refine XD.start haD4 ?_
  apply XD.stepP rfl
  intro w3
  refine Y.move (by rfl) ?_
  exact ⟨rfl, rfl⟩
 ·intro aD4 wD4 haD4 hCD4 hrD4
  obtain ⟨r0, r1, -⟩ := hrD4
  replace hN := hN.ext hCD4
  refine ⟨rfl, ?_⟩
  refine XD.start haD4 ?_
  refine XD.pure r0 ?_
  refine Y.move (by rfl) ?_
  refine XD.pure r1 ?_
  refine Y.move (by rfl) ?_
  refine XD.stepI ?_
  refine Y.sliceToB st39 (by rfl) hN.row (by rfl) (by first | rfl | exact bnd_nat) (by omega) ?_
  intro v24 hr24
  try simp only [Int.toNat_natCast, Int.reduceToNat] at hr24
  exact ⟨Chg.refl _ _, hr24⟩
 ·intro aD4 wD4 haD4 hCD4 hrD4
  obtain ⟨r0, r1, r2, -⟩ := hrD4
  replace hN := hN.ext hCD4
  refine ⟨rfl, ?_⟩
  refine XD.start haD4 ?_
  refine XD.pure r0 ?_
  refine Y.move (by rfl) ?_
  refine XD.pure r1 ?_
  refine Y.move (by rfl) ?_
  refine XD.imp r2 ?_
  rintro v24 hr24
  refine XD.stepI ?_
  refine Y.toText Tryz.underlying39 Tryz.underlying9 Tryz.underlying5 (by rfl) hr24 rfl ?_
  exact ⟨Chg.refl _ _, rfl⟩
 ·intro aD4 wD4 haD4 hCD4 hrD4
  refine ⟨rfl, ?_⟩
  refine XD.start haD4 ?_
  apply XD.stepP rfl
  intro w3
  refine Y.move (by rfl) ?_
  exact ⟨rfl, rfl⟩
 ·intro aD4 wD4 haD4 hCD4 hrD4
  refine ⟨rfl, ?_⟩
  refine XD.start haD4 ?_
  apply XD.stepP rfl
  intro w3
  refine Y.move (by rfl) ?_
  exact ⟨rfl, rfl⟩
 ·intro aD4 wD4 haD4 hCD4 hrD4
  obtain ⟨r4, r5, -⟩ := hrD4
  replace hN := hN.ext hCD4
  refine ⟨rfl, ?_⟩
  refine XD.start haD4 ?_
  refine XD.pure r4 ?_
  refine Y.move (by rfl) ?_
  refine XD.pure r5 ?_
  refine Y.move (by rfl) ?_
  refine XD.stepI ?_
  refine Y.sliceFromB st39 (by rfl) hN.row (by rfl) (by first | rfl | exact bnd_nat) (by omega) ?_
  intro v28 hr28
  try simp only [Int.toNat_natCast, Int.reduceToNat] at hr28
  exact ⟨Chg.refl _ _, hr28⟩
 ·intro aD4 wD4 haD4 hCD4 hrD4
  obtain ⟨r0, r1, r2, r3, -⟩ := hrD4
  replace hN := hN.ext hCD4
  refine ⟨rfl, ?_⟩
  refine XD.start haD4 ?_
  refine XD.pure r0 ?_
  refine Y.move (by rfl) ?_
  refine XD.pure r1 ?_
  refine Y.move (by rfl) ?_
  refine XD.imp r2 ?_
  rintro v24 hr24
  refine XD.imp r3 ?_
  rintro v25 rfl
  apply XD.stepP rfl
  intro w3
  refine Y.assign (by rfl) ?_
  exact ⟨rfl, rfl⟩
 intro aD4 wD4 haD4 hCD4 hrD4
 obtain ⟨r0, r1, r2, r3, r4, r5, r6, r7, -⟩ := hrD4
 replace hN := hN.ext hCD4
 refine XD.start haD4 ?_
 refine XD.pure r0 ?_
 refine Y.move (by rfl) ?_
 refine XD.pure r1 ?_
 refine Y.move (by rfl) ?_
 refine XD.imp r2 ?_
 rintro v24 hr24
 refine XD.imp r3 ?_
 rintro v25 rfl
 refine XD.pure r4 ?_
 refine Y.move (by rfl) ?_
 refine XD.pure r5 ?_
 refine Y.move (by rfl) ?_
 refine XD.imp r6 ?_
 rintro v28 hr28
 refine XD.pure r7 ?_
 refine Y.assign (by rfl) ?_
 refine XD.fin haD4 ?_
 show XL _ _ _ _ (List.cons _ _) _ _
 refine XL.s rfl ?_
 refine Y.assign (by rfl) ?_
 refine XL.s rfl ?_
 refine Y.assign (by rfl) ?_
 refine XL.nil ?_
 refine QN.next ?_
 refine XC.ret ?_
 refine QN.doneN (fn := Tryz.f74) (R := R) (.inl rfl) rfl rfl ?_
 refine hR _ _ ?_
 exact ⟨_, rfl, hN.1, hr28⟩
end Go.Proofs.YtchammpamigonaaGreatX
end
section
set_option linter.unusedVariables false
set_option linter.unusedSimpArgs false
set_option maxRecDepth 10000
set_option maxHeartbeats 4000000
namespace Go.Proofs.YtchammpamigonaaGreatX
open Go Go.RowKit Go.Proofs
theorem dnew_ok (z : Int) (w : World) :
  Rets Tryz.prog 28 #[.int .i64 z] w fun v w' => ∃ n : Nat, (n : Int) = min (max z 0) 65536 ∧ DiskB 79 82 5 (btw w.heap.size w'.heap.size) w' v n [] ∧ Ext w w' := by
 refine Rets.enter (args := [.int .i64 z]) (n := 9) Tryz.func28 rfl rfl rfl ?_
 intro R hR
 show XC _ _ _ _ [(0, .int .i64 z)] _
 obtain ⟨n, hn⟩ : ∃ n : Nat, (n : Int) = min (max z 0) 65536 := ⟨(min (max z 0) 65536).toNat, by omega⟩
 refine XC.seq ?_
 refine XC.region ?_
 show XL _ _ _ _ (List.cons _ _) _ _
 refine XL.s rfl ?_
 refine Y.assign (by rfl) ?_
 refine XL.nil ?_
 refine QN.next ?_
 refine XC.seq ?_
 refine XC.region ?_
 show XL _ _ _ _ (List.cons _ _) _ _
 refine XL.s rfl ?_
 refine Y.makeMap ?_
 intro r3 w3 hm3 hz3 hs3 hE3
 refine XL.s rfl ?_
 refine Y.move (by rfl) ?_
 refine XL.s rfl ?_
 refine Y.max (by rfl) (by rfl) ?_
 refine XL.s rfl ?_
 refine Y.min (by rfl) (by rfl) ?_
 refine XL.s rfl ?_
 refine Y.build (by rfl) (v := .agg #[.map (some r3), .int .i64 (if 65536 < (if 0 > z then 0 else z) then 65536 else (if 0 > z then 0 else z))]) (fun _ => by kernel_rfl) ?_
 refine XL.s rfl ?_
 refine Y.box (by rfl) ?_
 intro b8 w8 hb8 hz8 hE8
 have hv : (if 65536 < (if 0 > z then 0 else z) then 65536 else (if 0 > z then 0 else z)) = (n : Int) := by split <;> split <;> omega
 simp only [Value.cells, hv] at hb8
 refine XL.s rfl ?_
 refine Y.assign (by rfl) ?_
 refine XL.nil ?_
 refine QN.next ?_
 refine XC.ret ?_
 refine QN.done1 (fn := Tryz.f28) (R := R) (.inl rfl) rfl rfl ?_
 refine hR _ _ ?_
 exact ⟨n, hn, ⟨b8, r3, fun _ _ => False, [], rfl, ⟨hb8, hm3.ext hE8, by omega, rfl, fun k v h => by simp [lookK_nil] at h, fun k h => by simp at h, fun k h => by simp at h, fun k h => by simp at h⟩, ⟨by omega, by omega⟩, ⟨by omega, by omega⟩, fun k h => by simp at h⟩, hE3.trans hE8⟩
theorem dread_no (F : Nat → Prop) (dv : Value) (most : Nat) (fs : FS) (k : List UInt8) (w : World) (hD : DiskB 79 82 5 F w dv most fs) (hk : lookK k fs = none) :
  Rets Tryz.prog 23 #[dv, strV k] w fun v w' => v = .tuple #[.slice none 0 0, .int .i64 5] ∧ Ext w w' := by
 refine Rets.enter (args := [dv, strV k]) (n := 20) Tryz.func23 rfl rfl rfl ?_
 intro R hR
 show XC _ _ _ _ [(0, dv), (1, strV k)] _
 obtain ⟨db, r, Fs, es, rfl, hX, hF1, hF2, hF3⟩ := hD
 have hlk := hX.no hk
 refine XC.seq ?_
 refine XC.region ?_
 show XL _ _ _ _ (List.cons _ _) _ _
 refine XL.s rfl ?_
 refine Y.assign (by rfl) ?_
 refine XL.s rfl ?_
 refine Y.assign (by rfl) ?_
 refine XL.nil ?_
 refine QN.next ?_
 refine XC.seq ?_
 refine XC.region ?_
 show XL _ _ _ _ (List.cons _ _) _ _
 refine XL.s rfl ?_
 refine Y.move (by rfl) ?_
 refine XL.s rfl ?_
 refine Y.nilCheck (by rfl) ?_
 refine XL.s rfl ?_
 refine Y.fieldAddr fld79_0 (by rfl) ?_
 refine XL.s rfl ?_
 refine Y.load one77 (by rfl) (two0 hX.cell) ?_
 refine XL.s rfl ?_
 refine Y.move (by rfl) ?_
 refine XL.s rfl ?_
 refine Y.lookupN mt77 (by rfl) (by rfl) hX.map hlk ?_
 refine XL.s rfl ?_
 refine Y.assign (by rfl) ?_
 refine XL.nil ?_
 refine QN.next ?_
 refine XC.seq ?_
 refine XC.seq ?_
 refine XC.region ?_
 show XL _ _ _ _ (List.cons _ _) _ _
 refine XL.s rfl ?_
 refine Y.move (by rfl) ?_
 refine XL.s rfl ?_
 refine Y.eqlP Tryz.underlying76 (by rfl) (by rfl) ?_
 refine XL.nil ?_
 refine QN.next ?_
 refine XC.condT rfl rfl ?_
 refine XC.seq ?_
 refine XC.region ?_
 show XL _ _ _ _ (List.cons _ _) _ _
 refine XL.s rfl ?_
 refine Y.assign (by rfl) ?_
 refine XL.s rfl ?_
 refine Y.assign (by rfl) ?_
 refine XL.nil ?_
 refine QN.next ?_
 refine XC.ret ?_
 refine QN.doneN (fn := Tryz.f23) (R := R) (.inl rfl) rfl rfl ?_
 refine hR _ _ ?_
 exact ⟨rfl, Chg.refl _ _⟩
theorem dread_yes (F : Nat → Prop) (dv : Value) (most : Nat) (fs : FS) (k : List UInt8) (w : World) (hD : DiskB 79 82 5 F w dv most fs) (f : FileS) (hk : lookK k fs = some f) (hl : f.data.length ≤ 140737488355328) :
  Rets Tryz.prog 23 #[dv, strV k] w fun v w' => ∃ b, v = .tuple #[b, .int .i64 0] ∧ NewB 5 w w' b f.data := by
 refine Rets.enter (args := [dv, strV k]) (n := 20) Tryz.func23 rfl rfl rfl ?_
 intro R hR
 show XC _ _ _ _ [(0, dv), (1, strV k)] _
 obtain ⟨db, r, Fs, es, rfl, hX, hF1, hF2, hF3⟩ := hD
 obtain ⟨fb, hlk, hfile⟩ := hX.yes hk
 obtain ⟨sl, Fd, hfb, hA, hO, hsy, hi1, hi2, hi3⟩ := hfile
 refine XC.seq ?_
 refine XC.region ?_
 show XL _ _ _ _ (List.cons _ _) _ _
 refine XL.s rfl ?_
 refine Y.assign (by rfl) ?_
 refine XL.s rfl ?_
 refine Y.assign (by rfl) ?_
 refine XL.nil ?_
 refine QN.next ?_
 refine XC.seq ?_
 refine XC.region ?_
 show XL _ _ _ _ (List.cons _ _) _ _
 refine XL.s rfl ?_
 refine Y.move (by rfl) ?_
 refine XL.s rfl ?_
 refine Y.nilCheck (by rfl) ?_
 refine XL.s rfl ?_
 refine Y.fieldAddr fld79_0 (by rfl) ?_
 refine XL.s rfl ?_
 refine Y.load one77 (by rfl) (two0 hX.cell) ?_
 refine XL.s rfl ?_
 refine Y.move (by rfl) ?_
 refine XL.s rfl ?_
 refine Y.lookupS mt77 (by rfl) (by rfl) hX.map hlk ?_
 refine XL.s rfl ?_
 refine Y.assign (by rfl) ?_
 refine XL.nil ?_
 refine QN.next ?_
 refine XC.seq ?_
 refine XC.seq ?_
 refine XC.region ?_
 show XL _ _ _ _ (List.cons _ _) _ _
 refine XL.s rfl ?_
 refine Y.move (by rfl) ?_
 refine XL.s rfl ?_
 refine Y.eqlP Tryz.underlying76 (by rfl) (by rfl) ?_
 refine XL.nil ?_
 refine QN.next ?_
 refine XC.condF rfl rfl ?_
 refine XC.skip ?_
 refine QN.next ?_
 refine XC.seq ?_
 refine XC.region ?_
 show XL _ _ _ _ (List.cons _ _) _ _
 refine XL.s rfl ?_
 refine Y.move (by rfl) ?_
 refine XL.s rfl ?_
 refine Y.nilCheck (by rfl) ?_
 refine XL.s rfl ?_
 refine Y.fieldAddr fld82_0 (by rfl) ?_
 refine XL.s rfl ?_
 refine Y.load one39 (by rfl) (two0 hfb) ?_
 refine XL.s rfl ?_
 refine Y.call (by rfl) ok37 (cloneB_ok _ _ _ _ _ hA.row (by simp [bytesV]) hl) ?_
 rintro v19 w19 hN19
 refine XL.s rfl ?_
 refine Y.assign (by rfl) ?_
 refine XL.s rfl ?_
 refine Y.assign (by rfl) ?_
 refine XL.nil ?_
 refine QN.next ?_
 refine XC.ret ?_
 refine QN.doneN (fn := Tryz.f23) (R := R) (.inl rfl) rfl rfl ?_
 refine hR _ _ ?_
 exact ⟨_, rfl, hN19⟩
theorem ddel_no (F : Nat → Prop) (dv : Value) (most : Nat) (fs : FS) (k : List UInt8) (w : World) (hD : DiskB 79 82 5 F w dv most fs) (hk : lookK k fs = none) :
  Rets Tryz.prog 42 #[dv, strV k] w fun v w' => v = .int .i64 5 ∧ Ext w w' := by
 refine Rets.enter (args := [dv, strV k]) (n := 17) Tryz.func42 rfl rfl rfl ?_
 intro R hR
 show XC _ _ _ _ [(0, dv), (1, strV k)] _
 obtain ⟨db, r, Fs, es, rfl, hX, hF1, hF2, hF3⟩ := hD
 have hlk := hX.no hk
 refine XC.seq ?_
 refine XC.region ?_
 show XL _ _ _ _ (List.cons _ _) _ _
 refine XL.s rfl ?_
 refine Y.assign (by rfl) ?_
 refine XL.nil ?_
 refine QN.next ?_
 refine XC.seq ?_
 refine XC.seq ?_
 refine XC.region ?_
 show XL _ _ _ _ (List.cons _ _) _ _
 refine XL.s rfl ?_
 refine Y.move (by rfl) ?_
 refine XL.s rfl ?_
 refine Y.nilCheck (by rfl) ?_
 refine XL.s rfl ?_
 refine Y.fieldAddr fld79_0 (by rfl) ?_
 refine XL.s rfl ?_
 refine Y.load one77 (by rfl) (two0 hX.cell) ?_
 refine XL.s rfl ?_
 refine Y.move (by rfl) ?_
 refine XL.s rfl ?_
 refine Y.lookupN mt77 (by rfl) (by rfl) hX.map hlk ?_
 refine XL.s rfl ?_
 refine Y.eqlP Tryz.underlying76 (by rfl) (by rfl) ?_
 refine XL.nil ?_
 refine QN.next ?_
 refine XC.condT rfl rfl ?_
 refine XC.seq ?_
 refine XC.region ?_
 show XL _ _ _ _ (List.cons _ _) _ _
 refine XL.s rfl ?_
 refine Y.assign (by rfl) ?_
 refine XL.nil ?_
 refine QN.next ?_
 refine XC.ret ?_
 refine QN.done1 (fn := Tryz.f42) (R := R) (.inl rfl) rfl rfl ?_
 refine hR _ _ ?_
 exact ⟨rfl, Chg.refl _ _⟩
theorem dosync_yes (F : Nat → Prop) (dv : Value) (most : Nat) (fs : FS) (k : List UInt8) (w : World) (hD : DiskB 79 82 5 F w dv most fs) (f : FileS) (hk : lookK k fs = some f) :
  Rets Tryz.prog 39 #[dv, strV k] w fun v w' => v = .int .i64 0 ∧ Chg F w w' ∧ DiskB 79 82 5 F w' dv most (upK k { f with syn := f.data.length } fs) := by
 refine Rets.enter (args := [dv, strV k]) (n := 22) Tryz.func39 rfl rfl rfl ?_
 intro R hR
 show XC _ _ _ _ [(0, dv), (1, strV k)] _
 obtain ⟨db, r, Fs, es, rfl, hX, hF1, hF2, hF3⟩ := hD
 obtain ⟨fb, hlk, hfile⟩ := hX.yes hk
 obtain ⟨sl, Fd, hfb, hA, hO, hsy, hi1, hi2, hi3⟩ := hfile
 refine XC.seq ?_
 refine XC.region ?_
 show XL _ _ _ _ (List.cons _ _) _ _
 refine XL.s rfl ?_
 refine Y.assign (by rfl) ?_
 refine XL.nil ?_
 refine QN.next ?_
 refine XC.seq ?_
 refine XC.region ?_
 show XL _ _ _ _ (List.cons _ _) _ _
 refine XL.s rfl ?_
 refine Y.move (by rfl) ?_
 refine XL.s rfl ?_
 refine Y.nilCheck (by rfl) ?_
 refine XL.s rfl ?_
 refine Y.fieldAddr fld79_0 (by rfl) ?_
 refine XL.s rfl ?_
 refine Y.load one77 (by rfl) (two0 hX.cell) ?_
 refine XL.s rfl ?_
 refine Y.move (by rfl) ?_
 refine XL.s rfl ?_
 refine Y.lookupS mt77 (by rfl) (by rfl) hX.map hlk ?_
 refine XL.s rfl ?_
 refine Y.assign (by rfl) ?_
 refine XL.nil ?_
 refine QN.next ?_
 refine XC.seq ?_
 refine XC.seq ?_
 refine XC.region ?_
 show XL _ _ _ _ (List.cons _ _) _ _
 refine XL.s rfl ?_
 refine Y.move (by rfl) ?_
 refine XL.s rfl ?_
 refine Y.eqlP Tryz.underlying76 (by rfl) (by rfl) ?_
 refine XL.nil ?_
 refine QN.next ?_
 refine XC.condF rfl rfl ?_
 have hkm := lookK_mem hk
 refine XC.skip ?_
 refine QN.next ?_
 refine XC.seq ?_
 refine XC.region ?_
 show XL _ _ _ _ (List.cons _ _) _ _
 refine XL.s rfl ?_
 refine Y.move (by rfl) ?_
 refine XL.s rfl ?_
 refine Y.move (by rfl) ?_
 refine XL.s rfl ?_
 refine Y.nilCheck (by rfl) ?_
 refine XL.s rfl ?_
 refine Y.fieldAddr fld82_0 (by rfl) ?_
 refine XL.s rfl ?_
 refine Y.load one39 (by rfl) (two0 hfb) ?_
 refine XL.s rfl ?_
 refine Y.len Tryz.underlying39 (by rfl) hA.row ?_
 refine XL.s rfl ?_
 refine Y.nilCheck (by rfl) ?_
 refine XL.s rfl ?_
 refine Y.fieldAddr fld82_1 (by rfl) ?_
 refine XL.o ?_
 refine Y.storeB one3 (by rfl) (by rfl) rfl hfb (by simp) (nofr0 _) ?_
 intro w2 hb2 hC2 hz2 _
 have hS : ∀ b, b = fb → Fs k b := fun b h => by rw [h]; exact hi1
 have hfd : ∀ b, b < w.heap.size → Fd b → ¬ b = fb := fun b _ h e => hi2 (e ▸ h)
 have hX2 := hX.setFile (Fk := Fs k) (f' := { f with syn := f.data.length }) hC2 hS hlk ⟨sl, Fd, hb2, hA.chg hC2 hfd, fun ho => (hO ho).chg hC2 hfd, Nat.le_refl _, hi1, hi2, hi3⟩ (fun b h => .inl h) (fun b h => by rw [hz2]; exact hX.bnd k hkm b h)
 refine XL.nil ?_
 refine QN.next ?_
 refine XC.seq ?_
 refine XC.region ?_
 show XL _ _ _ _ (List.cons _ _) _ _
 refine XL.s rfl ?_
 refine Y.assign (by rfl) ?_
 refine XL.nil ?_
 refine QN.next ?_
 refine XC.ret ?_
 refine QN.done1 (fn := Tryz.f39) (R := R) (.inl rfl) rfl rfl ?_
 refine hR _ _ ?_
 exact ⟨rfl, hC2.mono fun b _ h => hF3 k hkm b (hS b h), db, r, _, es, rfl, hX2, hF1, hF2, fun x hx b hb => by rw [keys_upK, if_pos hkm] at hx; exact (if e : x = k then hF3 k hkm b (by rwa [if_pos e] at hb) else hF3 x hx b (by rwa [if_neg e] at hb))⟩
theorem ddel_yes (F : Nat → Prop) (dv : Value) (most : Nat) (fs : FS) (k : List UInt8) (w : World) (hD : DiskB 79 82 5 F w dv most fs) (f : FileS) (hk : lookK k fs = some f) :
  Rets Tryz.prog 42 #[dv, strV k] w fun v w' => v = .int .i64 0 ∧ Chg F w w' ∧ DiskB 79 82 5 F w' dv most (delK k fs) := by
 refine Rets.enter (args := [dv, strV k]) (n := 17) Tryz.func42 rfl rfl rfl ?_
 intro R hR
 show XC _ _ _ _ [(0, dv), (1, strV k)] _
 obtain ⟨db, r, Fs, es, rfl, hX, hF1, hF2, hF3⟩ := hD
 obtain ⟨fb, hlk, hfile⟩ := hX.yes hk
 obtain ⟨sl, Fd, hfb, hA, hO, hsy, hi1, hi2, hi3⟩ := hfile
 refine XC.seq ?_
 refine XC.region ?_
 show XL _ _ _ _ (List.cons _ _) _ _
 refine XL.s rfl ?_
 refine Y.assign (by rfl) ?_
 refine XL.nil ?_
 refine QN.next ?_
 refine XC.seq ?_
 refine XC.seq ?_
 refine XC.region ?_
 show XL _ _ _ _ (List.cons _ _) _ _
 refine XL.s rfl ?_
 refine Y.move (by rfl) ?_
 refine XL.s rfl ?_
 refine Y.nilCheck (by rfl) ?_
 refine XL.s rfl ?_
 refine Y.fieldAddr fld79_0 (by rfl) ?_
 refine XL.s rfl ?_
 refine Y.load one77 (by rfl) (two0 hX.cell) ?_
 refine XL.s rfl ?_
 refine Y.move (by rfl) ?_
 refine XL.s rfl ?_
 refine Y.lookupS mt77 (by rfl) (by rfl) hX.map hlk ?_
 refine XL.s rfl ?_
 refine Y.eqlP Tryz.underlying76 (by rfl) (by rfl) ?_
 refine XL.nil ?_
 refine QN.next ?_
 refine XC.condF rfl rfl ?_
 refine XC.skip ?_
 refine QN.next ?_
 refine XC.seq ?_
 refine XC.region ?_
 show XL _ _ _ _ (List.cons _ _) _ _
 refine XL.s rfl ?_
 refine Y.move (by rfl) ?_
 refine XL.s rfl ?_
 refine Y.nilCheck (by rfl) ?_
 refine XL.s rfl ?_
 refine Y.fieldAddr fld79_0 (by rfl) ?_
 refine XL.s rfl ?_
 refine Y.load one77 (by rfl) (two0 hX.cell) ?_
 refine XL.s rfl ?_
 refine Y.move (by rfl) ?_
 refine XL.o ?_
 refine Y.delete mt77 (by rfl) (by rfl) hX.map ?_
 intro w2 hm2 hC2 hz2
 refine XL.nil ?_
 refine QN.next ?_
 refine XC.seq ?_
 refine XC.region ?_
 show XL _ _ _ _ (List.cons _ _) _ _
 refine XL.s rfl ?_
 refine Y.assign (by rfl) ?_
 refine XL.nil ?_
 refine QN.next ?_
 refine XC.ret ?_
 refine QN.done1 (fn := Tryz.f42) (R := R) (.inl rfl) rfl rfl ?_
 refine hR _ _ ?_
 exact ⟨rfl, hC2.mono fun b _ h => by rw [show b = r from h]; exact hF2, db, r, _, _, rfl, hX.del hC2 hm2, hF1, hF2, fun x hx b hb => hF3 x (by rw [keys_delK k fs hX.nd] at hx; exact (List.mem_filter.1 hx).1) b hb⟩
theorem dren_yes (F : Nat → Prop) (dv : Value) (most : Nat) (fs : FS) (k : List UInt8) (w : World) (hD : DiskB 79 82 5 F w dv most fs) (k2 : List UInt8) (h1 : 1 ≤ k.length ∧ k.length ≤ 24) (h2 : 1 ≤ k2.length ∧ k2.length ≤ 24) (f : FileS) (hk : lookK k fs = some f) :
  Rets Tryz.prog 46 #[dv, strV k, strV k2] w fun v w' => v = .int .i64 0 ∧ Chg F w w' ∧ DiskB 79 82 5 F w' dv most (upK k2 f (delK k fs)) := by
 refine Rets.enter (args := [dv, strV k, strV k2]) (n := 35) Tryz.func46 rfl rfl rfl ?_
 intro R hR
 show XC _ _ _ _ [(0, dv), (1, strV k), (2, strV k2)] _
 refine XC.seq ?_
 refine XC.region ?_
 show XL _ _ _ _ (List.cons _ _) _ _
 refine XL.s rfl ?_
 refine Y.assign (by rfl) ?_
 refine XL.nil ?_
 refine QN.next ?_
 refine XC.seq ?_
 refine XC.seq ?_
 refine XC.region ?_
 show XL _ _ _ _ (List.cons _ _) _ _
 refine XL.s rfl ?_
 refine Y.move (by rfl) ?_
 refine XL.s rfl ?_
 refine Y.call (by rfl) ok67 (dnamed_ok k _ (by omega)) ?_
 rintro v9 w9 ⟨rfl, rfl⟩
 refine XL.s rfl ?_
 refine Y.not (by rfl) ?_
 refine XL.s rfl ?_
 refine Y.move (by rfl) ?_
 refine XL.gt rfl rfl (by rw [decide_eq_true h1]; rfl) rfl ?_
 refine Y.move (by rfl) ?_
 refine XL.gt rfl rfl (by rw [decide_eq_true h1]; rfl) rfl ?_
 refine Y.call (by rfl) ok67 (dnamed_ok k2 _ (by omega)) ?_
 rintro v13 w13 ⟨rfl, rfl⟩
 refine XL.gt rfl rfl (by rw [decide_eq_true h1]; rfl) rfl ?_
 refine Y.not (by rfl) ?_
 refine XL.s rfl ?_
 refine Y.pickF (by rfl) (by rw [decide_eq_true h1]; rfl) (by rfl) ?_
 refine XL.nil ?_
 refine QN.next ?_
 refine XC.condF rfl (by rw [decide_eq_true h2]; rfl) ?_
 obtain ⟨db, r, Fs, es, rfl, hX, hF1, hF2, hF3⟩ := hD
 obtain ⟨fb, hlk, hfile⟩ := hX.yes hk
 obtain ⟨sl, Fd, hfb, hA, hO, hsy, hi1, hi2, hi3⟩ := hfile
 refine XC.skip ?_
 refine QN.next ?_
 refine XC.seq ?_
 refine XC.region ?_
 show XL _ _ _ _ (List.cons _ _) _ _
 refine XL.s rfl ?_
 refine Y.move (by rfl) ?_
 refine XL.s rfl ?_
 refine Y.nilCheck (by rfl) ?_
 refine XL.s rfl ?_
 refine Y.fieldAddr fld79_0 (by rfl) ?_
 refine XL.s rfl ?_
 refine Y.load one77 (by rfl) (two0 hX.cell) ?_
 refine XL.s rfl ?_
 refine Y.move (by rfl) ?_
 refine XL.s rfl ?_
 refine Y.lookupS mt77 (by rfl) (by rfl) hX.map hlk ?_
 refine XL.s rfl ?_
 refine Y.assign (by rfl) ?_
 refine XL.nil ?_
 refine QN.next ?_
 refine XC.seq ?_
 refine XC.seq ?_
 refine XC.region ?_
 show XL _ _ _ _ (List.cons _ _) _ _
 refine XL.s rfl ?_
 refine Y.move (by rfl) ?_
 refine XL.s rfl ?_
 refine Y.eqlP Tryz.underlying76 (by rfl) (by rfl) ?_
 refine XL.nil ?_
 refine QN.next ?_
 refine XC.condF rfl rfl ?_
 have hkm := lookK_mem hk
 have hfile : FileAt 82 5 (Fs k) _ fb f := ⟨sl, Fd, hfb, hA, hO, hsy, hi1, hi2, hi3⟩
 refine XC.skip ?_
 refine QN.next ?_
 refine XC.seq ?_
 refine XC.region ?_
 show XL _ _ _ _ (List.cons _ _) _ _
 refine XL.s rfl ?_
 refine Y.move (by rfl) ?_
 refine XL.s rfl ?_
 refine Y.nilCheck (by rfl) ?_
 refine XL.s rfl ?_
 refine Y.fieldAddr fld79_0 (by rfl) ?_
 refine XL.s rfl ?_
 refine Y.load one77 (by rfl) (two0 hX.cell) ?_
 refine XL.s rfl ?_
 refine Y.move (by rfl) ?_
 refine XL.o ?_
 refine Y.delete mt77 (by rfl) (by rfl) hX.map ?_
 intro w2 hm2 hC2 hz2
 have hX2 := hX.del hC2 hm2
 have hf2 := hfile.same (hC2.same fun y _ hy hyr => (hX.out k hkm).2 (hyr ▸ hy))
 refine XL.nil ?_
 refine QN.next ?_
 refine XC.seq ?_
 refine XC.region ?_
 show XL _ _ _ _ (List.cons _ _) _ _
 refine XL.s rfl ?_
 refine Y.move (by rfl) ?_
 refine XL.s rfl ?_
 refine Y.nilCheck (by rfl) ?_
 refine XL.s rfl ?_
 refine Y.fieldAddr fld79_0 (by rfl) ?_
 refine XL.s rfl ?_
 refine Y.load one77 (by rfl) (two0 hX2.cell) ?_
 refine XL.s rfl ?_
 refine Y.move (by rfl) ?_
 refine XL.s rfl ?_
 refine Y.move (by rfl) ?_
 refine XL.o ?_
 refine Y.mapUpdate mt77 (by rfl) (by rfl) (by rfl) hX2.map ?_
 intro w3 hm3 hC3 hz3
 have hks : ∀ x, x ∈ (delK k fs).map (·.1) → x ∈ fs.map (·.1) ∧ x ≠ k := fun x hx => by rw [keys_delK k fs hX.nd] at hx; exact ⟨(List.mem_filter.1 hx).1, by simpa using (List.mem_filter.1 hx).2⟩
 have hX3 := hX2.put (Fk := Fs k) (f := f) hC3 hm3 hf2 (hX.out k hkm).1 (hX.out k hkm).2 (fun x hx _ b hb => hX.dis k hkm x (hks x hx).1 (fun e => (hks x hx).2 e.symm) b hb) (fun b hb => Nat.lt_of_lt_of_le (hX.bnd k hkm b hb) hC2.size)
 refine XL.nil ?_
 refine QN.next ?_
 refine XC.seq ?_
 refine XC.region ?_
 show XL _ _ _ _ (List.cons _ _) _ _
 refine XL.s rfl ?_
 refine Y.assign (by rfl) ?_
 refine XL.nil ?_
 refine QN.next ?_
 refine XC.ret ?_
 refine QN.done1 (fn := Tryz.f46) (R := R) (.inl rfl) rfl rfl ?_
 refine hR _ _ ?_
 exact ⟨rfl, (hC2.trans hC3 (fun _ h => h) (fun _ _ h => h)).mono fun b _ h => by rw [show b = r from h]; exact hF2, db, r, _, _, rfl, hX3, hF1, hF2, fun x hx b hb => by rw [keys_upK] at hx; exact (if e : x = k2 then hF3 k hkm b (by rwa [if_pos e] at hb) else hF3 x (hks x (by split at hx; exact hx; exact (List.mem_append.1 hx).elim id (fun h => absurd (by simpa using h) e))).1 b (by rwa [if_neg e] at hb))⟩
theorem dused_ok (F : Nat → Prop) (dv : Value) (most : Nat) (fs : FS) (w : World) (hD : DiskB 79 82 5 F w dv most fs) (hu : usedP fs ≤ 1000000000) :
  Rets Tryz.prog 68 #[dv] w fun v w' => v = .int .i64 (usedP fs : Nat) ∧ Ext w w' := by
 refine Rets.enter (args := [dv]) (n := 23) Tryz.func68 rfl rfl rfl ?_
 intro R hR
 show XC _ _ _ _ [(0, dv)] _
 obtain ⟨db, r, Fs, es, rfl, hX, hF1, hF2, hF3⟩ := hD
 have hnd := hX.nd
 have hnde := hX.map.nd
 have hrl : r < w.heap.size := by obtain ⟨_, _, hb, _⟩ := hX.map; exact hb.lt
 refine XC.seq ?_
 refine XC.region ?_
 show XL _ _ _ _ (List.cons _ _) _ _
 refine XL.s rfl ?_
 refine Y.assign (by rfl) ?_
 refine XL.nil ?_
 refine QN.next ?_
 refine XC.seq ?_
 refine XC.region ?_
 show XL _ _ _ _ (List.cons _ _) _ _
 refine XL.s rfl ?_
 refine Y.assign (by rfl) ?_
 refine XL.nil ?_
 refine QN.next ?_
 refine XC.seq ?_
 refine XC.seq ?_
 refine XC.region ?_
 show XL _ _ _ _ (List.cons _ _) _ _
 refine XL.s rfl ?_
 refine Y.move (by rfl) ?_
 refine XL.s rfl ?_
 refine Y.nilCheck (by rfl) ?_
 refine XL.s rfl ?_
 refine Y.fieldAddr fld79_0 (by rfl) ?_
 refine XL.s rfl ?_
 refine Y.load one77 (by rfl) (two0 hX.cell) ?_
 refine XL.s rfl ?_
 refine Y.range mt77 (by rfl) hX.map ?_
 intro it w10 hI10 hit hz10 hE10
 have hX10 := hX.same hE10 (fun h => h) (fun h => h) (fun _ _ _ _ h => h)
 refine XL.nil ?_
 refine QN.next ?_
 refine XC.block ?_
 refine XC.loop (α := KVs × KVs) (fun (sn, rest) => [(3, .int .i64 (lenOf fs sn : Nat)), (10, .pointer (some ⟨it, 0, none⟩))]) (fun (sn, rest) wr => IterB wr it r es sn rest ∧ Chg (· = it) w10 wr) (fun (sn, rest) => rest.length) (([], es)) ?_ ?_ ?_
 ·exact ⟨rfl, rfl, trivial⟩
 ·exact ⟨hI10, Chg.refl _ _⟩
 ·rintro ⟨sn, rest⟩ wr hI
  obtain ⟨hI, hC⟩ := hI
  have hperm : (sn ++ rest).Perm es := by obtain ⟨_, _, _, _, _, _, _, h⟩ := hI; exact h
  refine XC.seq ?_
  refine XC.region ?_
  show XL _ _ _ _ (List.cons _ _) _ _
  refine XL.s rfl ?_
  refine Y.next (by rfl) hI ?_
  intro vs w11 hvs hC11 hz11 hgo
  refine XL.s rfl ?_
  refine Y.extract (by rfl) hvs ?_
  refine XL.nil ?_
  refine QN.next ?_
  refine XC.seq ?_
  refine XC.condS rfl ?_ ?_
  ·intro hc
   try simp only [decide_eq_true_eq, decide_eq_false_iff_not, Bool.not_eq_true', Bool.not_eq_false', Bool.not_eq_eq_eq_not, Bool.not_true, Bool.not_false, Bool.or_eq_true, Bool.and_eq_true, Bool.or_eq_false_iff] at hc
   obtain ⟨p, rest', hp, hIC, hlen⟩ := hgo (by intro e; rw [e] at hc; simp at hc)
   have hpm : p ∈ es := hperm.mem_iff.1 (List.mem_append.2 (.inr hp))
   obtain ⟨fb, f, hpv, hf, hF⟩ := hX.file p.1 p.2 (lookK_of_mem hnde hpm)
   have hkm := lookK_mem hf
   have hF11 := hF.same (((hE10.then (hC.trans hC11 (S'' := (· = it)) (fun _ h => h) (fun _ _ h => h)))).same fun b hb hs e => by have h1 : b = it := e; omega)
   obtain ⟨sl, Fd, hfb, hA, hO, hsy, hi1, hi2, hi3⟩ := hF11
   have hperm2 : ((sn ++ [p]) ++ rest').Perm es := by obtain ⟨_, _, _, _, _, _, _, _, h, _⟩ := hIC; exact h
   have hsum := lenOf_perm (fs := fs) hperm2
   rw [lenOf_all hX.keys hnd, lenOf_append, lenOf_append] at hsum
   have hone : lenOf fs [p] = f.data.length := by simp [lenOf, lenAt, hf]
   refine XC.skip ?_
   refine QN.next ?_
   refine XC.block ?_
   refine XC.seq ?_
   refine XC.region ?_
   show XL _ _ _ _ (List.cons _ _) _ _
   refine XL.s rfl ?_
   refine Y.entry (by rfl) hIC ?_
   rw [hpv]
   refine XL.s rfl ?_
   refine Y.extract (by rfl) (by rfl) ?_
   refine XL.s rfl ?_
   refine Y.assign (by rfl) ?_
   refine XL.nil ?_
   refine QN.next ?_
   refine XC.region ?_
   show XL _ _ _ _ (List.cons _ _) _ _
   refine XL.s rfl ?_
   refine Y.move (by rfl) ?_
   refine XL.s rfl ?_
   refine Y.move (by rfl) ?_
   refine XL.s rfl ?_
   refine Y.nilCheck (by rfl) ?_
   refine XL.s rfl ?_
   refine Y.fieldAddr fld82_0 (by rfl) ?_
   refine XL.s rfl ?_
   refine Y.load one39 (by rfl) (two0 hfb) ?_
   refine XL.s rfl ?_
   refine Y.len Tryz.underlying39 (by rfl) hA.row ?_
   refine XL.s rfl ?_
   refine Y.add (by rfl) (by rfl) (show IntKind.i64.wrap _ = ((lenOf fs (sn ++ [p]) : Nat) : Int) from by rw [lenOf_append, wrap64 (by omega) (by omega)]; omega) ?_
   refine XL.s rfl ?_
   refine Y.assign (by rfl) ?_
   refine XL.nil ?_
   refine QN.blk ?_
   refine QN.again ((sn ++ [p], rest')) ?_ ?_ ?_
   ·exact ⟨rfl, rfl, trivial⟩
   ·exact ⟨hIC.b, hC.trans hC11 (fun _ h => h) (fun _ _ h => h)⟩
   ·first | omega | (simp only []; omega) | (simp; omega)
  ·intro hc
   try simp only [decide_eq_true_eq, decide_eq_false_iff_not, Bool.not_eq_true', Bool.not_eq_false', Bool.not_eq_eq_eq_not, Bool.not_true, Bool.not_false, Bool.or_eq_true, Bool.and_eq_true, Bool.or_eq_false_iff] at hc
   have hre : rest = [] := by simpa using hc
   subst hre
   have hsum := lenOf_perm (fs := fs) hperm
   rw [List.append_nil, lenOf_all hX.keys hnd] at hsum
   refine XC.exit ?_
   refine QN.thenE ?_
   refine QN.thenE ?_
   refine QN.hit ?_
   refine QN.next ?_
   refine XC.seq ?_
   refine XC.region ?_
   show XL _ _ _ _ (List.cons _ _) _ _
   refine XL.s rfl ?_
   refine Y.move (by rfl) ?_
   refine XL.s rfl ?_
   refine Y.assign (by rfl) ?_
   refine XL.nil ?_
   refine QN.next ?_
   refine XC.ret ?_
   refine QN.done1 (fn := Tryz.f68) (R := R) (.inl rfl) rfl rfl ?_
   refine hR _ _ ?_
   exact ⟨by rw [hsum], (hE10.chgNew hC (fun x hx => by omega)).chgNew hC11 (fun x hx => by omega)⟩
theorem dapp_old (F : Nat → Prop) (dv : Value) (most : Nat) (fs : FS) (k : List UInt8) (S : Nat → Prop) (u : Value) (l : List UInt8) (w : World) (hD : DiskB 79 82 5 F w dv most fs) (hr : Bs S w u l) (hu : usedP fs ≤ 1000000000) (hm : most ≤ 1000000000) (hl : l.length ≤ 1000000000) (h1 : 1 ≤ k.length ∧ k.length ≤ 24) (h2 : usedP fs + l.length ≤ most) (f : FileS) (hk : lookK k fs = some f) (hfl : f.data.length ≤ 1000000000) :
  Rets Tryz.prog 38 #[dv, strV k, u] w fun v w' => v = .int .i64 0 ∧ Chg F w w' ∧ DiskB 79 82 5 (Grow F w w') w' dv most (upK k ⟨f.data ++ l, f.syn, decide (0 < l.length)⟩ fs) := by
 refine Rets.enter (args := [dv, strV k, u]) (n := 52) Tryz.func38 rfl rfl rfl ?_
 intro R hR
 show XC _ _ _ _ [(0, dv), (1, strV k), (2, u)] _
 obtain ⟨db, r, Fs, es, hdv, hX, hF1, hF2, hF3⟩ := id hD
 subst hdv
 refine XC.seq ?_
 refine XC.region ?_
 show XL _ _ _ _ (List.cons _ _) _ _
 refine XL.s rfl ?_
 refine Y.assign (by rfl) ?_
 refine XL.nil ?_
 refine QN.next ?_
 refine XC.seq ?_
 refine XC.block ?_
 refine XC.seq ?_
 refine XC.region ?_
 show XL _ _ _ _ (List.cons _ _) _ _
 refine XL.s rfl ?_
 refine Y.move (by rfl) ?_
 refine XL.s rfl ?_
 refine Y.call (by rfl) ok67 (dnamed_ok k _ (by omega)) ?_
 rintro v10 w10 ⟨rfl, rfl⟩
 refine XL.s rfl ?_
 refine Y.not (by rfl) ?_
 refine XL.s rfl ?_
 refine Y.assign (by rfl) ?_
 refine XL.nil ?_
 refine QN.next ?_
 refine XC.condF rfl (by rw [decide_eq_true h1]; rfl) ?_
 have hcell := hX.cell
 refine XC.seq ?_
 apply XC.drop [8, 9, 10, 11, 12, 13, 14, 15, 16, 17, 18, 19, 20, 21, 22, 23, 24, 25, 26, 27, 28, 29, 30, 31, 32, 33, 34, 35, 36, 37, 38, 39, 40, 41, 42, 43, 44, 45, 46, 47, 48, 49, 50, 51]
 ·repeat (first | apply DropTo.nil | apply DropTo.skip rfl | apply DropTo.keep rfl)
 refine XC.drawL 9 [[], [0], [], [2], [2, 3], [2, 3, 4], [], [6], [2, 3, 4, 5, 6, 7], [0, 1, 2, 3, 4, 5, 6, 7, 8], [0, 1, 2, 3, 4, 5, 6, 7, 8, 9]] _ (Chg NoB) (Steady.chg NoB) [] [(1, (fun v _ => v = .int .i64 (l.length : Nat))), (5, (fun v _ => v = .int .i64 (most : Nat))), (7, (fun v _ => v = .int .i64 (usedP fs : Nat)))] [0, 1, 2, 3, 4, 5, 6, 7, 8] fol (by kernel_rfl) (by rfl) (by rfl) ⟨(fun _ _ _ _ h => h), (fun _ _ _ _ h => h), (fun _ _ _ _ h => h), trivial⟩ ⟨?_, ?_, ?_, ?_, ?_, ?_, ?_, ?_, ?_, trivial⟩ ?_
 ·intro aD3 wD3 haD3 hCD3 hrD3
  refine ⟨rfl, ?_⟩
  refine XD.start haD3 ?_
  apply XD.stepP rfl
  intro w3
  refine Y.move (by rfl) ?_
  exact ⟨rfl, rfl⟩
 ·intro aD3 wD3 haD3 hCD3 hrD3
  obtain ⟨r0, -⟩ := hrD3
  replace hr := hr.ext hCD3
  replace hcell := hcell.ext hCD3
  replace hD := hD.ext hCD3
  refine ⟨rfl, ?_⟩
  refine XD.start haD3 ?_
  refine XD.pure r0 ?_
  refine Y.move (by rfl) ?_
  refine XD.stepI ?_
  refine Y.len Tryz.underlying39 (by rfl) hr ?_
  exact ⟨Chg.refl _ _, rfl⟩
 ·intro aD3 wD3 haD3 hCD3 hrD3
  refine ⟨rfl, ?_⟩
  refine XD.start haD3 ?_
  apply XD.stepP rfl
  intro w3
  refine Y.move (by rfl) ?_
  exact ⟨rfl, rfl⟩
 ·intro aD3 wD3 haD3 hCD3 hrD3
  obtain ⟨r2, -⟩ := hrD3
  refine ⟨rfl, ?_⟩
  refine XD.start haD3 ?_
  refine XD.pure r2 ?_
  refine Y.move (by rfl) ?_
  apply XD.stepP rfl
  intro w3
  refine Y.nilCheck (by rfl) ?_
  exact ⟨rfl, rfl⟩
 ·intro aD3 wD3 haD3 hCD3 hrD3
  obtain ⟨r2, r3, -⟩ := hrD3
  refine ⟨rfl, ?_⟩
  refine XD.start haD3 ?_
  refine XD.pure r2 ?_
  refine Y.move (by rfl) ?_
  refine XD.pure r3 ?_
  refine Y.nilCheck (by rfl) ?_
  apply XD.stepP rfl
  intro w3
  refine Y.fieldAddr fld79_1 (by rfl) ?_
  exact ⟨rfl, rfl⟩
 ·intro aD3 wD3 haD3 hCD3 hrD3
  obtain ⟨r2, r3, r4, -⟩ := hrD3
  replace hr := hr.ext hCD3
  replace hcell := hcell.ext hCD3
  replace hD := hD.ext hCD3
  refine ⟨rfl, ?_⟩
  refine XD.start haD3 ?_
  refine XD.pure r2 ?_
  refine Y.move (by rfl) ?_
  refine XD.pure r3 ?_
  refine Y.nilCheck (by rfl) ?_
  refine XD.pure r4 ?_
  refine Y.fieldAddr fld79_1 (by rfl) ?_
  refine XD.stepI ?_
  refine Y.load one3 (by rfl) (two1 hcell) ?_
  exact ⟨Chg.refl _ _, rfl⟩
 ·intro aD3 wD3 haD3 hCD3 hrD3
  refine ⟨rfl, ?_⟩
  refine XD.start haD3 ?_
  apply XD.stepP rfl
  intro w3
  refine Y.move (by rfl) ?_
  exact ⟨rfl, rfl⟩
 ·intro aD3 wD3 haD3 hCD3 hrD3
  obtain ⟨r6, -⟩ := hrD3
  replace hr := hr.ext hCD3
  replace hcell := hcell.ext hCD3
  replace hD := hD.ext hCD3
  refine ⟨rfl, ?_⟩
  refine XD.start haD3 ?_
  refine XD.pure r6 ?_
  refine Y.move (by rfl) ?_
  refine XD.stepI ?_
  refine Y.call (by rfl) ok68 (dused_ok _ _ _ _ _ hD hu) ?_
  rintro v20 w20 ⟨rfl, hE20⟩
  exact ⟨hE20, rfl⟩
 ·intro aD3 wD3 haD3 hCD3 hrD3
  obtain ⟨r2, r3, r4, r5, r6, r7, -⟩ := hrD3
  replace hr := hr.ext hCD3
  replace hcell := hcell.ext hCD3
  replace hD := hD.ext hCD3
  refine ⟨rfl, ?_⟩
  refine XD.start haD3 ?_
  refine XD.pure r2 ?_
  refine Y.move (by rfl) ?_
  refine XD.pure r3 ?_
  refine Y.nilCheck (by rfl) ?_
  refine XD.pure r4 ?_
  refine Y.fieldAddr fld79_1 (by rfl) ?_
  refine XD.imp r5 ?_
  rintro _ rfl
  refine XD.pure r6 ?_
  refine Y.move (by rfl) ?_
  refine XD.imp r7 ?_
  rintro _ rfl
  apply XD.stepP rfl
  intro w3
  refine Y.sub (by rfl) (by rfl) (wrap64 (by omega) (by omega)) ?_
  exact ⟨rfl, rfl⟩
 intro aD3 wD3 haD3 hCD3 hrD3
 obtain ⟨r0, r1, r2, r3, r4, r5, r6, r7, r8, -⟩ := hrD3
 replace hr := hr.ext hCD3
 replace hcell := hcell.ext hCD3
 replace hD := hD.ext hCD3
 refine XD.start haD3 ?_
 refine XD.pure r0 ?_
 refine Y.move (by rfl) ?_
 refine XD.imp r1 ?_
 rintro _ rfl
 refine XD.pure r2 ?_
 refine Y.move (by rfl) ?_
 refine XD.pure r3 ?_
 refine Y.nilCheck (by rfl) ?_
 refine XD.pure r4 ?_
 refine Y.fieldAddr fld79_1 (by rfl) ?_
 refine XD.imp r5 ?_
 rintro _ rfl
 refine XD.pure r6 ?_
 refine Y.move (by rfl) ?_
 refine XD.imp r7 ?_
 rintro _ rfl
 refine XD.pure r8 ?_
 refine Y.sub (by rfl) (by rfl) (wrap64 (by omega) (by omega)) ?_
 refine XD.fin haD3 ?_
 replace hX := hX.same hCD3 (fun h => h) (fun h => h) (fun _ _ _ _ h => h)
 have hkm := lookK_mem hk
 obtain ⟨fb, hlk, hfile⟩ := hX.yes hk
 obtain ⟨sl, Fd, hfb, hA, hO, hsy, hi1, hi2, hi3⟩ := hfile
 show XL _ _ _ _ (List.cons _ _) _ _
 refine XL.s rfl ?_
 refine Y.gtr (by rfl) (by rfl) ?_
 refine XL.s rfl ?_
 refine Y.assign (by rfl) ?_
 refine XL.nil ?_
 refine QN.next ?_
 refine XC.condF rfl ya ?_
 refine XC.skip ?_
 refine QN.blk ?_
 refine QN.next ?_
 refine XC.seq ?_
 refine XC.seq ?_
 refine XC.region ?_
 show XL _ _ _ _ (List.cons _ _) _ _
 refine XL.s rfl ?_
 refine Y.move (by rfl) ?_
 refine XL.s rfl ?_
 refine Y.nilCheck (by rfl) ?_
 refine XL.s rfl ?_
 refine Y.fieldAddr fld79_0 (by rfl) ?_
 refine XL.s rfl ?_
 refine Y.load one77 (by rfl) (two0 hX.cell) ?_
 refine XL.s rfl ?_
 refine Y.move (by rfl) ?_
 refine XL.s rfl ?_
 refine Y.lookupS mt77 (by rfl) (by rfl) hX.map hlk ?_
 refine XL.s rfl ?_
 refine Y.eqlP Tryz.underlying76 (by rfl) (by rfl) ?_
 refine XL.nil ?_
 refine QN.next ?_
 refine XC.condF rfl rfl ?_
 refine XC.skip ?_
 refine QN.next ?_
 refine XC.seq ?_
 refine XC.region ?_
 show XL _ _ _ _ (List.cons _ _) _ _
 refine XL.s rfl ?_
 refine Y.move (by rfl) ?_
 refine XL.s rfl ?_
 refine Y.nilCheck (by rfl) ?_
 refine XL.s rfl ?_
 refine Y.fieldAddr fld79_0 (by rfl) ?_
 refine XL.s rfl ?_
 refine Y.load one77 (by rfl) (two0 hX.cell) ?_
 refine XL.s rfl ?_
 refine Y.move (by rfl) ?_
 refine XL.s rfl ?_
 refine Y.lookupS mt77 (by rfl) (by rfl) hX.map hlk ?_
 refine XL.s rfl ?_
 refine Y.assign (by rfl) ?_
 refine XL.nil ?_
 refine QN.next ?_
 refine XC.seq ?_
 refine XC.region ?_
 show XL _ _ _ _ (List.cons _ _) _ _
 refine XL.s rfl ?_
 refine Y.move (by rfl) ?_
 refine XL.s rfl ?_
 refine Y.move (by rfl) ?_
 refine XL.s rfl ?_
 refine Y.nilCheck (by rfl) ?_
 refine XL.s rfl ?_
 refine Y.fieldAddr fld82_0 (by rfl) ?_
 refine XL.s rfl ?_
 refine Y.load one39 (by rfl) (two0 hfb) ?_
 refine XL.s rfl ?_
 refine Y.move (by rfl) ?_
 refine XL.s rfl ?_
 refine Y.appendG st39 Tryz.underlying39 (by rfl) (by rfl) hA hr (by simp [bytesV]) (by omega) (by omega) ?_
 intro v49 w49 hA49 hO49 hC49
 have hz49 := hC49.size
 refine XL.s rfl ?_
 refine Y.nilCheck (by rfl) ?_
 refine XL.s rfl ?_
 refine Y.fieldAddr fld82_0 (by rfl) ?_
 refine XL.o ?_
 refine Y.storeB one39 (by rfl) (by rfl) hA49.row.oneC (hfb.chg hC49 hi2) (by simp) (nofr0 _) ?_
 intro w2 hb2 hC2 hz2 _
 have hfbl := hfb.lt
 have hg : ∀ b, b < w49.heap.size → Grow Fd wD3 w49 b → ¬ b = fb := fun b _ h e => h.elim (fun h => hi2 (e ▸ h)) (fun h => by omega)
 have hCC : Chg (fun b => Fd b ∨ b = fb) wD3 w2 := hC49.trans hC2 (fun _ h => .inl h) (fun _ _ h => .inr h)
 have hX2 := hX.setFile (Fk := fun b => Fs k b ∨ btw wD3.heap.size w2.heap.size b) (f' := ⟨f.data ++ l, f.syn, decide (0 < l.length)⟩) hCC (fun b h => h.elim (hi3 b) (fun h => by rw [h]; exact hi1)) hlk ⟨v49, Grow Fd wD3 w49, hb2, by rw [List.length_append, bytesV_append]; exact hA49.chg hC2 hg, fun ho => by rw [List.length_append, bytesV_append]; exact (hO49 (by simpa using ho)).chg hC2 hg, by simp only [List.length_append]; omega, .inl hi1, fun h => hg fb (by omega) h rfl, fun b h => h.elim (fun h => .inl (hi3 b h)) (fun h => .inr ⟨h.1, by have := h.2; omega⟩)⟩ (fun b h => h.imp_right (fun h => h.1)) (fun b h => h.elim (fun h => by have := hX.bnd k hkm b h; have := hCC.size; omega) (fun h => h.2))
 have hzD := hCD3.size
 refine XL.nil ?_
 refine QN.next ?_
 refine XC.seq ?_
 refine XC.region ?_
 show XL _ _ _ _ (List.cons _ _) _ _
 refine XL.s rfl ?_
 refine Y.assign (by rfl) ?_
 refine XL.nil ?_
 refine QN.next ?_
 refine XC.ret ?_
 refine QN.done1 (fn := Tryz.f38) (R := R) (.inl rfl) rfl rfl ?_
 refine hR _ _ ?_
 exact ⟨rfl, Ext.then hCD3 (hCC.mono fun b _ h => h.elim (fun h => hF3 k hkm b (hi3 b h)) (fun h => by rw [h]; exact hF3 k hkm fb hi1)), db, r, _, es, rfl, hX2, .inl hF1, .inl hF2, fun x hx b hb => by rw [keys_upK, if_pos hkm] at hx; exact (if e : x = k then (by rw [if_pos e] at hb; exact hb.elim (fun h => .inl (hF3 k hkm b h)) (fun h => .inr ⟨by have := h.1; omega, h.2⟩)) else .inl (hF3 x hx b (by rwa [if_neg e] at hb)))⟩
theorem dapp_new (F : Nat → Prop) (dv : Value) (most : Nat) (fs : FS) (k : List UInt8) (S : Nat → Prop) (u : Value) (l : List UInt8) (w : World) (hD : DiskB 79 82 5 F w dv most fs) (hr : Bs S w u l) (hu : usedP fs ≤ 1000000000) (hm : most ≤ 1000000000) (hl : l.length ≤ 1000000000) (h1 : 1 ≤ k.length ∧ k.length ≤ 24) (h2 : usedP fs + l.length ≤ most) (hk : lookK k fs = none) (hsd : ∀ b, S b → ¬ F b) :
  Rets Tryz.prog 38 #[dv, strV k, u] w fun v w' => v = .int .i64 0 ∧ Chg F w w' ∧ DiskB 79 82 5 (Grow F w w') w' dv most (upK k ⟨l, 0, decide (0 < l.length)⟩ fs) := by
 refine Rets.enter (args := [dv, strV k, u]) (n := 52) Tryz.func38 rfl rfl rfl ?_
 intro R hR
 show XC _ _ _ _ [(0, dv), (1, strV k), (2, u)] _
 obtain ⟨db, r, Fs, es, hdv, hX, hF1, hF2, hF3⟩ := id hD
 subst hdv
 refine XC.seq ?_
 refine XC.region ?_
 show XL _ _ _ _ (List.cons _ _) _ _
 refine XL.s rfl ?_
 refine Y.assign (by rfl) ?_
 refine XL.nil ?_
 refine QN.next ?_
 refine XC.seq ?_
 refine XC.block ?_
 refine XC.seq ?_
 refine XC.region ?_
 show XL _ _ _ _ (List.cons _ _) _ _
 refine XL.s rfl ?_
 refine Y.move (by rfl) ?_
 refine XL.s rfl ?_
 refine Y.call (by rfl) ok67 (dnamed_ok k _ (by omega)) ?_
 rintro v10 w10 ⟨rfl, rfl⟩
 refine XL.s rfl ?_
 refine Y.not (by rfl) ?_
 refine XL.s rfl ?_
 refine Y.assign (by rfl) ?_
 refine XL.nil ?_
 refine QN.next ?_
 refine XC.condF rfl (by rw [decide_eq_true h1]; rfl) ?_
 have hcell := hX.cell
 refine XC.seq ?_
 apply XC.drop [8, 9, 10, 11, 12, 13, 14, 15, 16, 17, 18, 19, 20, 21, 22, 23, 24, 25, 26, 27, 28, 29, 30, 31, 32, 33, 34, 35, 36, 37, 38, 39, 40, 41, 42, 43, 44, 45, 46, 47, 48, 49, 50, 51]
 ·repeat (first | apply DropTo.nil | apply DropTo.skip rfl | apply DropTo.keep rfl)
 refine XC.drawL 9 [[], [0], [], [2], [2, 3], [2, 3, 4], [], [6], [2, 3, 4, 5, 6, 7], [0, 1, 2, 3, 4, 5, 6, 7, 8], [0, 1, 2, 3, 4, 5, 6, 7, 8, 9]] _ (Chg NoB) (Steady.chg NoB) [] [(1, (fun v _ => v = .int .i64 (l.length : Nat))), (5, (fun v _ => v = .int .i64 (most : Nat))), (7, (fun v _ => v = .int .i64 (usedP fs : Nat)))] [0, 1, 2, 3, 4, 5, 6, 7, 8] fol (by kernel_rfl) (by rfl) (by rfl) ⟨(fun _ _ _ _ h => h), (fun _ _ _ _ h => h), (fun _ _ _ _ h => h), trivial⟩ ⟨?_, ?_, ?_, ?_, ?_, ?_, ?_, ?_, ?_, trivial⟩ ?_
 ·intro aD3 wD3 haD3 hCD3 hrD3
  refine ⟨rfl, ?_⟩
  refine XD.start haD3 ?_
  apply XD.stepP rfl
  intro w3
  refine Y.move (by rfl) ?_
  exact ⟨rfl, rfl⟩
 ·intro aD3 wD3 haD3 hCD3 hrD3
  obtain ⟨r0, -⟩ := hrD3
  replace hr := hr.ext hCD3
  replace hcell := hcell.ext hCD3
  replace hD := hD.ext hCD3
  refine ⟨rfl, ?_⟩
  refine XD.start haD3 ?_
  refine XD.pure r0 ?_
  refine Y.move (by rfl) ?_
  refine XD.stepI ?_
  refine Y.len Tryz.underlying39 (by rfl) hr ?_
  exact ⟨Chg.refl _ _, rfl⟩
 ·intro aD3 wD3 haD3 hCD3 hrD3
  refine ⟨rfl, ?_⟩
  refine XD.start haD3 ?_
  apply XD.stepP rfl
  intro w3
  refine Y.move (by rfl) ?_
  exact ⟨rfl, rfl⟩
 ·intro aD3 wD3 haD3 hCD3 hrD3
  obtain ⟨r2, -⟩ := hrD3
  refine ⟨rfl, ?_⟩
  refine XD.start haD3 ?_
  refine XD.pure r2 ?_
  refine Y.move (by rfl) ?_
  apply XD.stepP rfl
  intro w3
  refine Y.nilCheck (by rfl) ?_
  exact ⟨rfl, rfl⟩
 ·intro aD3 wD3 haD3 hCD3 hrD3
  obtain ⟨r2, r3, -⟩ := hrD3
  refine ⟨rfl, ?_⟩
  refine XD.start haD3 ?_
  refine XD.pure r2 ?_
  refine Y.move (by rfl) ?_
  refine XD.pure r3 ?_
  refine Y.nilCheck (by rfl) ?_
  apply XD.stepP rfl
  intro w3
  refine Y.fieldAddr fld79_1 (by rfl) ?_
  exact ⟨rfl, rfl⟩
 ·intro aD3 wD3 haD3 hCD3 hrD3
  obtain ⟨r2, r3, r4, -⟩ := hrD3
  replace hr := hr.ext hCD3
  replace hcell := hcell.ext hCD3
  replace hD := hD.ext hCD3
  refine ⟨rfl, ?_⟩
  refine XD.start haD3 ?_
  refine XD.pure r2 ?_
  refine Y.move (by rfl) ?_
  refine XD.pure r3 ?_
  refine Y.nilCheck (by rfl) ?_
  refine XD.pure r4 ?_
  refine Y.fieldAddr fld79_1 (by rfl) ?_
  refine XD.stepI ?_
  refine Y.load one3 (by rfl) (two1 hcell) ?_
  exact ⟨Chg.refl _ _, rfl⟩
 ·intro aD3 wD3 haD3 hCD3 hrD3
  refine ⟨rfl, ?_⟩
  refine XD.start haD3 ?_
  apply XD.stepP rfl
  intro w3
  refine Y.move (by rfl) ?_
  exact ⟨rfl, rfl⟩
 ·intro aD3 wD3 haD3 hCD3 hrD3
  obtain ⟨r6, -⟩ := hrD3
  replace hr := hr.ext hCD3
  replace hcell := hcell.ext hCD3
  replace hD := hD.ext hCD3
  refine ⟨rfl, ?_⟩
  refine XD.start haD3 ?_
  refine XD.pure r6 ?_
  refine Y.move (by rfl) ?_
  refine XD.stepI ?_
  refine Y.call (by rfl) ok68 (dused_ok _ _ _ _ _ hD hu) ?_
  rintro v20 w20 ⟨rfl, hE20⟩
  exact ⟨hE20, rfl⟩
 ·intro aD3 wD3 haD3 hCD3 hrD3
  obtain ⟨r2, r3, r4, r5, r6, r7, -⟩ := hrD3
  replace hr := hr.ext hCD3
  replace hcell := hcell.ext hCD3
  replace hD := hD.ext hCD3
  refine ⟨rfl, ?_⟩
  refine XD.start haD3 ?_
  refine XD.pure r2 ?_
  refine Y.move (by rfl) ?_
  refine XD.pure r3 ?_
  refine Y.nilCheck (by rfl) ?_
  refine XD.pure r4 ?_
  refine Y.fieldAddr fld79_1 (by rfl) ?_
  refine XD.imp r5 ?_
  rintro _ rfl
  refine XD.pure r6 ?_
  refine Y.move (by rfl) ?_
  refine XD.imp r7 ?_
  rintro _ rfl
  apply XD.stepP rfl
  intro w3
  refine Y.sub (by rfl) (by rfl) (wrap64 (by omega) (by omega)) ?_
  exact ⟨rfl, rfl⟩
 intro aD3 wD3 haD3 hCD3 hrD3
 obtain ⟨r0, r1, r2, r3, r4, r5, r6, r7, r8, -⟩ := hrD3
 replace hr := hr.ext hCD3
 replace hcell := hcell.ext hCD3
 replace hD := hD.ext hCD3
 refine XD.start haD3 ?_
 refine XD.pure r0 ?_
 refine Y.move (by rfl) ?_
 refine XD.imp r1 ?_
 rintro _ rfl
 refine XD.pure r2 ?_
 refine Y.move (by rfl) ?_
 refine XD.pure r3 ?_
 refine Y.nilCheck (by rfl) ?_
 refine XD.pure r4 ?_
 refine Y.fieldAddr fld79_1 (by rfl) ?_
 refine XD.imp r5 ?_
 rintro _ rfl
 refine XD.pure r6 ?_
 refine Y.move (by rfl) ?_
 refine XD.imp r7 ?_
 rintro _ rfl
 refine XD.pure r8 ?_
 refine Y.sub (by rfl) (by rfl) (wrap64 (by omega) (by omega)) ?_
 refine XD.fin haD3 ?_
 replace hX := hX.same hCD3 (fun h => h) (fun h => h) (fun _ _ _ _ h => h)
 have hlk0 := hX.no hk
 show XL _ _ _ _ (List.cons _ _) _ _
 refine XL.s rfl ?_
 refine Y.gtr (by rfl) (by rfl) ?_
 refine XL.s rfl ?_
 refine Y.assign (by rfl) ?_
 refine XL.nil ?_
 refine QN.next ?_
 refine XC.condF rfl ya ?_
 refine XC.skip ?_
 refine QN.blk ?_
 refine QN.next ?_
 refine XC.seq ?_
 refine XC.seq ?_
 refine XC.region ?_
 show XL _ _ _ _ (List.cons _ _) _ _
 refine XL.s rfl ?_
 refine Y.move (by rfl) ?_
 refine XL.s rfl ?_
 refine Y.nilCheck (by rfl) ?_
 refine XL.s rfl ?_
 refine Y.fieldAddr fld79_0 (by rfl) ?_
 refine XL.s rfl ?_
 refine Y.load one77 (by rfl) (two0 hX.cell) ?_
 refine XL.s rfl ?_
 refine Y.move (by rfl) ?_
 refine XL.s rfl ?_
 refine Y.lookupN mt77 (by rfl) (by rfl) hX.map hlk0 ?_
 refine XL.s rfl ?_
 refine Y.eqlP Tryz.underlying76 (by rfl) (by rfl) ?_
 refine XL.nil ?_
 refine QN.next ?_
 refine XC.condT rfl rfl ?_
 refine XC.region ?_
 show XL _ _ _ _ (List.cons _ _) _ _
 refine XL.s rfl ?_
 refine Y.move (by rfl) ?_
 refine XL.s rfl ?_
 refine Y.nilCheck (by rfl) ?_
 refine XL.s rfl ?_
 refine Y.fieldAddr fld79_0 (by rfl) ?_
 refine XL.s rfl ?_
 refine Y.load one77 (by rfl) (two0 hX.cell) ?_
 refine XL.s rfl ?_
 refine Y.move (by rfl) ?_
 refine XL.s rfl ?_
 refine Y.build (by rfl) (v := .agg #[.slice none 0 0, .int .i64 0]) (fun _ => by kernel_rfl) ?_
 refine XL.s rfl ?_
 refine Y.box (by rfl) ?_
 intro b36 w36 hb36 hz36 hE36
 have hnb := two0' hb36
 have hX1 := hX.same hE36 (fun h => h) (fun h => h) (fun _ _ _ _ h => h)
 replace hr := hr.ext hE36
 refine XL.o ?_
 refine Y.mapUpdate mt77 (by rfl) (by rfl) (by rfl) hX1.map ?_
 intro w37 hm37 hC37 hz37
 have hrl : r < wD3.heap.size := by obtain ⟨_, _, hb, _⟩ := hX.map; exact hb.lt
 have hdl := hX.cell.lt
 have hX2 := hX1.put (Fk := fun b => b = b36) (f := ⟨[], 0, false⟩) hC37 hm37 ⟨.slice none 0 0, NoB, hnb, Apd.nil _ _ _ _, (fun h : false = true => by cases h), Nat.le_refl _, rfl, (fun h : NoB b36 => h), (fun b (h : NoB b) => False.elim h)⟩ (by omega) (by omega) (fun x hx _ b hb h => by have := hX.bnd x hx b h; omega) (fun b hb => by omega)
 replace hr := hr.chg hC37 (fun b _ hb e => hsd b hb (by rw [show b = r from e]; exact hF2))
 obtain ⟨fb, hlk, hfile⟩ := hX2.yes (k := k) (f := ⟨[], 0, false⟩) (by rw [lookK_upK, if_pos rfl])
 have hkm : k ∈ (upK k (⟨[], 0, false⟩ : FileS) fs).map (·.1) := lookK_mem (v := ⟨[], 0, false⟩) (by rw [lookK_upK, if_pos rfl])
 obtain ⟨sl, Fd, hfb, hA, hO, hsy, hi1, hi2, hi3⟩ := hfile
 refine XL.nil ?_
 refine QN.next ?_
 refine XC.seq ?_
 refine XC.region ?_
 show XL _ _ _ _ (List.cons _ _) _ _
 refine XL.s rfl ?_
 refine Y.move (by rfl) ?_
 refine XL.s rfl ?_
 refine Y.nilCheck (by rfl) ?_
 refine XL.s rfl ?_
 refine Y.fieldAddr fld79_0 (by rfl) ?_
 refine XL.s rfl ?_
 refine Y.load one77 (by rfl) (two0 hX2.cell) ?_
 refine XL.s rfl ?_
 refine Y.move (by rfl) ?_
 refine XL.s rfl ?_
 refine Y.lookupS mt77 (by rfl) (by rfl) hX2.map hlk ?_
 refine XL.s rfl ?_
 refine Y.assign (by rfl) ?_
 refine XL.nil ?_
 refine QN.next ?_
 refine XC.seq ?_
 refine XC.region ?_
 show XL _ _ _ _ (List.cons _ _) _ _
 refine XL.s rfl ?_
 refine Y.move (by rfl) ?_
 refine XL.s rfl ?_
 refine Y.move (by rfl) ?_
 refine XL.s rfl ?_
 refine Y.nilCheck (by rfl) ?_
 refine XL.s rfl ?_
 refine Y.fieldAddr fld82_0 (by rfl) ?_
 refine XL.s rfl ?_
 refine Y.load one39 (by rfl) (two0 hfb) ?_
 refine XL.s rfl ?_
 refine Y.move (by rfl) ?_
 refine XL.s rfl ?_
 refine Y.appendG st39 Tryz.underlying39 (by rfl) (by rfl) hA hr (by simp [bytesV]) (by simp; omega) (by simp; omega) ?_
 intro v49 w49 hA49 hO49 hC49
 have hz49 := hC49.size
 refine XL.s rfl ?_
 refine Y.nilCheck (by rfl) ?_
 refine XL.s rfl ?_
 refine Y.fieldAddr fld82_0 (by rfl) ?_
 refine XL.o ?_
 refine Y.storeB one39 (by rfl) (by rfl) hA49.row.oneC (hfb.chg hC49 hi2) (by simp) (nofr0 _) ?_
 intro w2 hb2 hC2 hz2 _
 have hfbl := hfb.lt
 have hg : ∀ b, b < w49.heap.size → Grow Fd w37 w49 b → ¬ b = fb := fun b _ h e => h.elim (fun h => hi2 (e ▸ h)) (fun h => by omega)
 have hCC : Chg (fun b => Fd b ∨ b = fb) w37 w2 := hC49.trans hC2 (fun _ h => .inl h) (fun _ _ h => .inr h)
 have hX3 := hX2.setFile (Fk := fun b => b = b36 ∨ btw w37.heap.size w2.heap.size b) (f' := ⟨l, 0, decide (0 < l.length)⟩) hCC (fun b h => h.elim (hi3 b) (fun h => by rw [h]; exact hi1)) hlk ⟨v49, Grow Fd w37 w49, hb2, (by have h := hA49.chg hC2 hg; simpa [bytesV] using h), fun ho => (by have h := (hO49 (by simpa using ho)).chg hC2 hg; simpa [bytesV] using h), Nat.zero_le _, .inl (by simpa using hi1), fun h => hg fb (by omega) h rfl, fun b h => h.elim (fun h => .inl (by simpa using hi3 b h)) (fun h => .inr ⟨h.1, by have := h.2; omega⟩)⟩ (fun b h => h.elim (fun h => .inl (by simpa using h)) (fun h => .inr h.1)) (fun b h => h.elim (fun h => by have := hCC.size; omega) (fun h => h.2))
 rw [upK_upK] at hX3
 have hzD := hCD3.size
 have hzC := hCC.size
 have hFd : ∀ b, Fd b → b = b36 := fun b h => by simpa using hi3 b h
 have hfe : fb = b36 := by simpa using hi1
 have hE := Ext.trans hCD3 hE36
 refine XL.nil ?_
 refine QN.next ?_
 refine XC.seq ?_
 refine XC.region ?_
 show XL _ _ _ _ (List.cons _ _) _ _
 refine XL.s rfl ?_
 refine Y.assign (by rfl) ?_
 refine XL.nil ?_
 refine QN.next ?_
 refine XC.ret ?_
 refine QN.done1 (fn := Tryz.f38) (R := R) (.inl rfl) rfl rfl ?_
 refine hR _ _ ?_
 exact ⟨rfl, ((Ext.then hE (hC37.mono (S' := F) fun b _ h => by rw [show b = r from h]; exact hF2)).trans (S'' := F) hCC (fun _ h => h) (fun b hbl h => by have : b = b36 := h.elim (hFd b) (fun h => by omega); omega)), db, r, _, _, rfl, hX3, .inl hF1, .inl hF2, fun x hx b hb => by rw [keys_upK] at hx; exact (if e : x = k then (by rw [if_pos e] at hb; exact .inr (hb.elim (fun h => ⟨by omega, by omega⟩) (fun h => ⟨by have := h.1; omega, h.2⟩))) else .inl (hF3 x (by split at hx; exact hx; exact (List.mem_append.1 hx).elim id (fun h => absurd (by simpa using h) e)) b (by rw [if_neg e] at hb; rwa [if_neg e] at hb)))⟩
theorem dturn_yes (F : Nat → Prop) (dv : Value) (most : Nat) (fs : FS) (k : List UInt8) (w : World) (hD : DiskB 79 82 5 F w dv most fs) (at_ : Nat) (x : UInt8) (f : FileS) (hk : lookK k fs = some f) (ho : f.own = true) (ha : at_ < f.data.length) :
  Rets Tryz.prog 40 #[dv, strV k, .int .i64 at_, byteV x] w fun v w' => v = .int .i64 0 ∧ Chg F w w' ∧ DiskB 79 82 5 F w' dv most (upK k ⟨f.data.set at_ (f.data.getD at_ 0 ^^^ x), f.syn, true⟩ fs) := by
 refine Rets.enter (args := [dv, strV k, .int .i64 at_, byteV x]) (n := 41) Tryz.func40 rfl rfl rfl ?_
 intro R hR
 show XC _ _ _ _ [(0, dv), (1, strV k), (2, .int .i64 at_), (3, byteV x)] _
 obtain ⟨db, r, Fs, es, rfl, hX, hF1, hF2, hF3⟩ := hD
 obtain ⟨fb, hlk, hfile⟩ := hX.yes hk
 obtain ⟨sl, Fd, hfb, hA, hO, hsy, hi1, hi2, hi3⟩ := hfile
 refine XC.seq ?_
 refine XC.region ?_
 show XL _ _ _ _ (List.cons _ _) _ _
 refine XL.s rfl ?_
 refine Y.assign (by rfl) ?_
 refine XL.nil ?_
 refine QN.next ?_
 refine XC.seq ?_
 refine XC.region ?_
 show XL _ _ _ _ (List.cons _ _) _ _
 refine XL.s rfl ?_
 refine Y.move (by rfl) ?_
 refine XL.s rfl ?_
 refine Y.nilCheck (by rfl) ?_
 refine XL.s rfl ?_
 refine Y.fieldAddr fld79_0 (by rfl) ?_
 refine XL.s rfl ?_
 refine Y.load one77 (by rfl) (two0 hX.cell) ?_
 refine XL.s rfl ?_
 refine Y.move (by rfl) ?_
 refine XL.s rfl ?_
 refine Y.lookupS mt77 (by rfl) (by rfl) hX.map hlk ?_
 refine XL.s rfl ?_
 refine Y.assign (by rfl) ?_
 refine XL.nil ?_
 refine QN.next ?_
 refine XC.seq ?_
 refine XC.block ?_
 refine XC.seq ?_
 refine XC.region ?_
 show XL _ _ _ _ (List.cons _ _) _ _
 refine XL.s rfl ?_
 refine Y.move (by rfl) ?_
 refine XL.s rfl ?_
 refine Y.eqlP Tryz.underlying76 (by rfl) (by rfl) ?_
 refine XL.s rfl ?_
 refine Y.assign (by rfl) ?_
 refine XL.nil ?_
 refine QN.next ?_
 refine XC.condF rfl rfl ?_
 have hkm := lookK_mem hk
 have hOw := hO ho
 refine XC.seq ?_
 refine XC.region ?_
 show XL _ _ _ _ (List.cons _ _) _ _
 refine XL.s rfl ?_
 refine Y.move (by rfl) ?_
 refine XL.s rfl ?_
 refine Y.lss (by rfl) (by rfl) ?_
 refine XL.s rfl ?_
 refine Y.move (by rfl) ?_
 refine XL.gt rfl rfl ya rfl ?_
 refine Y.move (by rfl) ?_
 refine XL.gt rfl rfl ya rfl ?_
 refine Y.move (by rfl) ?_
 refine XL.gt rfl rfl ya rfl ?_
 refine Y.nilCheck (by rfl) ?_
 refine XL.gt rfl rfl ya rfl ?_
 refine Y.fieldAddr fld82_0 (by rfl) ?_
 refine XL.gt rfl rfl ya rfl ?_
 refine Y.load one39 (by rfl) (two0 hfb) ?_
 refine XL.gt rfl rfl ya rfl ?_
 refine Y.len Tryz.underlying39 (by rfl) hA.row ?_
 refine XL.gt rfl rfl ya rfl ?_
 refine Y.geq (by rfl) (by rfl) ?_
 refine XL.s rfl ?_
 refine Y.pickF (by rfl) ya (by rfl) ?_
 refine XL.s rfl ?_
 refine Y.assign (by rfl) ?_
 refine XL.nil ?_
 refine QN.next ?_
 refine XC.condF rfl ya ?_
 refine XC.skip ?_
 refine QN.blk ?_
 refine QN.next ?_
 refine XC.seq ?_
 refine XC.region ?_
 show XL _ _ _ _ (List.cons _ _) _ _
 refine XL.s rfl ?_
 refine Y.move (by rfl) ?_
 refine XL.s rfl ?_
 refine Y.nilCheck (by rfl) ?_
 refine XL.s rfl ?_
 refine Y.fieldAddr fld82_0 (by rfl) ?_
 refine XL.s rfl ?_
 refine Y.load one39 (by rfl) (two0 hfb) ?_
 refine XL.s rfl ?_
 refine Y.move (by rfl) ?_
 refine XL.s rfl ?_
 refine Y.indexOn st39 (by rfl) (by rfl) hOw ha ?_
 intro b36 hb36 hs36
 have hgd : f.data.getD at_ 0 = f.data[at_] := by simp [List.getD_eq_getElem?_getD, ha]
 refine XL.s rfl ?_
 refine Y.load one5 (by rfl) (hOw.cell hb36 (x := byteV f.data[at_]) (by simp [bytesV, ha])) ?_
 refine XL.s rfl ?_
 refine Y.move (by rfl) ?_
 refine XL.s rfl ?_
 refine Y.xor (by rfl) (by rfl) (xor8 f.data[at_] x) ?_
 refine XL.s rfl ?_
 refine Y.indexOn st39 (by rfl) (by rfl) hOw ha ?_
 intro b40 hb40 hs40
 refine XL.o ?_
 refine Y.storeO one5 (by rfl) (by rfl) rfl hOw hb40 ha ?_
 intro w2 hO2 hC2 hz2
 have hO2 : Own Fd w2 5 1 sl f.data.length ((bytesV f.data).set at_ (byteV (f.data[at_] ^^^ x))) := hO2
 rw [bytesV_set, ← hgd] at hO2
 have hO3 := hO2.cast (show f.data.length = (f.data.set at_ (f.data.getD at_ 0 ^^^ x)).length by simp) rfl
 have hS : ∀ b, b = b40 → Fs k b := fun b h => by rw [h]; exact hi3 _ hs40
 have hX2 := hX.setFile (Fk := Fs k) (f' := ⟨f.data.set at_ (f.data.getD at_ 0 ^^^ x), f.syn, true⟩) hC2 hS hlk ⟨sl, Fd, hfb.chg hC2 (fun e => hi2 (by rw [show fb = b40 from e]; exact hs40)), hO3.apd, fun _ => hO3, by simp only [List.length_set]; exact hsy, hi1, hi2, hi3⟩ (fun b h => .inl h) (fun b h => by rw [hz2]; exact hX.bnd k hkm b h)
 refine XL.nil ?_
 refine QN.next ?_
 refine XC.seq ?_
 refine XC.region ?_
 show XL _ _ _ _ (List.cons _ _) _ _
 refine XL.s rfl ?_
 refine Y.assign (by rfl) ?_
 refine XL.nil ?_
 refine QN.next ?_
 refine XC.ret ?_
 refine QN.done1 (fn := Tryz.f40) (R := R) (.inl rfl) rfl rfl ?_
 refine hR _ _ ?_
 exact ⟨rfl, hC2.mono fun b _ h => hF3 k hkm b (hS b h), db, r, _, es, rfl, hX2, hF1, hF2, fun x hx b hb => by rw [keys_upK, if_pos hkm] at hx; exact (if e : x = k then hF3 k hkm b (by rwa [if_pos e] at hb) else hF3 x hx b (by rwa [if_neg e] at hb))⟩
theorem dtrim_yes (F : Nat → Prop) (dv : Value) (most : Nat) (fs : FS) (k : List UInt8) (w : World) (hD : DiskB 79 82 5 F w dv most fs) (n : Nat) (f : FileS) (hk : lookK k fs = some f) (hn : n ≤ f.data.length) :
  Rets Tryz.prog 41 #[dv, strV k, .int .i64 n] w fun v w' => v = .int .i64 0 ∧ Chg F w w' ∧ DiskB 79 82 5 F w' dv most (upK k ⟨f.data.take n, min f.syn n, false⟩ fs) := by
 refine Rets.enter (args := [dv, strV k, .int .i64 n]) (n := 48) Tryz.func41 rfl rfl rfl ?_
 intro R hR
 show XC _ _ _ _ [(0, dv), (1, strV k), (2, .int .i64 n)] _
 obtain ⟨db, r, Fs, es, rfl, hX, hF1, hF2, hF3⟩ := hD
 obtain ⟨fb, hlk, hfile⟩ := hX.yes hk
 obtain ⟨sl, Fd, hfb, hA, hO, hsy, hi1, hi2, hi3⟩ := hfile
 refine XC.seq ?_
 refine XC.region ?_
 show XL _ _ _ _ (List.cons _ _) _ _
 refine XL.s rfl ?_
 refine Y.assign (by rfl) ?_
 refine XL.nil ?_
 refine QN.next ?_
 refine XC.seq ?_
 refine XC.region ?_
 show XL _ _ _ _ (List.cons _ _) _ _
 refine XL.s rfl ?_
 refine Y.move (by rfl) ?_
 refine XL.s rfl ?_
 refine Y.nilCheck (by rfl) ?_
 refine XL.s rfl ?_
 refine Y.fieldAddr fld79_0 (by rfl) ?_
 refine XL.s rfl ?_
 refine Y.load one77 (by rfl) (two0 hX.cell) ?_
 refine XL.s rfl ?_
 refine Y.move (by rfl) ?_
 refine XL.s rfl ?_
 refine Y.lookupS mt77 (by rfl) (by rfl) hX.map hlk ?_
 refine XL.s rfl ?_
 refine Y.assign (by rfl) ?_
 refine XL.nil ?_
 refine QN.next ?_
 refine XC.seq ?_
 refine XC.block ?_
 refine XC.seq ?_
 refine XC.region ?_
 show XL _ _ _ _ (List.cons _ _) _ _
 refine XL.s rfl ?_
 refine Y.move (by rfl) ?_
 refine XL.s rfl ?_
 refine Y.eqlP Tryz.underlying76 (by rfl) (by rfl) ?_
 refine XL.s rfl ?_
 refine Y.assign (by rfl) ?_
 refine XL.nil ?_
 refine QN.next ?_
 refine XC.condF rfl rfl ?_
 have hkm := lookK_mem hk
 have hsl := hA.row.oneC
 refine XC.seq ?_
 refine XC.region ?_
 show XL _ _ _ _ (List.cons _ _) _ _
 refine XL.s rfl ?_
 refine Y.move (by rfl) ?_
 refine XL.s rfl ?_
 refine Y.lss (by rfl) (by rfl) ?_
 refine XL.s rfl ?_
 refine Y.move (by rfl) ?_
 refine XL.gt rfl rfl ya rfl ?_
 refine Y.move (by rfl) ?_
 refine XL.gt rfl rfl ya rfl ?_
 refine Y.move (by rfl) ?_
 refine XL.gt rfl rfl ya rfl ?_
 refine Y.nilCheck (by rfl) ?_
 refine XL.gt rfl rfl ya rfl ?_
 refine Y.fieldAddr fld82_0 (by rfl) ?_
 refine XL.gt rfl rfl ya rfl ?_
 refine Y.load one39 (by rfl) (two0 hfb) ?_
 refine XL.gt rfl rfl ya rfl ?_
 refine Y.len Tryz.underlying39 (by rfl) hA.row ?_
 refine XL.gt rfl rfl ya rfl ?_
 refine Y.gtr (by rfl) (by rfl) ?_
 refine XL.s rfl ?_
 refine Y.pickF (by rfl) ya (by rfl) ?_
 refine XL.s rfl ?_
 refine Y.assign (by rfl) ?_
 refine XL.nil ?_
 refine QN.next ?_
 refine XC.condF rfl ya ?_
 refine XC.skip ?_
 refine QN.blk ?_
 refine QN.next ?_
 refine XC.seq ?_
 apply XC.drop [8, 9, 10, 11, 12, 13, 14, 15, 16, 17, 18, 19, 20, 21, 22, 23, 24, 25, 26, 27, 28, 29, 30, 31, 32, 33, 34, 35, 36, 37, 38, 39, 40, 41, 42, 43, 44, 45, 46, 47]
 ·repeat (first | apply DropTo.nil | apply DropTo.skip rfl | apply DropTo.keep rfl)
 refine XC.draw2L 18 [[], [], [], [2], [2, 3], [2, 3, 4], [], [], [2, 3, 4, 5, 6, 7], [], [9], [9, 10], [9, 10, 11], [], [9, 10, 11, 12, 13], [0, 2, 3, 4, 5, 6, 7, 8, 9, 10, 11, 12], [0, 2, 3, 4, 5, 6, 7, 8, 9, 10, 11, 12, 15], [0, 2, 3, 4, 5, 6, 7, 8, 9, 10, 11, 12, 15, 16], [0, 1, 2, 3, 4, 5, 6, 7, 8, 9, 10, 11, 12, 13, 14, 15, 16, 17], [0, 1, 2, 3, 4, 5, 6, 7, 8, 9, 10, 11, 12, 13, 14, 15, 16, 17, 18], [0, 1, 2, 3, 4, 5, 6, 7, 8, 9, 10, 11, 12, 13, 14, 15, 16, 17, 18, 19]] _ 17 [0, 2, 3, 4, 5, 6, 7, 8, 9, 10, 11, 12, 15, 16, 17] ((fun b => b = fb)) [] [(5, (fun _ => (fun v _ => v = sl))), (8, (fun _ => (fun v w' => Apd Fd w' 5 1 v n (bytesV (f.data.take n))))), (12, (fun _ => (fun v _ => v = .int .i64 (f.syn : Nat)))), (17, (fun e v w' => HB w' fb (.cells ((#[sl, .int .i64 (f.syn : Int)] : Array Value).setIfInBounds (0 + 0) (e (.tmp 37))) 82 (0, 0))))] [0, 1, 2, 3, 4, 5, 6, 7, 8, 9, 10, 11, 12, 13, 14, 15, 16, 17] fol (by kernel_rfl) (by rfl) (by rfl) (by rfl) ⟨(fun _ => (fun _ _ _ _ h => h)), (fun _ => (fun v w1 w2 hE h => h.chg hE (fun b _ hb e => hi2 (e ▸ hb)))), (fun _ => (fun _ _ _ _ h => h)), (fun _ => (fun v w1 w2 hE h => h.ext hE)), trivial⟩ ⟨(fun _ _ _ _ _ h => h), (fun _ _ _ _ _ h => h), (fun _ _ _ _ _ h => h), (fun e e' v w hj h => by have h2 := h; simp only [hj 8 (by decide) 37 rfl] at h2; exact h2), trivial⟩ ⟨?_, ?_, ?_, ?_, ?_, ?_, ?_, ?_, ?_, ?_, ?_, ?_, ?_, ?_, ?_, ?_, ?_, ?_, trivial⟩ ?_
 ·intro aD6 wD6 haD6 hCD6 hrD6
  replace hCD6 : Ext _ wD6 := hCD6
  refine ⟨rfl, ?_⟩
  refine XD.start haD6 ?_
  apply XD.stepP rfl
  intro w3
  refine Y.move (by rfl) ?_
  exact ⟨rfl, rfl⟩
 ·intro aD6 wD6 haD6 hCD6 hrD6
  replace hCD6 : Chg _ _ wD6 := hCD6
  refine ⟨rfl, ?_⟩
  refine XD.start haD6 ?_
  apply XD.stepP rfl
  intro w3
  refine Y.move (by rfl) ?_
  exact ⟨rfl, rfl⟩
 ·intro aD6 wD6 haD6 hCD6 hrD6
  replace hCD6 : Ext _ wD6 := hCD6
  refine ⟨rfl, ?_⟩
  refine XD.start haD6 ?_
  apply XD.stepP rfl
  intro w3
  refine Y.move (by rfl) ?_
  exact ⟨rfl, rfl⟩
 ·intro aD6 wD6 haD6 hCD6 hrD6
  obtain ⟨r2, -⟩ := hrD6
  replace hCD6 : Ext _ wD6 := hCD6
  refine ⟨rfl, ?_⟩
  refine XD.start haD6 ?_
  refine XD.pure r2 ?_
  refine Y.move (by rfl) ?_
  apply XD.stepP rfl
  intro w3
  refine Y.nilCheck (by rfl) ?_
  exact ⟨rfl, rfl⟩
 ·intro aD6 wD6 haD6 hCD6 hrD6
  obtain ⟨r2, r3, -⟩ := hrD6
  replace hCD6 : Ext _ wD6 := hCD6
  refine ⟨rfl, ?_⟩
  refine XD.start haD6 ?_
  refine XD.pure r2 ?_
  refine Y.move (by rfl) ?_
  refine XD.pure r3 ?_
  refine Y.nilCheck (by rfl) ?_
  apply XD.stepP rfl
  intro w3
  refine Y.fieldAddr fld82_0 (by rfl) ?_
  exact ⟨rfl, rfl⟩
 ·intro aD6 wD6 haD6 hCD6 hrD6
  obtain ⟨r2, r3, r4, -⟩ := hrD6
  replace hCD6 : Ext _ wD6 := hCD6
  replace hfb := hfb.ext hCD6
  replace hA := hA.ext hCD6
  refine ⟨rfl, ?_⟩
  refine XD.start haD6 ?_
  refine XD.pure r2 ?_
  refine Y.move (by rfl) ?_
  refine XD.pure r3 ?_
  refine Y.nilCheck (by rfl) ?_
  refine XD.pure r4 ?_
  refine Y.fieldAddr fld82_0 (by rfl) ?_
  refine XD.stepI ?_
  refine Y.load one39 (by rfl) (two0 hfb) ?_
  exact ⟨Chg.refl _ _, rfl⟩
 ·intro aD6 wD6 haD6 hCD6 hrD6
  replace hCD6 : Ext _ wD6 := hCD6
  refine ⟨rfl, ?_⟩
  refine XD.start haD6 ?_
  apply XD.stepP rfl
  intro w3
  refine Y.move (by rfl) ?_
  exact ⟨rfl, rfl⟩
 ·intro aD6 wD6 haD6 hCD6 hrD6
  replace hCD6 : Ext _ wD6 := hCD6
  refine ⟨rfl, ?_⟩
  refine XD.start haD6 ?_
  apply XD.stepP rfl
  intro w3
  refine Y.move (by rfl) ?_
  exact ⟨rfl, rfl⟩
 ·intro aD6 wD6 haD6 hCD6 hrD6
  obtain ⟨r2, r3, r4, r5, r6, r7, -⟩ := hrD6
  replace hCD6 : Ext _ wD6 := hCD6
  replace hfb := hfb.ext hCD6
  replace hA := hA.ext hCD6
  refine ⟨rfl, ?_⟩
  refine XD.start haD6 ?_
  refine XD.pure r2 ?_
  refine Y.move (by rfl) ?_
  refine XD.pure r3 ?_
  refine Y.nilCheck (by rfl) ?_
  refine XD.pure r4 ?_
  refine Y.fieldAddr fld82_0 (by rfl) ?_
  refine XD.imp r5 ?_
  rintro _ rfl
  refine XD.pure r6 ?_
  refine Y.move (by rfl) ?_
  refine XD.pure r7 ?_
  refine Y.move (by rfl) ?_
  refine XD.stepI ?_
  refine Y.slice3A st39 (by rfl) hA.row (by rfl) (by rfl) bnd_nat hn ?_
  intro v37 hA37; exact ⟨Chg.refl _ _, hA37⟩
 ·intro aD6 wD6 haD6 hCD6 hrD6
  replace hCD6 : Ext _ wD6 := hCD6
  refine ⟨rfl, ?_⟩
  refine XD.start haD6 ?_
  apply XD.stepP rfl
  intro w3
  refine Y.move (by rfl) ?_
  exact ⟨rfl, rfl⟩
 ·intro aD6 wD6 haD6 hCD6 hrD6
  obtain ⟨r9, -⟩ := hrD6
  replace hCD6 : Ext _ wD6 := hCD6
  refine ⟨rfl, ?_⟩
  refine XD.start haD6 ?_
  refine XD.pure r9 ?_
  refine Y.move (by rfl) ?_
  apply XD.stepP rfl
  intro w3
  refine Y.nilCheck (by rfl) ?_
  exact ⟨rfl, rfl⟩
 ·intro aD6 wD6 haD6 hCD6 hrD6
  obtain ⟨r9, r10, -⟩ := hrD6
  replace hCD6 : Ext _ wD6 := hCD6
  refine ⟨rfl, ?_⟩
  refine XD.start haD6 ?_
  refine XD.pure r9 ?_
  refine Y.move (by rfl) ?_
  refine XD.pure r10 ?_
  refine Y.nilCheck (by rfl) ?_
  apply XD.stepP rfl
  intro w3
  refine Y.fieldAddr fld82_1 (by rfl) ?_
  exact ⟨rfl, rfl⟩
 ·intro aD6 wD6 haD6 hCD6 hrD6
  obtain ⟨r9, r10, r11, -⟩ := hrD6
  replace hCD6 : Ext _ wD6 := hCD6
  replace hfb := hfb.ext hCD6
  replace hA := hA.ext hCD6
  refine ⟨rfl, ?_⟩
  refine XD.start haD6 ?_
  refine XD.pure r9 ?_
  refine Y.move (by rfl) ?_
  refine XD.pure r10 ?_
  refine Y.nilCheck (by rfl) ?_
  refine XD.pure r11 ?_
  refine Y.fieldAddr fld82_1 (by rfl) ?_
  refine XD.stepI ?_
  refine Y.load one3 (by rfl) (two1 hfb) ?_
  exact ⟨Chg.refl _ _, rfl⟩
 ·intro aD6 wD6 haD6 hCD6 hrD6
  replace hCD6 : Chg _ _ wD6 := hCD6
  refine ⟨rfl, ?_⟩
  refine XD.start haD6 ?_
  apply XD.stepP rfl
  intro w3
  refine Y.move (by rfl) ?_
  exact ⟨rfl, rfl⟩
 ·intro aD6 wD6 haD6 hCD6 hrD6
  obtain ⟨r9, r10, r11, r12, r13, -⟩ := hrD6
  replace hCD6 : Chg _ _ wD6 := hCD6
  refine ⟨rfl, ?_⟩
  refine XD.start haD6 ?_
  refine XD.pure r9 ?_
  refine Y.move (by rfl) ?_
  refine XD.pure r10 ?_
  refine Y.nilCheck (by rfl) ?_
  refine XD.pure r11 ?_
  refine Y.fieldAddr fld82_1 (by rfl) ?_
  refine XD.imp r12 ?_
  rintro _ rfl
  refine XD.pure r13 ?_
  refine Y.move (by rfl) ?_
  apply XD.stepP rfl
  intro w3
  refine Y.min (by rfl) (by rfl) ?_
  exact ⟨rfl, rfl⟩
 ·intro aD6 wD6 haD6 hCD6 hrD6
  obtain ⟨r0, r2, r3, r4, r5, r6, r7, r8, r9, r10, r11, r12, -⟩ := hrD6
  replace hCD6 : Ext _ wD6 := hCD6
  replace hfb := hfb.ext hCD6
  replace hA := hA.ext hCD6
  refine ⟨rfl, ?_⟩
  refine XD.start haD6 ?_
  refine XD.pure r0 ?_
  refine Y.move (by rfl) ?_
  refine XD.pure r2 ?_
  refine Y.move (by rfl) ?_
  refine XD.pure r3 ?_
  refine Y.nilCheck (by rfl) ?_
  refine XD.pure r4 ?_
  refine Y.fieldAddr fld82_0 (by rfl) ?_
  refine XD.imp r5 ?_
  rintro _ rfl
  refine XD.pure r6 ?_
  refine Y.move (by rfl) ?_
  refine XD.pure r7 ?_
  refine Y.move (by rfl) ?_
  refine XD.impE r8 ?_
  rintro v37 he37 hA37
  refine XD.pure r9 ?_
  refine Y.move (by rfl) ?_
  refine XD.pure r10 ?_
  refine Y.nilCheck (by rfl) ?_
  refine XD.pure r11 ?_
  refine Y.fieldAddr fld82_1 (by rfl) ?_
  refine XD.imp r12 ?_
  rintro _ rfl
  apply XD.stepP rfl
  intro w3
  refine Y.nilCheck (by rfl) ?_
  exact ⟨rfl, rfl⟩
 ·intro aD6 wD6 haD6 hCD6 hrD6
  obtain ⟨r0, r2, r3, r4, r5, r6, r7, r8, r9, r10, r11, r12, r15, -⟩ := hrD6
  replace hCD6 : Ext _ wD6 := hCD6
  replace hfb := hfb.ext hCD6
  replace hA := hA.ext hCD6
  refine ⟨rfl, ?_⟩
  refine XD.start haD6 ?_
  refine XD.pure r0 ?_
  refine Y.move (by rfl) ?_
  refine XD.pure r2 ?_
  refine Y.move (by rfl) ?_
  refine XD.pure r3 ?_
  refine Y.nilCheck (by rfl) ?_
  refine XD.pure r4 ?_
  refine Y.fieldAddr fld82_0 (by rfl) ?_
  refine XD.imp r5 ?_
  rintro _ rfl
  refine XD.pure r6 ?_
  refine Y.move (by rfl) ?_
  refine XD.pure r7 ?_
  refine Y.move (by rfl) ?_
  refine XD.impE r8 ?_
  rintro v37 he37 hA37
  refine XD.pure r9 ?_
  refine Y.move (by rfl) ?_
  refine XD.pure r10 ?_
  refine Y.nilCheck (by rfl) ?_
  refine XD.pure r11 ?_
  refine Y.fieldAddr fld82_1 (by rfl) ?_
  refine XD.imp r12 ?_
  rintro _ rfl
  refine XD.pure r15 ?_
  refine Y.nilCheck (by rfl) ?_
  apply XD.stepP rfl
  intro w3
  refine Y.fieldAddr fld82_0 (by rfl) ?_
  exact ⟨rfl, rfl⟩
 ·intro aD6 wD6 haD6 hCD6 hrD6
  obtain ⟨r0, r2, r3, r4, r5, r6, r7, r8, r9, r10, r11, r12, r15, r16, -⟩ := hrD6
  replace hCD6 : Ext _ wD6 := hCD6
  replace hfb := hfb.ext hCD6
  replace hA := hA.ext hCD6
  refine ⟨rfl, ?_⟩
  refine XD.start haD6 ?_
  refine XD.pure r0 ?_
  refine Y.move (by rfl) ?_
  refine XD.pure r2 ?_
  refine Y.move (by rfl) ?_
  refine XD.pure r3 ?_
  refine Y.nilCheck (by rfl) ?_
  refine XD.pure r4 ?_
  refine Y.fieldAddr fld82_0 (by rfl) ?_
  refine XD.imp r5 ?_
  rintro _ rfl
  refine XD.pure r6 ?_
  refine Y.move (by rfl) ?_
  refine XD.pure r7 ?_
  refine Y.move (by rfl) ?_
  refine XD.impE r8 ?_
  rintro v37 he37 hA37
  refine XD.pure r9 ?_
  refine Y.move (by rfl) ?_
  refine XD.pure r10 ?_
  refine Y.nilCheck (by rfl) ?_
  refine XD.pure r11 ?_
  refine Y.fieldAddr fld82_1 (by rfl) ?_
  refine XD.imp r12 ?_
  rintro _ rfl
  refine XD.pure r15 ?_
  refine Y.nilCheck (by rfl) ?_
  refine XD.pure r16 ?_
  refine Y.fieldAddr fld82_0 (by rfl) ?_
  refine XD.stepI ?_
  refine Y.storeB one39 (by rfl) (by rfl) hA37.row.oneC hfb (by simp) (nofr0 _) ?_
  intro w2 a1 a2 _ _; exact ⟨a2, by simp only [he37]; exact a1⟩
 intro aD6 wD6 haD6 hCD6 hrD6
 obtain ⟨r0, r1, r2, r3, r4, r5, r6, r7, r8, r9, r10, r11, r12, r13, r14, r15, r16, r17, -⟩ := hrD6
 refine XD.start haD6 ?_
 refine XD.pure r0 ?_
 refine Y.move (by rfl) ?_
 refine XD.pure r1 ?_
 refine Y.move (by rfl) ?_
 refine XD.pure r2 ?_
 refine Y.move (by rfl) ?_
 refine XD.pure r3 ?_
 refine Y.nilCheck (by rfl) ?_
 refine XD.pure r4 ?_
 refine Y.fieldAddr fld82_0 (by rfl) ?_
 refine XD.imp r5 ?_
 rintro _ rfl
 refine XD.pure r6 ?_
 refine Y.move (by rfl) ?_
 refine XD.pure r7 ?_
 refine Y.move (by rfl) ?_
 refine XD.impE r8 ?_
 rintro v37 he37 hA37
 refine XD.pure r9 ?_
 refine Y.move (by rfl) ?_
 refine XD.pure r10 ?_
 refine Y.nilCheck (by rfl) ?_
 refine XD.pure r11 ?_
 refine Y.fieldAddr fld82_1 (by rfl) ?_
 refine XD.imp r12 ?_
 rintro _ rfl
 refine XD.pure r13 ?_
 refine Y.move (by rfl) ?_
 refine XD.pure r14 ?_
 refine Y.min (by rfl) (by rfl) ?_
 refine XD.pure r15 ?_
 refine Y.nilCheck (by rfl) ?_
 refine XD.pure r16 ?_
 refine Y.fieldAddr fld82_0 (by rfl) ?_
 refine XD.impN r17 ?_
 rintro _ hst
 refine XD.fin haD6 ?_
 simp only [he37] at hst
 show XL _ _ _ _ (List.cons _ _) _ _
 refine XL.s rfl ?_
 refine Y.nilCheck (by rfl) ?_
 refine XL.s rfl ?_
 refine Y.fieldAddr fld82_1 (by rfl) ?_
 refine XL.o ?_
 refine Y.storeB one3 (by rfl) (by rfl) rfl hst (by simp) (nofr0 _) ?_
 intro w2 hb2 hC2 hz2 _
 have hCC : Chg (· = fb) w w2 := hCD6.trans hC2 (fun _ h => h) (fun _ _ h => h)
 have hsz := hCC.size
 have hmin : (if (n : Int) < (f.syn : Int) then (n : Int) else (f.syn : Int)) = ((min f.syn n : Nat) : Int) := by split <;> omega
 simp only [hmin] at hb2
 have hA2 := (hA37.chg hC2 (fun b _ hb e => hi2 (by rw [← show b = fb from e]; exact hb))).row
 have hlen : (f.data.take n).length = n := by rw [List.length_take]; omega
 have hX2 := hX.setFile (Fk := Fs k) (f' := ⟨f.data.take n, min f.syn n, false⟩) hCC (fun b h => by rw [show b = fb from h]; exact hi1) hlk ⟨v37, Fd, hb2, (by have h := hA37.chg hC2 (fun b _ hb e => hi2 (by rw [← show b = fb from e]; exact hb)); rw [hlen]; exact h), (fun h : false = true => by cases h), by simp only [hlen]; omega, hi1, hi2, hi3⟩ (fun b h => .inl h) (fun b h => by have := hX.bnd k hkm b h; omega)
 refine XL.nil ?_
 refine QN.next ?_
 refine XC.seq ?_
 refine XC.region ?_
 show XL _ _ _ _ (List.cons _ _) _ _
 refine XL.s rfl ?_
 refine Y.assign (by rfl) ?_
 refine XL.nil ?_
 refine QN.next ?_
 refine XC.ret ?_
 refine QN.done1 (fn := Tryz.f41) (R := R) (.inl rfl) rfl rfl ?_
 refine hR _ _ ?_
 exact ⟨rfl, hCC.mono fun b _ h => by rw [show b = fb from h]; exact hF3 k hkm fb hi1, db, r, _, es, rfl, hX2, hF1, hF2, fun x hx b hb => by rw [keys_upK, if_pos hkm] at hx; exact (if e : x = k then hF3 k hkm b (by rwa [if_pos e] at hb) else hF3 x hx b (by rwa [if_neg e] at hb))⟩
end Go.Proofs.YtchammpamigonaaGreatX
end
section
set_option linter.unusedVariables false
set_option linter.unusedSimpArgs false
set_option maxRecDepth 10000
set_option maxHeartbeats 4000000
namespace Go.Proofs.YtchammpamigonaaGreatX
open Go Go.RowKit Go.Proofs
theorem clone_ok (S : Nat → Prop) (u : Value) (l : List UInt8) (w : World) (hr : Bs S w u l) (hn : l.length ≤ 140737488355328) : Rets Tryz.prog 37 #[u] w fun v w' => NewB 5 w w' v l ∧ (0 < l.length → NewO w w' 5 1 v l.length (bytesV l)) := by
 rcases Nat.eq_zero_or_pos l.length with h | h
 ·exact (cloneB_ok S u l.length (bytesV l) w hr (by simp [bytesV]) hn).mono fun v w' hN => ⟨hN, fun h' => by omega⟩
 ·exact (cloneO_ok S u l.length (bytesV l) w hr (by simp [bytesV]) hn h).mono fun v w' hO => ⟨hO.new, fun _ => hO⟩
theorem dcopy_ok (F : Nat → Prop) (dv : Value) (most : Nat) (fs : FS) (w : World) (hD : DiskB 79 82 5 F w dv most fs) (hm : most ≤ 65536) (hl : ∀ p ∈ fs, p.2.data.length ≤ 140737488355328) :
  Rets Tryz.prog 27 #[dv] w fun v w' => ∃ sn : KVs, (sn.map (·.1)).Perm (fs.map (·.1)) ∧ DiskB 79 82 5 (btw w.heap.size w'.heap.size) w' v most (cpS fs sn) ∧ Ext w w' := by
 refine Rets.enter (args := [dv]) (n := 38) Tryz.func27 rfl rfl rfl ?_
 intro R hR
 show XC _ _ _ _ [(0, dv)] _
 obtain ⟨db, r, Fs, es, rfl, hX, hF1, hF2, hF3⟩ := hD
 have hnd := hX.nd
 have hnde := hX.map.nd
 have hrl : r < w.heap.size := by obtain ⟨_, _, hb, _⟩ := hX.map; exact hb.lt
 refine XC.seq ?_
 refine XC.region ?_
 show XL _ _ _ _ (List.cons _ _) _ _
 refine XL.s rfl ?_
 refine Y.assign (by rfl) ?_
 refine XL.nil ?_
 refine QN.next ?_
 refine XC.seq ?_
 refine XC.region ?_
 show XL _ _ _ _ (List.cons _ _) _ _
 refine XL.s rfl ?_
 refine Y.move (by rfl) ?_
 refine XL.s rfl ?_
 refine Y.nilCheck (by rfl) ?_
 refine XL.s rfl ?_
 refine Y.fieldAddr fld79_1 (by rfl) ?_
 refine XL.s rfl ?_
 refine Y.load one3 (by rfl) (two1 hX.cell) ?_
 refine XL.s rfl ?_
 refine Y.call (by rfl) ok28 (dnew_ok (most : Int) _) ?_
 rintro v10 w10 ⟨n10, hn10, hD10, hE10⟩
 obtain rfl : n10 = most := by omega
 obtain ⟨db', r', Fs', es', rfl, hY, hG1, hG2, -⟩ := hD10
 have hX10 := hX.same hE10 (fun h => h) (fun h => h) (fun _ _ _ _ h => h)
 refine XL.s rfl ?_
 refine Y.assign (by rfl) ?_
 refine XL.nil ?_
 refine QN.next ?_
 refine XC.seq ?_
 refine XC.seq ?_
 refine XC.region ?_
 show XL _ _ _ _ (List.cons _ _) _ _
 refine XL.s rfl ?_
 refine Y.move (by rfl) ?_
 refine XL.s rfl ?_
 refine Y.nilCheck (by rfl) ?_
 refine XL.s rfl ?_
 refine Y.fieldAddr fld79_0 (by rfl) ?_
 refine XL.s rfl ?_
 refine Y.load one77 (by rfl) (two0 hX10.cell) ?_
 refine XL.s rfl ?_
 refine Y.range mt77 (by rfl) hX10.map ?_
 intro it w15 hI15 hit hz15 hE15
 have hY15 := hY.same hE15 (fun h => h) (fun h => h) (fun _ _ _ _ h => h)
 have hG1' := hG1.1
 have hG2' := hG2.1
 have hG1'' := hG1.2
 have hG2'' := hG2.2
 have hz10 := hE10.size
 have hEw := Ext.trans hE10 hE15
 refine XL.nil ?_
 refine QN.next ?_
 refine XC.block ?_
 refine XC.loop (α := KVs × KVs) (fun (sn, rest) => [(3, .pointer (some ⟨db', 0, none⟩)), (15, .pointer (some ⟨it, 0, none⟩))]) (fun (sn, rest) wr => IterB wr it r es sn rest ∧ Ext w wr ∧ w15.heap.size ≤ wr.heap.size ∧ ∃ Fs' es', DiskX 79 82 5 wr db' r' n10 Fs' es' (cpS fs sn) ∧ ∀ k ∈ (cpS fs sn).map (·.1), ∀ b, Fs' k b → w15.heap.size ≤ b) (fun (sn, rest) => rest.length) (([], es)) ?_ ?_ ?_
 ·exact ⟨rfl, rfl, trivial⟩
 ·exact ⟨hI15, hEw, Nat.le_refl _, Fs', es', hY15, fun k h => by simp [cpS] at h⟩
 ·rintro ⟨sn, rest⟩ wr hI
  obtain ⟨hI, hE, hzr, Fs', es', hY, hFl⟩ := hI
  have hperm : (sn ++ rest).Perm es := by obtain ⟨_, _, _, _, _, _, _, h⟩ := hI; exact h
  refine XC.seq ?_
  refine XC.region ?_
  show XL _ _ _ _ (List.cons _ _) _ _
  refine XL.s rfl ?_
  refine Y.next (by rfl) hI ?_
  intro vs w16 hvs hC16 hz16 hgo
  refine XL.s rfl ?_
  refine Y.extract (by rfl) hvs ?_
  refine XL.nil ?_
  refine QN.next ?_
  refine XC.seq ?_
  refine XC.condS rfl ?_ ?_
  ·intro hc
   try simp only [decide_eq_true_eq, decide_eq_false_iff_not, Bool.not_eq_true', Bool.not_eq_false', Bool.not_eq_eq_eq_not, Bool.not_true, Bool.not_false, Bool.or_eq_true, Bool.and_eq_true, Bool.or_eq_false_iff] at hc
   obtain ⟨p, rest', hp, hIC, hlen⟩ := hgo (by intro e; rw [e] at hc; simp at hc)
   have hpm : p ∈ es := hperm.mem_iff.1 (List.mem_append.2 (.inr hp))
   obtain ⟨fb, f, hpv, hf, hF⟩ := hX.file p.1 p.2 (lookK_of_mem hnde hpm)
   have hE16 : Ext w w16 := hE.chgNew hC16 (fun x hx => by omega)
   have hF16 := hF.ext hE16
   have hY16 := hY.same hC16 (by omega) (by omega) (fun k hk b hb e => by have := hFl k hk b hb; omega)
   refine XC.skip ?_
   refine QN.next ?_
   refine XC.block ?_
   refine XC.seq ?_
   refine XC.region ?_
   show XL _ _ _ _ (List.cons _ _) _ _
   refine XL.s rfl ?_
   refine Y.entry (by rfl) hIC ?_
   rw [hpv]
   obtain ⟨sl, Fd, hfb, hA, hO, hsy, hi1, hi2, hi3⟩ := hF16
   have hcell := hY16.cell
   have hfll : f.data.length ≤ 140737488355328 := by obtain ⟨q, hq⟩ := List.mem_map.1 (lookK_mem hf); have := lookK_of_mem (p := q) hnd hq.1; rw [hq.2, hf] at this; cases this; exact hl q hq.1
   refine XL.s rfl ?_
   refine Y.extract (by rfl) (by rfl) ?_
   refine XL.s rfl ?_
   refine Y.extract (by rfl) (by rfl) ?_
   refine XL.s rfl ?_
   refine Y.assign (by rfl) ?_
   refine XL.s rfl ?_
   refine Y.assign (by rfl) ?_
   refine XL.nil ?_
   refine QN.next ?_
   apply XC.drop [6, 7, 8, 9, 10, 11, 12, 13, 14, 16, 17, 18, 19, 20, 21, 22, 23, 24, 25, 26, 27, 28, 29, 30, 31, 32, 33, 34, 35, 36, 37]
   ·repeat (first | apply DropTo.nil | apply DropTo.skip rfl | apply DropTo.keep rfl)
   refine XC.drawL 16 [[], [0], [0, 1], [0, 1, 2], [], [], [5], [5, 6], [5, 6, 7], [5, 6, 7, 8], [], [10], [10, 11], [10, 11, 12], [5, 6, 7, 8, 9, 10, 11, 12, 13], [5, 6, 7, 8, 9, 10, 11, 12, 13, 14], [0, 1, 2, 3, 4, 5, 6, 7, 8, 9, 10, 11, 12, 13, 14, 15]] _ (Chg NoB) (Steady.chg NoB) [] [(3, (fun v _ => v = .map (some r'))), (8, (fun v _ => v = sl)), (9, (fun v w' => New w16 w' 5 1 v f.data.length (bytesV f.data) ∧ (0 < f.data.length → NewO w16 w' 5 1 v f.data.length (bytesV f.data)))), (13, (fun v _ => v = .int .i64 (f.syn : Nat))), (15, (fun v w' => ∃ b, v = .pointer (some ⟨b, 0, none⟩) ∧ b < w'.heap.size ∧ FileAt 82 5 (Since w16) w' b (cpF f)))] [0, 1, 2, 3, 4, 5, 6, 7, 8, 9, 10, 11, 12, 13, 14, 15] fol (by kernel_rfl) (by rfl) (by rfl) ⟨(fun _ _ _ _ h => h), (fun _ _ _ _ h => h), (fun v w1 w2 hE h => ⟨h.1.ext hE, fun h0 => (h.2 h0).ext hE⟩), (fun _ _ _ _ h => h), (fun v w1 w2 hE ⟨b, h1, h2, h3⟩ => ⟨b, h1, Nat.lt_of_lt_of_le h2 hE.size, h3.ext hE⟩), trivial⟩ ⟨?_, ?_, ?_, ?_, ?_, ?_, ?_, ?_, ?_, ?_, ?_, ?_, ?_, ?_, ?_, ?_, trivial⟩ ?_
   ·intro aD5 wD5 haD5 hCD5 hrD5
    refine ⟨rfl, ?_⟩
    refine XD.start haD5 ?_
    apply XD.stepP rfl
    intro w3
    refine Y.move (by rfl) ?_
    exact ⟨rfl, rfl⟩
   ·intro aD5 wD5 haD5 hCD5 hrD5
    obtain ⟨r0, -⟩ := hrD5
    refine ⟨rfl, ?_⟩
    refine XD.start haD5 ?_
    refine XD.pure r0 ?_
    refine Y.move (by rfl) ?_
    apply XD.stepP rfl
    intro w3
    refine Y.nilCheck (by rfl) ?_
    exact ⟨rfl, rfl⟩
   ·intro aD5 wD5 haD5 hCD5 hrD5
    obtain ⟨r0, r1, -⟩ := hrD5
    refine ⟨rfl, ?_⟩
    refine XD.start haD5 ?_
    refine XD.pure r0 ?_
    refine Y.move (by rfl) ?_
    refine XD.pure r1 ?_
    refine Y.nilCheck (by rfl) ?_
    apply XD.stepP rfl
    intro w3
    refine Y.fieldAddr fld79_0 (by rfl) ?_
    exact ⟨rfl, rfl⟩
   ·intro aD5 wD5 haD5 hCD5 hrD5
    obtain ⟨r0, r1, r2, -⟩ := hrD5
    replace hcell := hcell.ext hCD5
    replace hfb := hfb.ext hCD5
    replace hA := hA.ext hCD5
    refine ⟨rfl, ?_⟩
    refine XD.start haD5 ?_
    refine XD.pure r0 ?_
    refine Y.move (by rfl) ?_
    refine XD.pure r1 ?_
    refine Y.nilCheck (by rfl) ?_
    refine XD.pure r2 ?_
    refine Y.fieldAddr fld79_0 (by rfl) ?_
    refine XD.stepI ?_
    refine Y.load one77 (by rfl) (two0 hcell) ?_
    exact ⟨Chg.refl _ _, rfl⟩
   ·intro aD5 wD5 haD5 hCD5 hrD5
    refine ⟨rfl, ?_⟩
    refine XD.start haD5 ?_
    apply XD.stepP rfl
    intro w3
    refine Y.move (by rfl) ?_
    exact ⟨rfl, rfl⟩
   ·intro aD5 wD5 haD5 hCD5 hrD5
    refine ⟨rfl, ?_⟩
    refine XD.start haD5 ?_
    apply XD.stepP rfl
    intro w3
    refine Y.move (by rfl) ?_
    exact ⟨rfl, rfl⟩
   ·intro aD5 wD5 haD5 hCD5 hrD5
    obtain ⟨r5, -⟩ := hrD5
    refine ⟨rfl, ?_⟩
    refine XD.start haD5 ?_
    refine XD.pure r5 ?_
    refine Y.move (by rfl) ?_
    apply XD.stepP rfl
    intro w3
    refine Y.nilCheck (by rfl) ?_
    exact ⟨rfl, rfl⟩
   ·intro aD5 wD5 haD5 hCD5 hrD5
    obtain ⟨r5, r6, -⟩ := hrD5
    refine ⟨rfl, ?_⟩
    refine XD.start haD5 ?_
    refine XD.pure r5 ?_
    refine Y.move (by rfl) ?_
    refine XD.pure r6 ?_
    refine Y.nilCheck (by rfl) ?_
    apply XD.stepP rfl
    intro w3
    refine Y.fieldAddr fld82_0 (by rfl) ?_
    exact ⟨rfl, rfl⟩
   ·intro aD5 wD5 haD5 hCD5 hrD5
    obtain ⟨r5, r6, r7, -⟩ := hrD5
    replace hcell := hcell.ext hCD5
    replace hfb := hfb.ext hCD5
    replace hA := hA.ext hCD5
    refine ⟨rfl, ?_⟩
    refine XD.start haD5 ?_
    refine XD.pure r5 ?_
    refine Y.move (by rfl) ?_
    refine XD.pure r6 ?_
    refine Y.nilCheck (by rfl) ?_
    refine XD.pure r7 ?_
    refine Y.fieldAddr fld82_0 (by rfl) ?_
    refine XD.stepI ?_
    refine Y.load one39 (by rfl) (two0 hfb) ?_
    exact ⟨Chg.refl _ _, rfl⟩
   ·intro aD5 wD5 haD5 hCD5 hrD5
    obtain ⟨r5, r6, r7, r8, -⟩ := hrD5
    replace hcell := hcell.ext hCD5
    replace hfb := hfb.ext hCD5
    replace hA := hA.ext hCD5
    refine ⟨rfl, ?_⟩
    refine XD.start haD5 ?_
    refine XD.pure r5 ?_
    refine Y.move (by rfl) ?_
    refine XD.pure r6 ?_
    refine Y.nilCheck (by rfl) ?_
    refine XD.pure r7 ?_
    refine Y.fieldAddr fld82_0 (by rfl) ?_
    refine XD.imp r8 ?_
    rintro _ rfl
    refine XD.stepI ?_
    refine Y.call (by rfl) ok37 (clone_ok _ _ f.data _ hA.row hfll) ?_
    rintro v30 w30 ⟨hN30, hO30⟩
    exact ⟨hN30.1, hN30.older hCD5, fun h0 => (hO30 h0).older hCD5⟩
   ·intro aD5 wD5 haD5 hCD5 hrD5
    refine ⟨rfl, ?_⟩
    refine XD.start haD5 ?_
    apply XD.stepP rfl
    intro w3
    refine Y.move (by rfl) ?_
    exact ⟨rfl, rfl⟩
   ·intro aD5 wD5 haD5 hCD5 hrD5
    obtain ⟨r10, -⟩ := hrD5
    refine ⟨rfl, ?_⟩
    refine XD.start haD5 ?_
    refine XD.pure r10 ?_
    refine Y.move (by rfl) ?_
    apply XD.stepP rfl
    intro w3
    refine Y.nilCheck (by rfl) ?_
    exact ⟨rfl, rfl⟩
   ·intro aD5 wD5 haD5 hCD5 hrD5
    obtain ⟨r10, r11, -⟩ := hrD5
    refine ⟨rfl, ?_⟩
    refine XD.start haD5 ?_
    refine XD.pure r10 ?_
    refine Y.move (by rfl) ?_
    refine XD.pure r11 ?_
    refine Y.nilCheck (by rfl) ?_
    apply XD.stepP rfl
    intro w3
    refine Y.fieldAddr fld82_1 (by rfl) ?_
    exact ⟨rfl, rfl⟩
   ·intro aD5 wD5 haD5 hCD5 hrD5
    obtain ⟨r10, r11, r12, -⟩ := hrD5
    replace hcell := hcell.ext hCD5
    replace hfb := hfb.ext hCD5
    replace hA := hA.ext hCD5
    refine ⟨rfl, ?_⟩
    refine XD.start haD5 ?_
    refine XD.pure r10 ?_
    refine Y.move (by rfl) ?_
    refine XD.pure r11 ?_
    refine Y.nilCheck (by rfl) ?_
    refine XD.pure r12 ?_
    refine Y.fieldAddr fld82_1 (by rfl) ?_
    refine XD.stepI ?_
    refine Y.load one3 (by rfl) (two1 hfb) ?_
    exact ⟨Chg.refl _ _, rfl⟩
   ·intro aD5 wD5 haD5 hCD5 hrD5
    obtain ⟨r5, r6, r7, r8, r9, r10, r11, r12, r13, -⟩ := hrD5
    replace hcell := hcell.ext hCD5
    replace hfb := hfb.ext hCD5
    replace hA := hA.ext hCD5
    refine ⟨rfl, ?_⟩
    refine XD.start haD5 ?_
    refine XD.pure r5 ?_
    refine Y.move (by rfl) ?_
    refine XD.pure r6 ?_
    refine Y.nilCheck (by rfl) ?_
    refine XD.pure r7 ?_
    refine Y.fieldAddr fld82_0 (by rfl) ?_
    refine XD.imp r8 ?_
    rintro _ rfl
    refine XD.imp r9 ?_
    rintro v30 ⟨hN30, hO30⟩
    refine XD.pure r10 ?_
    refine Y.move (by rfl) ?_
    refine XD.pure r11 ?_
    refine Y.nilCheck (by rfl) ?_
    refine XD.pure r12 ?_
    refine Y.fieldAddr fld82_1 (by rfl) ?_
    refine XD.imp r13 ?_
    rintro _ rfl
    apply XD.stepP rfl
    intro w3
    refine Y.build (by rfl) (v := .agg #[v30, .int .i64 (f.syn : Nat)]) (fun _ => by obtain ⟨a30, c30, rfl⟩ := hN30.row.val; kernel_rfl) ?_
    exact ⟨rfl, rfl⟩
   ·intro aD5 wD5 haD5 hCD5 hrD5
    obtain ⟨r5, r6, r7, r8, r9, r10, r11, r12, r13, r14, -⟩ := hrD5
    replace hcell := hcell.ext hCD5
    replace hfb := hfb.ext hCD5
    replace hA := hA.ext hCD5
    refine ⟨rfl, ?_⟩
    refine XD.start haD5 ?_
    refine XD.pure r5 ?_
    refine Y.move (by rfl) ?_
    refine XD.pure r6 ?_
    refine Y.nilCheck (by rfl) ?_
    refine XD.pure r7 ?_
    refine Y.fieldAddr fld82_0 (by rfl) ?_
    refine XD.imp r8 ?_
    rintro _ rfl
    refine XD.imp r9 ?_
    rintro v30 ⟨hN30, hO30⟩
    refine XD.pure r10 ?_
    refine Y.move (by rfl) ?_
    refine XD.pure r11 ?_
    refine Y.nilCheck (by rfl) ?_
    refine XD.pure r12 ?_
    refine Y.fieldAddr fld82_1 (by rfl) ?_
    refine XD.imp r13 ?_
    rintro _ rfl
    refine XD.pure r14 ?_
    refine Y.build (by rfl) (v := .agg #[v30, .int .i64 (f.syn : Nat)]) (fun _ => by obtain ⟨a30, c30, rfl⟩ := hN30.row.val; kernel_rfl) ?_
    refine XD.stepI ?_
    refine Y.box (by rfl) ?_
    intro b36 w36 hb36 hz36 hE36
    exact ⟨hE36, b36, rfl, by omega, v30, fun b => Since w16 b ∧ b < wD5.heap.size, two0' hb36, (hN30.2.mono (fun b hb h => ⟨h, hb⟩)).ext hE36, fun ho => ((hO30 (by simpa [cpF] using ho)).2.mono (fun b hb h => ⟨h, hb⟩)).ext hE36, hsy, (by have := hCD5.size; show w16.heap.size ≤ b36; omega), fun h => by have := h.2; omega, fun b h => h.1⟩
   intro aD5 wD5 haD5 hCD5 hrD5
   obtain ⟨r0, r1, r2, r3, r4, r5, r6, r7, r8, r9, r10, r11, r12, r13, r14, r15, -⟩ := hrD5
   replace hcell := hcell.ext hCD5
   replace hfb := hfb.ext hCD5
   replace hA := hA.ext hCD5
   refine XD.start haD5 ?_
   refine XD.pure r0 ?_
   refine Y.move (by rfl) ?_
   refine XD.pure r1 ?_
   refine Y.nilCheck (by rfl) ?_
   refine XD.pure r2 ?_
   refine Y.fieldAddr fld79_0 (by rfl) ?_
   refine XD.imp r3 ?_
   rintro _ rfl
   refine XD.pure r4 ?_
   refine Y.move (by rfl) ?_
   refine XD.pure r5 ?_
   refine Y.move (by rfl) ?_
   refine XD.pure r6 ?_
   refine Y.nilCheck (by rfl) ?_
   refine XD.pure r7 ?_
   refine Y.fieldAddr fld82_0 (by rfl) ?_
   refine XD.imp r8 ?_
   rintro _ rfl
   refine XD.imp r9 ?_
   rintro v30 ⟨hN30, hO30⟩
   refine XD.pure r10 ?_
   refine Y.move (by rfl) ?_
   refine XD.pure r11 ?_
   refine Y.nilCheck (by rfl) ?_
   refine XD.pure r12 ?_
   refine Y.fieldAddr fld82_1 (by rfl) ?_
   refine XD.imp r13 ?_
   rintro _ rfl
   refine XD.pure r14 ?_
   refine Y.build (by rfl) (v := .agg #[v30, .int .i64 (f.syn : Nat)]) (fun _ => by obtain ⟨a30, c30, rfl⟩ := hN30.row.val; kernel_rfl) ?_
   refine XD.imp r15 ?_
   rintro _ ⟨nb, rfl, hnbl, hnF⟩
   refine XD.fin haD5 ?_
   have hzD := hCD5.size
   have hYD := hY16.same hCD5 (fun h => h) (fun h => h) (fun _ _ _ _ h => h)
   have hnew : p.1 ∉ (cpS fs sn).map (·.1) := by
    rw [cpS_keys]; intro h
    have hn2 : ((sn ++ rest).map (·.1)).Nodup := (hperm.map _).nodup_iff.2 hnde
    rw [List.map_append, List.nodup_append] at hn2
    exact hn2.2.2 _ h _ (List.mem_map_of_mem (f := (·.1)) hp) rfl
   show XL _ _ _ _ (List.cons _ _) _ _
   refine XL.o ?_
   refine Y.mapUpdate mt77 (by rfl) (by rfl) (by rfl) hYD.map ?_
   intro w37 hm37 hC37 hz37
   have hY37 := hYD.put (Fk := btw w16.heap.size wD5.heap.size) (f := cpF f) hC37 hm37 (hnF.mono fun b hb h => ⟨h, hb⟩) (fun h => by have := h.1; omega) (fun h => by have := h.1; omega) (fun x hx _ b hb h => by have := hY16.bnd x hx b h; have := hb.1; omega) (fun b hb => hb.2)
   rw [upK_new hnew] at hY37
   refine XL.nil ?_
   refine QN.blk ?_
   refine QN.again ((sn ++ [p], rest')) ?_ ?_ ?_
   ·exact ⟨rfl, rfl, trivial⟩
   ·refine ⟨(hIC.b.ext hCD5).chg hC37 (by omega) (by omega), (hE16.trans hCD5).chgNew hC37 (fun x hx => by omega), by omega, _, _, by rw [cpS_snoc, hf]; exact hY37, fun k hk b hb => ?_⟩
    rw [cpS_snoc, List.map_append] at hk
    exact (if e : k = p.1 then (by rw [if_pos e] at hb; have := hb.1; omega) else (by rw [if_neg e] at hb; exact hFl k ((List.mem_append.1 hk).elim id (fun h => absurd (by simpa using h) e)) b hb))
   ·first | omega | (simp only []; omega) | (simp; omega)
  ·intro hc
   try simp only [decide_eq_true_eq, decide_eq_false_iff_not, Bool.not_eq_true', Bool.not_eq_false', Bool.not_eq_eq_eq_not, Bool.not_true, Bool.not_false, Bool.or_eq_true, Bool.and_eq_true, Bool.or_eq_false_iff] at hc
   have hre : rest = [] := by simpa using hc
   subst hre
   rw [List.append_nil] at hperm
   have hY16 := hY.same hC16 (by omega) (by omega) (fun k hk b hb e => by have := hFl k hk b hb; omega)
   refine XC.exit ?_
   refine QN.thenE ?_
   refine QN.thenE ?_
   refine QN.hit ?_
   refine QN.next ?_
   refine XC.seq ?_
   refine XC.region ?_
   show XL _ _ _ _ (List.cons _ _) _ _
   refine XL.s rfl ?_
   refine Y.move (by rfl) ?_
   refine XL.s rfl ?_
   refine Y.assign (by rfl) ?_
   refine XL.nil ?_
   refine QN.next ?_
   refine XC.ret ?_
   refine QN.done1 (fn := Tryz.f27) (R := R) (.inl rfl) rfl rfl ?_
   refine hR _ _ ?_
   exact ⟨sn, by rw [← hX.keys]; exact hperm.map _, ⟨db', r', Fs', es', rfl, hY16, ⟨by omega, by omega⟩, ⟨by omega, by omega⟩, fun k hk b hb => ⟨by have := hFl k hk b hb; omega, hY16.bnd k hk b hb⟩⟩, hE.chgNew hC16 (fun x hx => by omega)⟩
end Go.Proofs.YtchammpamigonaaGreatX
end
