/- For every shape, two texts and seven spoils shardloglaw25.ScrubApart returns true and leaves what it was handed as it was; no condition. Part 6 of 6: joined by a program of this repo out of texts of its own. -/
import Derived.Test.YtchammpamigonaaGreatRows
import Derived.WalkKit
import Derived.ProofKit
import Derived.OpenShut
import Derived.ShutString
import Derived.ChangeOld
import Derived.Below
import Derived.Lib.SmallJoins
import Derived.Test.YtchammpamigonaaGreatApart5
set_option linter.unusedVariables false
set_option linter.unusedSimpArgs false
section
set_option linter.unusedVariables false
set_option linter.unusedSimpArgs false
set_option maxRecDepth 10000
set_option maxHeartbeats 4000000
namespace Go.Proofs.YtchammpamigonaaGreatX
open Go Go.RowKit Go.Proofs
theorem awake_ok (w : World) :
  Rets Tryz.prog 8 #[] w fun v w' => v = .bool true ∧ Ext w w' := by
 refine Rets.enter (args := []) (n := 90) Tryz.func8 rfl rfl rfl ?_
 intro R hR
 show XC _ _ _ _ [] _
 refine XC.seq ?_
 refine XC.region ?_
 show XL _ _ _ _ (List.cons _ _) _ _
 refine XL.s rfl ?_
 refine Y.assign (by rfl) ?_
 refine XL.nil ?_
 refine QN.next ?_
 refine XC.seq ?_
 refine XC.region ?_
 show XL _ _ _ _ (List.cons _ _) _ _
 refine XL.s rfl ?_
 refine Y.build (by rfl) (v := .agg #[.int .i64 1, .int .i64 1]) (fun _ => by kernel_rfl) ?_
 refine XL.s rfl ?_
 refine Y.alloc zt23 ?_
 intro b1 w1 hb1 hz1 hE1
 refine XL.o ?_
 refine Y.storeA agg23 (by rfl) (by rfl) hb1 rfl rfl (by intro c hc; simp at hc; rcases hc with rfl | rfl <;> rfl) ?_
 intro w2 hb2 hC2 hz2
 have hE2 := hE1.chgNew hC2 (fun x hx => by omega)
 refine XL.nil ?_
 refine QN.next ?_
 refine XC.seq ?_
 apply XC.drop [2, 7, 13, 14, 15, 16, 17, 18, 19, 20, 21, 22, 23, 24, 25, 26, 27, 28, 29, 30, 31, 32, 33, 34, 35, 36, 37, 38, 39, 40, 41, 42, 43, 44, 45, 46, 47, 48, 49, 50, 51, 52, 53, 54, 55, 56, 57, 58, 59, 60, 61, 62, 63, 64, 65, 66, 67, 68, 69, 70, 71, 72, 73, 74, 75, 76, 77, 78, 79, 80, 81, 82, 83, 84, 85, 86, 87, 88, 89]
 ·repeat (first | apply DropTo.nil | apply DropTo.skip rfl | apply DropTo.keep rfl)
 refine XC.drawL 7 [[], [], [0, 1], [0, 1, 2], [0, 1, 2, 3], [0, 1, 2, 3], [0, 1, 2, 3, 4], [0, 1, 2, 3, 4, 5, 6]] _ (Chg NoB) (Steady.chg NoB) [] [(0, (fun v _ => v = shapeV ((1 : Nat) : Int) ((1 : Nat) : Int))), (1, (fun v w' => DRow 41 79 82 5 0 w' (min 500 65536) (fun _ _ => none) 0 0 3 v)), (2, (fun v w' => ∃ tv, v = .tuple #[tv, .int .i64 0] ∧ StoreS 66 79 82 5 w2 w' tv 1 1 (1 + 2 * 1) (min 500 65536) (fun _ _ => none) 0 0))] [0, 1, 2, 3, 4, 5, 6] fol (by kernel_rfl) (by rfl) (by rfl) ⟨(fun _ _ _ _ h => h), (fun v w1 w2 hE h => h.ext hE), (fun v w1 w2 hE ⟨tv, h1, h2⟩ => ⟨tv, h1, h2.ext hE⟩), trivial⟩ ⟨?_, ?_, ?_, ?_, ?_, ?_, ?_, trivial⟩ ?_
 ·intro aD2 wD2 haD2 hCD2 hrD2
  replace hb2 := hb2.ext hCD2
  refine ⟨rfl, ?_⟩
  refine XD.start haD2 ?_
  refine XD.stepI ?_
  refine Y.loadA agg23 (by rfl) rfl (fun j u hu => cell_arr hb2 (by rw [Nat.zero_add]; exact hu)) ?_
  exact ⟨Chg.refl _ _, rfl⟩
 ·intro aD2 wD2 haD2 hCD2 hrD2
  replace hb2 := hb2.ext hCD2
  refine ⟨rfl, ?_⟩
  refine XD.start haD2 ?_
  refine XD.stepI ?_
  refine Y.call (by rfl) ok11 (disks_ok 3 500 _ (by decide)) ?_
  rintro v16 w16 ⟨hD16, hE16⟩
  exact ⟨hE16, hD16.lower (Nat.zero_le _)⟩
 ·intro aD2 wD2 haD2 hCD2 hrD2
  obtain ⟨r0, r1, -⟩ := hrD2
  replace hb2 := hb2.ext hCD2
  refine ⟨rfl, ?_⟩
  refine XD.start haD2 ?_
  refine XD.imp r0 ?_
  rintro _ rfl
  refine XD.imp r1 ?_
  rintro v16 hD16
  refine XD.stepI ?_
  refine Y.call (by rfl) ok10 (newD 1 1 _ (by decide) (by decide) _ 0 _ (fun _ _ => none) 0 0 hD16 (by decide) (by decide)) ?_
  rintro v17 w17 ⟨tv, rfl, hS17⟩
  exact ⟨hS17.1, tv, rfl, hS17.older hCD2⟩
 ·intro aD2 wD2 haD2 hCD2 hrD2
  obtain ⟨r0, r1, r2, -⟩ := hrD2
  replace hb2 := hb2.ext hCD2
  refine ⟨rfl, ?_⟩
  refine XD.start haD2 ?_
  refine XD.imp r0 ?_
  rintro _ rfl
  refine XD.imp r1 ?_
  rintro v16 hD16
  refine XD.imp r2 ?_
  rintro _ ⟨tv, rfl, hS⟩
  apply XD.stepP rfl
  intro w3
  refine Y.move (by rfl) ?_
  exact ⟨rfl, rfl⟩
 ·intro aD2 wD2 haD2 hCD2 hrD2
  obtain ⟨r0, r1, r2, r3, -⟩ := hrD2
  replace hb2 := hb2.ext hCD2
  refine ⟨rfl, ?_⟩
  refine XD.start haD2 ?_
  refine XD.imp r0 ?_
  rintro _ rfl
  refine XD.imp r1 ?_
  rintro v16 hD16
  refine XD.imp r2 ?_
  rintro _ ⟨tv, rfl, hS⟩
  refine XD.pure r3 ?_
  refine Y.move (by rfl) ?_
  apply XD.stepP rfl
  intro w3
  refine Y.extract (by rfl) (by rfl) ?_
  exact ⟨rfl, rfl⟩
 ·intro aD2 wD2 haD2 hCD2 hrD2
  obtain ⟨r0, r1, r2, r3, -⟩ := hrD2
  replace hb2 := hb2.ext hCD2
  refine ⟨rfl, ?_⟩
  refine XD.start haD2 ?_
  refine XD.imp r0 ?_
  rintro _ rfl
  refine XD.imp r1 ?_
  rintro v16 hD16
  refine XD.imp r2 ?_
  rintro _ ⟨tv, rfl, hS⟩
  refine XD.pure r3 ?_
  refine Y.move (by rfl) ?_
  apply XD.stepP rfl
  intro w3
  refine Y.extract (by rfl) (by rfl) ?_
  exact ⟨rfl, rfl⟩
 ·intro aD2 wD2 haD2 hCD2 hrD2
  obtain ⟨r0, r1, r2, r3, r4, -⟩ := hrD2
  replace hb2 := hb2.ext hCD2
  refine ⟨rfl, ?_⟩
  refine XD.start haD2 ?_
  refine XD.imp r0 ?_
  rintro _ rfl
  refine XD.imp r1 ?_
  rintro v16 hD16
  refine XD.imp r2 ?_
  rintro _ ⟨tv, rfl, hS⟩
  refine XD.pure r3 ?_
  refine Y.move (by rfl) ?_
  refine XD.pure r4 ?_
  refine Y.extract (by rfl) (by rfl) ?_
  apply XD.stepP rfl
  intro w3
  refine Y.assign (by rfl) ?_
  exact ⟨rfl, rfl⟩
 intro aD2 wD2 haD2 hCD2 hrD2
 obtain ⟨r0, r1, r2, r3, r4, r5, r6, -⟩ := hrD2
 replace hb2 := hb2.ext hCD2
 refine XD.start haD2 ?_
 refine XD.imp r0 ?_
 rintro _ rfl
 refine XD.imp r1 ?_
 rintro v16 hD16
 refine XD.imp r2 ?_
 rintro _ ⟨tv, rfl, hS⟩
 refine XD.pure r3 ?_
 refine Y.move (by rfl) ?_
 refine XD.pure r4 ?_
 refine Y.extract (by rfl) (by rfl) ?_
 refine XD.pure r5 ?_
 refine Y.extract (by rfl) (by rfl) ?_
 refine XD.pure r6 ?_
 refine Y.assign (by rfl) ?_
 refine XD.fin haD2 ?_
 obtain ⟨tb, rfl⟩ := hS.ptr
 show XL _ _ _ _ (List.cons _ _) _ _
 refine XL.s rfl ?_
 refine Y.assign (by rfl) ?_
 refine XL.nil ?_
 refine QN.next ?_
 refine XC.seq ?_
 refine XC.seq ?_
 refine XC.region ?_
 show XL _ _ _ _ (List.cons _ _) _ _
 refine XL.s rfl ?_
 refine Y.move (by rfl) ?_
 refine XL.s rfl ?_
 refine Y.neq (by rfl) (by rfl) ?_
 refine XL.s rfl ?_
 refine Y.move (by rfl) ?_
 refine XL.gt rfl rfl rfl rfl ?_
 refine Y.move (by rfl) ?_
 refine XL.gt rfl rfl rfl rfl ?_
 refine Y.eqlP Tryz.underlying27 (by rfl) (by rfl) ?_
 refine XL.s rfl ?_
 refine Y.pickF (by rfl) rfl (by rfl) ?_
 refine XL.nil ?_
 refine QN.next ?_
 refine XC.condF rfl ya ?_
 refine XC.skip ?_
 refine QN.next ?_
 refine XC.seq ?_
 refine XC.region ?_
 show XL _ _ _ _ (List.cons _ _) _ _
 refine XL.s rfl ?_
 refine Y.move (by rfl) ?_
 refine XL.s rfl ?_
 refine Y.call (by rfl) ok13 (putS w2 _ 1 1 _ _ _ 0 0 _ hS (by decide) (by decide) [97] (by decide) (by decide) (by decide) rfl [98, 108, 111, 98] (by decide) (by decide) (fun _ _ => rfl)) ?_
 rintro v27 w27 ⟨rfl, hS27⟩
 have hlen : ∀ i, i < 1 + 2 * 1 → ((encP 1 (1 + 2 * 1) [98, 108, 111, 98]).getD i []).length = 8 := fun i hi => by rw [encP_getD_len 1 1 _ (by decide) hi]; decide
 have hP : 20 + pieceN 1 [98, 108, 111, 98] = 28 := by decide
 have hG := put_goods (ms := fun _ _ => none) (nm := [97]) (n := 1 + 2 * 1) (L := 20 + pieceN 1 [98, 108, 111, 98]) (e := fun i => (encP 1 (1 + 2 * 1) [98, 108, 111, 98]).getD i []) (fun i hi => by show ((encP 1 (1 + 2 * 1) [98, 108, 111, 98]).getD i []).length ≤ _; rw [hlen i hi]; omega) (by decide)
 refine XL.s rfl ?_
 refine Y.assign (by rfl) ?_
 refine XL.nil ?_
 refine QN.next ?_
 refine XC.seq ?_
 refine XC.region ?_
 show XL _ _ _ _ (List.cons _ _) _ _
 refine XL.s rfl ?_
 refine Y.move (by rfl) ?_
 refine XL.s rfl ?_
 refine Y.buildSlice st49 (by rfl) (by rfl) (by omega) (by simp [Value.oneCell', byteV, strV]) ?_
 intro v30 w30 hN30
 replace hS27 := hS27.ext hN30.1
 refine XL.s rfl ?_
 refine Y.call (by rfl) ok14 (getS w2 _ 1 1 _ _ _ _ _ _ hS27 (by decide) (by decide) [97] (by decide) (by decide) (by decide) rfl [98, 108, 111, 98] (by decide) _ hG _ _ [0, 2] hN30.row (by decide)) ?_
 rintro v31 w31 ⟨rfl, hE31⟩
 replace hS27 := hS27.ext hE31
 refine XL.s rfl ?_
 refine Y.move (by rfl) ?_
 refine XL.s rfl ?_
 refine Y.extract (by rfl) (by rfl) ?_
 refine XL.s rfl ?_
 refine Y.extract (by rfl) (by rfl) ?_
 refine XL.s rfl ?_
 refine Y.assign (by rfl) ?_
 refine XL.s rfl ?_
 refine Y.assign (by rfl) ?_
 refine XL.nil ?_
 refine QN.next ?_
 refine XC.seq ?_
 refine XC.region ?_
 show XL _ _ _ _ (List.cons _ _) _ _
 refine XL.s rfl ?_
 refine Y.move (by rfl) ?_
 refine XL.s rfl ?_
 refine Y.call (by rfl) ok14 (getS_none w2 _ 1 1 _ _ _ _ _ _ hS27 (by decide) (by decide) [98] (by decide) (by decide) (by decide) rfl AnyB _ [] (Row.nil AnyB _) (by decide)) ?_
 rintro v36 w36 ⟨rfl, hE36⟩
 replace hS27 := hS27.ext hE36
 have hkey : ∀ (i : Nat) (x : List UInt8), upd ((fun _ _ => none : Nat → Fm) i) ([98, 46] ++ [97]) (some (fileB i ((encP 1 (1 + 2 * 1) [98, 108, 111, 98]).getD i []), 20 + pieceN 1 [98, 108, 111, 98])) x ≠ none → x = [98, 46, 97] := fun i x h => by simp only [upd] at h; split at h; (rename_i e; exact e); exact absurd rfl h
 have hcl : ∀ x, (fun i => upd ((fun _ _ => none : Nat → Fm) i) ([98, 46] ++ [97]) (some (fileB i ((encP 1 (1 + 2 * 1) [98, 108, 111, 98]).getD i []), 20 + pieceN 1 [98, 108, 111, 98]))) 1 x ≠ none → badF 1 ((fun i => upd ((fun _ _ => none : Nat → Fm) i) ([98, 46] ++ [97]) (some (fileB i ((encP 1 (1 + 2 * 1) [98, 108, 111, 98]).getD i []), 20 + pieceN 1 [98, 108, 111, 98]))) 1) x = false := fun x h => by
  have e := hkey 1 x h
  subst e
  have hsh := shardP_good 1 ((encP 1 (1 + 2 * 1) [98, 108, 111, 98]).getD 1 []) (by decide) (by rw [hlen 1 (by decide)]; omega)
  have hu : upd ((fun _ _ => none : Nat → Fm) 1) ([98, 46] ++ [97]) (some (fileB 1 ((encP 1 (1 + 2 * 1) [98, 108, 111, 98]).getD 1 []), 20 + pieceN 1 [98, 108, 111, 98])) [98, 46, 97] = some (fileB 1 ((encP 1 (1 + 2 * 1) [98, 108, 111, 98]).getD 1 []), 20 + pieceN 1 [98, 108, 111, 98]) := upd_same _ _ _
  simp only [badF, hu, hsh, hlen 1 (by decide)]; rfl
 refine XL.s rfl ?_
 refine Y.move (by rfl) ?_
 refine XL.s rfl ?_
 refine Y.extract (by rfl) (by rfl) ?_
 refine XL.s rfl ?_
 refine Y.extract (by rfl) (by rfl) ?_
 refine XL.s rfl ?_
 refine Y.assign (by rfl) ?_
 refine XL.s rfl ?_
 refine Y.assign (by rfl) ?_
 refine XL.nil ?_
 refine QN.next ?_
 refine XC.seq ?_
 refine XC.region ?_
 show XL _ _ _ _ (List.cons _ _) _ _
 refine XL.s rfl ?_
 refine Y.move (by rfl) ?_
 refine XL.s rfl ?_
 refine Y.call (by rfl) ok22 (scrubS_clean w2 _ 1 1 _ _ _ _ _ _ hS27 (by decide) (by decide) (by decide) 1 (by decide) (by decide) (fun x h => by rw [hkey 1 x h]; decide) hcl) ?_
 rintro v41 w41 ⟨rfl, hE41⟩
 replace hS27 := hS27.ext hE41
 refine XL.s rfl ?_
 refine Y.move (by rfl) ?_
 refine XL.s rfl ?_
 refine Y.extract (by rfl) (by rfl) ?_
 refine XL.s rfl ?_
 refine Y.extract (by rfl) (by rfl) ?_
 refine XL.s rfl ?_
 refine Y.assign (by rfl) ?_
 refine XL.s rfl ?_
 refine Y.assign (by rfl) ?_
 refine XL.nil ?_
 refine QN.next ?_
 refine XC.seq ?_
 refine XC.region ?_
 show XL _ _ _ _ (List.cons _ _) _ _
 refine XL.s rfl ?_
 refine Y.move (by rfl) ?_
 refine XL.s rfl ?_
 refine Y.call (by rfl) ok24 (repS w2 _ 1 1 _ _ _ _ _ _ hS27 (by decide) (by decide) [97] (by decide) (by decide) (by decide) rfl [98, 108, 111, 98] (by decide) _ hG (by decide) (by decide) (fun i _ => by rw [upd_other _ _ (by decide)])) ?_
 rintro v46 w46 ⟨rfl, hS46⟩
 have hcnt : cntM (fun i => upd ((fun _ _ => none : Nat → Fm) i) ([98, 46] ++ [97]) (some (fileB i ((encP 1 (1 + 2 * 1) [98, 108, 111, 98]).getD i []), 20 + pieceN 1 [98, 108, 111, 98]))) [97] (fun j => fileB j ((encP 1 (1 + 2 * 1) [98, 108, 111, 98]).getD j [])) (1 + 2 * 1) = 0 := cntM_zero fun i _ => by rw [upd_same]; rfl
 refine XL.s rfl ?_
 refine Y.move (by rfl) ?_
 refine XL.s rfl ?_
 refine Y.extract (by rfl) (by rfl) ?_
 refine XL.s rfl ?_
 refine Y.extract (by rfl) (by rfl) ?_
 refine XL.s rfl ?_
 refine Y.assign (by rfl) ?_
 refine XL.s rfl ?_
 refine Y.assign (by rfl) ?_
 refine XL.nil ?_
 refine QN.next ?_
 refine XC.seq ?_
 refine XC.region ?_
 show XL _ _ _ _ (List.cons _ _) _ _
 refine XL.s rfl ?_
 refine Y.move (by rfl) ?_
 refine XL.s rfl ?_
 refine Y.eql (by rfl) (by rfl) ?_
 refine XL.s rfl ?_
 refine Y.move (by rfl) ?_
 refine XL.gt rfl rfl rfl rfl ?_
 refine Y.move (by rfl) ?_
 refine XL.gt rfl rfl rfl rfl ?_
 refine Y.eql (by rfl) (by rfl) ?_
 refine XL.s rfl ?_
 refine Y.pickT (by rfl) rfl (by rfl) ?_
 refine XL.s rfl ?_
 refine Y.move (by rfl) ?_
 refine XL.gt rfl rfl rfl rfl ?_
 refine Y.move (by rfl) ?_
 refine XL.gt rfl rfl rfl rfl ?_
 refine Y.eqlS (by rfl) (by rfl) ?_
 refine XL.s rfl ?_
 refine Y.pickT (by rfl) rfl (by rfl) ?_
 refine XL.s rfl ?_
 refine Y.move (by rfl) ?_
 refine XL.gt rfl rfl ya rfl ?_
 refine Y.move (by rfl) ?_
 refine XL.gt rfl rfl ya rfl ?_
 refine Y.eql (by rfl) (by rfl) ?_
 refine XL.s rfl ?_
 refine Y.pickT (by rfl) ya (by rfl) ?_
 refine XL.s rfl ?_
 refine Y.move (by rfl) ?_
 refine XL.gt rfl rfl rfl rfl ?_
 refine Y.move (by rfl) ?_
 refine XL.gt rfl rfl rfl rfl ?_
 refine Y.eql (by rfl) (by rfl) ?_
 refine XL.s rfl ?_
 refine Y.pickT (by rfl) rfl (by rfl) ?_
 refine XL.s rfl ?_
 refine Y.move (by rfl) ?_
 refine XL.gt rfl rfl rfl rfl ?_
 refine Y.move (by rfl) ?_
 refine XL.gt rfl rfl rfl rfl ?_
 refine Y.len Tryz.underlying56 (by rfl) (Row.nil AnyB _) ?_
 refine XL.gt rfl rfl rfl rfl ?_
 refine Y.eql (by rfl) (by rfl) ?_
 refine XL.s rfl ?_
 refine Y.pickT (by rfl) rfl (by rfl) ?_
 refine XL.s rfl ?_
 refine Y.move (by rfl) ?_
 refine XL.gt rfl rfl rfl rfl ?_
 refine Y.move (by rfl) ?_
 refine XL.gt rfl rfl rfl rfl ?_
 refine Y.eql (by rfl) (by rfl) ?_
 refine XL.s rfl ?_
 refine Y.pickT (by rfl) rfl (by rfl) ?_
 refine XL.s rfl ?_
 refine Y.move (by rfl) ?_
 refine XL.gt rfl rfl (by rw [hcnt]; rfl) rfl ?_
 refine Y.move (by rfl) ?_
 refine XL.gt rfl rfl (by rw [hcnt]; rfl) rfl ?_
 refine Y.eql (by rfl) (by rfl) ?_
 refine XL.s rfl ?_
 refine Y.pickT (by rfl) (by rw [hcnt]; rfl) (by rfl) ?_
 refine XL.s rfl ?_
 refine Y.move (by rfl) ?_
 refine XL.gt rfl rfl rfl rfl ?_
 refine Y.move (by rfl) ?_
 refine XL.gt rfl rfl rfl rfl ?_
 refine Y.call (by rfl) ok16 (diskS_no w2 _ 1 1 _ _ _ _ _ _ hS46 (by decide) (by decide) (by decide)) ?_
 rintro v82 w82 ⟨rfl, hE82⟩
 refine XL.gt rfl rfl rfl rfl ?_
 refine Y.eqlP Tryz.underlying41 (by rfl) (by rfl) ?_
 refine XL.s rfl ?_
 refine Y.pickT (by rfl) rfl (by rfl) ?_
 refine XL.s rfl ?_
 refine Y.move (by rfl) ?_
 refine XL.gt rfl rfl ya rfl ?_
 refine Y.move (by rfl) ?_
 refine XL.gt rfl rfl ya rfl ?_
 refine Y.call (by rfl) ok16 (diskS w2 _ 1 1 _ _ _ _ _ _ (hS46.ext hE82) (by decide) (by decide) (by decide) 0 (by decide)) ?_
 rintro v87 w87 ⟨hD87, hE87⟩
 obtain ⟨db, rfl⟩ := hD87.ptr
 refine XL.gt rfl rfl ya rfl ?_
 refine Y.neqP Tryz.underlying41 (by rfl) (by rfl) ?_
 refine XL.s rfl ?_
 refine Y.pickT (by rfl) ya (by rfl) ?_
 refine XL.s rfl ?_
 refine Y.assign (by rfl) ?_
 refine XL.nil ?_
 refine QN.next ?_
 refine XC.ret ?_
 refine QN.done1 (fn := Tryz.f8) (R := R) (.inl rfl) rfl rfl ?_
 refine hR _ _ ?_
 exact ⟨rfl, hE2.trans ((hS46.ext hE82).ext hE87).1⟩
end Go.Proofs.YtchammpamigonaaGreatX
end
section
namespace Go.Proofs.YtchammpamigonaaGreatX
open Go Go.RowKit
def spGi (ss : List Sp) (i : Nat) : Bool := spG (ss.getD i ⟨0, 0, 0⟩)
theorem spG_get (ss : List Sp) (n : Nat) (hn : n ≤ ss.length) : ∀ i, i < n → (boolsV ((ss.take n).map spG))[i]? = some (.bool (spGi ss i)) := fun i hi => by
  have h1 : i < ((ss.take n).map spG).length := by simp; omega
  rw [boolsV_get _ _ h1]
  simp [spGi, List.getD_eq_getElem?_getD, show i < ss.length by omega]
end Go.Proofs.YtchammpamigonaaGreatX
end
section
namespace Go.Proofs.YtchammpamigonaaGreatX
open Go Go.RowKit
section
variable {m : Fm} {nm : List UInt8} {g : Bool} {i : Nat}
end
section
variable {k F : Nat} {nm bl : List UInt8} {ss : List Sp} {i : Nat}
theorem sp_one {x : List UInt8} (h : spMs k F nm bl ss i x ≠ none) : x = [98, 46] ++ nm := by
  simp only [spMs, spM] at h
  by_cases e : x = [98, 46] ++ nm
  · exact e
  · rw [if_neg e] at h; exact absurd rfl h
end
end Go.Proofs.YtchammpamigonaaGreatX
end
section
namespace Go.Proofs.YtchammpamigonaaGreatX
open Go Go.RowKit
theorem mendP_o (m : Fm) (nm want : List UInt8) {x : List UInt8} (h1 : x ≠ [98, 46] ++ nm) (h2 : x ≠ [113, 46] ++ nm) : mendP m nm want x = m x := by
  unfold mendP
  split
  · rw [upd_other _ _ h2]
  · rw [upd_other _ _ h1, upd_other _ _ h2]
section
variable {k F : Nat} {nm bl : List UInt8} {ss : List Sp} {i q : Nat}
theorem goods_of (ms : Nat → Fm) (hk : 1 ≤ k) (hF : k + 2 * F ≤ 7) (hbl : bl.length ≤ 512) (h : ∀ q, q < k + 2 * F → (ms q ([98, 46] ++ nm)).map (·.1) = some (fileB q ((encP k (k + 2 * F) bl).getD q []))) : Goods ms nm (k + 2 * F) (fun j => (encP k (k + 2 * F) bl).getD j []) (fun _ => true) := by
  intro q hq
  have hl : ((encP k (k + 2 * F) bl).getD q []).length = pieceN k bl := encP_getD_len k F bl hk hq
  have hpl := padB_le bl hk
  have hql := pieceN_le bl hk
  have h1 := h q hq
  simp only [shardAt, if_true]
  cases hm : ms q ([98, 46] ++ nm) with
  | none => rw [hm] at h1; simp at h1
  | some v =>
    obtain ⟨d, y⟩ := v
    rw [hm] at h1
    have e : d = fileB q ((encP k (k + 2 * F) bl).getD q []) := by simpa using h1
    subst e
    exact shardP_good q _ (by omega) (by omega)
end
theorem scrub1_o {i : Nat} {m : Fm} {f x : List UInt8} (hx : x.head? ≠ some 113) : scrub1 i m f x = m x ∨ (scrub1 i m f x = none ∧ f = x ∧ badF i m x = true) := by
  unfold scrub1
  split
  · rename_i hb
    have h1 : x ≠ [113, 46] ++ f.drop 2 := fun e => hx (by rw [e]; rfl)
    rw [upd_other _ _ h1]
    by_cases e : x = f
    · subst e; exact .inr ⟨upd_same _ _ _, rfl, hb⟩
    · exact .inl (upd_other _ _ e)
  · exact .inl rfl
theorem badF_congr {i : Nat} {m m' : Fm} {x : List UInt8} (h : m x = m' x) : badF i m x = badF i m' x := by unfold badF; rw [h]
theorem scrubM_keep {i : Nat} {x : List UInt8} (hx : x.head? ≠ some 113) : ∀ (ss : List (List UInt8)) (m : Fm), badF i m x = false → scrubM i m ss x = m x
  | [], _, _ => rfl
  | f :: r, m, h => by
    have h1 : scrub1 i m f x = m x := by
      rcases scrub1_o (i := i) (m := m) (f := f) hx with e | ⟨_, _, e⟩
      · exact e
      · rw [h] at e; cases e
    show scrubM i (scrub1 i m f) r x = m x
    rw [scrubM_keep hx r _ (by rw [badF_congr h1]; exact h), h1]
theorem scrubM_or {i : Nat} {x : List UInt8} (hx : x.head? ≠ some 113) : ∀ (ss : List (List UInt8)) (m : Fm), scrubM i m ss x = m x ∨ scrubM i m ss x = none
  | [], _ => .inl rfl
  | f :: r, m => by
    show scrubM i (scrub1 i m f) r x = m x ∨ scrubM i (scrub1 i m f) r x = none
    rcases scrubM_or hx r (scrub1 i m f) with e | e
    · rcases scrub1_o (i := i) (m := m) (f := f) hx with e2 | ⟨e2, _, _⟩
      · exact .inl (e.trans e2)
      · exact .inr (e.trans e2)
    · exact .inr e
structure Kept (q : Nat) (m : Fm) (nm nm2 : List UInt8) (e : List UInt8) (g : Bool) (v : List UInt8 × Nat) : Prop where
  b : m ([98, 46] ++ nm2) = some v
  t : m [116, 46] = none
  s : shardAt m nm q = if g then e else []
theorem Kept.scrub {q : Nat} {m : Fm} {nm nm2 e : List UInt8} {g : Bool} {v : List UInt8 × Nat} (h : Kept q m nm nm2 e g v) (he : 0 < e.length) (hv : (shardP q v.1).length ≠ 0) (ss : List (List UInt8)) : Kept q (scrubM q m ss) nm nm2 e g v := by
  refine ⟨?_, ?_, ?_⟩
  · rw [scrubM_keep (by simp) ss m ?_, h.b]
    unfold badF; rw [h.b]
    obtain ⟨d, y⟩ := v
    simp only [decide_eq_false hv, Bool.and_false]
  · rw [scrubM_keep (by simp) ss m (by simp [badF, hasP]), h.t]
  · cases g with
    | true =>
      have hs := h.s
      simp only [if_true] at hs ⊢
      cases hm : m ([98, 46] ++ nm) with
      | none => unfold shardAt at hs; rw [hm] at hs; rw [← hs] at he; simp at he
      | some u =>
        obtain ⟨d, y⟩ := u
        unfold shardAt at hs; rw [hm] at hs; simp only at hs
        have hb : badF q m ([98, 46] ++ nm) = false := by
          unfold badF; rw [hm]; simp only [hs]
          rw [decide_eq_false (by omega)]; exact Bool.and_false _
        unfold shardAt; rw [scrubM_keep (by simp) ss m hb, hm]; exact hs
    | false =>
      have hs := h.s
      simp only [Bool.false_eq_true, if_false] at hs ⊢
      unfold shardAt
      rcases scrubM_or (i := q) (x := [98, 46] ++ nm) (by simp) ss m with e1 | e1
      · rw [e1]; exact hs
      · rw [e1]
end Go.Proofs.YtchammpamigonaaGreatX
end
section
namespace Go.Proofs.YtchammpamigonaaGreatX
open Go Go.RowKit
theorem StoreS.widen {TS TD TF TB : TypeId} {w0 w : World} {tv : Value} {K F n most U c U' c' : Nat} {ms : Nat → Fm} (h : StoreS TS TD TF TB w0 w tv K F n most ms U c) (hU : U ≤ U') (hc : c ≤ c') : StoreS TS TD TF TB w0 w tv K F n most ms U' c' :=
  let ⟨h1, G, h2, h3⟩ := h; ⟨h1, G, h2.more (fun _ _ => ⟨hU, hc⟩), h3⟩
section
variable {k F : Nat} {nm nm2 bl wl : List UInt8} {ss : List Sp} {q : Nat}
theorem sp_t : spMs k F nm bl ss q [116, 46] = none := by
  by_cases h : spMs k F nm bl ss q [116, 46] = none
  · exact h
  · have := sp_one h; simp at this
def twoMs (k F : Nat) (nm nm2 bl wl : List UInt8) (ss : List Sp) (i : Nat) : Fm := upd (spMs k F nm bl ss i) ([98, 46] ++ nm2) (some (fileB i ((encP k (k + 2 * F) wl).getD i []), 20 + pieceN k wl))
theorem two_kept (hk : 1 ≤ k) (hF : k + 2 * F ≤ 7) (hbl : bl.length ≤ 512) (hne : nm ≠ nm2) (hq : q < k + 2 * F) :
    Kept q (twoMs k F nm nm2 bl wl ss q) nm nm2 ((encP k (k + 2 * F) bl).getD q []) (spGi ss q) (fileB q ((encP k (k + 2 * F) wl).getD q []), 20 + pieceN k wl) := by
  have h1 : ([98, 46] ++ nm : List UInt8) ≠ [98, 46] ++ nm2 := by simpa using hne
  refine ⟨upd_same _ _ _, ?_, ?_⟩
  · unfold twoMs; rw [upd_other _ _ (by simp), sp_t]
  · have h : shardAt (spMs k F nm bl ss q) nm q = if spGi ss q = true then (encP k (k + 2 * F) bl).getD q [] else [] := spMs_goods k F nm bl ss hk hF hbl q hq
    rw [← h]
    unfold shardAt twoMs
    rw [upd_other _ _ h1]
theorem two_len (hnm : nm.length ≤ 16) (hnm2 : nm2.length ≤ 16) {x : List UInt8} (h : twoMs k F nm nm2 bl wl ss q x ≠ none) : 1 ≤ x.length ∧ x.length ≤ 24 := by
  unfold twoMs at h
  by_cases e : x = [98, 46] ++ nm2
  · subst e; simp; omega
  · rw [upd_other _ _ e] at h; rw [sp_one h]; simp; omega
theorem file_shard (hk : 1 ≤ k) (hF : k + 2 * F ≤ 7) (hwl : wl.length ≤ 512) (hq : q < k + 2 * F) : (shardP q (fileB q ((encP k (k + 2 * F) wl).getD q []))).length ≠ 0 := by
  have hl : ((encP k (k + 2 * F) wl).getD q []).length = pieceN k wl := encP_getD_len k F wl hk hq
  have hp := pieceN_pos wl hk
  have hpl := padB_le wl hk
  have hql := pieceN_le wl hk
  rw [shardP_good q _ (by omega) (by omega)]; omega
theorem enc_pos (hk : 1 ≤ k) (hq : q < k + 2 * F) : 0 < ((encP k (k + 2 * F) bl).getD q []).length := by rw [encP_getD_len k F bl hk hq]; exact pieceN_pos bl hk
end
end Go.Proofs.YtchammpamigonaaGreatX
end
section
set_option linter.unusedVariables false
set_option linter.unusedSimpArgs false
set_option maxRecDepth 10000
set_option maxHeartbeats 4000000
namespace Go.Proofs.YtchammpamigonaaGreatX
open Go Go.RowKit Go.Proofs
theorem repAny (w0 : World) (tv : Value) (K F n most : Nat) (ms : Nat → Fm) (U c : Nat) (w : World) (hS : StoreS 66 79 82 5 w0 w tv K F n most ms U c) (hm : most ≤ 65536) (hU : U ≤ 65536) (nm : List UInt8) (hnm : 1 ≤ nm.length ∧ nm.length ≤ 16) (hk : 1 ≤ K) (hKF : K + 2 * F ≤ 7) (hnn : n = K + 2 * F) (l : List UInt8) (hl : l.length ≤ 512) (g : Nat → Bool) (hg : Goods ms nm n (fun i => (encP K n l).getD i []) g) (hf : U + (20 + pieceN K l) ≤ most) (ht : ∀ i, i < n → ms i [116, 46] = none) : Rets Tryz.prog 24 #[tv, strV nm] w fun v w' => ∃ ms', StoreS 66 79 82 5 w0 w' tv K F n most ms' (U + (20 + pieceN K l)) (c + 1) ∧ ∀ q x, x ≠ [98, 46] ++ nm → x ≠ [113, 46] ++ nm → ms' q x = ms q x := by
 by_cases hc : K ≤ goodN g [] n
 ·exact (repS w0 tv K F n most ms U c w hS hm hU nm hnm hk hKF hnn l hl g hg hc hf ht).mono fun v w' h => ⟨_, h.2, fun q x h1 h2 => mendP_o _ _ _ h1 h2⟩
 ·exact (repS_short w0 tv K F n most ms U c w hS hm hU nm hnm hk hKF hnn l hl g hg (by omega)).mono fun v w' h => ⟨ms, (hS.ext h.2).widen (by omega) (by omega), fun _ _ _ _ => rfl⟩
theorem apart_ok (a b : UInt8) (bl wl : List UInt8) (ss : List Sp) (w : World) (hss : ss.length = 7) (hbl : bl.length ≤ 9223372036854775807) (hwl : wl.length ≤ 9223372036854775807) :
  Rets Tryz.prog 6 #[byteV a, byteV b, strV bl, strV wl, .agg (spCs ss).toArray] w fun v w' => v = .bool true ∧ Ext w w' := by
 refine Rets.enter (args := [byteV a, byteV b, strV bl, strV wl, .agg (spCs ss).toArray]) (n := 129) Tryz.func6 rfl rfl rfl ?_
 intro R hR
 show XC _ _ _ _ [(0, byteV a), (1, byteV b), (2, strV bl), (3, strV wl), (4, .agg (spCs ss).toArray)] _
 refine XC.seq ?_
 refine XC.region ?_
 show XL _ _ _ _ (List.cons _ _) _ _
 refine XL.s rfl ?_
 refine Y.box (by rfl) ?_
 intro b9 w9 hb9 hz9 hE9
 have hbB : HB w9 b9 (.cells (spCs ss).toArray 48 (0, 0)) := hb9
 refine XL.s rfl ?_
 refine Y.assign (by rfl) ?_
 refine XL.nil ?_
 refine QN.next ?_
 refine XC.seq ?_
 refine XC.region ?_
 show XL _ _ _ _ (List.cons _ _) _ _
 refine XL.s rfl ?_
 refine Y.move (by rfl) ?_
 refine XL.s rfl ?_
 refine Y.move (by rfl) ?_
 refine XL.s rfl ?_
 refine Y.call (by rfl) ok19 (shape_ok a b _) ?_
 rintro vS wS ⟨k, F, hk, hF, rfl, hES⟩
 refine XL.s rfl ?_
 refine Y.alloc zt23 ?_
 intro b11 w11 hb11 hz11 hE11
 refine XL.o ?_
 refine Y.storeA (cs := [.int .i64 (k : Int), .int .i64 (F : Int)]) agg23 (by rfl) (by rfl) hb11 rfl rfl (by intro c hc; simp at hc; rcases hc with rfl | rfl <;> rfl) ?_
 intro w2 hb2 hC2 hz2
 have hE2 : Ext w w2 := ((hE9.trans hES).trans hE11).chgNew hC2 (fun x hx => by have := hE9.size; have := hES.size; omega)
 have hsh : HB w2 b11 (.cells (Value.cells (shapeV (k : Int) (F : Int))) 23 (0, 0)) := hb2
 have hbB2 : HB w2 b9 (.cells (spCs ss).toArray 48 (0, 0)) := ((hbB.ext hES).ext hE11).chg hC2 (fun h => by have := hbB.lt; have := hES.size; omega)
 refine XL.nil ?_
 refine QN.next ?_
 refine XC.seq ?_
 refine XC.seq ?_
 by_cases hl1 : bl.length ≤ 512
 ·skip
  by_cases hl2 : wl.length ≤ 512
  ·skip
   refine XC.region ?_
   show XL _ _ _ _ (List.cons _ _) _ _
   refine XL.s rfl ?_
   refine Y.call (by rfl) ok8 (awake_ok _) ?_
   rintro vA wA ⟨rfl, hEA⟩
   refine XL.s rfl ?_
   refine Y.not (by rfl) ?_
   refine XL.s rfl ?_
   refine Y.move (by rfl) ?_
   refine XL.gt rfl rfl rfl rfl ?_
   refine Y.move (by rfl) ?_
   refine XL.gt rfl rfl rfl rfl ?_
   refine Y.lenS Tryz.underlying9 (by rfl) ?_
   refine XL.gt rfl rfl rfl rfl ?_
   refine Y.gtr (by rfl) (by rfl) ?_
   refine XL.s rfl ?_
   refine Y.pickF (by rfl) rfl (by rfl) ?_
   refine XL.s rfl ?_
   refine Y.move (by rfl) ?_
   refine XL.gt rfl rfl ya rfl ?_
   refine Y.move (by rfl) ?_
   refine XL.gt rfl rfl ya rfl ?_
   refine Y.lenS Tryz.underlying9 (by rfl) ?_
   refine XL.gt rfl rfl ya rfl ?_
   refine Y.gtr (by rfl) (by rfl) ?_
   refine XL.s rfl ?_
   refine Y.pickF (by rfl) ya (by rfl) ?_
   refine XL.nil ?_
   refine QN.next ?_
   refine XC.condF rfl ya ?_
   have hE0 := hE2.trans hEA
   refine XC.skip ?_
   refine QN.next ?_
   refine XC.seq ?_
   refine XC.region ?_
   show XL _ _ _ _ (List.cons _ _) _ _
   refine XL.s rfl ?_
   refine Y.loadA agg23 (by rfl) rfl (shapeA (hsh.ext hEA)) ?_
   refine XL.s rfl ?_
   refine Y.move (by rfl) ?_
   refine XL.s rfl ?_
   refine Y.loadA agg48 (by rfl) (by rw [spCs_length, hss]) (fun j u hu => cell_arr (hbB2.ext hEA) (by rw [Nat.zero_add]; exact hu)) ?_
   refine XL.s rfl ?_
   refine Y.call (by rfl) ok20 (spoilt_ok k F [98, 108, 111, 98] bl ss _ hk hF (by decide) hl1 hss) ?_
   rintro v4 w4 ⟨da, gv, rfl, hDB, hE4⟩
   obtain ⟨dvs, Fd, hdr, hdl, hdd, hgr, hgl⟩ := hDB.out
   refine XL.s rfl ?_
   refine Y.move (by rfl) ?_
   refine XL.s rfl ?_
   refine Y.extract (by rfl) (by rfl) ?_
   refine XL.s rfl ?_
   refine Y.extract (by rfl) (by rfl) ?_
   refine XL.s rfl ?_
   refine Y.assign (by rfl) ?_
   refine XL.s rfl ?_
   refine Y.assign (by rfl) ?_
   refine XL.nil ?_
   refine QN.next ?_
   refine XC.seq ?_
   refine XC.region ?_
   show XL _ _ _ _ (List.cons _ _) _ _
   refine XL.s rfl ?_
   refine Y.loadA agg23 (by rfl) rfl (shapeA ((hsh.ext hEA).ext hE4)) ?_
   refine XL.s rfl ?_
   refine Y.move (by rfl) ?_
   refine XL.s rfl ?_
   refine Y.call (by rfl) ok10 (newS k F _ hk hF _ _ dvs hdr hdl Fd 6000 (spMs k F [98, 108, 111, 98] bl ss) 700 1 hdd (by omega) (by omega)) ?_
   rintro v5 w5 ⟨tv, rfl, hS⟩
   obtain ⟨tb, rfl⟩ := hS.ptr
   have hgi := spG_get ss (k + 2 * F) (by omega)
   have hsh5 := ((hsh.ext hEA).ext hE4).ext hS.1
   have hbB5 := ((hbB2.ext hEA).ext hE4).ext hS.1
   have hgr5 := hgr.ext hS.1
   have hE5 := (hE0.trans hE4).trans hS.1
   have hG := spMs_goods k F [98, 108, 111, 98] bl ss hk hF hl1
   refine XL.s rfl ?_
   refine Y.move (by rfl) ?_
   refine XL.s rfl ?_
   refine Y.extract (by rfl) (by rfl) ?_
   refine XL.s rfl ?_
   refine Y.extract (by rfl) (by rfl) ?_
   refine XL.s rfl ?_
   refine Y.assign (by rfl) ?_
   refine XL.s rfl ?_
   refine Y.assign (by rfl) ?_
   refine XL.nil ?_
   refine QN.next ?_
   refine XC.seq ?_
   refine XC.seq ?_
   refine XC.region ?_
   show XL _ _ _ _ (List.cons _ _) _ _
   refine XL.s rfl ?_
   refine Y.move (by rfl) ?_
   refine XL.s rfl ?_
   refine Y.neq (by rfl) (by rfl) ?_
   refine XL.s rfl ?_
   refine Y.move (by rfl) ?_
   refine XL.gt rfl rfl rfl rfl ?_
   refine Y.move (by rfl) ?_
   refine XL.gt rfl rfl rfl rfl ?_
   refine Y.eqlP Tryz.underlying27 (by rfl) (by rfl) ?_
   refine XL.s rfl ?_
   refine Y.pickF (by rfl) rfl (by rfl) ?_
   refine XL.s rfl ?_
   refine Y.move (by rfl) ?_
   have hpl := padB_le bl hk
   have hql := pieceN_le bl hk
   have hpl2 := padB_le wl hk
   have hql2 := pieceN_le wl hk
   refine XL.gt rfl rfl rfl rfl ?_
   refine Y.move (by rfl) ?_
   refine XL.gt rfl rfl rfl rfl ?_
   refine Y.move (by rfl) ?_
   refine XL.gt rfl rfl rfl rfl ?_
   refine Y.call (by rfl) ok13 (putS w4 _ k F _ _ _ _ _ _ hS (by omega) (by omega) [98, 108] (by decide) hk hF rfl wl hl2 (by omega) (fun q _ => sp_t)) ?_
   rintro v63 w63 ⟨rfl, hS63⟩
   refine XL.gt rfl rfl rfl rfl ?_
   refine Y.neq (by rfl) (by rfl) ?_
   refine XL.s rfl ?_
   refine Y.pickF (by rfl) rfl (by rfl) ?_
   refine XL.nil ?_
   refine QN.next ?_
   refine XC.condF rfl ya ?_
   have hE04 := hE0.trans hE4
   have hshF := (hsh.ext hEA).ext hE4
   refine XC.skip ?_
   refine QN.next ?_
   refine XC.seq ?_
   refine XC.seq ?_
   refine XC.region ?_
   show XL _ _ _ _ (List.cons _ _) _ _
   refine XL.s rfl ?_
   refine Y.assign (by rfl) ?_
   refine XL.nil ?_
   refine QN.next ?_
   refine XC.block ?_
   refine XC.loop (α := Nat × (Nat → Fm)) (fun (i, M) => [(3, strV wl), (11, .pointer (some ⟨b11, 0, none⟩)), (13, gv), (14, .pointer (some ⟨tb, 0, none⟩)), (16, .int .i64 i)]) (fun (i, M) wr => i ≤ k + 2 * F ∧ StoreS 66 79 82 5 w4 wr (.pointer (some ⟨tb, 0, none⟩)) k F (k + 2 * F) 6000 M (700 + (20 + pieceN k wl)) 2 ∧ (∀ q, i ≤ q → M q = twoMs k F [98, 108, 111, 98] [98, 108] bl wl ss q) ∧ (∀ q, q < k + 2 * F → Kept q (M q) [98, 108, 111, 98] [98, 108] ((encP k (k + 2 * F) bl).getD q []) (spGi ss q) (fileB q ((encP k (k + 2 * F) wl).getD q []), 20 + pieceN k wl))) (fun (i, M) => k + 2 * F - i) ((0, twoMs k F [98, 108, 111, 98] [98, 108] bl wl ss)) ?_ ?_ ?_
   ·exact ⟨rfl, rfl, rfl, rfl, rfl, trivial⟩
   ·exact ⟨by omega, hS63, fun _ _ => rfl, fun q hq => two_kept hk hF hl1 (by decide) hq⟩
   ·rintro ⟨i, M⟩ wr hI
    obtain ⟨hi, hSx, hM1, hM2⟩ := hI
    refine XC.seq ?_
    refine XC.seq ?_
    refine XC.region ?_
    show XL _ _ _ _ (List.cons _ _) _ _
    refine XL.s rfl ?_
    refine Y.move (by rfl) ?_
    refine XL.s rfl ?_
    refine Y.move (by rfl) ?_
    refine XL.s rfl ?_
    refine Y.len Tryz.underlying51 (by rfl) (hgr.ext hSx.1) ?_
    refine XL.s rfl ?_
    refine Y.lss (by rfl) (by rfl) ?_
    refine XL.nil ?_
    refine QN.next ?_
    refine XC.condS rfl ?_ ?_
    ·intro hc
     try simp only [decide_eq_true_eq, decide_eq_false_iff_not, Bool.not_eq_true', Bool.not_eq_false', Bool.not_eq_eq_eq_not, Bool.not_true, Bool.not_false, Bool.or_eq_true, Bool.and_eq_true, Bool.or_eq_false_iff] at hc
     have hi' : i < k + 2 * F := by omega
     refine XC.skip ?_
     refine QN.next ?_
     refine XC.seq ?_
     refine XC.block ?_
     refine XC.region ?_
     show XL _ _ _ _ (List.cons _ _) _ _
     refine XL.s rfl ?_
     refine Y.move (by rfl) ?_
     refine XL.s rfl ?_
     refine Y.move (by rfl) ?_
     refine XL.s rfl ?_
     refine Y.call (by rfl) ok22 (scrubS w4 _ k F _ _ _ _ _ _ hSx (by omega) (by omega) hF i hi' (by omega) (fun x h => two_len (nm := [98, 108, 111, 98]) (nm2 := [98, 108]) (by decide) (by decide) (by rw [← hM1 i (Nat.le_refl _)]; exact h))) ?_
     rintro v74 w74 ⟨sn, hsn, hsm, qa, rfl, hrow, hS74⟩
     refine XL.nil ?_
     refine QN.blk ?_
     refine QN.next ?_
     refine XC.region ?_
     show XL _ _ _ _ (List.cons _ _) _ _
     refine XL.s rfl ?_
     refine Y.move (by rfl) ?_
     refine XL.s rfl ?_
     refine Y.add (by rfl) (by rfl) (wrap64 (by omega) (by omega)) ?_
     refine XL.s rfl ?_
     refine Y.assign (by rfl) ?_
     refine XL.nil ?_
     refine QN.again ((i + 1, fun q => if q = i then scrubM i (M i) sn else M q)) ?_ ?_ ?_
     ·exact ⟨rfl, rfl, rfl, rfl, rfl, trivial⟩
     ·refine ⟨by omega, hS74, fun q hq => by show (if q = i then _ else M q) = _; rw [if_neg (by omega)]; exact hM1 q (by omega), fun q hq => ?_⟩
      show Kept q (if q = i then _ else M q) _ _ _ _ _
      by_cases e : q = i
      ·subst e; rw [if_pos rfl]; exact (hM2 q hq).scrub (enc_pos hk hq) (file_shard hk hF hl2 hq) sn
      ·rw [if_neg e]; exact hM2 q hq
     ·first | omega | (simp only []; omega) | (simp; omega)
    ·intro hc
     try simp only [decide_eq_true_eq, decide_eq_false_iff_not, Bool.not_eq_true', Bool.not_eq_false', Bool.not_eq_eq_eq_not, Bool.not_true, Bool.not_false, Bool.or_eq_true, Bool.and_eq_true, Bool.or_eq_false_iff] at hc
     refine XC.exit ?_
     refine QN.thenE ?_
     refine QN.thenE ?_
     refine QN.hit ?_
     refine QN.next ?_
     refine XC.seq ?_
     refine XC.region ?_
     show XL _ _ _ _ (List.cons _ _) _ _
     refine XL.s rfl ?_
     refine Y.move (by rfl) ?_
     refine XL.s rfl ?_
     refine Y.call (by rfl) ok24 (repAny w4 _ k F _ _ _ _ _ _ hSx (by omega) (by omega) [98, 108, 111, 98] (by decide) hk hF rfl bl hl1 (spGi ss) (fun q hq => (hM2 q hq).s) (by omega) (fun q hq => (hM2 q hq).t)) ?_
     rintro v76 w76 ⟨M3, hS76, hk76⟩
     have hb3 : ∀ q, q < k + 2 * F → M3 q [98, 46, 98, 108] = some (fileB q ((encP k (k + 2 * F) wl).getD q []), 20 + pieceN k wl) := fun q hq => (hk76 q _ (by decide) (by decide)).trans (hM2 q hq).b
     have ht3 : ∀ q, q < k + 2 * F → M3 q [116, 46] = none := fun q hq => (hk76 q _ (by decide) (by decide)).trans (hM2 q hq).t
     have hm3 : ∀ q, q < k + 2 * F → (M3 q ([98, 46] ++ [98, 108])).map (·.1) = some (fileB q ((encP k (k + 2 * F) wl).getD q [])) := fun q hq => by rw [show M3 q ([98, 46] ++ [98, 108]) = _ from hb3 q hq]; rfl
     have hG3 := goods_of (nm := [98, 108]) (bl := wl) M3 hk hF hl2 hm3
     refine XL.nil ?_
     refine QN.next ?_
     refine XC.seq ?_
     refine XC.region ?_
     show XL _ _ _ _ (List.cons _ _) _ _
     refine XL.s rfl ?_
     refine Y.loadA agg23 (by rfl) rfl (shapeA (hshF.ext hS76.1)) ?_
     refine XL.s rfl ?_
     refine Y.move (by rfl) ?_
     refine XL.s rfl ?_
     refine Y.call (by rfl) ok15 (rfiles_ok k F wl _ hk hF (by omega)) ?_
     rintro v79 w79 ⟨hM, hE79⟩
     rw [encR_eq k (k + 2 * F) wl (by omega) (by omega) (by omega)] at hM
     have hfl := files_len k F wl
     obtain ⟨qf, capf, rfl⟩ := hM.rows.val
     have hS79 := hS76.ext hE79
     refine XL.s rfl ?_
     refine Y.assign (by rfl) ?_
     refine XL.nil ?_
     refine QN.next ?_
     refine XC.seq ?_
     refine XC.seq ?_
     refine XC.region ?_
     show XL _ _ _ _ (List.cons _ _) _ _
     refine XL.s rfl ?_
     refine Y.assign (by rfl) ?_
     refine XL.nil ?_
     refine QN.next ?_
     refine XC.block ?_
     refine XC.loop (α := Nat) (fun j => [(3, strV wl), (13, gv), (14, .pointer (some ⟨tb, 0, none⟩)), (17, .slice qf (filesP (encP k (k + 2 * F) wl)).length capf), (18, .int .i64 j)]) (fun j wr => j ≤ k + 2 * F ∧ Ext w79 wr) (fun j => k + 2 * F - j) (0) ?_ ?_ ?_
     ·exact ⟨rfl, rfl, rfl, rfl, rfl, trivial⟩
     ·exact ⟨by omega, Chg.refl _ _⟩
     ·rintro j wr hI
      obtain ⟨hj, hE⟩ := hI
      have hSj := hS79.ext hE
      refine XC.seq ?_
      refine XC.seq ?_
      refine XC.region ?_
      show XL _ _ _ _ (List.cons _ _) _ _
      refine XL.s rfl ?_
      refine Y.move (by rfl) ?_
      refine XL.s rfl ?_
      refine Y.move (by rfl) ?_
      refine XL.s rfl ?_
      refine Y.len Tryz.underlying51 (by rfl) (hgr.ext hSj.1) ?_
      refine XL.s rfl ?_
      refine Y.lss (by rfl) (by rfl) ?_
      refine XL.nil ?_
      refine QN.next ?_
      refine XC.condS rfl ?_ ?_
      ·intro hc
       try simp only [decide_eq_true_eq, decide_eq_false_iff_not, Bool.not_eq_true', Bool.not_eq_false', Bool.not_eq_eq_eq_not, Bool.not_true, Bool.not_false, Bool.or_eq_true, Bool.and_eq_true, Bool.or_eq_false_iff] at hc
       have hj' : j < k + 2 * F := by omega
       refine XC.skip ?_
       refine QN.next ?_
       refine XC.seq ?_
       refine XC.block ?_
       refine XC.seq ?_
       refine XC.region ?_
       show XL _ _ _ _ (List.cons _ _) _ _
       refine XL.s rfl ?_
       refine Y.move (by rfl) ?_
       refine XL.s rfl ?_
       refine Y.move (by rfl) ?_
       refine XL.s rfl ?_
       refine Y.call (by rfl) ok16 (diskS w4 _ k F _ _ _ _ _ _ hSj (by omega) (by omega) hF j hj') ?_
       rintro v89 w89 ⟨hD89, hE89⟩
       refine XL.s rfl ?_
       refine Y.call (by rfl) ok23 (readA_yes _ _ _ _ _ _ [98, 46, 98, 108] _ hD89 _ _ (hb3 j hj') (by omega)) ?_
       rintro v90 w90 ⟨b90, rfl, hN90⟩
       refine XL.s rfl ?_
       refine Y.move (by rfl) ?_
       refine XL.s rfl ?_
       refine Y.extract (by rfl) (by rfl) ?_
       refine XL.s rfl ?_
       refine Y.extract (by rfl) (by rfl) ?_
       refine XL.s rfl ?_
       refine Y.assign (by rfl) ?_
       refine XL.s rfl ?_
       refine Y.assign (by rfl) ?_
       refine XL.nil ?_
       refine QN.next ?_
       refine XC.seq ?_
       refine XC.region ?_
       show XL _ _ _ _ (List.cons _ _) _ _
       refine XL.s rfl ?_
       refine Y.move (by rfl) ?_
       refine XL.s rfl ?_
       refine Y.neq (by rfl) (by rfl) ?_
       refine XL.s rfl ?_
       refine Y.move (by rfl) ?_
       obtain ⟨vs2, hvs2, hvl2, hqs2⟩ := (((hM.rows.ext hE).ext hE89).ext hN90.1).get
       obtain ⟨q2, hq2, hb2⟩ := hqs2 j (by omega)
       rw [files_get] at hb2
       refine XL.gt rfl rfl rfl rfl ?_
       refine Y.move (by rfl) ?_
       refine XL.gt rfl rfl rfl rfl ?_
       refine Y.move (by rfl) ?_
       refine XL.gt rfl rfl rfl rfl ?_
       refine Y.move (by rfl) ?_
       refine XL.gt rfl rfl rfl rfl ?_
       refine Y.indexR st37 (by rfl) (by rfl) hvs2 ⟨by omega, by omega⟩ (by rw [Int.toNat_natCast]; exact hq2) ?_
       intro b99 o99 hs99 hc99
       refine XL.gt rfl rfl rfl rfl ?_
       refine Y.load one39 (by rfl) (by assumption) ?_
       refine XL.gt rfl rfl rfl rfl ?_
       refine Y.call (by rfl) ok18 (rsame_ok _ _ _ _ _ _ _ hN90.bs hb2) ?_
       rintro v101 w101 ⟨rfl, hE101⟩
       refine XL.gt rfl rfl rfl rfl ?_
       refine Y.not (by rfl) ?_
       refine XL.s rfl ?_
       refine Y.pickF (by rfl) rfl (by rfl) ?_
       refine XL.nil ?_
       refine QN.next ?_
       refine XC.condF rfl (by simp) ?_
       refine XC.skip ?_
       refine QN.blk ?_
       refine QN.next ?_
       refine XC.region ?_
       show XL _ _ _ _ (List.cons _ _) _ _
       refine XL.s rfl ?_
       refine Y.move (by rfl) ?_
       refine XL.s rfl ?_
       refine Y.add (by rfl) (by rfl) (wrap64 (by omega) (by omega)) ?_
       refine XL.s rfl ?_
       refine Y.assign (by rfl) ?_
       refine XL.nil ?_
       refine QN.again (j + 1) ?_ ?_ ?_
       ·exact ⟨rfl, rfl, rfl, rfl, rfl, trivial⟩
       ·exact ⟨by omega, ((hE.trans hE89).trans hN90.1).trans hE101⟩
       ·first | omega | (simp only []; omega) | (simp; omega)
      ·intro hc
       try simp only [decide_eq_true_eq, decide_eq_false_iff_not, Bool.not_eq_true', Bool.not_eq_false', Bool.not_eq_eq_eq_not, Bool.not_true, Bool.not_false, Bool.or_eq_true, Bool.and_eq_true, Bool.or_eq_false_iff] at hc
       refine XC.exit ?_
       refine QN.thenE ?_
       refine QN.thenE ?_
       refine QN.hit ?_
       refine QN.next ?_
       refine XC.seq ?_
       refine XC.region ?_
       show XL _ _ _ _ (List.cons _ _) _ _
       refine XL.s rfl ?_
       refine Y.move (by rfl) ?_
       refine XL.s rfl ?_
       refine Y.call (by rfl) ok14 (getS w4 _ k F _ _ _ _ _ _ hSj (by omega) (by omega) [98, 108] (by decide) hk hF rfl wl hl2 _ hG3 AnyB _ [] (Row.nil AnyB _) (goodN_true _ _ (by omega))) ?_
       rintro v106 w106 ⟨rfl, hE106⟩
       have hSk := hSj.ext hE106
       refine XL.s rfl ?_
       refine Y.move (by rfl) ?_
       refine XL.s rfl ?_
       refine Y.extract (by rfl) (by rfl) ?_
       refine XL.s rfl ?_
       refine Y.extract (by rfl) (by rfl) ?_
       refine XL.s rfl ?_
       refine Y.assign (by rfl) ?_
       refine XL.s rfl ?_
       refine Y.assign (by rfl) ?_
       refine XL.nil ?_
       refine QN.next ?_
       refine XC.seq ?_
       refine XC.region ?_
       show XL _ _ _ _ (List.cons _ _) _ _
       refine XL.s rfl ?_
       refine Y.move (by rfl) ?_
       refine XL.s rfl ?_
       refine Y.call (by rfl) ok24 (repS w4 _ k F _ _ _ _ _ _ hSk (by omega) (by omega) [98, 108] (by decide) hk hF rfl wl hl2 _ hG3 (goodN_true _ _ (by omega)) (by omega) ht3) ?_
       rintro v111 w111 ⟨rfl, hS111⟩
       have hz : cntM M3 [98, 108] (fun j => fileB j ((encP k (k + 2 * F) wl).getD j [])) (k + 2 * F) = 0 := cntM_zero hm3
       refine XL.s rfl ?_
       refine Y.move (by rfl) ?_
       refine XL.s rfl ?_
       refine Y.extract (by rfl) (by rfl) ?_
       refine XL.s rfl ?_
       refine Y.extract (by rfl) (by rfl) ?_
       refine XL.s rfl ?_
       refine Y.assign (by rfl) ?_
       refine XL.s rfl ?_
       refine Y.assign (by rfl) ?_
       refine XL.nil ?_
       refine QN.next ?_
       refine XC.seq ?_
       refine XC.region ?_
       show XL _ _ _ _ (List.cons _ _) _ _
       refine XL.s rfl ?_
       refine Y.move (by rfl) ?_
       refine XL.s rfl ?_
       refine Y.eql (by rfl) (by rfl) ?_
       refine XL.s rfl ?_
       refine Y.move (by rfl) ?_
       refine XL.gt rfl rfl rfl rfl ?_
       refine Y.move (by rfl) ?_
       refine XL.gt rfl rfl rfl rfl ?_
       refine Y.move (by rfl) ?_
       refine XL.gt rfl rfl rfl rfl ?_
       refine Y.eqlS (by rfl) (by rfl) ?_
       refine XL.s rfl ?_
       refine Y.pickT (by rfl) rfl (by rfl) ?_
       refine XL.s rfl ?_
       refine Y.move (by rfl) ?_
       refine XL.gt rfl rfl (by simp) rfl ?_
       refine Y.move (by rfl) ?_
       refine XL.gt rfl rfl (by simp) rfl ?_
       refine Y.eql (by rfl) (by rfl) ?_
       refine XL.s rfl ?_
       refine Y.pickT (by rfl) (by simp) (by rfl) ?_
       refine XL.s rfl ?_
       refine Y.move (by rfl) ?_
       refine XL.gt rfl rfl (by rw [hz]; rfl) rfl ?_
       refine Y.move (by rfl) ?_
       refine XL.gt rfl rfl (by rw [hz]; rfl) rfl ?_
       refine Y.eql (by rfl) (by rfl) ?_
       refine XL.s rfl ?_
       refine Y.pickT (by rfl) (by rw [hz]; rfl) (by rfl) ?_
       refine XL.s rfl ?_
       refine Y.assign (by rfl) ?_
       refine XL.nil ?_
       refine QN.next ?_
       refine XC.ret ?_
       refine QN.done1 (fn := Tryz.f6) (R := R) (.inl rfl) rfl rfl ?_
       refine hR _ _ ?_
       exact ⟨rfl, hE04.trans hS111.1⟩
  ·skip
   refine XC.region ?_
   show XL _ _ _ _ (List.cons _ _) _ _
   refine XL.s rfl ?_
   refine Y.call (by rfl) ok8 (awake_ok _) ?_
   rintro vA wA ⟨rfl, hEA⟩
   refine XL.s rfl ?_
   refine Y.not (by rfl) ?_
   refine XL.s rfl ?_
   refine Y.move (by rfl) ?_
   refine XL.gt rfl rfl rfl rfl ?_
   refine Y.move (by rfl) ?_
   refine XL.gt rfl rfl rfl rfl ?_
   refine Y.lenS Tryz.underlying9 (by rfl) ?_
   refine XL.gt rfl rfl rfl rfl ?_
   refine Y.gtr (by rfl) (by rfl) ?_
   refine XL.s rfl ?_
   refine Y.pickF (by rfl) rfl (by rfl) ?_
   refine XL.s rfl ?_
   refine Y.move (by rfl) ?_
   refine XL.gt rfl rfl ya rfl ?_
   refine Y.move (by rfl) ?_
   refine XL.gt rfl rfl ya rfl ?_
   refine Y.lenS Tryz.underlying9 (by rfl) ?_
   refine XL.gt rfl rfl ya rfl ?_
   refine Y.gtr (by rfl) (by rfl) ?_
   refine XL.s rfl ?_
   refine Y.pickF (by rfl) ya (by rfl) ?_
   refine XL.nil ?_
   refine QN.next ?_
   refine XC.condT rfl ya ?_
   refine XC.seq ?_
   refine XC.region ?_
   show XL _ _ _ _ (List.cons _ _) _ _
   refine XL.s rfl ?_
   refine Y.call (by rfl) ok8 (awake_ok _) ?_
   rintro vB wB ⟨rfl, hEB⟩
   refine XL.s rfl ?_
   refine Y.assign (by rfl) ?_
   refine XL.nil ?_
   refine QN.next ?_
   refine XC.ret ?_
   refine QN.done1 (fn := Tryz.f6) (R := R) (.inl rfl) rfl rfl ?_
   refine hR _ _ ?_
   exact ⟨rfl, (hE2.trans hEA).trans hEB⟩
 ·skip
  refine XC.region ?_
  show XL _ _ _ _ (List.cons _ _) _ _
  refine XL.s rfl ?_
  refine Y.call (by rfl) ok8 (awake_ok _) ?_
  rintro vA wA ⟨rfl, hEA⟩
  refine XL.s rfl ?_
  refine Y.not (by rfl) ?_
  refine XL.s rfl ?_
  refine Y.move (by rfl) ?_
  refine XL.gt rfl rfl rfl rfl ?_
  refine Y.move (by rfl) ?_
  refine XL.gt rfl rfl rfl rfl ?_
  refine Y.lenS Tryz.underlying9 (by rfl) ?_
  refine XL.gt rfl rfl rfl rfl ?_
  refine Y.gtr (by rfl) (by rfl) ?_
  refine XL.s rfl ?_
  refine Y.pickF (by rfl) rfl (by rfl) ?_
  refine XL.s rfl ?_
  refine Y.move (by rfl) ?_
  refine XL.gf rfl rfl ya rfl ?_
  refine XL.gf rfl rfl ya rfl ?_
  refine XL.gf rfl rfl ya rfl ?_
  refine XL.s rfl ?_
  refine Y.pickT (by rfl) ya (by rfl) ?_
  refine XL.nil ?_
  refine QN.next ?_
  refine XC.condT rfl rfl ?_
  refine XC.seq ?_
  refine XC.region ?_
  show XL _ _ _ _ (List.cons _ _) _ _
  refine XL.s rfl ?_
  refine Y.call (by rfl) ok8 (awake_ok _) ?_
  rintro vB wB ⟨rfl, hEB⟩
  refine XL.s rfl ?_
  refine Y.assign (by rfl) ?_
  refine XL.nil ?_
  refine QN.next ?_
  refine XC.ret ?_
  refine QN.done1 (fn := Tryz.f6) (R := R) (.inl rfl) rfl rfl ?_
  refine hR _ _ ?_
  exact ⟨rfl, (hE2.trans hEA).trans hEB⟩
end Go.Proofs.YtchammpamigonaaGreatX
end
section
namespace Go.Proofs.YtchammpamigonaaGreatX
open Go.ChangeShapes Go.WideShapes Go.ChangeAt Go.RowKit Go.Joins
theorem okWide_array {P : Program} {w : World} {r : Reach} {base n : Nat} {t e : TypeId} {v : Value} (ht : P.underlying t = some (.array n e)) (h : Value.okWide P w r base t v) : ∃ cs, v = .agg cs ∧ cs.size = P.cellsOf t := by
  simp only [Value.okWide, ht] at h
  obtain ⟨cs, h1, h2, _⟩ := h
  exact ⟨cs, h1, h2⟩
theorem wf_u8 {n : Int} (h : (Lit.int .u8 n).wf = true) : ∃ a : UInt8, n = (a.toNat : Int) := by
  have h' : 0 ≤ n ∧ n ≤ 255 := by simpa [Lit.wf, IntKind.min, IntKind.max, IntKind.signed, IntKind.bits] using h
  obtain ⟨k, rfl⟩ := Int.eq_ofNat_of_zero_le h'.1
  exact ⟨UInt8.ofNat k, by rw [UInt8.toNat_ofNat_of_lt' (by show k < 256; omega)]⟩
theorem wf_u16 {n : Int} (h : (Lit.int .u16 n).wf = true) : ∃ a : UInt16, n = (a.toNat : Int) := by
  have h' : 0 ≤ n ∧ n ≤ 65535 := by simpa [Lit.wf, IntKind.min, IntKind.max, IntKind.signed, IntKind.bits] using h
  obtain ⟨k, rfl⟩ := Int.eq_ofNat_of_zero_le h'.1
  exact ⟨UInt16.ofNat k, by rw [UInt16.toNat_ofNat_of_lt' (by show k < 65536; omega)]⟩
theorem chunks3 : ∀ (n : Nat) (cs : List Value), cs.length = 3 * n → (∀ i, i < n → ∃ s, (cs.drop (i * 3)).take 3 = spC s) → ∃ ss : List Sp, ss.length = n ∧ cs = spCs ss
  | 0, cs, hl, _ => ⟨[], rfl, List.eq_nil_of_length_eq_zero (by omega)⟩
  | n + 1, cs, hl, h => by
    obtain ⟨s, hs⟩ := h 0 (by omega)
    obtain ⟨ss, h1, h2⟩ := chunks3 n (cs.drop 3) (by rw [List.length_drop]; omega) (fun i hi => by
      obtain ⟨s', h'⟩ := h (i + 1) (by omega)
      exact ⟨s', by rw [List.drop_drop]; rw [show 3 + i * 3 = (i + 1) * 3 by omega]; exact h'⟩)
    refine ⟨s :: ss, by simp [h1], ?_⟩
    rw [Nat.zero_mul, List.drop_zero] at hs
    have e : spCs (s :: ss) = spC s ++ spCs ss := by simp [spCs]
    rw [e, ← h2, ← hs, List.take_append_drop]
section
variable {H : Type} {enc : TypeId × Value → H} {w : World} {base : Nat} {spare : Nat → Bool} {held : Bool}
theorem three {α : Type} : ∀ (l : List α), l.length = 3 → ∃ a b c, l = [a, b, c]
  | [a, b, c], _ => ⟨a, b, c, rfl⟩
set_option maxRecDepth 100000 in
theorem open_spoil {fuel : Nat} {cs : List Value} {x : DataW H × List MemPlace} (h : DataW.trod enc Tryz.prog w base spare held fuel 47 cs = some x) : ∃ s, cs = spC s := by
  obtain ⟨xs, m, _, _, hl, hxl, hf⟩ := DataW.trod_struct Tryz.underlying47 h
  have hl3 : cs.length = 3 := hl.trans (by kernel_rfl)
  obtain ⟨c0, c1, c2, rfl⟩ := three cs hl3
  obtain ⟨y0, y1, y2, rfl⟩ := three xs hxl
  have k5 : Tryz.prog.cellsOf 5 = 1 := by kernel_rfl
  have k24 : Tryz.prog.cellsOf 24 = 1 := by kernel_rfl
  have h0 := hf 0 _ rfl
  have h1 := hf 1 _ rfl
  have h2 := hf 2 _ rfl
  simp [k5, k24] at h0 h1 h2
  obtain ⟨n0, e0, _, w0⟩ := DataW.trod_int Tryz.underlying5 h0
  obtain ⟨n1, e1, _, w1⟩ := DataW.trod_int Tryz.underlying24 h1
  obtain ⟨n2, e2, _, w2⟩ := DataW.trod_int Tryz.underlying5 h2
  obtain ⟨a, rfl⟩ := wf_u8 w0
  obtain ⟨b, rfl⟩ := wf_u16 w1
  obtain ⟨c, rfl⟩ := wf_u8 w2
  simp at e0 e1 e2
  exact ⟨⟨a, b, c⟩, by rw [e0, e1, e2]; rfl⟩
set_option maxRecDepth 100000 in
theorem open_spoils {r : Reach} {b0 : Nat} {v : Value} {d : DataW H} {p : List MemPlace} (hv : Value.okWide Tryz.prog w r b0 48 v) (h : DataW.Trod enc Tryz.prog w base spare held 48 v d p) : ∃ ss : List Sp, ss.length = 7 ∧ v = .agg (spCs ss).toArray := by
  obtain ⟨cs, rfl, hsz⟩ := okWide_array Tryz.underlying48 hv
  obtain ⟨cs⟩ := cs
  obtain ⟨fuel, hf⟩ := h
  obtain ⟨xs, m, _, _, hl, hxl, hel⟩ := DataW.trod_array Tryz.underlying48 hf
  have k47 : Tryz.prog.cellsOf 47 = 3 := by kernel_rfl
  have hl' : cs.length = 3 * 7 := hsz.trans (by kernel_rfl)
  obtain ⟨ss, h1, h2⟩ := chunks3 7 cs hl' (fun i hi => by
    have hi' := hel i hi
    rw [k47, List.getElem?_eq_getElem (by omega)] at hi'
    exact open_spoil hi')
  exact ⟨ss, h1, by rw [h2]⟩
theorem open_away {fuel : Nat} {v : Value} {t : TypeId} {x : DataW H × List MemPlace} (ht : Tryz.prog.underlying t = some (.slice 3)) (h : DataW.trod enc Tryz.prog w base spare held fuel t (Value.cells v).toList = some x) (hv : ∃ a l c, v = .slice a l c) : ∃ zs, Zs AnyB w v zs := by
  obtain ⟨a, l, c, rfl⟩ := hv
  rcases open_ints ht Tryz.underlying3 (by kernel_rfl) h with ⟨hcs, _⟩ | ⟨x, l', c', zs, hcs, _, hl, hm, hz, _, hcell, hwz⟩
  · simp [Value.cells] at hcs
    obtain ⟨rfl, rfl, rfl⟩ := hcs
    exact ⟨[], Row.nil _ _⟩
  · simp [Value.cells] at hcs
    obtain ⟨rfl, rfl, rfl⟩ := hcs
    have hzl : l ≤ zs.length := by rw [hz]; split <;> omega
    have htl : (zs.take l).length = l := by rw [List.length_take]; omega
    refine ⟨zs.take l, ?_⟩
    show Row AnyB w _ (zs.take l).length _
    rw [htl]
    refine ⟨some x, c, rfl, hl, hm, fun h => by subst h; rfl, fun u hu => by obtain ⟨z, _, rfl⟩ := List.mem_map.1 hu; rfl, fun hne => ?_⟩
    have hl0 : 0 < l := by
      rcases Nat.eq_zero_or_pos l with h | h
      · subst h; exact absurd rfl hne
      · exact h
    obtain ⟨b, o, spot⟩ := x
    have h0 := hcell 0 (by omega)
    have hspot : spot = none := by simpa [Addr.add] using World.cell?_spot h0
    subst hspot
    have hblk : ∃ cur T fr, w.heap[b]? = some (.cells cur T fr) := by
      have h0 : w.cell? ⟨b, o, none⟩ = some (.int .i64 (zs.getD 0 0)) := by simpa [Addr.add] using h0
      simp only [World.cell?] at h0
      cases hb : w.heap[b]? with
      | none => rw [hb] at h0; simp at h0
      | some ob => cases ob <;> rw [hb] at h0 <;> first | exact ⟨_, _, _, rfl⟩ | simp at h0
    obtain ⟨cur, T, fr, hb⟩ := hblk
    refine ⟨b, o, cur, T, fr, rfl, trivial, hb, fun j hj => ?_⟩
    have hj' : j < l := by simp only [zsV, List.length_map, htl] at hj; exact hj
    have h1 := hcell j (by omega)
    have h2 : w.cell? ⟨b, o + j, none⟩ = some (.int .i64 (zs.getD j 0)) := by rw [Addr.add_lit] at h1; exact h1
    rw [cell_of_row w b (o + j) cur T fr hb] at h2
    rw [h2]
    have hjz : j < zs.length := by omega
    simp [zsV, List.getElem?_map, List.getElem?_take, hj', hjz, List.getD_eq_getElem?_getD]
end
end Go.Proofs.YtchammpamigonaaGreatX
end
section
namespace Go.Proofs.YtchammpamigonaaGreat.scrubApartDone
open Go.ChangeShapes Go.WideShapes Go.ChangeAt Go.RowKit Go.Joins
open Go.ChangeMaps (open_string shut_string)
open Go.Proofs.YtchammpamigonaaGreatX (byteV strV Rets Sp spCs wf_u8 open_spoils open_away Zs AnyB)
theorem own : ownKnob Tryz.prog.godebug = none := by kernel_rfl
theorem laidOut : laidOutB Tryz.prog = true := by kernel_rfl
theorem walk (x0 : UInt8) (x1 : UInt8) (x2 : ByteArray) (x3 : ByteArray) (x4 : List Sp) (w : World) (h2 : x2.size ≤ maxLen) (h3 : x3.size ≤ maxLen) (h4 : x4.length = 7) : Calls Tryz.prog 6 #[byteV x0, byteV x1, .string x2, .string x3, .agg (spCs x4).toArray] w fun e w' => e = .returned (.bool true) ∧ Below w.heap.size w w' := by
  have hm : maxLen ≤ 9223372036854775807 := by decide
  have h := Go.Proofs.YtchammpamigonaaGreatX.apart_ok x0 x1 x2.data.toList x3.data.toList x4 w h4 (by have := h2; simp only [ByteArray.size] at this; rw [Array.length_toList]; omega) (by have := h3; simp only [ByteArray.size] at this; rw [Array.length_toList]; omega)
  exact Calls.mono h fun e w' ⟨v, he, hv, hE⟩ => ⟨by rw [he, hv], hE.below⟩
set_option maxRecDepth 100000 in
theorem lifted (os : Os) (started : os.Started) (H : Type) (enc : TypeId × Value → H) :
    ReturnsInHanded {} Tryz.checked os 6 .any (Rows.scrubApartSpec.pre6 enc Tryz.prog Tryz.f6 Rows.scrubApartRow.domain false) (Rows.scrubApartSpec.post enc Tryz.prog Tryz.f6 false true false false) := by
  refine returnsInHanded_of_change (C := Tryz.checked) own started (by kernel_rfl) Tryz.func6
    (ChangeSpec.witness6 (enc := enc) (C := Tryz.checked) false ⟨#[], #[.int .u8 0, .int .u8 0, .string ⟨#[]⟩, .string ⟨#[]⟩, .agg #[.int .u8 0, .int .u16 0, .int .u8 0, .int .u8 0, .int .u16 0, .int .u8 0, .int .u8 0, .int .u16 0, .int .u8 0, .int .u8 0, .int .u16 0, .int .u8 0, .int .u8 0, .int .u16 0, .int .u8 0, .int .u8 0, .int .u16 0, .int .u8 0, .int .u8 0, .int .u16 0, .int .u8 0]], []⟩ 8 (by kernel_rfl) (by kernel_rfl) (by kernel_rfl) (by kernel_rfl)) ?_
  intro W base args ds gs before hval0 hW hcnd _
  have hval : ∀ (j : Nat) t v, Tryz.f6.params[j]? = some t → args[j]? = some v → Value.okWide Tryz.prog W .any base t v := hval0
  have hW' := hW
  obtain ⟨p, q, hA0, hV, rfl, hfz, hnd⟩ := hW
  have hA : DataW.TrodAll enc Tryz.prog W 0 (fun _ => true) true Tryz.f6.params.toList args.toList ds p := hA0
  rw [Tryz.params6] at hA hval
  obtain ⟨v0, vs0, d0, ds0, p0, q0, hargs, rfl, rfl, k0, r0⟩ := trodAll_cons hA
  obtain ⟨v1, vs1, d1, ds1, p1, q1, rfl, rfl, rfl, k1, r1⟩ := trodAll_cons r0
  obtain ⟨v2, vs2, d2, ds2, p2, q2, rfl, rfl, rfl, k2, r2⟩ := trodAll_cons r1
  obtain ⟨v3, vs3, d3, ds3, p3, q3, rfl, rfl, rfl, k3, r3⟩ := trodAll_cons r2
  obtain ⟨v4, vs4, d4, ds4, p4, q4, rfl, rfl, rfl, k4, r4⟩ := trodAll_cons r3
  obtain ⟨rfl, rfl, rfl⟩ := trodAll_nil r4
  obtain rfl : args = #[v0, v1, v2, v3, v4] := by cases args; simp_all
  obtain ⟨rfl, rfl⟩ := trodVars_none hV
  have lt0 : ∀ x ∈ p0, x.block < W.heap.size := by obtain ⟨m, hm⟩ := k0; exact DataW.trod_lt m _ _ _ hm
  have lt1 : ∀ x ∈ p1, x.block < W.heap.size := by obtain ⟨m, hm⟩ := k1; exact DataW.trod_lt m _ _ _ hm
  have lt2 : ∀ x ∈ p2, x.block < W.heap.size := by obtain ⟨m, hm⟩ := k2; exact DataW.trod_lt m _ _ _ hm
  have lt3 : ∀ x ∈ p3, x.block < W.heap.size := by obtain ⟨m, hm⟩ := k3; exact DataW.trod_lt m _ _ _ hm
  have lt4 : ∀ x ∈ p4, x.block < W.heap.size := by obtain ⟨m, hm⟩ := k4; exact DataW.trod_lt m _ _ _ hm
  obtain ⟨n0, rfl, _, _, w0⟩ := open_int Tryz.underlying5 (hval 0 5 v0 rfl rfl) k0
  obtain ⟨x0, rfl⟩ := wf_u8 w0
  obtain ⟨n1, rfl, _, _, w1⟩ := open_int Tryz.underlying5 (hval 1 5 v1 rfl rfl) k1
  obtain ⟨x1, rfl⟩ := wf_u8 w1
  obtain ⟨x2, rfl, _, _, w2⟩ := open_string Tryz.underlying9 (hval 2 9 v2 rfl rfl) k2
  obtain ⟨x3, rfl, _, _, w3⟩ := open_string Tryz.underlying9 (hval 3 9 v3 rfl rfl) k3
  obtain ⟨x4, w4, rfl⟩ := open_spoils (hval 4 48 v4 rfl rfl) k4
  clear hA0 hval0
  refine (walk x0 x1 x2 x3 x4 W w2 w3 w4).mono fun e W' ⟨he, bel⟩ => ?_
  subst he
  exact ⟨_, rfl, _, _, _, [], _, [], hW', trodAll_mk1 (shut_bool Tryz.underlying4 _), (trodAll_cons_mk (Below.trod laidOut (by kernel_rfl) (of_decide_eq_true (by kernel_rfl)) k0 bel lt0) (trodAll_cons_mk (Below.trod laidOut (by kernel_rfl) (of_decide_eq_true (by kernel_rfl)) k1 bel lt1) (trodAll_cons_mk (Below.trod laidOut (by kernel_rfl) (of_decide_eq_true (by kernel_rfl)) k2 bel lt2) (trodAll_cons_mk (Below.trod laidOut (by kernel_rfl) (of_decide_eq_true (by kernel_rfl)) k3 bel lt3) (trodAll_cons_mk (Below.trod laidOut (by kernel_rfl) (of_decide_eq_true (by kernel_rfl)) k4 bel lt4) trodAll_mk0))))), rfl, bel.frame _, fun h => by cases h⟩
theorem over : Rows.scrubApartRow.holds Tryz.pinned (OpenSpec.ofChange Rows.scrubApartSpec) :=
  OpenClaim.holds_of_wide 6 Tryz.f6 rfl rfl rfl rfl rfl rfl rfl ⟨rfl, rfl, rfl, rfl, rfl⟩ rfl rfl rfl rfl rfl (by kernel_rfl) Tryz.func6 (by kernel_rfl)
    (of_decide_eq_true (by kernel_rfl)) (by unfold Func.isWrapper; first | (rw [if_pos (by decide +kernel)]; kernel_rfl) | (rw [if_neg (by decide +kernel)]; exact ⟨rfl, rfl⟩))
    (fun os started H enc _ => lifted os started H enc)
theorem proved : Rows.ScrubApartSaid := over
#print axioms proved
end Go.Proofs.YtchammpamigonaaGreat.scrubApartDone
end
