/- For every shape, text and seven spoils shardloglaw25.ScrubQuarantine returns true and leaves what it was handed as it was; no condition. Part 6 of 6: joined by a program of this repo out of texts of its own. -/
import Derived.Test.YtchammpamigonaaGreatRows
import Derived.WalkKit
import Derived.ProofKit
import Derived.OpenShut
import Derived.ShutString
import Derived.ChangeOld
import Derived.Below
import Derived.Lib.SmallJoins
import Derived.Test.YtchammpamigonaaGreatQuar5
set_option linter.unusedVariables false
set_option linter.unusedSimpArgs false
section
set_option linter.unusedVariables false
set_option linter.unusedSimpArgs false
set_option maxRecDepth 10000
set_option maxHeartbeats 4000000
namespace Go.Proofs.YtchammpamigonaaGreatX
open Go Go.RowKit Go.Proofs
theorem awake_ok (w : World) :
  Rets Tryz.prog 8 #[] w fun v w' => v = .bool true ∧ Ext w w' := by
 refine Rets.enter (args := []) (n := 90) Tryz.func8 rfl rfl rfl ?_
 intro R hR
 show XC _ _ _ _ [] _
 refine XC.seq ?_
 refine XC.region ?_
 show XL _ _ _ _ (List.cons _ _) _ _
 refine XL.s rfl ?_
 refine Y.assign (by rfl) ?_
 refine XL.nil ?_
 refine QN.next ?_
 refine XC.seq ?_
 refine XC.region ?_
 show XL _ _ _ _ (List.cons _ _) _ _
 refine XL.s rfl ?_
 refine Y.build (by rfl) (v := .agg #[.int .i64 1, .int .i64 1]) (fun _ => by kernel_rfl) ?_
 refine XL.s rfl ?_
 refine Y.alloc zt23 ?_
 intro b1 w1 hb1 hz1 hE1
 refine XL.o ?_
 refine Y.storeA agg23 (by rfl) (by rfl) hb1 rfl rfl (by intro c hc; simp at hc; rcases hc with rfl | rfl <;> rfl) ?_
 intro w2 hb2 hC2 hz2
 have hE2 := hE1.chgNew hC2 (fun x hx => by omega)
 refine XL.nil ?_
 refine QN.next ?_
 refine XC.seq ?_
 apply XC.drop [2, 7, 13, 14, 15, 16, 17, 18, 19, 20, 21, 22, 23, 24, 25, 26, 27, 28, 29, 30, 31, 32, 33, 34, 35, 36, 37, 38, 39, 40, 41, 42, 43, 44, 45, 46, 47, 48, 49, 50, 51, 52, 53, 54, 55, 56, 57, 58, 59, 60, 61, 62, 63, 64, 65, 66, 67, 68, 69, 70, 71, 72, 73, 74, 75, 76, 77, 78, 79, 80, 81, 82, 83, 84, 85, 86, 87, 88, 89]
 ·repeat (first | apply DropTo.nil | apply DropTo.skip rfl | apply DropTo.keep rfl)
 refine XC.drawL 7 [[], [], [0, 1], [0, 1, 2], [0, 1, 2, 3], [0, 1, 2, 3], [0, 1, 2, 3, 4], [0, 1, 2, 3, 4, 5, 6]] _ (Chg NoB) (Steady.chg NoB) [] [(0, (fun v _ => v = shapeV ((1 : Nat) : Int) ((1 : Nat) : Int))), (1, (fun v w' => DRow 41 79 82 5 0 w' (min 500 65536) (fun _ _ => none) 0 0 3 v)), (2, (fun v w' => ∃ tv, v = .tuple #[tv, .int .i64 0] ∧ StoreS 66 79 82 5 w2 w' tv 1 1 (1 + 2 * 1) (min 500 65536) (fun _ _ => none) 0 0))] [0, 1, 2, 3, 4, 5, 6] fol (by kernel_rfl) (by rfl) (by rfl) ⟨(fun _ _ _ _ h => h), (fun v w1 w2 hE h => h.ext hE), (fun v w1 w2 hE ⟨tv, h1, h2⟩ => ⟨tv, h1, h2.ext hE⟩), trivial⟩ ⟨?_, ?_, ?_, ?_, ?_, ?_, ?_, trivial⟩ ?_
 ·intro aD2 wD2 haD2 hCD2 hrD2
  replace hb2 := hb2.ext hCD2
  refine ⟨rfl, ?_⟩
  refine XD.start haD2 ?_
  refine XD.stepI ?_
  refine Y.loadA agg23 (by rfl) rfl (fun j u hu => cell_arr hb2 (by rw [Nat.zero_add]; exact hu)) ?_
  exact ⟨Chg.refl _ _, rfl⟩
 ·intro aD2 wD2 haD2 hCD2 hrD2
  replace hb2 := hb2.ext hCD2
  refine ⟨rfl, ?_⟩
  refine XD.start haD2 ?_
  refine XD.stepI ?_
  refine Y.call (by rfl) ok11 (disks_ok 3 500 _ (by decide)) ?_
  rintro v16 w16 ⟨hD16, hE16⟩
  exact ⟨hE16, hD16.lower (Nat.zero_le _)⟩
 ·intro aD2 wD2 haD2 hCD2 hrD2
  obtain ⟨r0, r1, -⟩ := hrD2
  replace hb2 := hb2.ext hCD2
  refine ⟨rfl, ?_⟩
  refine XD.start haD2 ?_
  refine XD.imp r0 ?_
  rintro _ rfl
  refine XD.imp r1 ?_
  rintro v16 hD16
  refine XD.stepI ?_
  refine Y.call (by rfl) ok10 (newD 1 1 _ (by decide) (by decide) _ 0 _ (fun _ _ => none) 0 0 hD16 (by decide) (by decide)) ?_
  rintro v17 w17 ⟨tv, rfl, hS17⟩
  exact ⟨hS17.1, tv, rfl, hS17.older hCD2⟩
 ·intro aD2 wD2 haD2 hCD2 hrD2
  obtain ⟨r0, r1, r2, -⟩ := hrD2
  replace hb2 := hb2.ext hCD2
  refine ⟨rfl, ?_⟩
  refine XD.start haD2 ?_
  refine XD.imp r0 ?_
  rintro _ rfl
  refine XD.imp r1 ?_
  rintro v16 hD16
  refine XD.imp r2 ?_
  rintro _ ⟨tv, rfl, hS⟩
  apply XD.stepP rfl
  intro w3
  refine Y.move (by rfl) ?_
  exact ⟨rfl, rfl⟩
 ·intro aD2 wD2 haD2 hCD2 hrD2
  obtain ⟨r0, r1, r2, r3, -⟩ := hrD2
  replace hb2 := hb2.ext hCD2
  refine ⟨rfl, ?_⟩
  refine XD.start haD2 ?_
  refine XD.imp r0 ?_
  rintro _ rfl
  refine XD.imp r1 ?_
  rintro v16 hD16
  refine XD.imp r2 ?_
  rintro _ ⟨tv, rfl, hS⟩
  refine XD.pure r3 ?_
  refine Y.move (by rfl) ?_
  apply XD.stepP rfl
  intro w3
  refine Y.extract (by rfl) (by rfl) ?_
  exact ⟨rfl, rfl⟩
 ·intro aD2 wD2 haD2 hCD2 hrD2
  obtain ⟨r0, r1, r2, r3, -⟩ := hrD2
  replace hb2 := hb2.ext hCD2
  refine ⟨rfl, ?_⟩
  refine XD.start haD2 ?_
  refine XD.imp r0 ?_
  rintro _ rfl
  refine XD.imp r1 ?_
  rintro v16 hD16
  refine XD.imp r2 ?_
  rintro _ ⟨tv, rfl, hS⟩
  refine XD.pure r3 ?_
  refine Y.move (by rfl) ?_
  apply XD.stepP rfl
  intro w3
  refine Y.extract (by rfl) (by rfl) ?_
  exact ⟨rfl, rfl⟩
 ·intro aD2 wD2 haD2 hCD2 hrD2
  obtain ⟨r0, r1, r2, r3, r4, -⟩ := hrD2
  replace hb2 := hb2.ext hCD2
  refine ⟨rfl, ?_⟩
  refine XD.start haD2 ?_
  refine XD.imp r0 ?_
  rintro _ rfl
  refine XD.imp r1 ?_
  rintro v16 hD16
  refine XD.imp r2 ?_
  rintro _ ⟨tv, rfl, hS⟩
  refine XD.pure r3 ?_
  refine Y.move (by rfl) ?_
  refine XD.pure r4 ?_
  refine Y.extract (by rfl) (by rfl) ?_
  apply XD.stepP rfl
  intro w3
  refine Y.assign (by rfl) ?_
  exact ⟨rfl, rfl⟩
 intro aD2 wD2 haD2 hCD2 hrD2
 obtain ⟨r0, r1, r2, r3, r4, r5, r6, -⟩ := hrD2
 replace hb2 := hb2.ext hCD2
 refine XD.start haD2 ?_
 refine XD.imp r0 ?_
 rintro _ rfl
 refine XD.imp r1 ?_
 rintro v16 hD16
 refine XD.imp r2 ?_
 rintro _ ⟨tv, rfl, hS⟩
 refine XD.pure r3 ?_
 refine Y.move (by rfl) ?_
 refine XD.pure r4 ?_
 refine Y.extract (by rfl) (by rfl) ?_
 refine XD.pure r5 ?_
 refine Y.extract (by rfl) (by rfl) ?_
 refine XD.pure r6 ?_
 refine Y.assign (by rfl) ?_
 refine XD.fin haD2 ?_
 obtain ⟨tb, rfl⟩ := hS.ptr
 show XL _ _ _ _ (List.cons _ _) _ _
 refine XL.s rfl ?_
 refine Y.assign (by rfl) ?_
 refine XL.nil ?_
 refine QN.next ?_
 refine XC.seq ?_
 refine XC.seq ?_
 refine XC.region ?_
 show XL _ _ _ _ (List.cons _ _) _ _
 refine XL.s rfl ?_
 refine Y.move (by rfl) ?_
 refine XL.s rfl ?_
 refine Y.neq (by rfl) (by rfl) ?_
 refine XL.s rfl ?_
 refine Y.move (by rfl) ?_
 refine XL.gt rfl rfl rfl rfl ?_
 refine Y.move (by rfl) ?_
 refine XL.gt rfl rfl rfl rfl ?_
 refine Y.eqlP Tryz.underlying27 (by rfl) (by rfl) ?_
 refine XL.s rfl ?_
 refine Y.pickF (by rfl) rfl (by rfl) ?_
 refine XL.nil ?_
 refine QN.next ?_
 refine XC.condF rfl ya ?_
 refine XC.skip ?_
 refine QN.next ?_
 refine XC.seq ?_
 refine XC.region ?_
 show XL _ _ _ _ (List.cons _ _) _ _
 refine XL.s rfl ?_
 refine Y.move (by rfl) ?_
 refine XL.s rfl ?_
 refine Y.call (by rfl) ok13 (putS w2 _ 1 1 _ _ _ 0 0 _ hS (by decide) (by decide) [97] (by decide) (by decide) (by decide) rfl [98, 108, 111, 98] (by decide) (by decide) (fun _ _ => rfl)) ?_
 rintro v27 w27 ⟨rfl, hS27⟩
 have hlen : ∀ i, i < 1 + 2 * 1 → ((encP 1 (1 + 2 * 1) [98, 108, 111, 98]).getD i []).length = 8 := fun i hi => by rw [encP_getD_len 1 1 _ (by decide) hi]; decide
 have hP : 20 + pieceN 1 [98, 108, 111, 98] = 28 := by decide
 have hG := put_goods (ms := fun _ _ => none) (nm := [97]) (n := 1 + 2 * 1) (L := 20 + pieceN 1 [98, 108, 111, 98]) (e := fun i => (encP 1 (1 + 2 * 1) [98, 108, 111, 98]).getD i []) (fun i hi => by show ((encP 1 (1 + 2 * 1) [98, 108, 111, 98]).getD i []).length ≤ _; rw [hlen i hi]; omega) (by decide)
 refine XL.s rfl ?_
 refine Y.assign (by rfl) ?_
 refine XL.nil ?_
 refine QN.next ?_
 refine XC.seq ?_
 refine XC.region ?_
 show XL _ _ _ _ (List.cons _ _) _ _
 refine XL.s rfl ?_
 refine Y.move (by rfl) ?_
 refine XL.s rfl ?_
 refine Y.buildSlice st49 (by rfl) (by rfl) (by omega) (by simp [Value.oneCell', byteV, strV]) ?_
 intro v30 w30 hN30
 replace hS27 := hS27.ext hN30.1
 refine XL.s rfl ?_
 refine Y.call (by rfl) ok14 (getS w2 _ 1 1 _ _ _ _ _ _ hS27 (by decide) (by decide) [97] (by decide) (by decide) (by decide) rfl [98, 108, 111, 98] (by decide) _ hG _ _ [0, 2] hN30.row (by decide)) ?_
 rintro v31 w31 ⟨rfl, hE31⟩
 replace hS27 := hS27.ext hE31
 refine XL.s rfl ?_
 refine Y.move (by rfl) ?_
 refine XL.s rfl ?_
 refine Y.extract (by rfl) (by rfl) ?_
 refine XL.s rfl ?_
 refine Y.extract (by rfl) (by rfl) ?_
 refine XL.s rfl ?_
 refine Y.assign (by rfl) ?_
 refine XL.s rfl ?_
 refine Y.assign (by rfl) ?_
 refine XL.nil ?_
 refine QN.next ?_
 refine XC.seq ?_
 refine XC.region ?_
 show XL _ _ _ _ (List.cons _ _) _ _
 refine XL.s rfl ?_
 refine Y.move (by rfl) ?_
 refine XL.s rfl ?_
 refine Y.call (by rfl) ok14 (getS_none w2 _ 1 1 _ _ _ _ _ _ hS27 (by decide) (by decide) [98] (by decide) (by decide) (by decide) rfl AnyB _ [] (Row.nil AnyB _) (by decide)) ?_
 rintro v36 w36 ⟨rfl, hE36⟩
 replace hS27 := hS27.ext hE36
 have hkey : ∀ (i : Nat) (x : List UInt8), upd ((fun _ _ => none : Nat → Fm) i) ([98, 46] ++ [97]) (some (fileB i ((encP 1 (1 + 2 * 1) [98, 108, 111, 98]).getD i []), 20 + pieceN 1 [98, 108, 111, 98])) x ≠ none → x = [98, 46, 97] := fun i x h => by simp only [upd] at h; split at h; (rename_i e; exact e); exact absurd rfl h
 have hcl : ∀ x, (fun i => upd ((fun _ _ => none : Nat → Fm) i) ([98, 46] ++ [97]) (some (fileB i ((encP 1 (1 + 2 * 1) [98, 108, 111, 98]).getD i []), 20 + pieceN 1 [98, 108, 111, 98]))) 1 x ≠ none → badF 1 ((fun i => upd ((fun _ _ => none : Nat → Fm) i) ([98, 46] ++ [97]) (some (fileB i ((encP 1 (1 + 2 * 1) [98, 108, 111, 98]).getD i []), 20 + pieceN 1 [98, 108, 111, 98]))) 1) x = false := fun x h => by
  have e := hkey 1 x h
  subst e
  have hsh := shardP_good 1 ((encP 1 (1 + 2 * 1) [98, 108, 111, 98]).getD 1 []) (by decide) (by rw [hlen 1 (by decide)]; omega)
  have hu : upd ((fun _ _ => none : Nat → Fm) 1) ([98, 46] ++ [97]) (some (fileB 1 ((encP 1 (1 + 2 * 1) [98, 108, 111, 98]).getD 1 []), 20 + pieceN 1 [98, 108, 111, 98])) [98, 46, 97] = some (fileB 1 ((encP 1 (1 + 2 * 1) [98, 108, 111, 98]).getD 1 []), 20 + pieceN 1 [98, 108, 111, 98]) := upd_same _ _ _
  simp only [badF, hu, hsh, hlen 1 (by decide)]; rfl
 refine XL.s rfl ?_
 refine Y.move (by rfl) ?_
 refine XL.s rfl ?_
 refine Y.extract (by rfl) (by rfl) ?_
 refine XL.s rfl ?_
 refine Y.extract (by rfl) (by rfl) ?_
 refine XL.s rfl ?_
 refine Y.assign (by rfl) ?_
 refine XL.s rfl ?_
 refine Y.assign (by rfl) ?_
 refine XL.nil ?_
 refine QN.next ?_
 refine XC.seq ?_
 refine XC.region ?_
 show XL _ _ _ _ (List.cons _ _) _ _
 refine XL.s rfl ?_
 refine Y.move (by rfl) ?_
 refine XL.s rfl ?_
 refine Y.call (by rfl) ok22 (scrubS_clean w2 _ 1 1 _ _ _ _ _ _ hS27 (by decide) (by decide) (by decide) 1 (by decide) (by decide) (fun x h => by rw [hkey 1 x h]; decide) hcl) ?_
 rintro v41 w41 ⟨rfl, hE41⟩
 replace hS27 := hS27.ext hE41
 refine XL.s rfl ?_
 refine Y.move (by rfl) ?_
 refine XL.s rfl ?_
 refine Y.extract (by rfl) (by rfl) ?_
 refine XL.s rfl ?_
 refine Y.extract (by rfl) (by rfl) ?_
 refine XL.s rfl ?_
 refine Y.assign (by rfl) ?_
 refine XL.s rfl ?_
 refine Y.assign (by rfl) ?_
 refine XL.nil ?_
 refine QN.next ?_
 refine XC.seq ?_
 refine XC.region ?_
 show XL _ _ _ _ (List.cons _ _) _ _
 refine XL.s rfl ?_
 refine Y.move (by rfl) ?_
 refine XL.s rfl ?_
 refine Y.call (by rfl) ok24 (repS w2 _ 1 1 _ _ _ _ _ _ hS27 (by decide) (by decide) [97] (by decide) (by decide) (by decide) rfl [98, 108, 111, 98] (by decide) _ hG (by decide) (by decide) (fun i _ => by rw [upd_other _ _ (by decide)])) ?_
 rintro v46 w46 ⟨rfl, hS46⟩
 have hcnt : cntM (fun i => upd ((fun _ _ => none : Nat → Fm) i) ([98, 46] ++ [97]) (some (fileB i ((encP 1 (1 + 2 * 1) [98, 108, 111, 98]).getD i []), 20 + pieceN 1 [98, 108, 111, 98]))) [97] (fun j => fileB j ((encP 1 (1 + 2 * 1) [98, 108, 111, 98]).getD j [])) (1 + 2 * 1) = 0 := cntM_zero fun i _ => by rw [upd_same]; rfl
 refine XL.s rfl ?_
 refine Y.move (by rfl) ?_
 refine XL.s rfl ?_
 refine Y.extract (by rfl) (by rfl) ?_
 refine XL.s rfl ?_
 refine Y.extract (by rfl) (by rfl) ?_
 refine XL.s rfl ?_
 refine Y.assign (by rfl) ?_
 refine XL.s rfl ?_
 refine Y.assign (by rfl) ?_
 refine XL.nil ?_
 refine QN.next ?_
 refine XC.seq ?_
 refine XC.region ?_
 show XL _ _ _ _ (List.cons _ _) _ _
 refine XL.s rfl ?_
 refine Y.move (by rfl) ?_
 refine XL.s rfl ?_
 refine Y.eql (by rfl) (by rfl) ?_
 refine XL.s rfl ?_
 refine Y.move (by rfl) ?_
 refine XL.gt rfl rfl rfl rfl ?_
 refine Y.move (by rfl) ?_
 refine XL.gt rfl rfl rfl rfl ?_
 refine Y.eql (by rfl) (by rfl) ?_
 refine XL.s rfl ?_
 refine Y.pickT (by rfl) rfl (by rfl) ?_
 refine XL.s rfl ?_
 refine Y.move (by rfl) ?_
 refine XL.gt rfl rfl rfl rfl ?_
 refine Y.move (by rfl) ?_
 refine XL.gt rfl rfl rfl rfl ?_
 refine Y.eqlS (by rfl) (by rfl) ?_
 refine XL.s rfl ?_
 refine Y.pickT (by rfl) rfl (by rfl) ?_
 refine XL.s rfl ?_
 refine Y.move (by rfl) ?_
 refine XL.gt rfl rfl ya rfl ?_
 refine Y.move (by rfl) ?_
 refine XL.gt rfl rfl ya rfl ?_
 refine Y.eql (by rfl) (by rfl) ?_
 refine XL.s rfl ?_
 refine Y.pickT (by rfl) ya (by rfl) ?_
 refine XL.s rfl ?_
 refine Y.move (by rfl) ?_
 refine XL.gt rfl rfl rfl rfl ?_
 refine Y.move (by rfl) ?_
 refine XL.gt rfl rfl rfl rfl ?_
 refine Y.eql (by rfl) (by rfl) ?_
 refine XL.s rfl ?_
 refine Y.pickT (by rfl) rfl (by rfl) ?_
 refine XL.s rfl ?_
 refine Y.move (by rfl) ?_
 refine XL.gt rfl rfl rfl rfl ?_
 refine Y.move (by rfl) ?_
 refine XL.gt rfl rfl rfl rfl ?_
 refine Y.len Tryz.underlying56 (by rfl) (Row.nil AnyB _) ?_
 refine XL.gt rfl rfl rfl rfl ?_
 refine Y.eql (by rfl) (by rfl) ?_
 refine XL.s rfl ?_
 refine Y.pickT (by rfl) rfl (by rfl) ?_
 refine XL.s rfl ?_
 refine Y.move (by rfl) ?_
 refine XL.gt rfl rfl rfl rfl ?_
 refine Y.move (by rfl) ?_
 refine XL.gt rfl rfl rfl rfl ?_
 refine Y.eql (by rfl) (by rfl) ?_
 refine XL.s rfl ?_
 refine Y.pickT (by rfl) rfl (by rfl) ?_
 refine XL.s rfl ?_
 refine Y.move (by rfl) ?_
 refine XL.gt rfl rfl (by rw [hcnt]; rfl) rfl ?_
 refine Y.move (by rfl) ?_
 refine XL.gt rfl rfl (by rw [hcnt]; rfl) rfl ?_
 refine Y.eql (by rfl) (by rfl) ?_
 refine XL.s rfl ?_
 refine Y.pickT (by rfl) (by rw [hcnt]; rfl) (by rfl) ?_
 refine XL.s rfl ?_
 refine Y.move (by rfl) ?_
 refine XL.gt rfl rfl rfl rfl ?_
 refine Y.move (by rfl) ?_
 refine XL.gt rfl rfl rfl rfl ?_
 refine Y.call (by rfl) ok16 (diskS_no w2 _ 1 1 _ _ _ _ _ _ hS46 (by decide) (by decide) (by decide)) ?_
 rintro v82 w82 ⟨rfl, hE82⟩
 refine XL.gt rfl rfl rfl rfl ?_
 refine Y.eqlP Tryz.underlying41 (by rfl) (by rfl) ?_
 refine XL.s rfl ?_
 refine Y.pickT (by rfl) rfl (by rfl) ?_
 refine XL.s rfl ?_
 refine Y.move (by rfl) ?_
 refine XL.gt rfl rfl ya rfl ?_
 refine Y.move (by rfl) ?_
 refine XL.gt rfl rfl ya rfl ?_
 refine Y.call (by rfl) ok16 (diskS w2 _ 1 1 _ _ _ _ _ _ (hS46.ext hE82) (by decide) (by decide) (by decide) 0 (by decide)) ?_
 rintro v87 w87 ⟨hD87, hE87⟩
 obtain ⟨db, rfl⟩ := hD87.ptr
 refine XL.gt rfl rfl ya rfl ?_
 refine Y.neqP Tryz.underlying41 (by rfl) (by rfl) ?_
 refine XL.s rfl ?_
 refine Y.pickT (by rfl) ya (by rfl) ?_
 refine XL.s rfl ?_
 refine Y.assign (by rfl) ?_
 refine XL.nil ?_
 refine QN.next ?_
 refine XC.ret ?_
 refine QN.done1 (fn := Tryz.f8) (R := R) (.inl rfl) rfl rfl ?_
 refine hR _ _ ?_
 exact ⟨rfl, hE2.trans ((hS46.ext hE82).ext hE87).1⟩
end Go.Proofs.YtchammpamigonaaGreatX
end
section
namespace Go.Proofs.YtchammpamigonaaGreatX
open Go Go.RowKit
def spGi (ss : List Sp) (i : Nat) : Bool := spG (ss.getD i ⟨0, 0, 0⟩)
theorem spG_get (ss : List Sp) (n : Nat) (hn : n ≤ ss.length) : ∀ i, i < n → (boolsV ((ss.take n).map spG))[i]? = some (.bool (spGi ss i)) := fun i hi => by
  have h1 : i < ((ss.take n).map spG).length := by simp; omega
  rw [boolsV_get _ _ h1]
  simp [spGi, List.getD_eq_getElem?_getD, show i < ss.length by omega]
theorem spC_get (ss : List Sp) (i : Nat) (hi : i < ss.length) : (spCs ss)[3 * i]? = some (.int .u8 (((ss.getD i ⟨0, 0, 0⟩).act.toNat : Nat) : Int)) := by
  have h := spCs_get ss i hi 0 (by omega)
  rw [Nat.add_zero] at h
  rw [h]
  simp [spC, List.getD_eq_getElem?_getD, hi]
theorem spG_act {s : Sp} (h : spG s = true) : s.act.toNat % 5 ≠ 4 := by
  unfold spG at h
  split at h
  · omega
  · simp at h; omega
end Go.Proofs.YtchammpamigonaaGreatX
end
section
namespace Go.Proofs.YtchammpamigonaaGreatX
open Go Go.RowKit
def sqM (m : Fm) (nm : List UInt8) (g : Bool) : Fm := if g then m else upd (upd m ([98, 46] ++ nm) none) ([113, 46] ++ nm) (m ([98, 46] ++ nm))
theorem key_ne (nm nm' : List UInt8) : ([113, 46] ++ nm : List UInt8) ≠ [98, 46] ++ nm' := by simp
section
variable {m : Fm} {nm : List UInt8} {g : Bool} {i : Nat}
theorem sqM_q (h1 : ∀ x, m x ≠ none → x = [98, 46] ++ nm) : sqM m nm g ([113, 46] ++ nm) = if g then none else m ([98, 46] ++ nm) := by
  unfold sqM
  cases g with
  | true =>
    simp only [if_true]
    cases h : m ([113, 46] ++ nm) with
    | none => rfl
    | some v => exact absurd (h1 _ (by rw [h]; simp)) (key_ne nm nm)
  | false => simp only [Bool.false_eq_true, if_false]; exact upd_same _ _ _
theorem sqM_b : sqM m nm g ([98, 46] ++ nm) = if g then m ([98, 46] ++ nm) else none := by
  unfold sqM
  cases g with
  | true => rfl
  | false => simp only [Bool.false_eq_true, if_false]; rw [upd_other _ _ (key_ne nm nm).symm, upd_same]
theorem sqM_o {x : List UInt8} (h1 : ∀ x, m x ≠ none → x = [98, 46] ++ nm) (hx : sqM m nm g x ≠ none) : x = [98, 46] ++ nm ∨ x = [113, 46] ++ nm := by
  by_cases e1 : x = [113, 46] ++ nm
  · exact .inr e1
  by_cases e2 : x = [98, 46] ++ nm
  · exact .inl e2
  refine .inl (h1 x ?_)
  unfold sqM at hx
  cases g with
  | true => exact hx
  | false => simp only [Bool.false_eq_true, if_false] at hx; rwa [upd_other _ _ e1, upd_other _ _ e2] at hx
theorem badF_q (m' : Fm) : badF i m' ([113, 46] ++ nm) = false := by simp [badF, hasP]
theorem sqM_clean (h1 : ∀ x, m x ≠ none → x = [98, 46] ++ nm) (hb : m ([98, 46] ++ nm) ≠ none → badF i m ([98, 46] ++ nm) = !g) {x : List UInt8} (hx : sqM m nm g x ≠ none) : badF i (sqM m nm g) x = false := by
  rcases sqM_o h1 hx with rfl | rfl
  · rw [sqM_b] at hx
    cases g with
    | true => have := hb hx; unfold sqM; simpa using this
    | false => simp at hx
  · exact badF_q _
theorem scrub_sp (h1 : ∀ x, m x ≠ none → x = [98, 46] ++ nm) (hb : m ([98, 46] ++ nm) ≠ none → badF i m ([98, 46] ++ nm) = !g) (hg : g = true → m ([98, 46] ++ nm) ≠ none) {ss : List (List UInt8)} (hn : ss.Nodup) (hm : ∀ x, x ∈ ss ↔ m x ≠ none) :
    scrubM i m ss = sqM m nm g ∧ scrubO i m ss = if !g && (m ([98, 46] ++ nm)).isSome then [nm] else [] := by
  by_cases hk : m ([98, 46] ++ nm) = none
  · have hs : ss = [] := by
      cases ss with
      | nil => rfl
      | cons a r => exact absurd hk (by have := (hm a).1 (by simp); rwa [h1 a this] at this)
    have hgf : g = false := by
      cases g with
      | true => exact absurd hk (hg rfl)
      | false => rfl
    subst hs; subst hgf
    refine ⟨?_, by rw [hk]; rfl⟩
    funext x
    show m x = _
    by_cases e1 : x = [113, 46] ++ nm
    · subst e1
      rw [sqM_q h1, hk]
      cases h : m ([113, 46] ++ nm) with
      | none => rfl
      | some v => exact absurd (h1 _ (by rw [h]; simp)) (key_ne nm nm)
    · by_cases e2 : x = [98, 46] ++ nm
      · subst e2; rw [sqM_b, hk]; rfl
      · unfold sqM; simp only [Bool.false_eq_true, if_false]; rw [upd_other _ _ e1, upd_other _ _ e2]
  · have hs : ss = [[98, 46] ++ nm] := by
      have hin := (hm _).2 hk
      cases ss with
      | nil => simp at hin
      | cons a r =>
        have ha := h1 a ((hm a).1 (by simp))
        subst ha
        cases r with
        | nil => rfl
        | cons b r' =>
          have hb' := h1 b ((hm b).1 (by simp))
          subst hb'
          simp at hn
    subst hs
    have hb' := hb hk
    obtain ⟨v, hv⟩ := Option.ne_none_iff_exists'.1 hk
    cases g with
    | true =>
      simp only [scrubM, List.foldl_cons, List.foldl_nil, scrub1, scrubO, hb']
      exact ⟨rfl, rfl⟩
    | false =>
      simp only [scrubM, List.foldl_cons, List.foldl_nil, scrub1, scrubO, hb', hv]
      exact ⟨by unfold sqM; rw [hv]; rfl, rfl⟩
end
def sqMs (k F : Nat) (nm bl : List UInt8) (ss : List Sp) (i q : Nat) : Fm := if q < i then sqM (spMs k F nm bl ss q) nm (spGi ss q) else spMs k F nm bl ss q
section
variable {k F : Nat} {nm bl : List UInt8} {ss : List Sp} {i : Nat}
theorem sqMs_zero : sqMs k F nm bl ss 0 = spMs k F nm bl ss := by funext q; simp [sqMs]
theorem sqMs_self : sqMs k F nm bl ss i i = spMs k F nm bl ss i := by simp [sqMs]
theorem sqMs_done : sqMs k F nm bl ss (i + 1) i = sqM (spMs k F nm bl ss i) nm (spGi ss i) := by simp [sqMs]
theorem sp_one {x : List UInt8} (h : spMs k F nm bl ss i x ≠ none) : x = [98, 46] ++ nm := by
  simp only [spMs, spM] at h
  by_cases e : x = [98, 46] ++ nm
  · exact e
  · rw [if_neg e] at h; exact absurd rfl h
theorem sp_key : spMs k F nm bl ss i ([98, 46] ++ nm) = none ↔ (ss.getD i ⟨0, 0, 0⟩).act.toNat % 5 = 4 := by
  simp only [spMs, spM, if_true]; exact spF_none _ _
theorem sp_good (hg : spGi ss i = true) : spMs k F nm bl ss i ([98, 46] ++ nm) ≠ none := fun h => spG_act hg (sp_key.1 h)
theorem sp_badF (hk : 1 ≤ k) (hF : k + 2 * F ≤ 7) (hbl : bl.length ≤ 512) (hi : i < k + 2 * F) (h : spMs k F nm bl ss i ([98, 46] ++ nm) ≠ none) : badF i (spMs k F nm bl ss i) ([98, 46] ++ nm) = !spGi ss i := by
  have h1 := spMs_goods k F nm bl ss hk hF hbl i hi
  obtain ⟨⟨d, s⟩, hd⟩ := Option.ne_none_iff_exists'.1 h
  have hl : 0 < ((encP k (k + 2 * F) bl).getD i []).length := by rw [encP_getD_len k F bl hk hi]; exact pieceN_pos bl hk
  simp only [shardAt] at h1
  rw [hd] at h1
  simp only at h1
  have hp : hasP ([98, 46] ++ nm) [98, 46] = true := by simp [hasP]
  unfold badF
  rw [hd, hp]
  simp only [Bool.true_and, h1]
  show decide (List.length (if spGi ss i = true then _ else _) = 0) = _
  cases hg : spGi ss i with
  | true => simp only [if_true]; exact decide_eq_false (by omega)
  | false => rfl
theorem sq_scrub (hk : 1 ≤ k) (hF : k + 2 * F ≤ 7) (hbl : bl.length ≤ 512) (hi : i < k + 2 * F) {sn : List (List UInt8)} (hn : sn.Nodup) (hm : ∀ x, x ∈ sn ↔ sqMs k F nm bl ss i i x ≠ none) :
    scrubO i (sqMs k F nm bl ss i i) sn = (if !spGi ss i && !decide ((ss.getD i ⟨0, 0, 0⟩).act.toNat % 5 = 4) then [nm] else []) ∧ ∀ q, (if q = i then scrubM i (sqMs k F nm bl ss i i) sn else sqMs k F nm bl ss i q) = sqMs k F nm bl ss (i + 1) q := by
  rw [sqMs_self] at hm ⊢
  obtain ⟨h1, h2⟩ := scrub_sp (i := i) (g := spGi ss i) (fun x => sp_one (i := i)) (sp_badF hk hF hbl hi) sp_good hn hm
  refine ⟨?_, fun q => ?_⟩
  · rw [h2]
    have : (spMs k F nm bl ss i ([98, 46] ++ nm)).isSome = !decide ((ss.getD i ⟨0, 0, 0⟩).act.toNat % 5 = 4) := by
      by_cases e : (ss.getD i ⟨0, 0, 0⟩).act.toNat % 5 = 4
      · rw [sp_key.2 e, decide_eq_true e]; rfl
      · rw [decide_eq_false e]
        obtain ⟨v, hv⟩ := Option.ne_none_iff_exists'.1 (fun h => e ((sp_key (k := k) (F := F) (nm := nm) (bl := bl)).1 h))
        rw [hv]; rfl
    rw [this]
  · by_cases e : q = i
    · subst e; rw [if_pos rfl, h1, sqMs_done]
    · rw [if_neg e]
      unfold sqMs
      by_cases h : q < i
      · rw [if_pos h, if_pos (by omega)]
      · rw [if_neg h, if_neg (by omega)]
theorem sq_len (hnm : nm.length ≤ 16) {x : List UInt8} (h : sqMs k F nm bl ss i i x ≠ none) : 1 ≤ x.length ∧ x.length ≤ 24 := by
  rw [sqMs_self] at h; rw [sp_one h]; simp; omega
theorem sq_len2 (hnm : nm.length ≤ 16) {x : List UInt8} (h : sqMs k F nm bl ss (i + 1) i x ≠ none) : 1 ≤ x.length ∧ x.length ≤ 24 := by
  rw [sqMs_done] at h
  rcases sqM_o (fun x => sp_one (i := i)) h with rfl | rfl <;> (simp; omega)
theorem sq_clean (hk : 1 ≤ k) (hF : k + 2 * F ≤ 7) (hbl : bl.length ≤ 512) (hi : i < k + 2 * F) {x : List UInt8} (h : sqMs k F nm bl ss (i + 1) i x ≠ none) : badF i (sqMs k F nm bl ss (i + 1) i) x = false := by
  rw [sqMs_done] at h ⊢
  exact sqM_clean (fun x => sp_one (i := i)) (sp_badF hk hF hbl hi) h
theorem sq_q : sqMs k F nm bl ss (i + 1) i ([113, 46] ++ nm) = if spGi ss i then none else spMs k F nm bl ss i ([98, 46] ++ nm) := by
  rw [sqMs_done]; exact sqM_q (fun x => sp_one (i := i))
theorem sq_b : sqMs k F nm bl ss (i + 1) i ([98, 46] ++ nm) = if spGi ss i then spMs k F nm bl ss i ([98, 46] ++ nm) else none := by
  rw [sqMs_done]; exact sqM_b
end
end Go.Proofs.YtchammpamigonaaGreatX
end
section
set_option linter.unusedVariables false
set_option linter.unusedSimpArgs false
set_option maxRecDepth 10000
set_option maxHeartbeats 4000000
namespace Go.Proofs.YtchammpamigonaaGreatX
open Go Go.RowKit Go.Proofs
theorem quarantine_ok (a b : UInt8) (bl : List UInt8) (ss : List Sp) (w : World) (hss : ss.length = 7) (hbl : bl.length ≤ 9223372036854775807) :
  Rets Tryz.prog 5 #[byteV a, byteV b, strV bl, .agg (spCs ss).toArray] w fun v w' => v = .bool true ∧ Ext w w' := by
 refine Rets.enter (args := [byteV a, byteV b, strV bl, .agg (spCs ss).toArray]) (n := 166) Tryz.func5 rfl rfl rfl ?_
 intro R hR
 show XC _ _ _ _ [(0, byteV a), (1, byteV b), (2, strV bl), (3, .agg (spCs ss).toArray)] _
 refine XC.seq ?_
 refine XC.region ?_
 show XL _ _ _ _ (List.cons _ _) _ _
 refine XL.s rfl ?_
 refine Y.box (by rfl) ?_
 intro b7 w7 hb7 hz7 hE7
 have hbB : HB w7 b7 (.cells (spCs ss).toArray 48 (0, 0)) := hb7
 refine XL.s rfl ?_
 refine Y.assign (by rfl) ?_
 refine XL.nil ?_
 refine QN.next ?_
 refine XC.seq ?_
 refine XC.region ?_
 show XL _ _ _ _ (List.cons _ _) _ _
 refine XL.s rfl ?_
 refine Y.move (by rfl) ?_
 refine XL.s rfl ?_
 refine Y.move (by rfl) ?_
 refine XL.s rfl ?_
 refine Y.call (by rfl) ok19 (shape_ok a b _) ?_
 rintro vS wS ⟨k, F, hk, hF, rfl, hES⟩
 refine XL.s rfl ?_
 refine Y.alloc zt23 ?_
 intro b9 w9 hb9 hz9 hE9
 refine XL.o ?_
 refine Y.storeA (cs := [.int .i64 (k : Int), .int .i64 (F : Int)]) agg23 (by rfl) (by rfl) hb9 rfl rfl (by intro c hc; simp at hc; rcases hc with rfl | rfl <;> rfl) ?_
 intro w2 hb2 hC2 hz2
 have hE2 : Ext w w2 := ((hE7.trans hES).trans hE9).chgNew hC2 (fun x hx => by have := hE7.size; have := hES.size; omega)
 have hsh : HB w2 b9 (.cells (Value.cells (shapeV (k : Int) (F : Int))) 23 (0, 0)) := hb2
 have hbB2 : HB w2 b7 (.cells (spCs ss).toArray 48 (0, 0)) := ((hbB.ext hES).ext hE9).chg hC2 (fun h => by have := hbB.lt; have := hES.size; omega)
 refine XL.nil ?_
 refine QN.next ?_
 refine XC.seq ?_
 refine XC.seq ?_
 by_cases hl1 : bl.length ≤ 512
 ·skip
  refine XC.region ?_
  show XL _ _ _ _ (List.cons _ _) _ _
  refine XL.s rfl ?_
  refine Y.call (by rfl) ok8 (awake_ok _) ?_
  rintro vA wA ⟨rfl, hEA⟩
  refine XL.s rfl ?_
  refine Y.not (by rfl) ?_
  refine XL.s rfl ?_
  refine Y.move (by rfl) ?_
  refine XL.gt rfl rfl rfl rfl ?_
  refine Y.move (by rfl) ?_
  refine XL.gt rfl rfl rfl rfl ?_
  refine Y.lenS Tryz.underlying9 (by rfl) ?_
  refine XL.gt rfl rfl rfl rfl ?_
  refine Y.gtr (by rfl) (by rfl) ?_
  refine XL.s rfl ?_
  refine Y.pickF (by rfl) rfl (by rfl) ?_
  refine XL.nil ?_
  refine QN.next ?_
  refine XC.condF rfl ya ?_
  have hE0 := hE2.trans hEA
  refine XC.skip ?_
  refine QN.next ?_
  refine XC.seq ?_
  refine XC.region ?_
  show XL _ _ _ _ (List.cons _ _) _ _
  refine XL.s rfl ?_
  refine Y.loadA agg23 (by rfl) rfl (shapeA (hsh.ext hEA)) ?_
  refine XL.s rfl ?_
  refine Y.move (by rfl) ?_
  refine XL.s rfl ?_
  refine Y.loadA agg48 (by rfl) (by rw [spCs_length, hss]) (fun j u hu => cell_arr (hbB2.ext hEA) (by rw [Nat.zero_add]; exact hu)) ?_
  refine XL.s rfl ?_
  refine Y.call (by rfl) ok20 (spoilt_ok k F [98, 108, 111, 98] bl ss _ hk hF (by decide) hl1 hss) ?_
  rintro v4 w4 ⟨da, gv, rfl, hDB, hE4⟩
  obtain ⟨dvs, Fd, hdr, hdl, hdd, hgr, hgl⟩ := hDB.out
  refine XL.s rfl ?_
  refine Y.move (by rfl) ?_
  refine XL.s rfl ?_
  refine Y.extract (by rfl) (by rfl) ?_
  refine XL.s rfl ?_
  refine Y.extract (by rfl) (by rfl) ?_
  refine XL.s rfl ?_
  refine Y.assign (by rfl) ?_
  refine XL.s rfl ?_
  refine Y.assign (by rfl) ?_
  refine XL.nil ?_
  refine QN.next ?_
  refine XC.seq ?_
  refine XC.region ?_
  show XL _ _ _ _ (List.cons _ _) _ _
  refine XL.s rfl ?_
  refine Y.loadA agg23 (by rfl) rfl (shapeA ((hsh.ext hEA).ext hE4)) ?_
  refine XL.s rfl ?_
  refine Y.move (by rfl) ?_
  refine XL.s rfl ?_
  refine Y.call (by rfl) ok10 (newS k F _ hk hF _ _ dvs hdr hdl Fd 6000 (spMs k F [98, 108, 111, 98] bl ss) 700 1 hdd (by omega) (by omega)) ?_
  rintro v5 w5 ⟨tv, rfl, hS⟩
  obtain ⟨tb, rfl⟩ := hS.ptr
  have hgi := spG_get ss (k + 2 * F) (by omega)
  have hsh5 := ((hsh.ext hEA).ext hE4).ext hS.1
  have hbB5 := ((hbB2.ext hEA).ext hE4).ext hS.1
  have hgr5 := hgr.ext hS.1
  have hE5 := (hE0.trans hE4).trans hS.1
  have hG := spMs_goods k F [98, 108, 111, 98] bl ss hk hF hl1
  refine XL.s rfl ?_
  refine Y.move (by rfl) ?_
  refine XL.s rfl ?_
  refine Y.extract (by rfl) (by rfl) ?_
  refine XL.s rfl ?_
  refine Y.extract (by rfl) (by rfl) ?_
  refine XL.s rfl ?_
  refine Y.assign (by rfl) ?_
  refine XL.s rfl ?_
  refine Y.assign (by rfl) ?_
  refine XL.nil ?_
  refine QN.next ?_
  refine XC.seq ?_
  refine XC.seq ?_
  refine XC.region ?_
  show XL _ _ _ _ (List.cons _ _) _ _
  refine XL.s rfl ?_
  refine Y.move (by rfl) ?_
  refine XL.s rfl ?_
  refine Y.neq (by rfl) (by rfl) ?_
  refine XL.s rfl ?_
  refine Y.move (by rfl) ?_
  refine XL.gt rfl rfl rfl rfl ?_
  refine Y.move (by rfl) ?_
  refine XL.gt rfl rfl rfl rfl ?_
  refine Y.eqlP Tryz.underlying27 (by rfl) (by rfl) ?_
  refine XL.s rfl ?_
  refine Y.pickF (by rfl) rfl (by rfl) ?_
  refine XL.nil ?_
  refine QN.next ?_
  refine XC.condF rfl ya ?_
  have hgrr0 := hgr
  rw [← sqMs_zero] at hS
  refine XC.skip ?_
  refine QN.next ?_
  refine XC.seq ?_
  refine XC.seq ?_
  refine XC.region ?_
  show XL _ _ _ _ (List.cons _ _) _ _
  refine XL.s rfl ?_
  refine Y.assign (by rfl) ?_
  refine XL.nil ?_
  refine QN.next ?_
  refine XC.block ?_
  refine XC.loop (α := Nat) (fun i => [(7, .pointer (some ⟨b7, 0, none⟩)), (11, gv), (12, .pointer (some ⟨tb, 0, none⟩)), (14, .int .i64 i)]) (fun i wr => i ≤ k + 2 * F ∧ StoreS 66 79 82 5 w4 wr (.pointer (some ⟨tb, 0, none⟩)) k F (k + 2 * F) 6000 (sqMs k F [98, 108, 111, 98] bl ss i) 700 1) (fun i => k + 2 * F - i) (0) ?_ ?_ ?_
  ·exact ⟨rfl, rfl, rfl, rfl, trivial⟩
  ·exact ⟨by omega, hS⟩
  ·rintro i wr hI
   obtain ⟨hi, hSr⟩ := hI
   have hgrr := hgr.ext hSr.1
   refine XC.seq ?_
   refine XC.seq ?_
   refine XC.region ?_
   show XL _ _ _ _ (List.cons _ _) _ _
   refine XL.s rfl ?_
   refine Y.move (by rfl) ?_
   refine XL.s rfl ?_
   refine Y.move (by rfl) ?_
   refine XL.s rfl ?_
   refine Y.len Tryz.underlying51 (by rfl) hgrr ?_
   refine XL.s rfl ?_
   refine Y.lss (by rfl) (by rfl) ?_
   refine XL.nil ?_
   refine QN.next ?_
   refine XC.condS rfl ?_ ?_
   ·intro hc
    try simp only [decide_eq_true_eq, decide_eq_false_iff_not, Bool.not_eq_true', Bool.not_eq_false', Bool.not_eq_eq_eq_not, Bool.not_true, Bool.not_false, Bool.or_eq_true, Bool.and_eq_true, Bool.or_eq_false_iff] at hc
    have hi' : i < k + 2 * F := by omega
    have hgi' := hgi i hi'
    have hcell := cell_arr (o := 0 + i * 3 + 0) (((hbB2.ext hEA).ext hE4).ext hSr.1) (by rw [show 0 + i * 3 + 0 = 3 * i by omega]; exact spC_get ss i (by omega))
    obtain ⟨A, hA⟩ : ∃ A, A = (ss.getD i ⟨0, 0, 0⟩).act.toNat := ⟨_, rfl⟩
    rw [← hA] at hcell
    refine XC.skip ?_
    refine QN.next ?_
    refine XC.seq ?_
    by_cases hg : spGi ss i = true
    ·skip
     rw [hg] at hgi'
     obtain ⟨⟨dd, sd⟩, hdd'⟩ := Option.ne_none_iff_exists'.1 (sp_good (k := k) (F := F) (nm := [98, 108, 111, 98]) (bl := bl) hg)
     refine XC.block ?_
     refine XC.seq ?_
     refine XC.region ?_
     show XL _ _ _ _ (List.cons _ _) _ _
     refine XL.s rfl ?_
     refine Y.move (by rfl) ?_
     refine XL.s rfl ?_
     refine Y.move (by rfl) ?_
     refine XL.s rfl ?_
     refine Y.indexR st51 (by rfl) (by rfl) hgrr ⟨by omega, by omega⟩ (by rw [Int.toNat_natCast]; exact hgi' ) ?_
     intro b66 o66 hs66 hc66
     refine XL.s rfl ?_
     refine Y.load one4 (by rfl) (by assumption) ?_
     refine XL.s rfl ?_
     refine Y.not (by rfl) ?_
     refine XL.s rfl ?_
     refine Y.move (by rfl) ?_
     refine XL.gf rfl rfl rfl rfl ?_
     refine XL.gf rfl rfl rfl rfl ?_
     refine XL.gf rfl rfl rfl rfl ?_
     refine XL.gf rfl rfl rfl rfl ?_
     refine XL.gf rfl rfl rfl rfl ?_
     refine XL.gf rfl rfl rfl rfl ?_
     refine XL.s rfl ?_
     refine Y.pickF (by rfl) rfl (by rfl) ?_
     refine XL.s rfl ?_
     refine Y.assign (by rfl) ?_
     refine XL.nil ?_
     refine QN.next ?_
     refine XC.seq ?_
     refine XC.region ?_
     show XL _ _ _ _ (List.cons _ _) _ _
     refine XL.s rfl ?_
     refine Y.move (by rfl) ?_
     refine XL.s rfl ?_
     refine Y.move (by rfl) ?_
     refine XL.s rfl ?_
     refine Y.call (by rfl) ok22 (scrubS w4 _ k F _ _ _ _ _ _ hSr (by omega) (by omega) hF i hi' (by omega) (fun x h => sq_len (by decide) h)) ?_
     rintro v80 w80 ⟨sn, hsn, hsm, qa, rfl, hrow, hS80⟩
     obtain ⟨e1, e2⟩ := sq_scrub (nm := [98, 108, 111, 98]) hk hF hl1 hi' hsn hsm
     rw [e1] at hrow
     replace hS80 := hS80.cast (fun q _ => e2 q)
     have hrow' : Row AnyB w80 qa 0 (strsV []) := by have := hrow; rw [hg] at this; exact this
     refine XL.s rfl ?_
     refine Y.move (by rfl) ?_
     refine XL.s rfl ?_
     refine Y.extract (by rfl) (by rfl) ?_
     refine XL.s rfl ?_
     refine Y.extract (by rfl) (by rfl) ?_
     refine XL.s rfl ?_
     refine Y.assign (by rfl) ?_
     refine XL.s rfl ?_
     refine Y.assign (by rfl) ?_
     refine XL.nil ?_
     refine QN.next ?_
     refine XC.seq ?_
     refine XC.region ?_
     show XL _ _ _ _ (List.cons _ _) _ _
     refine XL.s rfl ?_
     refine Y.move (by rfl) ?_
     refine XL.s rfl ?_
     refine Y.move (by rfl) ?_
     refine XL.s rfl ?_
     refine Y.call (by rfl) ok22 (scrubS_clean w4 _ k F _ _ _ _ _ _ hS80 (by omega) (by omega) hF i hi' (by omega) (fun x h => sq_len2 (by decide) h) (fun x h => sq_clean hk hF hl1 hi' h)) ?_
     rintro v86 w86 ⟨rfl, hE86⟩
     replace hS80 := hS80.ext hE86
     replace hrow' := hrow'.ext hE86
     refine XL.s rfl ?_
     refine Y.move (by rfl) ?_
     refine XL.s rfl ?_
     refine Y.extract (by rfl) (by rfl) ?_
     refine XL.s rfl ?_
     refine Y.extract (by rfl) (by rfl) ?_
     refine XL.s rfl ?_
     refine Y.assign (by rfl) ?_
     refine XL.s rfl ?_
     refine Y.assign (by rfl) ?_
     refine XL.nil ?_
     refine QN.next ?_
     refine XC.seq ?_
     refine XC.seq ?_
     refine XC.region ?_
     show XL _ _ _ _ (List.cons _ _) _ _
     refine XL.s rfl ?_
     refine Y.move (by rfl) ?_
     refine XL.s rfl ?_
     refine Y.neq (by rfl) (by rfl) ?_
     refine XL.s rfl ?_
     refine Y.move (by rfl) ?_
     refine XL.gt rfl rfl rfl rfl ?_
     refine Y.move (by rfl) ?_
     refine XL.gt rfl rfl rfl rfl ?_
     refine Y.neq (by rfl) (by rfl) ?_
     refine XL.s rfl ?_
     refine Y.pickF (by rfl) rfl (by rfl) ?_
     refine XL.s rfl ?_
     refine Y.move (by rfl) ?_
     refine XL.gt rfl rfl rfl rfl ?_
     refine Y.move (by rfl) ?_
     refine XL.gt rfl rfl rfl rfl ?_
     refine Y.len Tryz.underlying56 (by rfl) (Row.nil AnyB _) ?_
     refine XL.gt rfl rfl rfl rfl ?_
     refine Y.neq (by rfl) (by rfl) ?_
     refine XL.s rfl ?_
     refine Y.pickF (by rfl) rfl (by rfl) ?_
     refine XL.s rfl ?_
     refine Y.move (by rfl) ?_
     refine XL.gt rfl rfl rfl rfl ?_
     refine Y.move (by rfl) ?_
     refine XL.gt rfl rfl rfl rfl ?_
     refine Y.move (by rfl) ?_
     refine XL.gt rfl rfl rfl rfl ?_
     refine Y.len Tryz.underlying56 (by rfl) hrow' ?_
     refine XL.gt rfl rfl rfl rfl ?_
     refine Y.eql (by rfl) (by rfl) ?_
     refine XL.gt rfl rfl rfl rfl ?_
     refine Y.neqB Tryz.underlying4 (by rfl) (by rfl) ?_
     refine XL.s rfl ?_
     refine Y.pickF (by rfl) rfl (by rfl) ?_
     refine XL.s rfl ?_
     refine Y.move (by rfl) ?_
     refine XL.gt rfl rfl rfl rfl ?_
     refine Y.move (by rfl) ?_
     refine XL.gt rfl rfl rfl rfl ?_
     refine Y.len Tryz.underlying56 (by rfl) hrow' ?_
     refine XL.gt rfl rfl rfl rfl ?_
     refine Y.gtr (by rfl) (by rfl) ?_
     refine XL.s rfl ?_
     refine Y.pickF (by rfl) rfl (by rfl) ?_
     refine XL.s rfl ?_
     refine Y.move (by rfl) ?_
     refine XL.gt rfl rfl rfl rfl ?_
     refine Y.move (by rfl) ?_
     refine XL.gt rfl rfl rfl rfl ?_
     refine Y.move (by rfl) ?_
     refine XL.gf rfl rfl rfl rfl ?_
     refine XL.gf rfl rfl rfl rfl ?_
     refine XL.gf rfl rfl rfl rfl ?_
     refine XL.gf rfl rfl rfl rfl ?_
     refine XL.gt rfl rfl rfl rfl ?_
     refine Y.pickF (by rfl) rfl (by rfl) ?_
     refine XL.s rfl ?_
     refine Y.pickF (by rfl) rfl (by rfl) ?_
     refine XL.nil ?_
     refine QN.next ?_
     refine XC.condF rfl rfl ?_
     refine XC.skip ?_
     refine QN.next ?_
     refine XC.seq ?_
     refine XC.region ?_
     show XL _ _ _ _ (List.cons _ _) _ _
     refine XL.s rfl ?_
     refine Y.move (by rfl) ?_
     refine XL.s rfl ?_
     refine Y.move (by rfl) ?_
     refine XL.s rfl ?_
     refine Y.call (by rfl) ok16 (diskS w4 _ k F _ _ _ _ _ _ hS80 (by omega) (by omega) hF i hi') ?_
     rintro v124 w124 ⟨hD124, hE124⟩
     refine XL.s rfl ?_
     refine Y.call (by rfl) ok23 (readA_no _ _ _ _ _ _ [113, 46, 98, 108, 111, 98] _ hD124 ((sq_q (nm := [98, 108, 111, 98])).trans (by rw [hg]; first | rfl | exact sp_key.2 c4s))) ?_
     rintro v125 w125 ⟨rfl, hE125⟩
     replace hS80 := (hS80.ext hE124).ext hE125
     refine XL.s rfl ?_
     refine Y.move (by rfl) ?_
     refine XL.s rfl ?_
     refine Y.extract (by rfl) (by rfl) ?_
     refine XL.s rfl ?_
     refine Y.extract (by rfl) (by rfl) ?_
     refine XL.s rfl ?_
     refine Y.assign (by rfl) ?_
     refine XL.s rfl ?_
     refine Y.assign (by rfl) ?_
     refine XL.nil ?_
     refine QN.next ?_
     refine XC.seq ?_
     refine XC.region ?_
     show XL _ _ _ _ (List.cons _ _) _ _
     refine XL.s rfl ?_
     refine Y.move (by rfl) ?_
     refine XL.s rfl ?_
     refine Y.move (by rfl) ?_
     refine XL.s rfl ?_
     refine Y.call (by rfl) ok16 (diskS w4 _ k F _ _ _ _ _ _ hS80 (by omega) (by omega) hF i hi') ?_
     rintro v131 w131 ⟨hD131, hE131⟩
     refine XL.s rfl ?_
     refine Y.call (by rfl) ok23 (readA_yes _ _ _ _ _ _ [98, 46, 98, 108, 111, 98] _ hD131 dd sd ((sq_b (nm := [98, 108, 111, 98])).trans (by rw [hg]; exact hdd')) (by omega)) ?_
     rintro v132 w132 ⟨qb2, rfl, hN132⟩
     have hE132 := hN132.1
     replace hS80 := (hS80.ext hE131).ext hE132
     have hgr9 := hgr.ext hS80.1
     refine XL.s rfl ?_
     refine Y.move (by rfl) ?_
     refine XL.s rfl ?_
     refine Y.extract (by rfl) (by rfl) ?_
     refine XL.s rfl ?_
     refine Y.extract (by rfl) (by rfl) ?_
     refine XL.s rfl ?_
     refine Y.assign (by rfl) ?_
     refine XL.s rfl ?_
     refine Y.assign (by rfl) ?_
     refine XL.nil ?_
     refine QN.next ?_
     refine XC.seq ?_
     refine XC.region ?_
     show XL _ _ _ _ (List.cons _ _) _ _
     refine XL.s rfl ?_
     refine Y.move (by rfl) ?_
     refine XL.s rfl ?_
     refine Y.eql (by rfl) (by rfl) ?_
     refine XL.s rfl ?_
     refine Y.move (by rfl) ?_
     refine XL.s rfl ?_
     refine Y.neqB Tryz.underlying4 (by rfl) (by rfl) ?_
     refine XL.s rfl ?_
     refine Y.move (by rfl) ?_
     refine XL.gt rfl rfl rfl rfl ?_
     refine Y.move (by rfl) ?_
     refine XL.gt rfl rfl rfl rfl ?_
     refine Y.eql (by rfl) (by rfl) ?_
     refine XL.gt rfl rfl rfl rfl ?_
     refine Y.move (by rfl) ?_
     refine XL.gt rfl rfl rfl rfl ?_
     refine Y.move (by rfl) ?_
     refine XL.gt rfl rfl rfl rfl ?_
     refine Y.indexR st51 (by rfl) (by rfl) hgr9 ⟨by omega, by omega⟩ (by rw [Int.toNat_natCast]; exact hgi') ?_
     intro b144 o144 hs144 hc144
     refine XL.gt rfl rfl rfl rfl ?_
     refine Y.load one4 (by rfl) (by assumption) ?_
     refine XL.gt rfl rfl rfl rfl ?_
     refine Y.neqB Tryz.underlying4 (by rfl) (by rfl) ?_
     refine XL.s rfl ?_
     refine Y.pickF (by rfl) rfl (by rfl) ?_
     refine XL.nil ?_
     refine QN.next ?_
     refine XC.condF rfl rfl ?_
     refine XC.skip ?_
     refine QN.blk ?_
     refine QN.next ?_
     refine XC.region ?_
     show XL _ _ _ _ (List.cons _ _) _ _
     refine XL.s rfl ?_
     refine Y.move (by rfl) ?_
     refine XL.s rfl ?_
     refine Y.add (by rfl) (by rfl) (wrap64 (by omega) (by omega)) ?_
     refine XL.s rfl ?_
     refine Y.assign (by rfl) ?_
     refine XL.nil ?_
     refine QN.again (i + 1) ?_ ?_ ?_
     ·exact ⟨rfl, rfl, rfl, rfl, trivial⟩
     ·exact ⟨by omega, hS80⟩
     ·first | omega | (simp only []; omega) | (simp; omega)
    ·skip
     have hg : spGi ss i = false := by simpa using hg
     rw [hg] at hgi'
     by_cases c4 : A % 5 = 4
     ·skip
      have c4s : (ss.getD i ⟨0, 0, 0⟩).act.toNat % 5 = 4 := by rw [← hA]; exact c4
      have c4i : (A : Int) % 5 = 4 := by omega
      refine XC.block ?_
      refine XC.seq ?_
      refine XC.region ?_
      show XL _ _ _ _ (List.cons _ _) _ _
      refine XL.s rfl ?_
      refine Y.move (by rfl) ?_
      refine XL.s rfl ?_
      refine Y.move (by rfl) ?_
      refine XL.s rfl ?_
      refine Y.indexR st51 (by rfl) (by rfl) hgrr ⟨by omega, by omega⟩ (by rw [Int.toNat_natCast]; exact hgi' ) ?_
      intro b66 o66 hs66 hc66
      refine XL.s rfl ?_
      refine Y.load one4 (by rfl) (by assumption) ?_
      refine XL.s rfl ?_
      refine Y.not (by rfl) ?_
      refine XL.s rfl ?_
      refine Y.move (by rfl) ?_
      refine XL.gt rfl rfl rfl rfl ?_
      refine Y.move (by rfl) ?_
      refine XL.gt rfl rfl rfl rfl ?_
      refine Y.indexArr arr48 (by rfl) (by rfl) ⟨by omega, by omega⟩ ?_
      refine XL.gt rfl rfl rfl rfl ?_
      refine Y.fieldAddr fld47_0 (by rfl) ?_
      refine XL.gt rfl rfl rfl rfl ?_
      refine Y.load one5 (by rfl) hcell ?_
      refine XL.gt rfl rfl rfl rfl ?_
      refine Y.rem (by rfl) (by rfl) (by omega) (tmodN _ 5) ?_
      refine XL.gt rfl rfl rfl rfl ?_
      refine Y.neq (by rfl) (by rfl) ?_
      refine XL.s rfl ?_
      refine Y.pickT (by rfl) rfl (by rfl) ?_
      refine XL.s rfl ?_
      refine Y.assign (by rfl) ?_
      refine XL.nil ?_
      refine QN.next ?_
      refine XC.seq ?_
      refine XC.region ?_
      show XL _ _ _ _ (List.cons _ _) _ _
      refine XL.s rfl ?_
      refine Y.move (by rfl) ?_
      refine XL.s rfl ?_
      refine Y.move (by rfl) ?_
      refine XL.s rfl ?_
      refine Y.call (by rfl) ok22 (scrubS w4 _ k F _ _ _ _ _ _ hSr (by omega) (by omega) hF i hi' (by omega) (fun x h => sq_len (by decide) h)) ?_
      rintro v80 w80 ⟨sn, hsn, hsm, qa, rfl, hrow, hS80⟩
      obtain ⟨e1, e2⟩ := sq_scrub (nm := [98, 108, 111, 98]) hk hF hl1 hi' hsn hsm
      rw [e1] at hrow
      replace hS80 := hS80.cast (fun q _ => e2 q)
      have hrow' : Row AnyB w80 qa 0 (strsV []) := by have := hrow; rw [hg, decide_eq_true c4s] at this; exact this
      refine XL.s rfl ?_
      refine Y.move (by rfl) ?_
      refine XL.s rfl ?_
      refine Y.extract (by rfl) (by rfl) ?_
      refine XL.s rfl ?_
      refine Y.extract (by rfl) (by rfl) ?_
      refine XL.s rfl ?_
      refine Y.assign (by rfl) ?_
      refine XL.s rfl ?_
      refine Y.assign (by rfl) ?_
      refine XL.nil ?_
      refine QN.next ?_
      refine XC.seq ?_
      refine XC.region ?_
      show XL _ _ _ _ (List.cons _ _) _ _
      refine XL.s rfl ?_
      refine Y.move (by rfl) ?_
      refine XL.s rfl ?_
      refine Y.move (by rfl) ?_
      refine XL.s rfl ?_
      refine Y.call (by rfl) ok22 (scrubS_clean w4 _ k F _ _ _ _ _ _ hS80 (by omega) (by omega) hF i hi' (by omega) (fun x h => sq_len2 (by decide) h) (fun x h => sq_clean hk hF hl1 hi' h)) ?_
      rintro v86 w86 ⟨rfl, hE86⟩
      replace hS80 := hS80.ext hE86
      replace hrow' := hrow'.ext hE86
      refine XL.s rfl ?_
      refine Y.move (by rfl) ?_
      refine XL.s rfl ?_
      refine Y.extract (by rfl) (by rfl) ?_
      refine XL.s rfl ?_
      refine Y.extract (by rfl) (by rfl) ?_
      refine XL.s rfl ?_
      refine Y.assign (by rfl) ?_
      refine XL.s rfl ?_
      refine Y.assign (by rfl) ?_
      refine XL.nil ?_
      refine QN.next ?_
      refine XC.seq ?_
      refine XC.seq ?_
      refine XC.region ?_
      show XL _ _ _ _ (List.cons _ _) _ _
      refine XL.s rfl ?_
      refine Y.move (by rfl) ?_
      refine XL.s rfl ?_
      refine Y.neq (by rfl) (by rfl) ?_
      refine XL.s rfl ?_
      refine Y.move (by rfl) ?_
      refine XL.gt rfl rfl rfl rfl ?_
      refine Y.move (by rfl) ?_
      refine XL.gt rfl rfl rfl rfl ?_
      refine Y.neq (by rfl) (by rfl) ?_
      refine XL.s rfl ?_
      refine Y.pickF (by rfl) rfl (by rfl) ?_
      refine XL.s rfl ?_
      refine Y.move (by rfl) ?_
      refine XL.gt rfl rfl rfl rfl ?_
      refine Y.move (by rfl) ?_
      refine XL.gt rfl rfl rfl rfl ?_
      refine Y.len Tryz.underlying56 (by rfl) (Row.nil AnyB _) ?_
      refine XL.gt rfl rfl rfl rfl ?_
      refine Y.neq (by rfl) (by rfl) ?_
      refine XL.s rfl ?_
      refine Y.pickF (by rfl) rfl (by rfl) ?_
      refine XL.s rfl ?_
      refine Y.move (by rfl) ?_
      refine XL.gt rfl rfl rfl rfl ?_
      refine Y.move (by rfl) ?_
      refine XL.gt rfl rfl rfl rfl ?_
      refine Y.move (by rfl) ?_
      refine XL.gt rfl rfl rfl rfl ?_
      refine Y.len Tryz.underlying56 (by rfl) hrow' ?_
      refine XL.gt rfl rfl rfl rfl ?_
      refine Y.eql (by rfl) (by rfl) ?_
      refine XL.gt rfl rfl rfl rfl ?_
      refine Y.neqB Tryz.underlying4 (by rfl) (by rfl) ?_
      refine XL.s rfl ?_
      refine Y.pickF (by rfl) rfl (by rfl) ?_
      refine XL.s rfl ?_
      refine Y.move (by rfl) ?_
      refine XL.gt rfl rfl (by simp [c4i]) rfl ?_
      refine Y.move (by rfl) ?_
      refine XL.gt rfl rfl (by simp [c4i]) rfl ?_
      refine Y.len Tryz.underlying56 (by rfl) hrow' ?_
      refine XL.gt rfl rfl (by simp [c4i]) rfl ?_
      refine Y.gtr (by rfl) (by rfl) ?_
      refine XL.s rfl ?_
      refine Y.pickF (by rfl) (by simp [c4i]) (by rfl) ?_
      refine XL.s rfl ?_
      refine Y.move (by rfl) ?_
      refine XL.gt rfl rfl rfl rfl ?_
      refine Y.move (by rfl) ?_
      refine XL.gt rfl rfl rfl rfl ?_
      refine Y.move (by rfl) ?_
      refine XL.gf rfl rfl (by simp [c4i]) rfl ?_
      refine XL.gf rfl rfl (by simp [c4i]) rfl ?_
      refine XL.gf rfl rfl (by simp [c4i]) rfl ?_
      refine XL.gf rfl rfl (by simp [c4i]) rfl ?_
      refine XL.gt rfl rfl rfl rfl ?_
      refine Y.pickF (by rfl) (by simp [c4i]) (by rfl) ?_
      refine XL.s rfl ?_
      refine Y.pickF (by rfl) rfl (by rfl) ?_
      refine XL.nil ?_
      refine QN.next ?_
      refine XC.condF rfl rfl ?_
      refine XC.skip ?_
      refine QN.next ?_
      refine XC.seq ?_
      refine XC.region ?_
      show XL _ _ _ _ (List.cons _ _) _ _
      refine XL.s rfl ?_
      refine Y.move (by rfl) ?_
      refine XL.s rfl ?_
      refine Y.move (by rfl) ?_
      refine XL.s rfl ?_
      refine Y.call (by rfl) ok16 (diskS w4 _ k F _ _ _ _ _ _ hS80 (by omega) (by omega) hF i hi') ?_
      rintro v124 w124 ⟨hD124, hE124⟩
      refine XL.s rfl ?_
      refine Y.call (by rfl) ok23 (readA_no _ _ _ _ _ _ [113, 46, 98, 108, 111, 98] _ hD124 ((sq_q (nm := [98, 108, 111, 98])).trans (by rw [hg]; first | rfl | exact sp_key.2 c4s))) ?_
      rintro v125 w125 ⟨rfl, hE125⟩
      replace hS80 := (hS80.ext hE124).ext hE125
      refine XL.s rfl ?_
      refine Y.move (by rfl) ?_
      refine XL.s rfl ?_
      refine Y.extract (by rfl) (by rfl) ?_
      refine XL.s rfl ?_
      refine Y.extract (by rfl) (by rfl) ?_
      refine XL.s rfl ?_
      refine Y.assign (by rfl) ?_
      refine XL.s rfl ?_
      refine Y.assign (by rfl) ?_
      refine XL.nil ?_
      refine QN.next ?_
      refine XC.seq ?_
      refine XC.region ?_
      show XL _ _ _ _ (List.cons _ _) _ _
      refine XL.s rfl ?_
      refine Y.move (by rfl) ?_
      refine XL.s rfl ?_
      refine Y.move (by rfl) ?_
      refine XL.s rfl ?_
      refine Y.call (by rfl) ok16 (diskS w4 _ k F _ _ _ _ _ _ hS80 (by omega) (by omega) hF i hi') ?_
      rintro v131 w131 ⟨hD131, hE131⟩
      refine XL.s rfl ?_
      refine Y.call (by rfl) ok23 (readA_no _ _ _ _ _ _ [98, 46, 98, 108, 111, 98] _ hD131 ((sq_b (nm := [98, 108, 111, 98])).trans (by rw [hg]; rfl))) ?_
      rintro v132 w132 ⟨rfl, hE132⟩
      replace hS80 := (hS80.ext hE131).ext hE132
      have hgr9 := hgr.ext hS80.1
      refine XL.s rfl ?_
      refine Y.move (by rfl) ?_
      refine XL.s rfl ?_
      refine Y.extract (by rfl) (by rfl) ?_
      refine XL.s rfl ?_
      refine Y.extract (by rfl) (by rfl) ?_
      refine XL.s rfl ?_
      refine Y.assign (by rfl) ?_
      refine XL.s rfl ?_
      refine Y.assign (by rfl) ?_
      refine XL.nil ?_
      refine QN.next ?_
      refine XC.seq ?_
      refine XC.region ?_
      show XL _ _ _ _ (List.cons _ _) _ _
      refine XL.s rfl ?_
      refine Y.move (by rfl) ?_
      refine XL.s rfl ?_
      refine Y.eql (by rfl) (by rfl) ?_
      refine XL.s rfl ?_
      refine Y.move (by rfl) ?_
      refine XL.s rfl ?_
      refine Y.neqB Tryz.underlying4 (by rfl) (by rfl) ?_
      refine XL.s rfl ?_
      refine Y.move (by rfl) ?_
      refine XL.gt rfl rfl (by simp [c4i]) rfl ?_
      refine Y.move (by rfl) ?_
      refine XL.gt rfl rfl (by simp [c4i]) rfl ?_
      refine Y.eql (by rfl) (by rfl) ?_
      refine XL.gt rfl rfl (by simp [c4i]) rfl ?_
      refine Y.move (by rfl) ?_
      refine XL.gt rfl rfl (by simp [c4i]) rfl ?_
      refine Y.move (by rfl) ?_
      refine XL.gt rfl rfl (by simp [c4i]) rfl ?_
      refine Y.indexR st51 (by rfl) (by rfl) hgr9 ⟨by omega, by omega⟩ (by rw [Int.toNat_natCast]; exact hgi') ?_
      intro b144 o144 hs144 hc144
      refine XL.gt rfl rfl (by simp [c4i]) rfl ?_
      refine Y.load one4 (by rfl) (by assumption) ?_
      refine XL.gt rfl rfl (by simp [c4i]) rfl ?_
      refine Y.neqB Tryz.underlying4 (by rfl) (by rfl) ?_
      refine XL.s rfl ?_
      refine Y.pickF (by rfl) (by simp [c4i]) (by rfl) ?_
      refine XL.nil ?_
      refine QN.next ?_
      refine XC.condF rfl (by simp [c4i]) ?_
      refine XC.skip ?_
      refine QN.blk ?_
      refine QN.next ?_
      refine XC.region ?_
      show XL _ _ _ _ (List.cons _ _) _ _
      refine XL.s rfl ?_
      refine Y.move (by rfl) ?_
      refine XL.s rfl ?_
      refine Y.add (by rfl) (by rfl) (wrap64 (by omega) (by omega)) ?_
      refine XL.s rfl ?_
      refine Y.assign (by rfl) ?_
      refine XL.nil ?_
      refine QN.again (i + 1) ?_ ?_ ?_
      ·exact ⟨rfl, rfl, rfl, rfl, trivial⟩
      ·exact ⟨by omega, hS80⟩
      ·first | omega | (simp only []; omega) | (simp; omega)
     ·skip
      obtain ⟨⟨dd, sd⟩, hdd'⟩ := Option.ne_none_iff_exists'.1 (fun h => c4 (by rw [hA]; exact (sp_key (k := k) (F := F) (nm := [98, 108, 111, 98]) (bl := bl)).1 h))
      have c4s : ¬ (ss.getD i ⟨0, 0, 0⟩).act.toNat % 5 = 4 := by rw [← hA]; exact c4
      have c4i : ¬ (A : Int) % 5 = 4 := by omega
      refine XC.block ?_
      refine XC.seq ?_
      refine XC.region ?_
      show XL _ _ _ _ (List.cons _ _) _ _
      refine XL.s rfl ?_
      refine Y.move (by rfl) ?_
      refine XL.s rfl ?_
      refine Y.move (by rfl) ?_
      refine XL.s rfl ?_
      refine Y.indexR st51 (by rfl) (by rfl) hgrr ⟨by omega, by omega⟩ (by rw [Int.toNat_natCast]; exact hgi' ) ?_
      intro b66 o66 hs66 hc66
      refine XL.s rfl ?_
      refine Y.load one4 (by rfl) (by assumption) ?_
      refine XL.s rfl ?_
      refine Y.not (by rfl) ?_
      refine XL.s rfl ?_
      refine Y.move (by rfl) ?_
      refine XL.gt rfl rfl rfl rfl ?_
      refine Y.move (by rfl) ?_
      refine XL.gt rfl rfl rfl rfl ?_
      refine Y.indexArr arr48 (by rfl) (by rfl) ⟨by omega, by omega⟩ ?_
      refine XL.gt rfl rfl rfl rfl ?_
      refine Y.fieldAddr fld47_0 (by rfl) ?_
      refine XL.gt rfl rfl rfl rfl ?_
      refine Y.load one5 (by rfl) hcell ?_
      refine XL.gt rfl rfl rfl rfl ?_
      refine Y.rem (by rfl) (by rfl) (by omega) (tmodN _ 5) ?_
      refine XL.gt rfl rfl rfl rfl ?_
      refine Y.neq (by rfl) (by rfl) ?_
      refine XL.s rfl ?_
      refine Y.pickT (by rfl) rfl (by rfl) ?_
      refine XL.s rfl ?_
      refine Y.assign (by rfl) ?_
      refine XL.nil ?_
      refine QN.next ?_
      refine XC.seq ?_
      refine XC.region ?_
      show XL _ _ _ _ (List.cons _ _) _ _
      refine XL.s rfl ?_
      refine Y.move (by rfl) ?_
      refine XL.s rfl ?_
      refine Y.move (by rfl) ?_
      refine XL.s rfl ?_
      refine Y.call (by rfl) ok22 (scrubS w4 _ k F _ _ _ _ _ _ hSr (by omega) (by omega) hF i hi' (by omega) (fun x h => sq_len (by decide) h)) ?_
      rintro v80 w80 ⟨sn, hsn, hsm, qa, rfl, hrow, hS80⟩
      obtain ⟨e1, e2⟩ := sq_scrub (nm := [98, 108, 111, 98]) hk hF hl1 hi' hsn hsm
      rw [e1] at hrow
      replace hS80 := hS80.cast (fun q _ => e2 q)
      have hrow' : Row AnyB w80 qa 1 (strsV [[98, 108, 111, 98]]) := by have := hrow; rw [hg, decide_eq_false c4s] at this; exact this
      refine XL.s rfl ?_
      refine Y.move (by rfl) ?_
      refine XL.s rfl ?_
      refine Y.extract (by rfl) (by rfl) ?_
      refine XL.s rfl ?_
      refine Y.extract (by rfl) (by rfl) ?_
      refine XL.s rfl ?_
      refine Y.assign (by rfl) ?_
      refine XL.s rfl ?_
      refine Y.assign (by rfl) ?_
      refine XL.nil ?_
      refine QN.next ?_
      refine XC.seq ?_
      refine XC.region ?_
      show XL _ _ _ _ (List.cons _ _) _ _
      refine XL.s rfl ?_
      refine Y.move (by rfl) ?_
      refine XL.s rfl ?_
      refine Y.move (by rfl) ?_
      refine XL.s rfl ?_
      refine Y.call (by rfl) ok22 (scrubS_clean w4 _ k F _ _ _ _ _ _ hS80 (by omega) (by omega) hF i hi' (by omega) (fun x h => sq_len2 (by decide) h) (fun x h => sq_clean hk hF hl1 hi' h)) ?_
      rintro v86 w86 ⟨rfl, hE86⟩
      replace hS80 := hS80.ext hE86
      replace hrow' := hrow'.ext hE86
      refine XL.s rfl ?_
      refine Y.move (by rfl) ?_
      refine XL.s rfl ?_
      refine Y.extract (by rfl) (by rfl) ?_
      refine XL.s rfl ?_
      refine Y.extract (by rfl) (by rfl) ?_
      refine XL.s rfl ?_
      refine Y.assign (by rfl) ?_
      refine XL.s rfl ?_
      refine Y.assign (by rfl) ?_
      refine XL.nil ?_
      refine QN.next ?_
      refine XC.seq ?_
      refine XC.seq ?_
      refine XC.region ?_
      show XL _ _ _ _ (List.cons _ _) _ _
      refine XL.s rfl ?_
      refine Y.move (by rfl) ?_
      refine XL.s rfl ?_
      refine Y.neq (by rfl) (by rfl) ?_
      refine XL.s rfl ?_
      refine Y.move (by rfl) ?_
      refine XL.gt rfl rfl rfl rfl ?_
      refine Y.move (by rfl) ?_
      refine XL.gt rfl rfl rfl rfl ?_
      refine Y.neq (by rfl) (by rfl) ?_
      refine XL.s rfl ?_
      refine Y.pickF (by rfl) rfl (by rfl) ?_
      refine XL.s rfl ?_
      refine Y.move (by rfl) ?_
      refine XL.gt rfl rfl rfl rfl ?_
      refine Y.move (by rfl) ?_
      refine XL.gt rfl rfl rfl rfl ?_
      refine Y.len Tryz.underlying56 (by rfl) (Row.nil AnyB _) ?_
      refine XL.gt rfl rfl rfl rfl ?_
      refine Y.neq (by rfl) (by rfl) ?_
      refine XL.s rfl ?_
      refine Y.pickF (by rfl) rfl (by rfl) ?_
      refine XL.s rfl ?_
      refine Y.move (by rfl) ?_
      refine XL.gt rfl rfl rfl rfl ?_
      refine Y.move (by rfl) ?_
      refine XL.gt rfl rfl rfl rfl ?_
      refine Y.move (by rfl) ?_
      refine XL.gt rfl rfl rfl rfl ?_
      refine Y.len Tryz.underlying56 (by rfl) hrow' ?_
      refine XL.gt rfl rfl rfl rfl ?_
      refine Y.eql (by rfl) (by rfl) ?_
      refine XL.gt rfl rfl rfl rfl ?_
      refine Y.neqB Tryz.underlying4 (by rfl) (by rfl) ?_
      refine XL.s rfl ?_
      refine Y.pickF (by rfl) rfl (by rfl) ?_
      refine XL.s rfl ?_
      refine Y.move (by rfl) ?_
      refine XL.gt rfl rfl (by simp [c4i]) rfl ?_
      refine Y.move (by rfl) ?_
      refine XL.gt rfl rfl (by simp [c4i]) rfl ?_
      refine Y.len Tryz.underlying56 (by rfl) hrow' ?_
      refine XL.gt rfl rfl (by simp [c4i]) rfl ?_
      refine Y.gtr (by rfl) (by rfl) ?_
      refine XL.s rfl ?_
      refine Y.pickF (by rfl) (by simp [c4i]) (by rfl) ?_
      refine XL.s rfl ?_
      refine Y.move (by rfl) ?_
      refine XL.gt rfl rfl rfl rfl ?_
      refine Y.move (by rfl) ?_
      refine XL.gt rfl rfl rfl rfl ?_
      refine Y.move (by rfl) ?_
      refine XL.gt rfl rfl (by simp [c4i]) rfl ?_
      refine Y.move (by rfl) ?_
      refine XL.gt rfl rfl (by simp [c4i]) rfl ?_
      refine Y.indexR st56 (by rfl) (by rfl) hrow' ⟨by omega, by omega⟩ (show (strsV [[98, 108, 111, 98]])[(0 : Int).toNat]? = some (strV [98, 108, 111, 98]) from rfl) ?_
      intro b116 o116 hs116 hc116
      refine XL.gt rfl rfl (by simp [c4i]) rfl ?_
      refine Y.load one9 (by rfl) (by assumption) ?_
      refine XL.gt rfl rfl (by simp [c4i]) rfl ?_
      refine Y.neqS (by rfl) (by rfl) ?_
      refine XL.gt rfl rfl rfl rfl ?_
      refine Y.pickT (by rfl) (by simp [c4i]) (by rfl) ?_
      refine XL.s rfl ?_
      refine Y.pickF (by rfl) rfl (by rfl) ?_
      refine XL.nil ?_
      refine QN.next ?_
      refine XC.condF rfl (by simp [c4i, strV]) ?_
      refine XC.skip ?_
      refine QN.next ?_
      refine XC.seq ?_
      refine XC.region ?_
      show XL _ _ _ _ (List.cons _ _) _ _
      refine XL.s rfl ?_
      refine Y.move (by rfl) ?_
      refine XL.s rfl ?_
      refine Y.move (by rfl) ?_
      refine XL.s rfl ?_
      refine Y.call (by rfl) ok16 (diskS w4 _ k F _ _ _ _ _ _ hS80 (by omega) (by omega) hF i hi') ?_
      rintro v124 w124 ⟨hD124, hE124⟩
      refine XL.s rfl ?_
      refine Y.call (by rfl) ok23 (readA_yes _ _ _ _ _ _ [113, 46, 98, 108, 111, 98] _ hD124 dd sd ((sq_q (nm := [98, 108, 111, 98])).trans (by rw [hg]; exact hdd')) (by omega)) ?_
      rintro v125 w125 ⟨qb, rfl, hN125⟩
      have hE125 := hN125.1
      replace hS80 := (hS80.ext hE124).ext hE125
      refine XL.s rfl ?_
      refine Y.move (by rfl) ?_
      refine XL.s rfl ?_
      refine Y.extract (by rfl) (by rfl) ?_
      refine XL.s rfl ?_
      refine Y.extract (by rfl) (by rfl) ?_
      refine XL.s rfl ?_
      refine Y.assign (by rfl) ?_
      refine XL.s rfl ?_
      refine Y.assign (by rfl) ?_
      refine XL.nil ?_
      refine QN.next ?_
      refine XC.seq ?_
      refine XC.region ?_
      show XL _ _ _ _ (List.cons _ _) _ _
      refine XL.s rfl ?_
      refine Y.move (by rfl) ?_
      refine XL.s rfl ?_
      refine Y.move (by rfl) ?_
      refine XL.s rfl ?_
      refine Y.call (by rfl) ok16 (diskS w4 _ k F _ _ _ _ _ _ hS80 (by omega) (by omega) hF i hi') ?_
      rintro v131 w131 ⟨hD131, hE131⟩
      refine XL.s rfl ?_
      refine Y.call (by rfl) ok23 (readA_no _ _ _ _ _ _ [98, 46, 98, 108, 111, 98] _ hD131 ((sq_b (nm := [98, 108, 111, 98])).trans (by rw [hg]; rfl))) ?_
      rintro v132 w132 ⟨rfl, hE132⟩
      replace hS80 := (hS80.ext hE131).ext hE132
      have hgr9 := hgr.ext hS80.1
      refine XL.s rfl ?_
      refine Y.move (by rfl) ?_
      refine XL.s rfl ?_
      refine Y.extract (by rfl) (by rfl) ?_
      refine XL.s rfl ?_
      refine Y.extract (by rfl) (by rfl) ?_
      refine XL.s rfl ?_
      refine Y.assign (by rfl) ?_
      refine XL.s rfl ?_
      refine Y.assign (by rfl) ?_
      refine XL.nil ?_
      refine QN.next ?_
      refine XC.seq ?_
      refine XC.region ?_
      show XL _ _ _ _ (List.cons _ _) _ _
      refine XL.s rfl ?_
      refine Y.move (by rfl) ?_
      refine XL.s rfl ?_
      refine Y.eql (by rfl) (by rfl) ?_
      refine XL.s rfl ?_
      refine Y.move (by rfl) ?_
      refine XL.s rfl ?_
      refine Y.neqB Tryz.underlying4 (by rfl) (by rfl) ?_
      refine XL.s rfl ?_
      refine Y.move (by rfl) ?_
      refine XL.gt rfl rfl (by simp [c4i]) rfl ?_
      refine Y.move (by rfl) ?_
      refine XL.gt rfl rfl (by simp [c4i]) rfl ?_
      refine Y.eql (by rfl) (by rfl) ?_
      refine XL.gt rfl rfl (by simp [c4i]) rfl ?_
      refine Y.move (by rfl) ?_
      refine XL.gt rfl rfl (by simp [c4i]) rfl ?_
      refine Y.move (by rfl) ?_
      refine XL.gt rfl rfl (by simp [c4i]) rfl ?_
      refine Y.indexR st51 (by rfl) (by rfl) hgr9 ⟨by omega, by omega⟩ (by rw [Int.toNat_natCast]; exact hgi') ?_
      intro b144 o144 hs144 hc144
      refine XL.gt rfl rfl (by simp [c4i]) rfl ?_
      refine Y.load one4 (by rfl) (by assumption) ?_
      refine XL.gt rfl rfl (by simp [c4i]) rfl ?_
      refine Y.neqB Tryz.underlying4 (by rfl) (by rfl) ?_
      refine XL.s rfl ?_
      refine Y.pickF (by rfl) (by simp [c4i]) (by rfl) ?_
      refine XL.nil ?_
      refine QN.next ?_
      refine XC.condF rfl (by simp [c4i]) ?_
      refine XC.skip ?_
      refine QN.blk ?_
      refine QN.next ?_
      refine XC.region ?_
      show XL _ _ _ _ (List.cons _ _) _ _
      refine XL.s rfl ?_
      refine Y.move (by rfl) ?_
      refine XL.s rfl ?_
      refine Y.add (by rfl) (by rfl) (wrap64 (by omega) (by omega)) ?_
      refine XL.s rfl ?_
      refine Y.assign (by rfl) ?_
      refine XL.nil ?_
      refine QN.again (i + 1) ?_ ?_ ?_
      ·exact ⟨rfl, rfl, rfl, rfl, trivial⟩
      ·exact ⟨by omega, hS80⟩
      ·first | omega | (simp only []; omega) | (simp; omega)
   ·intro hc
    try simp only [decide_eq_true_eq, decide_eq_false_iff_not, Bool.not_eq_true', Bool.not_eq_false', Bool.not_eq_eq_eq_not, Bool.not_true, Bool.not_false, Bool.or_eq_true, Bool.and_eq_true, Bool.or_eq_false_iff] at hc
    have hin : i = k + 2 * F := by omega
    subst hin
    refine XC.exit ?_
    refine QN.thenE ?_
    refine QN.thenE ?_
    refine QN.hit ?_
    refine QN.next ?_
    refine XC.seq ?_
    refine XC.region ?_
    show XL _ _ _ _ (List.cons _ _) _ _
    refine XL.s rfl ?_
    refine Y.move (by rfl) ?_
    refine XL.s rfl ?_
    refine Y.call (by rfl) ok22 (sscrub_neg _ (-1) _ (by decide)) ?_
    rintro v150 w150 ⟨rfl, hE150⟩
    have hS9 := hSr.ext hE150
    refine XL.s rfl ?_
    refine Y.move (by rfl) ?_
    refine XL.s rfl ?_
    refine Y.extract (by rfl) (by rfl) ?_
    refine XL.s rfl ?_
    refine Y.extract (by rfl) (by rfl) ?_
    refine XL.s rfl ?_
    refine Y.assign (by rfl) ?_
    refine XL.s rfl ?_
    refine Y.assign (by rfl) ?_
    refine XL.nil ?_
    refine QN.next ?_
    refine XC.seq ?_
    refine XC.region ?_
    show XL _ _ _ _ (List.cons _ _) _ _
    refine XL.s rfl ?_
    refine Y.move (by rfl) ?_
    refine XL.s rfl ?_
    refine Y.move (by rfl) ?_
    refine XL.s rfl ?_
    refine Y.len Tryz.underlying51 (by rfl) (hgrr.ext hE150) ?_
    refine XL.s rfl ?_
    refine Y.call (by rfl) ok22 (scrubS_big w4 _ k F _ _ _ _ _ _ hS9 (by omega) (by omega) hF) ?_
    rintro v157 w157 ⟨rfl, hE157⟩
    refine XL.s rfl ?_
    refine Y.move (by rfl) ?_
    refine XL.s rfl ?_
    refine Y.extract (by rfl) (by rfl) ?_
    refine XL.s rfl ?_
    refine Y.extract (by rfl) (by rfl) ?_
    refine XL.s rfl ?_
    refine Y.assign (by rfl) ?_
    refine XL.s rfl ?_
    refine Y.assign (by rfl) ?_
    refine XL.nil ?_
    refine QN.next ?_
    refine XC.seq ?_
    refine XC.region ?_
    show XL _ _ _ _ (List.cons _ _) _ _
    refine XL.s rfl ?_
    refine Y.move (by rfl) ?_
    refine XL.s rfl ?_
    refine Y.eql (by rfl) (by rfl) ?_
    refine XL.s rfl ?_
    refine Y.move (by rfl) ?_
    refine XL.gt rfl rfl rfl rfl ?_
    refine Y.move (by rfl) ?_
    refine XL.gt rfl rfl rfl rfl ?_
    refine Y.eql (by rfl) (by rfl) ?_
    refine XL.s rfl ?_
    refine Y.pickT (by rfl) rfl (by rfl) ?_
    refine XL.s rfl ?_
    refine Y.assign (by rfl) ?_
    refine XL.nil ?_
    refine QN.next ?_
    refine XC.ret ?_
    refine QN.done1 (fn := Tryz.f5) (R := R) (.inl rfl) rfl rfl ?_
    refine hR _ _ ?_
    exact ⟨rfl, (hE0.trans hE4).trans (hS9.ext hE157).1⟩
 ·skip
  refine XC.region ?_
  show XL _ _ _ _ (List.cons _ _) _ _
  refine XL.s rfl ?_
  refine Y.call (by rfl) ok8 (awake_ok _) ?_
  rintro vA wA ⟨rfl, hEA⟩
  refine XL.s rfl ?_
  refine Y.not (by rfl) ?_
  refine XL.s rfl ?_
  refine Y.move (by rfl) ?_
  refine XL.gt rfl rfl rfl rfl ?_
  refine Y.move (by rfl) ?_
  refine XL.gt rfl rfl rfl rfl ?_
  refine Y.lenS Tryz.underlying9 (by rfl) ?_
  refine XL.gt rfl rfl rfl rfl ?_
  refine Y.gtr (by rfl) (by rfl) ?_
  refine XL.s rfl ?_
  refine Y.pickF (by rfl) rfl (by rfl) ?_
  refine XL.nil ?_
  refine QN.next ?_
  refine XC.condT rfl ya ?_
  refine XC.seq ?_
  refine XC.region ?_
  show XL _ _ _ _ (List.cons _ _) _ _
  refine XL.s rfl ?_
  refine Y.call (by rfl) ok8 (awake_ok _) ?_
  rintro vB wB ⟨rfl, hEB⟩
  refine XL.s rfl ?_
  refine Y.assign (by rfl) ?_
  refine XL.nil ?_
  refine QN.next ?_
  refine XC.ret ?_
  refine QN.done1 (fn := Tryz.f5) (R := R) (.inl rfl) rfl rfl ?_
  refine hR _ _ ?_
  exact ⟨rfl, (hE2.trans hEA).trans hEB⟩
end Go.Proofs.YtchammpamigonaaGreatX
end
section
namespace Go.Proofs.YtchammpamigonaaGreatX
open Go.ChangeShapes Go.WideShapes Go.ChangeAt Go.RowKit Go.Joins
theorem okWide_array {P : Program} {w : World} {r : Reach} {base n : Nat} {t e : TypeId} {v : Value} (ht : P.underlying t = some (.array n e)) (h : Value.okWide P w r base t v) : ∃ cs, v = .agg cs ∧ cs.size = P.cellsOf t := by
  simp only [Value.okWide, ht] at h
  obtain ⟨cs, h1, h2, _⟩ := h
  exact ⟨cs, h1, h2⟩
theorem wf_u8 {n : Int} (h : (Lit.int .u8 n).wf = true) : ∃ a : UInt8, n = (a.toNat : Int) := by
  have h' : 0 ≤ n ∧ n ≤ 255 := by simpa [Lit.wf, IntKind.min, IntKind.max, IntKind.signed, IntKind.bits] using h
  obtain ⟨k, rfl⟩ := Int.eq_ofNat_of_zero_le h'.1
  exact ⟨UInt8.ofNat k, by rw [UInt8.toNat_ofNat_of_lt' (by show k < 256; omega)]⟩
theorem wf_u16 {n : Int} (h : (Lit.int .u16 n).wf = true) : ∃ a : UInt16, n = (a.toNat : Int) := by
  have h' : 0 ≤ n ∧ n ≤ 65535 := by simpa [Lit.wf, IntKind.min, IntKind.max, IntKind.signed, IntKind.bits] using h
  obtain ⟨k, rfl⟩ := Int.eq_ofNat_of_zero_le h'.1
  exact ⟨UInt16.ofNat k, by rw [UInt16.toNat_ofNat_of_lt' (by show k < 65536; omega)]⟩
theorem chunks3 : ∀ (n : Nat) (cs : List Value), cs.length = 3 * n → (∀ i, i < n → ∃ s, (cs.drop (i * 3)).take 3 = spC s) → ∃ ss : List Sp, ss.length = n ∧ cs = spCs ss
  | 0, cs, hl, _ => ⟨[], rfl, List.eq_nil_of_length_eq_zero (by omega)⟩
  | n + 1, cs, hl, h => by
    obtain ⟨s, hs⟩ := h 0 (by omega)
    obtain ⟨ss, h1, h2⟩ := chunks3 n (cs.drop 3) (by rw [List.length_drop]; omega) (fun i hi => by
      obtain ⟨s', h'⟩ := h (i + 1) (by omega)
      exact ⟨s', by rw [List.drop_drop]; rw [show 3 + i * 3 = (i + 1) * 3 by omega]; exact h'⟩)
    refine ⟨s :: ss, by simp [h1], ?_⟩
    rw [Nat.zero_mul, List.drop_zero] at hs
    have e : spCs (s :: ss) = spC s ++ spCs ss := by simp [spCs]
    rw [e, ← h2, ← hs, List.take_append_drop]
section
variable {H : Type} {enc : TypeId × Value → H} {w : World} {base : Nat} {spare : Nat → Bool} {held : Bool}
theorem three {α : Type} : ∀ (l : List α), l.length = 3 → ∃ a b c, l = [a, b, c]
  | [a, b, c], _ => ⟨a, b, c, rfl⟩
set_option maxRecDepth 100000 in
theorem open_spoil {fuel : Nat} {cs : List Value} {x : DataW H × List MemPlace} (h : DataW.trod enc Tryz.prog w base spare held fuel 47 cs = some x) : ∃ s, cs = spC s := by
  obtain ⟨xs, m, _, _, hl, hxl, hf⟩ := DataW.trod_struct Tryz.underlying47 h
  have hl3 : cs.length = 3 := hl.trans (by kernel_rfl)
  obtain ⟨c0, c1, c2, rfl⟩ := three cs hl3
  obtain ⟨y0, y1, y2, rfl⟩ := three xs hxl
  have k5 : Tryz.prog.cellsOf 5 = 1 := by kernel_rfl
  have k24 : Tryz.prog.cellsOf 24 = 1 := by kernel_rfl
  have h0 := hf 0 _ rfl
  have h1 := hf 1 _ rfl
  have h2 := hf 2 _ rfl
  simp [k5, k24] at h0 h1 h2
  obtain ⟨n0, e0, _, w0⟩ := DataW.trod_int Tryz.underlying5 h0
  obtain ⟨n1, e1, _, w1⟩ := DataW.trod_int Tryz.underlying24 h1
  obtain ⟨n2, e2, _, w2⟩ := DataW.trod_int Tryz.underlying5 h2
  obtain ⟨a, rfl⟩ := wf_u8 w0
  obtain ⟨b, rfl⟩ := wf_u16 w1
  obtain ⟨c, rfl⟩ := wf_u8 w2
  simp at e0 e1 e2
  exact ⟨⟨a, b, c⟩, by rw [e0, e1, e2]; rfl⟩
set_option maxRecDepth 100000 in
theorem open_spoils {r : Reach} {b0 : Nat} {v : Value} {d : DataW H} {p : List MemPlace} (hv : Value.okWide Tryz.prog w r b0 48 v) (h : DataW.Trod enc Tryz.prog w base spare held 48 v d p) : ∃ ss : List Sp, ss.length = 7 ∧ v = .agg (spCs ss).toArray := by
  obtain ⟨cs, rfl, hsz⟩ := okWide_array Tryz.underlying48 hv
  obtain ⟨cs⟩ := cs
  obtain ⟨fuel, hf⟩ := h
  obtain ⟨xs, m, _, _, hl, hxl, hel⟩ := DataW.trod_array Tryz.underlying48 hf
  have k47 : Tryz.prog.cellsOf 47 = 3 := by kernel_rfl
  have hl' : cs.length = 3 * 7 := hsz.trans (by kernel_rfl)
  obtain ⟨ss, h1, h2⟩ := chunks3 7 cs hl' (fun i hi => by
    have hi' := hel i hi
    rw [k47, List.getElem?_eq_getElem (by omega)] at hi'
    exact open_spoil hi')
  exact ⟨ss, h1, by rw [h2]⟩
theorem open_away {fuel : Nat} {v : Value} {t : TypeId} {x : DataW H × List MemPlace} (ht : Tryz.prog.underlying t = some (.slice 3)) (h : DataW.trod enc Tryz.prog w base spare held fuel t (Value.cells v).toList = some x) (hv : ∃ a l c, v = .slice a l c) : ∃ zs, Zs AnyB w v zs := by
  obtain ⟨a, l, c, rfl⟩ := hv
  rcases open_ints ht Tryz.underlying3 (by kernel_rfl) h with ⟨hcs, _⟩ | ⟨x, l', c', zs, hcs, _, hl, hm, hz, _, hcell, hwz⟩
  · simp [Value.cells] at hcs
    obtain ⟨rfl, rfl, rfl⟩ := hcs
    exact ⟨[], Row.nil _ _⟩
  · simp [Value.cells] at hcs
    obtain ⟨rfl, rfl, rfl⟩ := hcs
    have hzl : l ≤ zs.length := by rw [hz]; split <;> omega
    have htl : (zs.take l).length = l := by rw [List.length_take]; omega
    refine ⟨zs.take l, ?_⟩
    show Row AnyB w _ (zs.take l).length _
    rw [htl]
    refine ⟨some x, c, rfl, hl, hm, fun h => by subst h; rfl, fun u hu => by obtain ⟨z, _, rfl⟩ := List.mem_map.1 hu; rfl, fun hne => ?_⟩
    have hl0 : 0 < l := by
      rcases Nat.eq_zero_or_pos l with h | h
      · subst h; exact absurd rfl hne
      · exact h
    obtain ⟨b, o, spot⟩ := x
    have h0 := hcell 0 (by omega)
    have hspot : spot = none := by simpa [Addr.add] using World.cell?_spot h0
    subst hspot
    have hblk : ∃ cur T fr, w.heap[b]? = some (.cells cur T fr) := by
      have h0 : w.cell? ⟨b, o, none⟩ = some (.int .i64 (zs.getD 0 0)) := by simpa [Addr.add] using h0
      simp only [World.cell?] at h0
      cases hb : w.heap[b]? with
      | none => rw [hb] at h0; simp at h0
      | some ob => cases ob <;> rw [hb] at h0 <;> first | exact ⟨_, _, _, rfl⟩ | simp at h0
    obtain ⟨cur, T, fr, hb⟩ := hblk
    refine ⟨b, o, cur, T, fr, rfl, trivial, hb, fun j hj => ?_⟩
    have hj' : j < l := by simp only [zsV, List.length_map, htl] at hj; exact hj
    have h1 := hcell j (by omega)
    have h2 : w.cell? ⟨b, o + j, none⟩ = some (.int .i64 (zs.getD j 0)) := by rw [Addr.add_lit] at h1; exact h1
    rw [cell_of_row w b (o + j) cur T fr hb] at h2
    rw [h2]
    have hjz : j < zs.length := by omega
    simp [zsV, List.getElem?_map, List.getElem?_take, hj', hjz, List.getD_eq_getElem?_getD]
end
end Go.Proofs.YtchammpamigonaaGreatX
end
section
namespace Go.Proofs.YtchammpamigonaaGreat.scrubQuarantineDone
open Go.ChangeShapes Go.WideShapes Go.ChangeAt Go.RowKit Go.Joins
open Go.ChangeMaps (open_string shut_string)
open Go.Proofs.YtchammpamigonaaGreatX (byteV strV Rets Sp spCs wf_u8 open_spoils open_away Zs AnyB)
theorem own : ownKnob Tryz.prog.godebug = none := by kernel_rfl
theorem laidOut : laidOutB Tryz.prog = true := by kernel_rfl
theorem walk (x0 : UInt8) (x1 : UInt8) (x2 : ByteArray) (x3 : List Sp) (w : World) (h2 : x2.size ≤ maxLen) (h3 : x3.length = 7) : Calls Tryz.prog 5 #[byteV x0, byteV x1, .string x2, .agg (spCs x3).toArray] w fun e w' => e = .returned (.bool true) ∧ Below w.heap.size w w' := by
  have hm : maxLen ≤ 9223372036854775807 := by decide
  have h := Go.Proofs.YtchammpamigonaaGreatX.quarantine_ok x0 x1 x2.data.toList x3 w h3 (by have := h2; simp only [ByteArray.size] at this; rw [Array.length_toList]; omega)
  exact Calls.mono h fun e w' ⟨v, he, hv, hE⟩ => ⟨by rw [he, hv], hE.below⟩
set_option maxRecDepth 100000 in
theorem lifted (os : Os) (started : os.Started) (H : Type) (enc : TypeId × Value → H) :
    ReturnsInHanded {} Tryz.checked os 5 .any (Rows.scrubQuarantineSpec.pre6 enc Tryz.prog Tryz.f5 Rows.scrubQuarantineRow.domain false) (Rows.scrubQuarantineSpec.post enc Tryz.prog Tryz.f5 false true false false) := by
  refine returnsInHanded_of_change (C := Tryz.checked) own started (by kernel_rfl) Tryz.func5
    (ChangeSpec.witness6 (enc := enc) (C := Tryz.checked) false ⟨#[], #[.int .u8 0, .int .u8 0, .string ⟨#[]⟩, .agg #[.int .u8 0, .int .u16 0, .int .u8 0, .int .u8 0, .int .u16 0, .int .u8 0, .int .u8 0, .int .u16 0, .int .u8 0, .int .u8 0, .int .u16 0, .int .u8 0, .int .u8 0, .int .u16 0, .int .u8 0, .int .u8 0, .int .u16 0, .int .u8 0, .int .u8 0, .int .u16 0, .int .u8 0]], []⟩ 8 (by kernel_rfl) (by kernel_rfl) (by kernel_rfl) (by kernel_rfl)) ?_
  intro W base args ds gs before hval0 hW hcnd _
  have hval : ∀ (j : Nat) t v, Tryz.f5.params[j]? = some t → args[j]? = some v → Value.okWide Tryz.prog W .any base t v := hval0
  have hW' := hW
  obtain ⟨p, q, hA0, hV, rfl, hfz, hnd⟩ := hW
  have hA : DataW.TrodAll enc Tryz.prog W 0 (fun _ => true) true Tryz.f5.params.toList args.toList ds p := hA0
  rw [Tryz.params5] at hA hval
  obtain ⟨v0, vs0, d0, ds0, p0, q0, hargs, rfl, rfl, k0, r0⟩ := trodAll_cons hA
  obtain ⟨v1, vs1, d1, ds1, p1, q1, rfl, rfl, rfl, k1, r1⟩ := trodAll_cons r0
  obtain ⟨v2, vs2, d2, ds2, p2, q2, rfl, rfl, rfl, k2, r2⟩ := trodAll_cons r1
  obtain ⟨v3, vs3, d3, ds3, p3, q3, rfl, rfl, rfl, k3, r3⟩ := trodAll_cons r2
  obtain ⟨rfl, rfl, rfl⟩ := trodAll_nil r3
  obtain rfl : args = #[v0, v1, v2, v3] := by cases args; simp_all
  obtain ⟨rfl, rfl⟩ := trodVars_none hV
  have lt0 : ∀ x ∈ p0, x.block < W.heap.size := by obtain ⟨m, hm⟩ := k0; exact DataW.trod_lt m _ _ _ hm
  have lt1 : ∀ x ∈ p1, x.block < W.heap.size := by obtain ⟨m, hm⟩ := k1; exact DataW.trod_lt m _ _ _ hm
  have lt2 : ∀ x ∈ p2, x.block < W.heap.size := by obtain ⟨m, hm⟩ := k2; exact DataW.trod_lt m _ _ _ hm
  have lt3 : ∀ x ∈ p3, x.block < W.heap.size := by obtain ⟨m, hm⟩ := k3; exact DataW.trod_lt m _ _ _ hm
  obtain ⟨n0, rfl, _, _, w0⟩ := open_int Tryz.underlying5 (hval 0 5 v0 rfl rfl) k0
  obtain ⟨x0, rfl⟩ := wf_u8 w0
  obtain ⟨n1, rfl, _, _, w1⟩ := open_int Tryz.underlying5 (hval 1 5 v1 rfl rfl) k1
  obtain ⟨x1, rfl⟩ := wf_u8 w1
  obtain ⟨x2, rfl, _, _, w2⟩ := open_string Tryz.underlying9 (hval 2 9 v2 rfl rfl) k2
  obtain ⟨x3, w3, rfl⟩ := open_spoils (hval 3 48 v3 rfl rfl) k3
  clear hA0 hval0
  refine (walk x0 x1 x2 x3 W w2 w3).mono fun e W' ⟨he, bel⟩ => ?_
  subst he
  exact ⟨_, rfl, _, _, _, [], _, [], hW', trodAll_mk1 (shut_bool Tryz.underlying4 _), (trodAll_cons_mk (Below.trod laidOut (by kernel_rfl) (of_decide_eq_true (by kernel_rfl)) k0 bel lt0) (trodAll_cons_mk (Below.trod laidOut (by kernel_rfl) (of_decide_eq_true (by kernel_rfl)) k1 bel lt1) (trodAll_cons_mk (Below.trod laidOut (by kernel_rfl) (of_decide_eq_true (by kernel_rfl)) k2 bel lt2) (trodAll_cons_mk (Below.trod laidOut (by kernel_rfl) (of_decide_eq_true (by kernel_rfl)) k3 bel lt3) trodAll_mk0)))), rfl, bel.frame _, fun h => by cases h⟩
theorem over : Rows.scrubQuarantineRow.holds Tryz.pinned (OpenSpec.ofChange Rows.scrubQuarantineSpec) :=
  OpenClaim.holds_of_wide 5 Tryz.f5 rfl rfl rfl rfl rfl rfl rfl ⟨rfl, rfl, rfl, rfl, rfl⟩ rfl rfl rfl rfl rfl (by kernel_rfl) Tryz.func5 (by kernel_rfl)
    (of_decide_eq_true (by kernel_rfl)) (by unfold Func.isWrapper; first | (rw [if_pos (by decide +kernel)]; kernel_rfl) | (rw [if_neg (by decide +kernel)]; exact ⟨rfl, rfl⟩))
    (fun os started H enc _ => lifted os started H enc)
theorem proved : Rows.ScrubQuarantineSaid := over
#print axioms proved
end Go.Proofs.YtchammpamigonaaGreat.scrubQuarantineDone
end
