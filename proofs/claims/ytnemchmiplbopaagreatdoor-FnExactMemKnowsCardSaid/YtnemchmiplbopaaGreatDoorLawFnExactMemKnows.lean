/- The law FnExactMemKnows: its row and its tied card, out of its plain statement (proved in YtnemchmiplbopaaGreatDoorPureFnExactMemKnows) and its walk; its arguments are opened down to cells and rows. The package's variables are as the program's text lays them (the card's tie). -/
import Derived.Test.YtnemchmiplbopaaGreatDoorRows
import Derived.Test.YtnemchmiplbopaaGreatDoorCards
import Derived.Test.YtnemchmiplbopaaGreatDoorTie
import Derived.Test.YtnemchmiplbopaaGreatDoorZkx15
import Derived.Test.YtnemchmiplbopaaGreatDoorPureFnExactMemKnows
import Derived.Test.YtnemchmiplbopaaGreatDoorOpen
import Derived.WalkKit
import Derived.ProofKit
import Derived.OpenShut
import Derived.ShutString
import Derived.ChangeOld
import Derived.Below
import Derived.SizedLaws
import Derived.LaidMore
import Derived.LaidLaws
import Derived.LaidHandle
import Derived.MakeChecks
import Derived.Stop.LaidErr
import Derived.Stop.Joined
import Derived.SevenTiedAt
namespace Go.Proofs.YtnemchmiplbopaaGreatDoor.fnExactMemKnows
open Go.ChangeShapes Go.WideShapes Go.ChangeAt Go.RowKit Go.Proofs.YtnemchmiplbopaaGreatDoorW.PrintWords
open Go.ChangeMaps (open_string shut_string)
set_option linter.unusedVariables false
set_option linter.unusedSimpArgs false
theorem own : ownKnob Tryz.prog.godebug = none := by kernel_rfl
theorem laidOut : laidOutB Tryz.prog = true := by kernel_rfl
theorem fits (T : TypeId) (d : TypeDesc) (h : Tryz.prog.underlying T = some d) : Tryz.prog.underlying T = some d := h
/-- The heap that the start-up's own run leaves meets the condition. -/
theorem door_met (os : Os) (args : Array Value) : laidMetH Tryz.prog Rows.fnExactMemKnowsRow.laid ((World.doorLaid Tryz.prog 400 os).forCall (fun _ _ => 0) ⟨#[], args, []⟩).memory :=
  laidMetH_of_parts3 (fuel := 8) (laidMet_of_run' 8 (by kernel_rfl) (by kernel_rfl)) (by kernel_rfl) (by kernel_rfl)
theorem gES : Tryz.prog.globalNamed "strconv.ErrSyntax" = some 1 := by kernel_rfl
theorem tES : (Tryz.prog.globals[1]?).map (·.type) = some 135 := by kernel_rfl
theorem glob_of {r : List (String × DataW Unit)} {W : World} (h : laidMet Tryz.prog (("strconv.ErrSyntax", Rows.laid_strconv_ErrSyntax) :: r) W) : GlobOk W := by
  obtain ⟨ps, ⟨g0, t0, cs0, f0, p0, q0, hg0, ht0, hv0, hd0, _, e0⟩, _, hrows⟩ := h
  obtain rfl := Option.some.inj (gES.symm.trans hg0)
  obtain rfl := Option.some.inj (tES.symm.trans ht0)
  obtain ⟨f, u, v, hcs, _⟩ := iface_of_trod Tryz.underlying135 hd0
  have hc := World.var?_cell gES hv0 0
  rw [Array.eq_one_of_toList hcs] at hc
  exact ⟨.iface u v, by simpa using hc, .inr ⟨u, v, rfl⟩⟩
theorem glob_laid {W : World} (h : laidMetH Tryz.prog Rows.fnExactMemKnowsRow.laid W) : GlobOk W := by
  rw [MakeChecks.laidMetH_plain _ _ _ (by kernel_rfl)] at h
  exact glob_of h.tail.tail.tail.tail
theorem weigh {H : Type} {ts : List TypeId} {ds : List (DataW H)} {j : Nat} {t : TypeId} {d : DataW H} (h : (DataW.weightsEach Tryz.prog ts ds).all (· ≤ reachBytes) = true) (ht : ts[j]? = some t) (hd : ds[j]? = some d) : ∀ n ∈ d.weights Tryz.prog t, n ≤ 140737488351232 := by
  intro n hn
  have := List.all_eq_true.1 h n (DataW.weights_mem_each ht hd n hn)
  exact of_decide_eq_true this
-- rows of structs: opened to the print's own kinds
set_option maxRecDepth 100000 in
theorem lifted (os : Os) (started : os.Started) (H : Type) (enc : TypeId × Value → H) :
    ReturnsInHanded {} Tryz.checked os 4 .any (fun w args => (Rows.fnExactMemKnowsSpec.pre enc Tryz.prog Tryz.f4 Rows.fnExactMemKnowsRow.domain false w args ∧ laidMetH Tryz.prog Rows.fnExactMemKnowsRow.laid w) ∧ sizedMet enc Tryz.prog Tryz.f4 (OpenSpec.ofChange Rows.fnExactMemKnowsSpec) false w args)
      (Rows.fnExactMemKnowsSpec.post enc Tryz.prog Tryz.f4 false true false false) := by
  refine returnsInHanded_of_change_and (C := Tryz.checked) (X := fun w _ => laidMetH Tryz.prog Rows.fnExactMemKnowsRow.laid w) (fun _ _ _ hh h => h.of_heap hh) own started (by kernel_rfl) Tryz.func4
    (ChangeSpec.witness_shaped (enc := enc) (C := Tryz.checked) (os := os) (X := fun w _ => laidMetH Tryz.prog Rows.fnExactMemKnowsRow.laid w) false (World.doorLaid Tryz.prog 400 os) #[.agg #[.bool false, .int .i64 0, .slice none 0 0, .slice none 0 0, .int .i64 0, .string ByteArray.empty, .string ByteArray.empty]] 8 rfl (World.shaped_of_RefB (by kernel_rfl) (by kernel_rfl)) (by kernel_rfl) (by kernel_rfl) (by kernel_rfl) (door_met os _)) ?_
  intro W base args ds gs before hval0 hW hcnd hsz0 hL _
  have hG := glob_laid hL
  have hsz : (DataW.weightsEach Tryz.prog (Tryz.f4.params.toList ++ Rows.fnExactMemKnowsSpec.plain.varTypes Tryz.prog) (ds ++ gs)).all (· ≤ reachBytes) = true := hsz0
  have hval : ∀ (j : Nat) t v, Tryz.f4.params[j]? = some t → args[j]? = some v → Value.okWide Tryz.prog W .any base t v := hval0
  have hW' := hW
  obtain ⟨p, q, hA0, hV, rfl, hfz, hnd⟩ := hW
  have hA : DataW.TrodAll enc Tryz.prog W 0 (fun _ => true) true Tryz.f4.params.toList args.toList ds p := hA0
  rw [Tryz.params4] at hA hval hsz
  obtain ⟨v0, vs0, d0, ds0, p0, q0, hargs, rfl, rfl, h0, r0⟩ := trodAll_cons hA
  obtain ⟨rfl, rfl, rfl⟩ := trodAll_nil r0
  obtain rfl : args = #[v0] := by cases args; simp_all
  obtain ⟨rfl, rfl⟩ := trodVars_none hV
  have k0 := h0
  have lt0 : ∀ x ∈ p0, x.block < W.heap.size := by obtain ⟨m, hm⟩ := k0; exact DataW.trod_lt m _ _ _ hm
  obtain ⟨fuel0, hf0⟩ := h0
  have inh_1 : Inhabited Zk.S96 := ⟨Zk.z96⟩
  have op_p0 : Opn.Opens Tryz.prog _ 27 _ := (Opn.opens_struct id id (fun _ => rfl) Tryz.underlying27 (by kernel_rfl) (Opn.seg_cons' rfl rfl (Opn.opens_bool Tryz.underlying4) (by kernel_rfl) (Opn.seg_cons' rfl rfl (Opn.opens_int Tryz.underlying3) (by kernel_rfl) (Opn.seg_cons' rfl rfl (Opn.opens_struct id id (fun _ => rfl) Tryz.underlying24 (by kernel_rfl) (Opn.seg_one' rfl rfl (Opn.opens_slice (B := 16) (Opn.opens_string Tryz.underlying9) Tryz.underlying22 (by kernel_rfl) (by kernel_rfl)) (by kernel_rfl))) (by kernel_rfl) (Opn.seg_cons' rfl rfl (Opn.opens_slice (B := 24) (Opn.opens_struct (S := Zk.S96) (fun x : Zk.S96 => (x.f0, x.f1)) (fun y_ => ⟨y_.1, y_.2⟩) (fun _ => rfl) Tryz.underlying96 (by kernel_rfl) (Opn.seg_cons' rfl rfl (Opn.opens_int Tryz.underlying3) (by kernel_rfl) (Opn.seg_one' rfl rfl (Opn.opens_string Tryz.underlying9) (by kernel_rfl)))) Tryz.underlying25 (by kernel_rfl) (by kernel_rfl)) (by kernel_rfl) (Opn.seg_cons' rfl rfl (Opn.opens_int Tryz.underlying3) (by kernel_rfl) (Opn.seg_cons' rfl rfl (Opn.opens_string Tryz.underlying9) (by kernel_rfl) (Opn.seg_one' rfl rfl (Opn.opens_string Tryz.underlying9) (by kernel_rfl)))))))))
  obtain ⟨x0, hK0, hg0⟩ := (op_p0) _ enc W 0 _ _ fuel0 _ _ hf0 (weigh hsz (j := 0) rfl rfl)
  obtain ⟨cs0, rfl, hz0⟩ := okWide_struct (fits 27 _ Tryz.underlying27) (hval 0 27 v0 rfl rfl)
  obtain ⟨e1_, t1_, eq1_, m1_, n1_⟩ := hK0
  obtain ⟨g1_, r1_⟩ := hg0
  have eq2_ : e1_ = [.bool x0.1] := m1_
  obtain ⟨e3_, t3_, eq3_, m3_, n3_⟩ := n1_
  obtain ⟨g3_, r3_⟩ := r1_
  have eq4_ : e3_ = [.int .i64 x0.2.1] := m3_
  obtain ⟨e5_, t5_, eq5_, m5_, n5_⟩ := n3_
  obtain ⟨g5_, r5_⟩ := r3_
  obtain ⟨A6_, c6_, eq6_, hl6_, hC6_⟩ := m5_
  obtain ⟨e7_, t7_, eq7_, m7_, n7_⟩ := n5_
  obtain ⟨g7_, r7_⟩ := r5_
  obtain ⟨A8_, c8_, eq8_, hl8_, hC8_⟩ := m7_
  obtain ⟨e9_, t9_, eq9_, m9_, n9_⟩ := n7_
  obtain ⟨g9_, r9_⟩ := r7_
  have eq10_ : e9_ = [.int .i64 x0.2.2.2.2.1] := m9_
  obtain ⟨e11_, t11_, eq11_, m11_, n11_⟩ := n9_
  obtain ⟨g11_, r11_⟩ := r9_
  have eq12_ : e11_ = [.string x0.2.2.2.2.2.1] := m11_
  have eq13_ : t11_ = [.string x0.2.2.2.2.2.2] := n11_
  have hcs0 : cs0 = #[.bool x0.1, .int .i64 x0.2.1, .slice A6_ x0.2.2.1.length c6_, .slice A8_ x0.2.2.2.1.length c8_, .int .i64 x0.2.2.2.2.1, .string x0.2.2.2.2.2.1, .string x0.2.2.2.2.2.2] := by
    have e_ := eq1_
    rw [eq2_, eq3_, eq4_, eq5_, eq6_, eq7_, eq8_, eq9_, eq10_, eq11_, eq12_, eq13_] at e_
    exact Array.toList_inj.1 (show cs0.toList = _ from e_)
  subst hcs0
  clear hA0 hval0 hsz0 hsz
  refine (Zk.laws_FnExactMemKnows.walk Pure.FnExactMemKnows x0.1 x0.2.1 _ _ x0.2.2.1 _ _ x0.2.2.2.1 x0.2.2.2.2.1 x0.2.2.2.2.2.1 x0.2.2.2.2.2.2 W g1_ g3_ hC6_ hl6_ g5_ hC8_ hl8_ g7_ g9_ g11_ r11_ hG).mono fun e W' ⟨he, bel⟩ => ?_
  subst he
  exact ⟨_, rfl, _, _, _, [], _, [], hW', trodAll_mk1 (shut_bool Tryz.underlying4 _), (trodAll_cons_mk (Below.trod laidOut (by kernel_rfl) (of_decide_eq_true (by kernel_rfl)) k0 bel lt0) trodAll_mk0), rfl, bel.frame _, fun h => by cases h⟩
theorem over : Rows.FnExactMemKnowsSaid :=
  OpenClaim.holds_of_wide 4 Tryz.f4 rfl rfl rfl rfl rfl rfl rfl ⟨rfl, rfl, rfl, rfl, rfl⟩ rfl rfl rfl rfl rfl (by kernel_rfl) Tryz.func4 (by kernel_rfl)
    (of_decide_eq_true (by kernel_rfl)) (by unfold Func.isWrapper; first | (rw [if_pos (by decide +kernel)]; kernel_rfl) | (rw [if_neg (by decide +kernel)]; exact ⟨rfl, rfl⟩))
    (fun os started H enc _ => lifted os started H enc)
theorem card : Rows.FnExactMemKnowsCardSaid :=
  Claim7.holds_tied_plain_at .later [] [.data, .data, .data, .sentinel, .sentinel] true (true, "9e554d63a8c839e87ac8ca81f2cc67f686306bc932f6a6b6eacb172544455e1a") true
    over (fun _ h => by cases h) (by kernel_rfl) (fun _ h => by cases h) fnExactMemKnows_row_tie rfl ⟨rfl, rfl⟩ (by kernel_rfl) rfl
    (fun f fn hf hfn => by
      obtain rfl : f = 4 := Option.some.inj ((show Tryz.prog.funcNamed Rows.fnExactMemKnowsRow.func = some 4 by kernel_rfl).symm.trans hf) |>.symm
      obtain rfl : fn = Tryz.f4 := (Option.some.inj (Tryz.func4.symm.trans hfn)).symm
      exact ⟨by kernel_rfl, fun j t ht => by
        rw [Tryz.params4] at ht
        have hm : t ∈ [27] := by simpa using Array.mem_of_getElem? ht
        have hall : ([27].all fun u => !Tryz.prog.wantsStandIn u) = true := by kernel_rfl
        exact (show Tryz.prog.wantsStandIn t = false by simpa using List.all_eq_true.1 hall t hm)⟩)
    (by kernel_rfl)
#print axioms card
end Go.Proofs.YtnemchmiplbopaaGreatDoor.fnExactMemKnows
namespace Go.Proofs.YtnemchmiplbopaaGreatDoor
/-- The tied card, under a short name, for the claim. -/
theorem fnExactMemKnows_holds : Rows.FnExactMemKnowsCardSaid := fnExactMemKnows.card
end Go.Proofs.YtnemchmiplbopaaGreatDoor
