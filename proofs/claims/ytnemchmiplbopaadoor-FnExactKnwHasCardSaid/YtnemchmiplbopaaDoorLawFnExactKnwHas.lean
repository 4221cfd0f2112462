/- The law FnExactKnwHas: its row and its tied card, out of its plain statement (proved in YtnemchmiplbopaaDoorPureFnExactKnwHas) and its walk; its arguments are opened down to cells and rows. The package's variables are as the program's text lays them (the card's tie). -/
import Derived.Test.YtnemchmiplbopaaDoorRows
import Derived.Test.YtnemchmiplbopaaDoorCards
import Derived.Test.YtnemchmiplbopaaDoorTie
import Derived.Test.YtnemchmiplbopaaDoorXcx16
import Derived.Test.YtnemchmiplbopaaDoorPureFnExactKnwHas
import Derived.Test.YtnemchmiplbopaaDoorOpen
import Derived.WalkKit
import Derived.ProofKit
import Derived.OpenShut
import Derived.ShutString
import Derived.ChangeOld
import Derived.Below
import Derived.SizedLaws
import Derived.LaidMore
import Derived.LaidLaws
import Derived.LaidHandle
import Derived.MakeChecks
import Derived.Stop.LaidErr
import Derived.Stop.Joined
import Derived.SevenTiedAt
namespace Go.Proofs.YtnemchmiplbopaaDoor.fnExactKnwHas
open Go.ChangeShapes Go.WideShapes Go.ChangeAt Go.RowKit Go.Proofs.YtnemchmiplbopaaDoorW.PrintWords
open Go.ChangeMaps (open_string shut_string)
set_option linter.unusedVariables false
set_option linter.unusedSimpArgs false
theorem own : ownKnob Tryd.prog.godebug = none := by kernel_rfl
theorem laidOut : laidOutB Tryd.prog = true := by kernel_rfl
theorem fits (T : TypeId) (d : TypeDesc) (h : Tryd.prog.underlying T = some d) : Tryd.prog.underlying T = some d := h
/-- The heap that the start-up's own run leaves meets the condition. -/
theorem door_met (os : Os) (args : Array Value) : laidMetH Tryd.prog Rows.fnExactKnwHasRow.laid ((World.doorLaid Tryd.prog 400 os).forCall (fun _ _ => 0) ⟨#[], args, []⟩).memory :=
  laidMetH_of_parts3 (fuel := 8) (laidMet_of_run' 8 (by kernel_rfl) (by kernel_rfl)) (by kernel_rfl) (by kernel_rfl)
theorem gES : Tryd.prog.globalNamed "strconv.ErrSyntax" = some 0 := by kernel_rfl
theorem tES : (Tryd.prog.globals[0]?).map (·.type) = some 94 := by kernel_rfl
theorem glob_of {r : List (String × DataW Unit)} {W : World} (h : laidMet Tryd.prog (("strconv.ErrSyntax", Rows.laid_strconv_ErrSyntax) :: r) W) : GlobOk W := by
  obtain ⟨ps, ⟨g0, t0, cs0, f0, p0, q0, hg0, ht0, hv0, hd0, _, e0⟩, _, hrows⟩ := h
  obtain rfl := Option.some.inj (gES.symm.trans hg0)
  obtain rfl := Option.some.inj (tES.symm.trans ht0)
  obtain ⟨f, u, v, hcs, _⟩ := iface_of_trod Tryd.underlying94 hd0
  have hc := World.var?_cell gES hv0 0
  rw [Array.eq_one_of_toList hcs] at hc
  exact ⟨.iface u v, by simpa using hc, .inr ⟨u, v, rfl⟩⟩
theorem glob_laid {W : World} (h : laidMetH Tryd.prog Rows.fnExactKnwHasRow.laid W) : GlobOk W := by
  rw [MakeChecks.laidMetH_plain _ _ _ (by kernel_rfl)] at h
  exact glob_of h.tail.tail.tail.tail
theorem weigh {H : Type} {ts : List TypeId} {ds : List (DataW H)} {j : Nat} {t : TypeId} {d : DataW H} (h : (DataW.weightsEach Tryd.prog ts ds).all (· ≤ reachBytes) = true) (ht : ts[j]? = some t) (hd : ds[j]? = some d) : ∀ n ∈ d.weights Tryd.prog t, n ≤ 140737488351232 := by
  intro n hn
  have := List.all_eq_true.1 h n (DataW.weights_mem_each ht hd n hn)
  exact of_decide_eq_true this
-- rows of structs: opened to the print's own kinds
set_option maxRecDepth 100000 in
theorem lifted (os : Os) (started : os.Started) (H : Type) (enc : TypeId × Value → H) :
    ReturnsInHanded {} Tryd.checked os 4 .any (fun w args => (Rows.fnExactKnwHasSpec.pre enc Tryd.prog Tryd.f4 Rows.fnExactKnwHasRow.domain false w args ∧ laidMetH Tryd.prog Rows.fnExactKnwHasRow.laid w) ∧ sizedMet enc Tryd.prog Tryd.f4 (OpenSpec.ofChange Rows.fnExactKnwHasSpec) false w args)
      (Rows.fnExactKnwHasSpec.post enc Tryd.prog Tryd.f4 false true false false) := by
  refine returnsInHanded_of_change_and (C := Tryd.checked) (X := fun w _ => laidMetH Tryd.prog Rows.fnExactKnwHasRow.laid w) (fun _ _ _ hh h => h.of_heap hh) own started (by kernel_rfl) Tryd.func4
    (ChangeSpec.witness_shaped (enc := enc) (C := Tryd.checked) (os := os) (X := fun w _ => laidMetH Tryd.prog Rows.fnExactKnwHasRow.laid w) false (World.doorLaid Tryd.prog 400 os) #[.slice none 0 0, .slice none 0 0, .string ByteArray.empty] 8 rfl (World.shaped_of_RefB (by kernel_rfl) (by kernel_rfl)) (by kernel_rfl) (by kernel_rfl) (by kernel_rfl) (door_met os _)) ?_
  intro W base args ds gs before hval0 hW hcnd hsz0 hL _
  have hG := glob_laid hL
  have hsz : (DataW.weightsEach Tryd.prog (Tryd.f4.params.toList ++ Rows.fnExactKnwHasSpec.plain.varTypes Tryd.prog) (ds ++ gs)).all (· ≤ reachBytes) = true := hsz0
  have hval : ∀ (j : Nat) t v, Tryd.f4.params[j]? = some t → args[j]? = some v → Value.okWide Tryd.prog W .any base t v := hval0
  have hW' := hW
  obtain ⟨p, q, hA0, hV, rfl, hfz, hnd⟩ := hW
  have hA : DataW.TrodAll enc Tryd.prog W 0 (fun _ => true) true Tryd.f4.params.toList args.toList ds p := hA0
  rw [Tryd.params4] at hA hval hsz
  obtain ⟨v0, vs0, d0, ds0, p0, q0, hargs, rfl, rfl, h0, r0⟩ := trodAll_cons hA
  obtain ⟨v1, vs1, d1, ds1, p1, q1, rfl, rfl, rfl, h1, r1⟩ := trodAll_cons r0
  obtain ⟨v2, vs2, d2, ds2, p2, q2, rfl, rfl, rfl, h2, r2⟩ := trodAll_cons r1
  obtain ⟨rfl, rfl, rfl⟩ := trodAll_nil r2
  obtain rfl : args = #[v0, v1, v2] := by cases args; simp_all
  obtain ⟨rfl, rfl⟩ := trodVars_none hV
  have k0 := h0
  have lt0 : ∀ x ∈ p0, x.block < W.heap.size := by obtain ⟨m, hm⟩ := k0; exact DataW.trod_lt m _ _ _ hm
  obtain ⟨fuel0, hf0⟩ := h0
  have op_p0 : Opn.Opens Tryd.prog _ 22 _ := (Opn.opens_slice (B := 16) (Opn.opens_string Tryd.underlying9) Tryd.underlying22 (by kernel_rfl) (by kernel_rfl))
  obtain ⟨x0, hK0, hg0⟩ := (op_p0) _ enc W 0 _ _ fuel0 _ _ hf0 (weigh hsz (j := 0) rfl rfl)
  obtain ⟨A0, c0, hc0_, hl0, hC0⟩ := hK0
  obtain ⟨a0_, len0_, cap0_, rfl⟩ := okWide_slice Tryd.underlying22 (hval 0 22 v0 rfl rfl)
  obtain ⟨rfl, rfl, rfl⟩ : a0_ = A0 ∧ len0_ = x0.length ∧ cap0_ = c0 := by simpa [Value.cells] using hc0_
  have k1 := h1
  have lt1 : ∀ x ∈ p1, x.block < W.heap.size := by obtain ⟨m, hm⟩ := k1; exact DataW.trod_lt m _ _ _ hm
  obtain ⟨fuel1, hf1⟩ := h1
  have inh_1 : Inhabited Xc.S38 := ⟨Xc.z38⟩
  have op_p1 : Opn.Opens Tryd.prog _ 27 _ := (Opn.opens_slice (B := 32) (Opn.opens_struct (S := Xc.S38) (fun x : Xc.S38 => (x.f0, x.f1)) (fun y_ => ⟨y_.1, y_.2⟩) (fun _ => rfl) Tryd.underlying38 (by kernel_rfl) (Opn.seg_cons' rfl rfl (Opn.opens_string Tryd.underlying9) (by kernel_rfl) (Opn.seg_one' rfl rfl (Opn.opens_string Tryd.underlying9) (by kernel_rfl)))) Tryd.underlying27 (by kernel_rfl) (by kernel_rfl))
  obtain ⟨x1, hK1, hg1⟩ := (op_p1) _ enc W 0 _ _ fuel1 _ _ hf1 (weigh hsz (j := 1) rfl rfl)
  obtain ⟨A1, c1, hc1_, hl1, hC1⟩ := hK1
  obtain ⟨a1_, len1_, cap1_, rfl⟩ := okWide_slice Tryd.underlying27 (hval 1 27 v1 rfl rfl)
  obtain ⟨rfl, rfl, rfl⟩ : a1_ = A1 ∧ len1_ = x1.length ∧ cap1_ = c1 := by simpa [Value.cells] using hc1_
  obtain ⟨a2, rfl, rfl, rfl, y2⟩ := open_string Tryd.underlying9 (hval 2 9 v2 rfl rfl) h2
  have w2 : a2.size ≤ 140737488351232 := by
    have z := sized_string hsz (j := 2) (t := 9) rfl rfl
    rw [Array.length_toList] at z
    exact z
  clear hA0 hval0 hsz0 hsz
  refine (Xc.laws_FnExactKnwHas.walk Pure.FnExactKnwHas _ _ x0 _ _ x1 a2 W hC0 hl0 hg0 hC1 hl1 hg1 w2 hG).mono fun e W' ⟨he, bel⟩ => ?_
  subst he
  exact ⟨_, rfl, _, _, _, [], _, [], hW', trodAll_mk1 (shut_bool Tryd.underlying4 _), (trodAll_cons_mk (Below.trod laidOut (by kernel_rfl) (of_decide_eq_true (by kernel_rfl)) k0 bel lt0) (trodAll_cons_mk (Below.trod laidOut (by kernel_rfl) (of_decide_eq_true (by kernel_rfl)) k1 bel lt1) (trodAll_cons_mk (shut_string Tryd.underlying9 y2) trodAll_mk0))), rfl, bel.frame _, fun h => by cases h⟩
theorem over : Rows.FnExactKnwHasSaid :=
  OpenClaim.holds_of_wide 4 Tryd.f4 rfl rfl rfl rfl rfl rfl rfl ⟨rfl, rfl, rfl, rfl, rfl⟩ rfl rfl rfl rfl rfl (by kernel_rfl) Tryd.func4 (by kernel_rfl)
    (of_decide_eq_true (by kernel_rfl)) (by unfold Func.isWrapper; first | (rw [if_pos (by decide +kernel)]; kernel_rfl) | (rw [if_neg (by decide +kernel)]; exact ⟨rfl, rfl⟩))
    (fun os started H enc _ => lifted os started H enc)
theorem card : Rows.FnExactKnwHasCardSaid :=
  Claim7.holds_tied_plain_at .later [] [.data, .data, .data, .sentinel, .sentinel] true (true, "1bb7c57abcf46660d64e2f8cf2dd7d6ca7063e3719c9a6115fa590ed670fb872") true
    over (fun _ h => by cases h) (by kernel_rfl) (fun _ h => by cases h) fnExactKnwHas_row_tie rfl ⟨rfl, rfl⟩ (by kernel_rfl) rfl
    (fun f fn hf hfn => by
      obtain rfl : f = 4 := Option.some.inj ((show Tryd.prog.funcNamed Rows.fnExactKnwHasRow.func = some 4 by kernel_rfl).symm.trans hf) |>.symm
      obtain rfl : fn = Tryd.f4 := (Option.some.inj (Tryd.func4.symm.trans hfn)).symm
      exact ⟨by kernel_rfl, fun j t ht => by
        rw [Tryd.params4] at ht
        have hm : t ∈ [22, 27, 9] := by simpa using Array.mem_of_getElem? ht
        have hall : ([22, 27, 9].all fun u => !Tryd.prog.wantsStandIn u) = true := by kernel_rfl
        exact (show Tryd.prog.wantsStandIn t = false by simpa using List.all_eq_true.1 hall t hm)⟩)
    (by kernel_rfl)
#print axioms card
end Go.Proofs.YtnemchmiplbopaaDoor.fnExactKnwHas
namespace Go.Proofs.YtnemchmiplbopaaDoor
/-- The tied card, under a short name, for the claim. -/
theorem fnExactKnwHas_holds : Rows.FnExactKnwHasCardSaid := fnExactKnwHas.card
end Go.Proofs.YtnemchmiplbopaaDoor
