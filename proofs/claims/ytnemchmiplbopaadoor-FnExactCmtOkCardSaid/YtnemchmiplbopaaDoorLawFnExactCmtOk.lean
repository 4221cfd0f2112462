/- The law FnExactCmtOk: its row and its tied card, out of its plain statement (proved in YtnemchmiplbopaaDoorPureFnExactCmtOk) and its walk; its arguments are opened down to cells and rows. The package's variables are as the program's text lays them (the card's tie). -/
import Derived.Test.YtnemchmiplbopaaDoorRows
import Derived.Test.YtnemchmiplbopaaDoorCards
import Derived.Test.YtnemchmiplbopaaDoorTie
import Derived.Test.YtnemchmiplbopaaDoorXqx16
import Derived.Test.YtnemchmiplbopaaDoorPureFnExactCmtOk
import Derived.Test.YtnemchmiplbopaaDoorOpen
import Derived.WalkKit
import Derived.ProofKit
import Derived.OpenShut
import Derived.ShutString
import Derived.ChangeOld
import Derived.Below
import Derived.SizedLaws
import Derived.LaidMore
import Derived.LaidLaws
import Derived.LaidHandle
import Derived.MakeChecks
import Derived.Stop.LaidErr
import Derived.Stop.Joined
import Derived.SevenTiedAt
namespace Go.Proofs.YtnemchmiplbopaaDoor.fnExactCmtOk
open Go.ChangeShapes Go.WideShapes Go.ChangeAt Go.RowKit Go.Proofs.YtnemchmiplbopaaDoorW.PrintWords
open Go.ChangeMaps (open_string shut_string)
set_option linter.unusedVariables false
set_option linter.unusedSimpArgs false
theorem own : ownKnob Tryd.prog.godebug = none := by kernel_rfl
theorem laidOut : laidOutB Tryd.prog = true := by kernel_rfl
theorem fits (T : TypeId) (d : TypeDesc) (h : Tryd.prog.underlying T = some d) : Tryd.prog.underlying T = some d := h
/-- The heap that the start-up's own run leaves meets the condition. -/
theorem door_met (os : Os) (args : Array Value) : laidMetH Tryd.prog Rows.fnExactCmtOkRow.laid ((World.doorLaid Tryd.prog 400 os).forCall (fun _ _ => 0) ⟨#[], args, []⟩).memory :=
  laidMetH_of_parts3 (fuel := 8) (laidMet_of_run' 8 (by kernel_rfl) (by kernel_rfl)) (by kernel_rfl) (by kernel_rfl)
theorem gES : Tryd.prog.globalNamed "strconv.ErrSyntax" = some 0 := by kernel_rfl
theorem tES : (Tryd.prog.globals[0]?).map (·.type) = some 94 := by kernel_rfl
theorem glob_of {r : List (String × DataW Unit)} {W : World} (h : laidMet Tryd.prog (("strconv.ErrSyntax", Rows.laid_strconv_ErrSyntax) :: r) W) : GlobOk W := by
  obtain ⟨ps, ⟨g0, t0, cs0, f0, p0, q0, hg0, ht0, hv0, hd0, _, e0⟩, _, hrows⟩ := h
  obtain rfl := Option.some.inj (gES.symm.trans hg0)
  obtain rfl := Option.some.inj (tES.symm.trans ht0)
  obtain ⟨f, u, v, hcs, _⟩ := iface_of_trod Tryd.underlying94 hd0
  have hc := World.var?_cell gES hv0 0
  rw [Array.eq_one_of_toList hcs] at hc
  exact ⟨.iface u v, by simpa using hc, .inr ⟨u, v, rfl⟩⟩
theorem glob_laid {W : World} (h : laidMetH Tryd.prog Rows.fnExactCmtOkRow.laid W) : GlobOk W := by
  rw [MakeChecks.laidMetH_plain _ _ _ (by kernel_rfl)] at h
  exact glob_of h.tail.tail.tail.tail
theorem weigh {H : Type} {ts : List TypeId} {ds : List (DataW H)} {j : Nat} {t : TypeId} {d : DataW H} (h : (DataW.weightsEach Tryd.prog ts ds).all (· ≤ reachBytes) = true) (ht : ts[j]? = some t) (hd : ds[j]? = some d) : ∀ n ∈ d.weights Tryd.prog t, n ≤ 140737488351232 := by
  intro n hn
  have := List.all_eq_true.1 h n (DataW.weights_mem_each ht hd n hn)
  exact of_decide_eq_true this
-- rows of structs: opened to the print's own kinds
set_option maxRecDepth 100000 in
theorem lifted (os : Os) (started : os.Started) (H : Type) (enc : TypeId × Value → H) :
    ReturnsInHanded {} Tryd.checked os 6 .any (fun w args => (Rows.fnExactCmtOkSpec.pre enc Tryd.prog Tryd.f6 Rows.fnExactCmtOkRow.domain false w args ∧ laidMetH Tryd.prog Rows.fnExactCmtOkRow.laid w) ∧ sizedMet enc Tryd.prog Tryd.f6 (OpenSpec.ofChange Rows.fnExactCmtOkSpec) false w args)
      (Rows.fnExactCmtOkSpec.post enc Tryd.prog Tryd.f6 false true false false) := by
  refine returnsInHanded_of_change_and (C := Tryd.checked) (X := fun w _ => laidMetH Tryd.prog Rows.fnExactCmtOkRow.laid w) (fun _ _ _ hh h => h.of_heap hh) own started (by kernel_rfl) Tryd.func6
    (ChangeSpec.witness_shaped (enc := enc) (C := Tryd.checked) (os := os) (X := fun w _ => laidMetH Tryd.prog Rows.fnExactCmtOkRow.laid w) false (World.doorLaid Tryd.prog 400 os) #[.agg #[.int .i64 0, .string ByteArray.empty, .string ByteArray.empty, .int .i64 0, .int .i64 0, .string ByteArray.empty, .slice none 0 0, .slice none 0 0, .string ByteArray.empty, .string ByteArray.empty, .string ByteArray.empty, .string ByteArray.empty, .string ByteArray.empty]] 8 rfl (World.shaped_of_RefB (by kernel_rfl) (by kernel_rfl)) (by kernel_rfl) (by kernel_rfl) (by kernel_rfl) (door_met os _)) ?_
  intro W base args ds gs before hval0 hW hcnd hsz0 hL _
  have hG := glob_laid hL
  have hsz : (DataW.weightsEach Tryd.prog (Tryd.f6.params.toList ++ Rows.fnExactCmtOkSpec.plain.varTypes Tryd.prog) (ds ++ gs)).all (· ≤ reachBytes) = true := hsz0
  have hval : ∀ (j : Nat) t v, Tryd.f6.params[j]? = some t → args[j]? = some v → Value.okWide Tryd.prog W .any base t v := hval0
  have hW' := hW
  obtain ⟨p, q, hA0, hV, rfl, hfz, hnd⟩ := hW
  have hA : DataW.TrodAll enc Tryd.prog W 0 (fun _ => true) true Tryd.f6.params.toList args.toList ds p := hA0
  rw [Tryd.params6] at hA hval hsz
  obtain ⟨v0, vs0, d0, ds0, p0, q0, hargs, rfl, rfl, h0, r0⟩ := trodAll_cons hA
  obtain ⟨rfl, rfl, rfl⟩ := trodAll_nil r0
  obtain rfl : args = #[v0] := by cases args; simp_all
  obtain ⟨rfl, rfl⟩ := trodVars_none hV
  have k0 := h0
  have lt0 : ∀ x ∈ p0, x.block < W.heap.size := by obtain ⟨m, hm⟩ := k0; exact DataW.trod_lt m _ _ _ hm
  obtain ⟨fuel0, hf0⟩ := h0
  have inh_1 : Inhabited Xq.S38 := ⟨Xq.z38⟩
  have op_p0 : Opn.Opens Tryd.prog _ 42 _ := (Opn.opens_struct id id (fun _ => rfl) Tryd.underlying42 (by kernel_rfl) (Opn.seg_cons' rfl rfl (Opn.opens_int Tryd.underlying3) (by kernel_rfl) (Opn.seg_cons' rfl rfl (Opn.opens_string Tryd.underlying9) (by kernel_rfl) (Opn.seg_cons' rfl rfl (Opn.opens_string Tryd.underlying9) (by kernel_rfl) (Opn.seg_cons' rfl rfl (Opn.opens_int Tryd.underlying3) (by kernel_rfl) (Opn.seg_cons' rfl rfl (Opn.opens_int Tryd.underlying3) (by kernel_rfl) (Opn.seg_cons' rfl rfl (Opn.opens_string Tryd.underlying9) (by kernel_rfl) (Opn.seg_cons' rfl rfl (Opn.opens_slice (B := 16) (Opn.opens_string Tryd.underlying9) Tryd.underlying22 (by kernel_rfl) (by kernel_rfl)) (by kernel_rfl) (Opn.seg_cons' rfl rfl (Opn.opens_slice (B := 32) (Opn.opens_struct (S := Xq.S38) (fun x : Xq.S38 => (x.f0, x.f1)) (fun y_ => ⟨y_.1, y_.2⟩) (fun _ => rfl) Tryd.underlying38 (by kernel_rfl) (Opn.seg_cons' rfl rfl (Opn.opens_string Tryd.underlying9) (by kernel_rfl) (Opn.seg_one' rfl rfl (Opn.opens_string Tryd.underlying9) (by kernel_rfl)))) Tryd.underlying27 (by kernel_rfl) (by kernel_rfl)) (by kernel_rfl) (Opn.seg_one' rfl rfl (Opn.opens_struct id id (fun _ => rfl) Tryd.underlying40 (by kernel_rfl) (Opn.seg_cons' rfl rfl (Opn.opens_string Tryd.underlying9) (by kernel_rfl) (Opn.seg_cons' rfl rfl (Opn.opens_struct id id (fun _ => rfl) Tryd.underlying38 (by kernel_rfl) (Opn.seg_cons' rfl rfl (Opn.opens_string Tryd.underlying9) (by kernel_rfl) (Opn.seg_one' rfl rfl (Opn.opens_string Tryd.underlying9) (by kernel_rfl)))) (by kernel_rfl) (Opn.seg_one' rfl rfl (Opn.opens_struct id id (fun _ => rfl) Tryd.underlying38 (by kernel_rfl) (Opn.seg_cons' rfl rfl (Opn.opens_string Tryd.underlying9) (by kernel_rfl) (Opn.seg_one' rfl rfl (Opn.opens_string Tryd.underlying9) (by kernel_rfl)))) (by kernel_rfl))))) (by kernel_rfl)))))))))))
  obtain ⟨x0, hK0, hg0⟩ := (op_p0) _ enc W 0 _ _ fuel0 _ _ hf0 (weigh hsz (j := 0) rfl rfl)
  obtain ⟨cs0, rfl, hz0⟩ := okWide_struct (fits 42 _ Tryd.underlying42) (hval 0 42 v0 rfl rfl)
  obtain ⟨e1_, t1_, eq1_, m1_, n1_⟩ := hK0
  obtain ⟨g1_, r1_⟩ := hg0
  have eq2_ : e1_ = [.int .i64 x0.1] := m1_
  obtain ⟨e3_, t3_, eq3_, m3_, n3_⟩ := n1_
  obtain ⟨g3_, r3_⟩ := r1_
  have eq4_ : e3_ = [.string x0.2.1] := m3_
  obtain ⟨e5_, t5_, eq5_, m5_, n5_⟩ := n3_
  obtain ⟨g5_, r5_⟩ := r3_
  have eq6_ : e5_ = [.string x0.2.2.1] := m5_
  obtain ⟨e7_, t7_, eq7_, m7_, n7_⟩ := n5_
  obtain ⟨g7_, r7_⟩ := r5_
  have eq8_ : e7_ = [.int .i64 x0.2.2.2.1] := m7_
  obtain ⟨e9_, t9_, eq9_, m9_, n9_⟩ := n7_
  obtain ⟨g9_, r9_⟩ := r7_
  have eq10_ : e9_ = [.int .i64 x0.2.2.2.2.1] := m9_
  obtain ⟨e11_, t11_, eq11_, m11_, n11_⟩ := n9_
  obtain ⟨g11_, r11_⟩ := r9_
  have eq12_ : e11_ = [.string x0.2.2.2.2.2.1] := m11_
  obtain ⟨e13_, t13_, eq13_, m13_, n13_⟩ := n11_
  obtain ⟨g13_, r13_⟩ := r11_
  obtain ⟨A14_, c14_, eq14_, hl14_, hC14_⟩ := m13_
  obtain ⟨e15_, t15_, eq15_, m15_, n15_⟩ := n13_
  obtain ⟨g15_, r15_⟩ := r13_
  obtain ⟨A16_, c16_, eq16_, hl16_, hC16_⟩ := m15_
  obtain ⟨e17_, t17_, eq17_, m17_, n17_⟩ := n15_
  obtain ⟨g17_, r17_⟩ := r15_
  have eq18_ : e17_ = [.string x0.2.2.2.2.2.2.2.2.1] := m17_
  obtain ⟨e19_, t19_, eq19_, m19_, n19_⟩ := n17_
  obtain ⟨g19_, r19_⟩ := r17_
  obtain ⟨e20_, t20_, eq20_, m20_, n20_⟩ := m19_
  obtain ⟨g20_, r20_⟩ := g19_
  have eq21_ : e20_ = [.string x0.2.2.2.2.2.2.2.2.2.1.1] := m20_
  have eq22_ : t20_ = [.string x0.2.2.2.2.2.2.2.2.2.1.2] := n20_
  obtain ⟨e23_, t23_, eq23_, m23_, n23_⟩ := n19_
  obtain ⟨g23_, r23_⟩ := r19_
  have eq24_ : e23_ = [.string x0.2.2.2.2.2.2.2.2.2.2.1] := m23_
  have eq25_ : t23_ = [.string x0.2.2.2.2.2.2.2.2.2.2.2] := n23_
  have hcs0 : cs0 = #[.int .i64 x0.1, .string x0.2.1, .string x0.2.2.1, .int .i64 x0.2.2.2.1, .int .i64 x0.2.2.2.2.1, .string x0.2.2.2.2.2.1, .slice A14_ x0.2.2.2.2.2.2.1.length c14_, .slice A16_ x0.2.2.2.2.2.2.2.1.length c16_, .string x0.2.2.2.2.2.2.2.2.1, .string x0.2.2.2.2.2.2.2.2.2.1.1, .string x0.2.2.2.2.2.2.2.2.2.1.2, .string x0.2.2.2.2.2.2.2.2.2.2.1, .string x0.2.2.2.2.2.2.2.2.2.2.2] := by
    have e_ := eq1_
    rw [eq2_, eq3_, eq4_, eq5_, eq6_, eq7_, eq8_, eq9_, eq10_, eq11_, eq12_, eq13_, eq14_, eq15_, eq16_, eq17_, eq18_, eq19_, eq20_, eq21_, eq22_, eq23_, eq24_, eq25_] at e_
    exact Array.toList_inj.1 (show cs0.toList = _ from e_)
  subst hcs0
  clear hA0 hval0 hsz0 hsz
  refine (Xq.laws_FnExactCmtOk.walk Pure.FnExactCmtOk x0.1 x0.2.1 x0.2.2.1 x0.2.2.2.1 x0.2.2.2.2.1 x0.2.2.2.2.2.1 _ _ x0.2.2.2.2.2.2.1 _ _ x0.2.2.2.2.2.2.2.1 x0.2.2.2.2.2.2.2.2.1 x0.2.2.2.2.2.2.2.2.2.1.1 x0.2.2.2.2.2.2.2.2.2.1.2 x0.2.2.2.2.2.2.2.2.2.2.1 x0.2.2.2.2.2.2.2.2.2.2.2 W g1_ g3_ g5_ g7_ g9_ g11_ hC14_ hl14_ g13_ hC16_ hl16_ g15_ g17_ g20_ r20_ g23_ r23_ hG).mono fun e W' ⟨he, bel⟩ => ?_
  subst he
  exact ⟨_, rfl, _, _, _, [], _, [], hW', trodAll_mk1 (shut_bool Tryd.underlying4 _), (trodAll_cons_mk (Below.trod laidOut (by kernel_rfl) (of_decide_eq_true (by kernel_rfl)) k0 bel lt0) trodAll_mk0), rfl, bel.frame _, fun h => by cases h⟩
theorem over : Rows.FnExactCmtOkSaid :=
  OpenClaim.holds_of_wide 6 Tryd.f6 rfl rfl rfl rfl rfl rfl rfl ⟨rfl, rfl, rfl, rfl, rfl⟩ rfl rfl rfl rfl rfl (by kernel_rfl) Tryd.func6 (by kernel_rfl)
    (of_decide_eq_true (by kernel_rfl)) (by unfold Func.isWrapper; first | (rw [if_pos (by decide +kernel)]; kernel_rfl) | (rw [if_neg (by decide +kernel)]; exact ⟨rfl, rfl⟩))
    (fun os started H enc _ => lifted os started H enc)
theorem card : Rows.FnExactCmtOkCardSaid :=
  Claim7.holds_tied_plain_at .later [] [.data, .data, .data, .sentinel, .sentinel] true (true, "1bb7c57abcf46660d64e2f8cf2dd7d6ca7063e3719c9a6115fa590ed670fb872") true
    over (fun _ h => by cases h) (by kernel_rfl) (fun _ h => by cases h) fnExactCmtOk_row_tie rfl ⟨rfl, rfl⟩ (by kernel_rfl) rfl
    (fun f fn hf hfn => by
      obtain rfl : f = 6 := Option.some.inj ((show Tryd.prog.funcNamed Rows.fnExactCmtOkRow.func = some 6 by kernel_rfl).symm.trans hf) |>.symm
      obtain rfl : fn = Tryd.f6 := (Option.some.inj (Tryd.func6.symm.trans hfn)).symm
      exact ⟨by kernel_rfl, fun j t ht => by
        rw [Tryd.params6] at ht
        have hm : t ∈ [42] := by simpa using Array.mem_of_getElem? ht
        have hall : ([42].all fun u => !Tryd.prog.wantsStandIn u) = true := by kernel_rfl
        exact (show Tryd.prog.wantsStandIn t = false by simpa using List.all_eq_true.1 hall t hm)⟩)
    (by kernel_rfl)
#print axioms card
end Go.Proofs.YtnemchmiplbopaaDoor.fnExactCmtOk
namespace Go.Proofs.YtnemchmiplbopaaDoor
/-- The tied card, under a short name, for the claim. -/
theorem fnExactCmtOk_holds : Rows.FnExactCmtOkCardSaid := fnExactCmtOk.card
end Go.Proofs.YtnemchmiplbopaaDoor
