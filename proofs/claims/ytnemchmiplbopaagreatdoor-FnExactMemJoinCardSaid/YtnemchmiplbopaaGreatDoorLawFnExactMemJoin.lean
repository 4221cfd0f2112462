/- The law FnExactMemJoin: its row and its tied card, out of its plain statement (proved in YtnemchmiplbopaaGreatDoorPureFnExactMemJoin) and its walk; its arguments are opened down to cells and rows. The package's variables are as the program's text lays them (the card's tie). -/
import Derived.Test.YtnemchmiplbopaaGreatDoorRows
import Derived.Test.YtnemchmiplbopaaGreatDoorCards
import Derived.Test.YtnemchmiplbopaaGreatDoorTie
import Derived.Test.YtnemchmiplbopaaGreatDoorZjx23
import Derived.Test.YtnemchmiplbopaaGreatDoorPureFnExactMemJoin
import Derived.Test.YtnemchmiplbopaaGreatDoorOpen
import Derived.WalkKit
import Derived.ProofKit
import Derived.OpenShut
import Derived.ShutString
import Derived.ChangeOld
import Derived.Below
import Derived.SizedLaws
import Derived.LaidMore
import Derived.LaidLaws
import Derived.LaidHandle
import Derived.MakeChecks
import Derived.Stop.LaidErr
import Derived.Stop.Joined
import Derived.SevenTiedAt
namespace Go.Proofs.YtnemchmiplbopaaGreatDoor.fnExactMemJoin
open Go.ChangeShapes Go.WideShapes Go.ChangeAt Go.RowKit Go.Proofs.YtnemchmiplbopaaGreatDoorW.PrintWords
open Go.ChangeMaps (open_string shut_string)
set_option linter.unusedVariables false
set_option linter.unusedSimpArgs false
theorem own : ownKnob Tryz.prog.godebug = none := by kernel_rfl
theorem laidOut : laidOutB Tryz.prog = true := by kernel_rfl
theorem fits (T : TypeId) (d : TypeDesc) (h : Tryz.prog.underlying T = some d) : Tryz.prog.underlying T = some d := h
/-- The heap that the start-up's own run leaves meets the condition. -/
theorem door_met (os : Os) (args : Array Value) : laidMetH Tryz.prog Rows.fnExactMemJoinRow.laid ((World.doorLaid Tryz.prog 400 os).forCall (fun _ _ => 0) ⟨#[], args, []⟩).memory :=
  laidMetH_of_parts3 (fuel := 8) (laidMet_of_run' 8 (by kernel_rfl) (by kernel_rfl)) (by kernel_rfl) (by kernel_rfl)
theorem gES : Tryz.prog.globalNamed "strconv.ErrSyntax" = some 1 := by kernel_rfl
theorem tES : (Tryz.prog.globals[1]?).map (·.type) = some 135 := by kernel_rfl
theorem glob_of {r : List (String × DataW Unit)} {W : World} (h : laidMet Tryz.prog (("strconv.ErrSyntax", Rows.laid_strconv_ErrSyntax) :: r) W) : GlobOk W := by
  obtain ⟨ps, ⟨g0, t0, cs0, f0, p0, q0, hg0, ht0, hv0, hd0, _, e0⟩, _, hrows⟩ := h
  obtain rfl := Option.some.inj (gES.symm.trans hg0)
  obtain rfl := Option.some.inj (tES.symm.trans ht0)
  obtain ⟨f, u, v, hcs, _⟩ := iface_of_trod Tryz.underlying135 hd0
  have hc := World.var?_cell gES hv0 0
  rw [Array.eq_one_of_toList hcs] at hc
  exact ⟨.iface u v, by simpa using hc, .inr ⟨u, v, rfl⟩⟩
theorem glob_laid {W : World} (h : laidMetH Tryz.prog Rows.fnExactMemJoinRow.laid W) : GlobOk W := by
  rw [MakeChecks.laidMetH_plain _ _ _ (by kernel_rfl)] at h
  exact glob_of h.tail.tail.tail.tail
theorem weigh {H : Type} {ts : List TypeId} {ds : List (DataW H)} {j : Nat} {t : TypeId} {d : DataW H} (h : (DataW.weightsEach Tryz.prog ts ds).all (· ≤ reachBytes) = true) (ht : ts[j]? = some t) (hd : ds[j]? = some d) : ∀ n ∈ d.weights Tryz.prog t, n ≤ 140737488351232 := by
  intro n hn
  have := List.all_eq_true.1 h n (DataW.weights_mem_each ht hd n hn)
  exact of_decide_eq_true this
-- rows of structs: opened to the print's own kinds
set_option maxRecDepth 100000 in
theorem lifted (os : Os) (started : os.Started) (H : Type) (enc : TypeId × Value → H) :
    ReturnsInHanded {} Tryz.checked os 5 .any (fun w args => (Rows.fnExactMemJoinSpec.pre enc Tryz.prog Tryz.f5 Rows.fnExactMemJoinRow.domain false w args ∧ laidMetH Tryz.prog Rows.fnExactMemJoinRow.laid w) ∧ sizedMet enc Tryz.prog Tryz.f5 (OpenSpec.ofChange Rows.fnExactMemJoinSpec) false w args)
      (Rows.fnExactMemJoinSpec.post enc Tryz.prog Tryz.f5 false true false false) := by
  refine returnsInHanded_of_change_and (C := Tryz.checked) (X := fun w _ => laidMetH Tryz.prog Rows.fnExactMemJoinRow.laid w) (fun _ _ _ hh h => h.of_heap hh) own started (by kernel_rfl) Tryz.func5
    (ChangeSpec.witness_shaped (enc := enc) (C := Tryz.checked) (os := os) (X := fun w _ => laidMetH Tryz.prog Rows.fnExactMemJoinRow.laid w) false (World.doorLaid Tryz.prog 400 os) #[.int .i64 0, .string ByteArray.empty, .string ByteArray.empty, .agg #[.int .i64 0, .string ByteArray.empty, .string ByteArray.empty, .int .i64 0, .int .i64 0, .string ByteArray.empty, .slice none 0 0, .slice none 0 0, .string ByteArray.empty, .string ByteArray.empty, .string ByteArray.empty, .string ByteArray.empty, .string ByteArray.empty]] 8 rfl (World.shaped_of_RefB (by kernel_rfl) (by kernel_rfl)) (by kernel_rfl) (by kernel_rfl) (by kernel_rfl) (door_met os _)) ?_
  intro W base args ds gs before hval0 hW hcnd hsz0 hL _
  have hG := glob_laid hL
  have hsz : (DataW.weightsEach Tryz.prog (Tryz.f5.params.toList ++ Rows.fnExactMemJoinSpec.plain.varTypes Tryz.prog) (ds ++ gs)).all (· ≤ reachBytes) = true := hsz0
  have hval : ∀ (j : Nat) t v, Tryz.f5.params[j]? = some t → args[j]? = some v → Value.okWide Tryz.prog W .any base t v := hval0
  have hW' := hW
  obtain ⟨p, q, hA0, hV, rfl, hfz, hnd⟩ := hW
  have hA : DataW.TrodAll enc Tryz.prog W 0 (fun _ => true) true Tryz.f5.params.toList args.toList ds p := hA0
  rw [Tryz.params5] at hA hval hsz
  obtain ⟨v0, vs0, d0, ds0, p0, q0, hargs, rfl, rfl, h0, r0⟩ := trodAll_cons hA
  obtain ⟨v1, vs1, d1, ds1, p1, q1, rfl, rfl, rfl, h1, r1⟩ := trodAll_cons r0
  obtain ⟨v2, vs2, d2, ds2, p2, q2, rfl, rfl, rfl, h2, r2⟩ := trodAll_cons r1
  obtain ⟨v3, vs3, d3, ds3, p3, q3, rfl, rfl, rfl, h3, r3⟩ := trodAll_cons r2
  obtain ⟨rfl, rfl, rfl⟩ := trodAll_nil r3
  obtain rfl : args = #[v0, v1, v2, v3] := by cases args; simp_all
  obtain ⟨rfl, rfl⟩ := trodVars_none hV
  obtain ⟨a0, rfl, rfl, rfl, w0⟩ := open_int Tryz.underlying3 (hval 0 3 v0 rfl rfl) h0
  obtain ⟨a1, rfl, rfl, rfl, y1⟩ := open_string Tryz.underlying9 (hval 1 9 v1 rfl rfl) h1
  have w1 : a1.size ≤ 140737488351232 := by
    have z := sized_string hsz (j := 1) (t := 9) rfl rfl
    rw [Array.length_toList] at z
    exact z
  obtain ⟨a2, rfl, rfl, rfl, y2⟩ := open_string Tryz.underlying9 (hval 2 9 v2 rfl rfl) h2
  have w2 : a2.size ≤ 140737488351232 := by
    have z := sized_string hsz (j := 2) (t := 9) rfl rfl
    rw [Array.length_toList] at z
    exact z
  have k3 := h3
  have lt3 : ∀ x ∈ p3, x.block < W.heap.size := by obtain ⟨m, hm⟩ := k3; exact DataW.trod_lt m _ _ _ hm
  obtain ⟨fuel3, hf3⟩ := h3
  have inh_1 : Inhabited Zj.S43 := ⟨Zj.z43⟩
  have op_p3 : Opn.Opens Tryz.prog _ 47 _ := (Opn.opens_struct id id (fun _ => rfl) Tryz.underlying47 (by kernel_rfl) (Opn.seg_cons' rfl rfl (Opn.opens_int Tryz.underlying3) (by kernel_rfl) (Opn.seg_cons' rfl rfl (Opn.opens_string Tryz.underlying9) (by kernel_rfl) (Opn.seg_cons' rfl rfl (Opn.opens_string Tryz.underlying9) (by kernel_rfl) (Opn.seg_cons' rfl rfl (Opn.opens_int Tryz.underlying3) (by kernel_rfl) (Opn.seg_cons' rfl rfl (Opn.opens_int Tryz.underlying3) (by kernel_rfl) (Opn.seg_cons' rfl rfl (Opn.opens_string Tryz.underlying9) (by kernel_rfl) (Opn.seg_cons' rfl rfl (Opn.opens_slice (B := 16) (Opn.opens_string Tryz.underlying9) Tryz.underlying22 (by kernel_rfl) (by kernel_rfl)) (by kernel_rfl) (Opn.seg_cons' rfl rfl (Opn.opens_slice (B := 32) (Opn.opens_struct (S := Zj.S43) (fun x : Zj.S43 => (x.f0, x.f1)) (fun y_ => ⟨y_.1, y_.2⟩) (fun _ => rfl) Tryz.underlying43 (by kernel_rfl) (Opn.seg_cons' rfl rfl (Opn.opens_string Tryz.underlying9) (by kernel_rfl) (Opn.seg_one' rfl rfl (Opn.opens_string Tryz.underlying9) (by kernel_rfl)))) Tryz.underlying41 (by kernel_rfl) (by kernel_rfl)) (by kernel_rfl) (Opn.seg_one' rfl rfl (Opn.opens_struct id id (fun _ => rfl) Tryz.underlying45 (by kernel_rfl) (Opn.seg_cons' rfl rfl (Opn.opens_string Tryz.underlying9) (by kernel_rfl) (Opn.seg_cons' rfl rfl (Opn.opens_struct id id (fun _ => rfl) Tryz.underlying43 (by kernel_rfl) (Opn.seg_cons' rfl rfl (Opn.opens_string Tryz.underlying9) (by kernel_rfl) (Opn.seg_one' rfl rfl (Opn.opens_string Tryz.underlying9) (by kernel_rfl)))) (by kernel_rfl) (Opn.seg_one' rfl rfl (Opn.opens_struct id id (fun _ => rfl) Tryz.underlying43 (by kernel_rfl) (Opn.seg_cons' rfl rfl (Opn.opens_string Tryz.underlying9) (by kernel_rfl) (Opn.seg_one' rfl rfl (Opn.opens_string Tryz.underlying9) (by kernel_rfl)))) (by kernel_rfl))))) (by kernel_rfl)))))))))))
  obtain ⟨x3, hK3, hg3⟩ := (op_p3) _ enc W 0 _ _ fuel3 _ _ hf3 (weigh hsz (j := 3) rfl rfl)
  obtain ⟨cs3, rfl, hz3⟩ := okWide_struct (fits 47 _ Tryz.underlying47) (hval 3 47 v3 rfl rfl)
  obtain ⟨e1_, t1_, eq1_, m1_, n1_⟩ := hK3
  obtain ⟨g1_, r1_⟩ := hg3
  have eq2_ : e1_ = [.int .i64 x3.1] := m1_
  obtain ⟨e3_, t3_, eq3_, m3_, n3_⟩ := n1_
  obtain ⟨g3_, r3_⟩ := r1_
  have eq4_ : e3_ = [.string x3.2.1] := m3_
  obtain ⟨e5_, t5_, eq5_, m5_, n5_⟩ := n3_
  obtain ⟨g5_, r5_⟩ := r3_
  have eq6_ : e5_ = [.string x3.2.2.1] := m5_
  obtain ⟨e7_, t7_, eq7_, m7_, n7_⟩ := n5_
  obtain ⟨g7_, r7_⟩ := r5_
  have eq8_ : e7_ = [.int .i64 x3.2.2.2.1] := m7_
  obtain ⟨e9_, t9_, eq9_, m9_, n9_⟩ := n7_
  obtain ⟨g9_, r9_⟩ := r7_
  have eq10_ : e9_ = [.int .i64 x3.2.2.2.2.1] := m9_
  obtain ⟨e11_, t11_, eq11_, m11_, n11_⟩ := n9_
  obtain ⟨g11_, r11_⟩ := r9_
  have eq12_ : e11_ = [.string x3.2.2.2.2.2.1] := m11_
  obtain ⟨e13_, t13_, eq13_, m13_, n13_⟩ := n11_
  obtain ⟨g13_, r13_⟩ := r11_
  obtain ⟨A14_, c14_, eq14_, hl14_, hC14_⟩ := m13_
  obtain ⟨e15_, t15_, eq15_, m15_, n15_⟩ := n13_
  obtain ⟨g15_, r15_⟩ := r13_
  obtain ⟨A16_, c16_, eq16_, hl16_, hC16_⟩ := m15_
  obtain ⟨e17_, t17_, eq17_, m17_, n17_⟩ := n15_
  obtain ⟨g17_, r17_⟩ := r15_
  have eq18_ : e17_ = [.string x3.2.2.2.2.2.2.2.2.1] := m17_
  obtain ⟨e19_, t19_, eq19_, m19_, n19_⟩ := n17_
  obtain ⟨g19_, r19_⟩ := r17_
  obtain ⟨e20_, t20_, eq20_, m20_, n20_⟩ := m19_
  obtain ⟨g20_, r20_⟩ := g19_
  have eq21_ : e20_ = [.string x3.2.2.2.2.2.2.2.2.2.1.1] := m20_
  have eq22_ : t20_ = [.string x3.2.2.2.2.2.2.2.2.2.1.2] := n20_
  obtain ⟨e23_, t23_, eq23_, m23_, n23_⟩ := n19_
  obtain ⟨g23_, r23_⟩ := r19_
  have eq24_ : e23_ = [.string x3.2.2.2.2.2.2.2.2.2.2.1] := m23_
  have eq25_ : t23_ = [.string x3.2.2.2.2.2.2.2.2.2.2.2] := n23_
  have hcs3 : cs3 = #[.int .i64 x3.1, .string x3.2.1, .string x3.2.2.1, .int .i64 x3.2.2.2.1, .int .i64 x3.2.2.2.2.1, .string x3.2.2.2.2.2.1, .slice A14_ x3.2.2.2.2.2.2.1.length c14_, .slice A16_ x3.2.2.2.2.2.2.2.1.length c16_, .string x3.2.2.2.2.2.2.2.2.1, .string x3.2.2.2.2.2.2.2.2.2.1.1, .string x3.2.2.2.2.2.2.2.2.2.1.2, .string x3.2.2.2.2.2.2.2.2.2.2.1, .string x3.2.2.2.2.2.2.2.2.2.2.2] := by
    have e_ := eq1_
    rw [eq2_, eq3_, eq4_, eq5_, eq6_, eq7_, eq8_, eq9_, eq10_, eq11_, eq12_, eq13_, eq14_, eq15_, eq16_, eq17_, eq18_, eq19_, eq20_, eq21_, eq22_, eq23_, eq24_, eq25_] at e_
    exact Array.toList_inj.1 (show cs3.toList = _ from e_)
  subst hcs3
  clear hA0 hval0 hsz0 hsz
  refine (Zj.laws_FnExactMemJoin.walk Pure.FnExactMemJoin a0 a1 a2 x3.1 x3.2.1 x3.2.2.1 x3.2.2.2.1 x3.2.2.2.2.1 x3.2.2.2.2.2.1 _ _ x3.2.2.2.2.2.2.1 _ _ x3.2.2.2.2.2.2.2.1 x3.2.2.2.2.2.2.2.2.1 x3.2.2.2.2.2.2.2.2.2.1.1 x3.2.2.2.2.2.2.2.2.2.1.2 x3.2.2.2.2.2.2.2.2.2.2.1 x3.2.2.2.2.2.2.2.2.2.2.2 W w0 w1 w2 g1_ g3_ g5_ g7_ g9_ g11_ hC14_ hl14_ g13_ hC16_ hl16_ g15_ g17_ g20_ r20_ g23_ r23_ hG).mono fun e W' ⟨he, bel⟩ => ?_
  subst he
  exact ⟨_, rfl, _, _, _, [], _, [], hW', trodAll_mk1 (shut_bool Tryz.underlying4 _), (trodAll_cons_mk (shut_int Tryz.underlying3 w0) (trodAll_cons_mk (shut_string Tryz.underlying9 y1) (trodAll_cons_mk (shut_string Tryz.underlying9 y2) (trodAll_cons_mk (Below.trod laidOut (by kernel_rfl) (of_decide_eq_true (by kernel_rfl)) k3 bel lt3) trodAll_mk0)))), rfl, bel.frame _, fun h => by cases h⟩
theorem over : Rows.FnExactMemJoinSaid :=
  OpenClaim.holds_of_wide 5 Tryz.f5 rfl rfl rfl rfl rfl rfl rfl ⟨rfl, rfl, rfl, rfl, rfl⟩ rfl rfl rfl rfl rfl (by kernel_rfl) Tryz.func5 (by kernel_rfl)
    (of_decide_eq_true (by kernel_rfl)) (by unfold Func.isWrapper; first | (rw [if_pos (by decide +kernel)]; kernel_rfl) | (rw [if_neg (by decide +kernel)]; exact ⟨rfl, rfl⟩))
    (fun os started H enc _ => lifted os started H enc)
theorem card : Rows.FnExactMemJoinCardSaid :=
  Claim7.holds_tied_plain_at .later [] [.data, .data, .data, .sentinel, .sentinel] true (true, "9e554d63a8c839e87ac8ca81f2cc67f686306bc932f6a6b6eacb172544455e1a") true
    over (fun _ h => by cases h) (by kernel_rfl) (fun _ h => by cases h) fnExactMemJoin_row_tie rfl ⟨rfl, rfl⟩ (by kernel_rfl) rfl
    (fun f fn hf hfn => by
      obtain rfl : f = 5 := Option.some.inj ((show Tryz.prog.funcNamed Rows.fnExactMemJoinRow.func = some 5 by kernel_rfl).symm.trans hf) |>.symm
      obtain rfl : fn = Tryz.f5 := (Option.some.inj (Tryz.func5.symm.trans hfn)).symm
      exact ⟨by kernel_rfl, fun j t ht => by
        rw [Tryz.params5] at ht
        have hm : t ∈ [3, 9, 9, 47] := by simpa using Array.mem_of_getElem? ht
        have hall : ([3, 9, 9, 47].all fun u => !Tryz.prog.wantsStandIn u) = true := by kernel_rfl
        exact (show Tryz.prog.wantsStandIn t = false by simpa using List.all_eq_true.1 hall t hm)⟩)
    (by kernel_rfl)
#print axioms card
end Go.Proofs.YtnemchmiplbopaaGreatDoor.fnExactMemJoin
namespace Go.Proofs.YtnemchmiplbopaaGreatDoor
/-- The tied card, under a short name, for the claim. -/
theorem fnExactMemJoin_holds : Rows.FnExactMemJoinCardSaid := fnExactMemJoin.card
end Go.Proofs.YtnemchmiplbopaaGreatDoor
