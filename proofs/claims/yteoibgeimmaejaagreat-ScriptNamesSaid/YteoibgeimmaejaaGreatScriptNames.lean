/- PROVED: 'ScriptNames' answers true, in every world, on every tape, and leaves all as it was. No condition beyond the statement's own. -/
import Derived.Test.YteoibgeimmaejaaGreatRows
import Derived.Test.YteoibgeimmaejaaGreatCN
import Derived.Test.YteoibgeimmaejaaGreatEvNa
import Derived.Test.YteoibgeimmaejaaGreatEvNb
import Derived.WalkKit
import Derived.ProofKit
import Derived.OpenShut
namespace Go.Proofs.YteoibgeimmaejaaGreat.scriptNames
open Go.ChangeShapes Go.WideShapes Go.ChangeAt Go.RowKit Go.L1

theorem own : ownKnob Tryz.prog.godebug = none := by kernel_rfl
theorem no_globals : Tryz.prog.globals.size = 0 := by kernel_rfl

theorem add64 {args : List Value} {h : LHeap} {v : Value} {h' : LHeap} (hx : add64X args h = some (v, h')) {ρ : Rho} {w : World} {args' : List Value} (i : Inv Tryz.prog ρ h w) (hl : LR ρ args args') :
    FnOK Tryz.prog ρ (.func 118) args' w (Res1 Tryz.prog ρ h w v h') :=
  add64_ext Tryz.func118 (by kernel_rfl) (by kernel_rfl) (by kernel_rfl) (by kernel_rfl) hx i hl

theorem ok1 : EnvOK Tryz.prog LN.env1 := by
  refine ⟨LN.mixed, fun _ _ h => FTree.get_all LN.tree_ok h, fun f g h args hp v h' hx ρ w args' i hl => ?_⟩
  obtain ⟨hf, hg⟩ := cond_some (show cond (Nat.beq f 118) (some add64X) none = some g from h)
  have hf := Nat.eq_of_beq_eq_true hf
  simp only [Option.some.injEq] at hg
  subst hf
  subst hg
  exact add64 hx i hl

theorem ok2 : EnvOK Tryz.prog LN.env2 := by
  refine ⟨LN.mixed, fun _ _ h => FTree.get_all LN.tree_ok h, fun f g h args hp v h' hx ρ w args' i hl => ?_⟩
  replace h : cond (Nat.beq f 118) (some add64X) (cond (Nat.beq f 10) (some (knownX 0 [])) none) = some g := h
  cases h1 : Nat.beq f 118 with
  | true =>
    rw [h1] at h
    have hf := Nat.eq_of_beq_eq_true h1
    simp only [cond_true, Option.some.injEq] at h
    subst hf
    subst h
    exact add64 hx i hl
  | false =>
    rw [h1] at h
    obtain ⟨hf, hg⟩ := cond_some (show cond (Nat.beq f 10) (some (knownX 0 [])) none = some g from h)
    have hf := Nat.eq_of_beq_eq_true hf
    simp only [Option.some.injEq] at hg
    subst hf
    subst hg
    obtain ⟨h1, hk⟩ := isTrue_some LN.alive_runs
    exact known_ext ok1 hk hx i hl

theorem start (w : World) : Inv Tryz.prog (fun _ => none) (startH 0 []) w :=
  Inv.start (fun _ _ h => by cases h) (fun g h => by rw [no_globals] at h; exact absurd h (Nat.not_lt_zero g)) (by rw [no_globals]; exact Nat.le_refl _) (fun _ _ h => by cases h)

theorem walk (w : World) : Calls Tryz.prog 3 #[] w fun e w' => e = .returned (.bool true) ∧ Kept w w' := by
  obtain ⟨h1, hk⟩ := isTrue_some LN.names_runs
  exact calls_start ok2 hk (fun fn h => by rw [Tryz.func3] at h; obtain rfl := Option.some.inj h; rfl) (start w)

set_option maxRecDepth 100000 in
theorem lifted (os : Os) (started : os.Started) (H : Type) (enc : TypeId × Value → H) :
    ReturnsInHanded {} Tryz.checked os 3 .any (Rows.scriptNamesSpec.pre6 enc Tryz.prog Tryz.f3 Rows.scriptNamesRow.domain false) (Rows.scriptNamesSpec.post enc Tryz.prog Tryz.f3 false true false false) := by
  refine returnsInHanded_of_change (C := Tryz.checked) own started (by kernel_rfl) Tryz.func3
    (ChangeSpec.witness6 (enc := enc) (C := Tryz.checked) false ⟨#[], #[], []⟩ 8 (by kernel_rfl) (by kernel_rfl) (by kernel_rfl) (by kernel_rfl)) ?_
  intro W base args ds gs before hval0 hW hcnd _
  have hval : ∀ (j : Nat) t v, Tryz.f3.params[j]? = some t → args[j]? = some v → Value.okWide Tryz.prog W .any base t v := hval0
  have hW' := hW
  obtain ⟨p, q, hA0, hV, rfl, hfz, hnd⟩ := hW
  have hA : DataW.TrodAll enc Tryz.prog W 0 (fun _ => true) true Tryz.f3.params.toList args.toList ds p := hA0
  rw [Tryz.params3] at hA hval
  obtain ⟨rfl, rfl, rfl⟩ := trodAll_none hA
  obtain ⟨rfl, rfl⟩ := trodVars_none hV
  clear hA0 hval0
  simp only [List.append_nil] at hW'
  refine (walk W).mono fun e W' ⟨he, hg⟩ => ?_
  subst he
  exact ⟨_, rfl, post_of_kept (pa := []) (pv := []) hW' (fun _ _ _ => (trodAll_cons_mk (shut_bool Tryz.underlying4 _) trodAll_mk0)) (fun sp _ => rfl) (fun _ _ => rfl) rfl
    (hg.but _) (fun a h => hg.frozen a h) (ok_one (by kernel_rfl) rfl (okWide_bool_mk Tryz.underlying4 _))⟩

theorem over : Rows.scriptNamesRow.holds Tryz.pinned (OpenSpec.ofChange Rows.scriptNamesSpec) :=
  OpenClaim.holds_of_wide 3 Tryz.f3 rfl rfl rfl rfl rfl rfl rfl ⟨rfl, rfl, rfl, rfl, rfl⟩ rfl rfl rfl rfl rfl (by kernel_rfl) Tryz.func3 (by kernel_rfl)
    (of_decide_eq_true (by kernel_rfl)) (by unfold Func.isWrapper; first | (rw [if_pos (by decide +kernel)]; kernel_rfl) | (rw [if_neg (by decide +kernel)]; exact ⟨rfl, rfl⟩))
    (fun os started H enc _ => lifted os started H enc)

theorem proved : Rows.ScriptNamesSaid := over
#print axioms proved
end Go.Proofs.YteoibgeimmaejaaGreat.scriptNames
