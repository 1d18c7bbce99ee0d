/- A MACHINE IN LEAN THAT SPEAKS FOR THE MODEL: text Fd of four. What its run answers the model answers, in every world, on every tape. -/
import Derived.Test.YteoibgeimmaejaaGreatFc
import Derived.OrdersIn
import Derived.RangeFuncLeaves
import Derived.LoopNIn
import Derived.ProofKit
import Derived.ChangeSame
import Derived.Laws.Externs
/- ONE OPERATION within the machine: an operation of the compiled form, calls among them, by the fenced layer. -/
namespace Go.L1
open Go

/-- Whatever fence but none: any function, any depth; in a round or not. -/
def W (r : Option Nat) : Fence := { Fence.wide with round := r }

/-- A call that returns. -/
def EndR (R : Value → World → Prop) : Ending → World → Prop
  | .returned v, w => R v w
  | _, _ => False

/-- What goes with an answer of L1's. -/
def Res1 (P : Program) (ρ : Rho) (h : LHeap) (w : World) (v : Value) (h' : LHeap) : Value → World → Prop :=
  fun v' w' => ∃ ρ', VR ρ' v v' ∧ Inv P ρ' h' w' ∧ Fr ρ h w ρ' h' w'

def isYield : Value → Bool
  | .func (.yield _) _ _ => true
  | _ => false

/-- A function of the model's, called with these arguments in this world, answers so. -/
def FnOK (P : Program) (ρ : Rho) (f : Fn) (args : List Value) (w : World) (R : Value → World → Prop) : Prop :=
  match f with
  | .func g => ∃ fn, P.funcs[g]? = some fn ∧ fn.name ≠ "runtime.NumGoroutine" ∧
      ((fn.body.isSome = true ∧ ∀ r m, CallsIn (W r) m P g args.toArray w (EndR R)) ∨
       (fn.body = none ∧ (∀ a ∈ args, isYield a = false) ∧ ∃ v' w', (callFunc g args.toArray).run P w = .ok (.value v') w' ∧ R v' w'))
  | .yield l => ∃ p, ρ l = some p ∧ ∃ f tmps assign body, (Instr.yield p.b args.toArray).run P w = .ok (.round p.b f tmps assign body) w ∧
      ∀ r m, RoundIn (W r) m P p.b f tmps assign body w (EndR R)
  | _ => False

/-- Calls of L1's are calls of the model's. -/
def CallOK (P : Program) (call : CallF) : Prop :=
  ∀ f args h v h', call f args h = some (v, h') → ∀ ρ w args', Inv P ρ h w → LR ρ args args' → FnOK P ρ f args' w (Res1 P ρ h w v h')

section
variable {P : Program} {o : Oper} {a : Act} {ρ : Rho} {h h' : LHeap} {w : World} {t : Tm} {call : CallF} {v : Value}

theorem compOp_defer {l : LOp} (hc : compOp P o = some l) : (∀ c, o.op ≠ .defer c) ∧ (∀ cs b, o.op ≠ .select cs b) := by
  refine ⟨fun c e => ?_, fun cs b e => ?_⟩ <;> (unfold compOp at hc; rw [e] at hc; cases hc)

theorem about_any {F : Fence} (hF : F.fn = fun _ => True) (f : FuncId) : F.fn f := by rw [hF]; trivial

theorem compOp_call {f : Operand} {args : List Operand} (hc : compOp P o = some (.call f args)) : ∃ c : Call, o.op = .call c ∧ c.callee = .value f ∧ c.args.toList = args := by
  unfold compOp at hc
  split at hc
  all_goals try (exfalso; (repeat' (split at hc)) <;> (first | (cases hc; done) | (simp at hc; done)))
  · rename_i c ho
    split at hc
    · rename_i g hg
      simp only [Option.some.injEq, LOp.call.injEq] at hc
      obtain ⟨rfl, rfl⟩ := hc
      exact ⟨c, ho, hg, rfl⟩
    · exfalso
      unfold compBuiltin at hc
      repeat' (split at hc)
      all_goals (first | (cases hc; done) | simp at hc)
    · cases hc

theorem uponIn_ok {r : Option Nat} {m : Nat} {next : Act → World → Prop} {Q : Exit → Act → World → Prop} {f : Fn} {cap : Array Value} {args : List Value} {f' : Fn} {R : Value → World → Prop}
    (hf : FnOK P ρ f args w R) (hrel : (∃ g, f = .func g ∧ f' = .func g) ∨ (∃ l p, f = .yield l ∧ ρ l = some p ∧ f' = .yield p.b ∧ cap = #[])) {args0 : Array Value} (ha : args0 ++ cap = args.toArray)
    (hn : ∀ v' w', R v' w' → next (a.put o.dst v') w') : o.uponIn (W r) m P a next Q ((invoke (.fn f' cap) args0).run P w) := by
  rcases hrel with ⟨g, rfl, rfl⟩ | ⟨l, p, rfl, hp, rfl, rfl⟩
  · obtain ⟨fn, hfn, hname, hcase⟩ := hf
    have hinv : invoke (.fn (.func g) cap) args0 = callFunc g args.toArray := by simp only [invoke]; rw [ha]
    rw [hinv]
    rcases hcase with ⟨hb, hcall⟩ | ⟨hb, _, v', w', hrun, hR⟩
    · have hrun : (callFunc g args.toArray).run P w = .ok (.enter g args.toArray) w := by
        have hb' : fn.body.isNone = false := by cases hq : fn.body with | none => rw [hq] at hb; cases hb | some _ => rfl
        have hname' : (fn.name == "runtime.NumGoroutine") = false := by simpa using hname
        unfold callFunc
        have hb2 : fn.body ≠ none := fun e => by rw [e] at hb; cases hb
        simp [hfn, hname, hb2]
      rw [hrun, Oper.uponIn_enter]
      refine ⟨fun h => by simp [W, Fence.wide] at h, (hcall r (m - 1)).mono fun e w' he => ?_⟩
      cases e with
      | returned v' => exact hn _ _ he
      | panicked _ => exact he.elim
      | outgrown => exact he.elim
    · rw [hrun, Oper.uponIn_value]
      exact hn _ _ hR
  · obtain ⟨p', hp', fi, tmps, as, bd, hrun, hround⟩ := hf
    rw [hp] at hp'
    obtain rfl := Option.some.inj hp'
    have ha' : args0 = args.toArray := by simpa using ha
    subst ha'
    have hinv : invoke (.fn (.yield p.b) #[]) args.toArray = Instr.yield p.b args.toArray := rfl
    rw [hinv, hrun, Oper.uponIn_round]
    refine ⟨fun h => by simp [W, Fence.wide] at h, (hround r (m - 1)).mono fun e w' he => ?_⟩
    cases e with
    | returned v' => exact hn _ _ he
    | panicked _ => exact he.elim
    | outgrown => exact he.elim

theorem fn_inv {f : Fn} {x y : Array Value} {u : Value} (hr : VR ρ (.func f x y) u) : ∃ f' x' y', u = .func f' x' y' ∧ LR ρ x.toList x'.toList ∧ LR ρ y.toList y'.toList ∧
    ((∃ g, f = .func g ∧ f' = .func g) ∨ (∃ l p, f = .yield l ∧ ρ l = some p ∧ f' = .yield p.b ∧ y' = #[])) := by
  cases hr with
  | fn g ha ra hb rb => exact ⟨_, _, _, rfl, ⟨ha, ra⟩, ⟨hb, rb⟩, .inl ⟨g, rfl, rfl⟩⟩
  | yield hp => exact ⟨_, _, _, rfl, .nil, .nil, .inr ⟨_, _, rfl, hp, rfl, rfl⟩⟩

/-- ONE OPERATION. -/
theorem oper_in2 (hcall : CallOK P call) (i : Inv P ρ h w) (r : TR ρ t a.tmps) {l : LOp} (hc : compOp P o = some l) (hok : o.op.operands.all (okOpd P) = true) (hv : opV call t h l = some (v, h'))
    {rd : Option Nat} {m : Nat} {next : Act → World → Prop} {Q : Exit → Act → World → Prop} {b : Act} (hb : ∀ x ∈ o.op.operands, b.eval x = a.eval x) (hn : ∀ v' w', Res1 P ρ h w v h' v' w' → next (b.put o.dst v') w') :
    o.wpIn (W rd) m P b w next Q := by
  obtain ⟨hd, hsel⟩ := compOp_defer hc
  refine ⟨fun f _ => about_any rfl f, ?_⟩
  rw [Oper.semAt_eq _ _ _ hd, execOp_congr o hsel hb]
  by_cases hcl : l.isCall = false
  · obtain ⟨ρ', v', w', hrun, h1, h2, h3⟩ := op_sound i r hc hok hcl hv
    rcases hrun with hrun | ⟨rfl, hrun⟩
    · rw [hrun, Oper.uponIn_value]
      exact hn _ _ ⟨ρ', h1, h2, h3⟩
    · rw [hrun, Oper.uponIn_skip]
      exact hn _ _ ⟨ρ', h1, h2, h3⟩
  · cases l <;> try exact absurd rfl hcl
    rename_i f args
    obtain ⟨c, ho, hcv, hca⟩ := compOp_call hc
    have hopd := all_mem hok
    rw [ho] at hopd
    have hf := ev_rel i r (hopd f (by simp [Op.operands, Call.operands, hcv]))
    have hargs := lev_rel i r (xs := args) (fun x hx => hopd x (by
      simp only [Op.operands, Call.operands, Array.toList_append, List.mem_append]
      right; rw [hca]; exact hx))
    simp only [opV, opK] at hv
    obtain ⟨⟨v1, h1⟩, hv1, hv2⟩ := ob_some hv
    simp only [Option.some.injEq, Prod.mk.injEq] at hv2
    obtain ⟨rfl, rfl⟩ := hv2
    unfold oCall at hv1
    split at hv1
    · rename_i fn x y he
      rw [he] at hf
      obtain ⟨f', x', y', hf', hx, hy, hrel⟩ := fn_inv hf
      have hres : (resolve a.eval c o.type).run P w = .ok { target := .fn f' y', args := x' ++ c.args.map a.eval } w := by
        unfold resolve
        rw [hcv]
        simp only [hf', Deferred.ofValue, Sem.run_pure]
      have hexec : (execOp a.eval o).run P w = (invoke (.fn f' y') (x' ++ c.args.map a.eval)).run P w := by
        unfold execOp
        rw [ho]
        simp only [Sem.run_bind, hres, Result.andThen_ok]
      rw [hexec]
      have hok1 := hcall _ _ _ _ _ hv1 ρ w (x'.toList ++ (args.map a.eval ++ y'.toList)) i (hx.append (hargs.append hy))
      refine uponIn_ok hok1 hrel ?_ hn
      rw [← hca]
      apply Array.toList_inj.1
      simp
    · cases hv1

theorem oper_in (hcall : CallOK P call) (i : Inv P ρ h w) (r : TR ρ t a.tmps) {l : LOp} (hc : compOp P o = some l) (hok : o.op.operands.all (okOpd P) = true) (hv : opV call t h l = some (v, h'))
    {rd : Option Nat} {m : Nat} {next : Act → World → Prop} {Q : Exit → Act → World → Prop} (hn : ∀ v' w', Res1 P ρ h w v h' v' w' → next (a.put o.dst v') w') : o.wpIn (W rd) m P a w next Q :=
  oper_in2 hcall i r hc hok hv (fun _ _ => rfl) hn
end
end Go.L1

/- A REGION that keeps the order of the text. -/
namespace Go.L1
open Go

section
variable {P : Program} {o : Oper} {a : Act} {ρ : Rho} {h h' : LHeap} {w : World} {t : Tm} {call : CallF} {v : Value}

theorem ob_comp {α β γ : Type} (o : Option α) (f : α → Option β) (g : β → Option γ) : ob (ob o f) g = ob o fun a => ob (f a) g := by cases o <;> rfl
theorem chk_ob {β γ : Type} (b : Bool) (x : Option β) (g : β → Option γ) : ob (chk b x) g = chk b (ob x g) := by cases b <;> rfl

/-- What follows an operation is told what it answers. -/
theorem opK_eq (op : LOp) (k : Value → LHeap → Res) : opK call t h op k = ob (opV call t h op) fun p => k p.1 p.2 := by
  unfold opV
  cases op
  case pick c a b => simp only [opK, oc]; split <;> rfl
  case box n e x => simp only [opK, oBox, chk_ob]; rfl
  case conv c x =>
    simp only [opK]
    generalize ev t x = u
    unfold oConv
    split
    all_goals first
      | rfl
      | (simp only [chk_ob, ob_comp]; rfl)
      | (split <;> first | rfl | (simp only [chk_ob, ob_comp]; rfl))
  case mkSlice sz bytes e zero l c =>
    simp only [opK]
    generalize ev t l = u
    generalize ev t c = v
    unfold oMkSlice
    split
    · simp only [chk_ob]; rfl
    · rfl
  all_goals (simp only [opK, ob_comp]; try rfl)

theorem compOper_some {nt : Nat} {ops : Array Oper} {l : LOper} (hc : compOper P nt ops o = some l) :
    l.dst = o.dst ∧ (match o.guard with | none => l.guard = none | some (j, b) => ∃ d, (ops[j]?).bind (·.dst) = some d ∧ l.guard = some (d, b)) ∧
      (∀ {call : CallF} {t : Tm} {h : LHeap} {r : Value × LHeap}, opV call t h l.op = some r → compOp P o = some l.op ∧ o.op.operands.all (okOpd P) = true ∧ ∀ d, o.dst = some d → d < nt) := by
  have key : ∀ {call : CallF} {t : Tm} {h : LHeap} {r : Value × LHeap}, opV call t h (compOp2 P nt o) = some r → compOp P o = some (compOp2 P nt o) ∧ o.op.operands.all (okOpd P) = true ∧ ∀ d, o.dst = some d → d < nt := by
    intro call t h r hv
    unfold compOp2 at hv ⊢
    split at hv
    · rename_i hcond
      rw [if_pos hcond]
      simp only [Bool.and_eq_true] at hcond
      cases hco : compOp P o with
      | none => rw [hco] at hv; simp [opV, opK] at hv
      | some q => exact ⟨rfl, hcond.2, fun d hd => by have := hcond.1; rw [hd] at this; simpa using this⟩
    · simp [opV, opK] at hv
  unfold compOper at hc
  split at hc
  · rename_i e
    rw [e]
    simp only [Option.some.injEq] at hc
    subst hc
    exact ⟨rfl, rfl, key⟩
  · rename_i j b e
    rw [e]
    split at hc
    · rename_i d hd
      simp only [Option.some.injEq] at hc
      subst hc
      exact ⟨rfl, ⟨d, hd, rfl⟩, key⟩
    · cases hc

/-- Is an operation wanted? In both. -/
def wantL (t : Tm) (l : LOper) : Bool :=
  match l.guard with
  | none => true
  | some (n, b) => wantedV (t n) b

def boolOf : Value → Option Bool
  | .bool c => some c
  | _ => none

theorem wantedV_rel {u u' : Value} (r : VR ρ u u') (b : Bool) : wantedV u b = (boolOf u' == some b) := by
  cases r <;> cases b <;> first | rfl | (rename_i c; cases c <;> rfl)

theorem want_eq {nt : Nat} {ops : Array Oper} {l : LOper} (hc : compOper P nt ops o = some l) (r : ∀ n b, l.guard = some (n, b) → VR ρ (t n) (a.tmps.getD n undef)) : wantL t l = Region.wanted o (yielded ops a.tmps) := by
  obtain ⟨_, hg, _⟩ := compOper_some hc
  unfold wantL Region.wanted
  cases e : o.guard with
  | none => rw [e] at hg; simp only at hg; rw [hg]
  | some p =>
    obtain ⟨j, b⟩ := p
    rw [e] at hg
    simp only at hg
    obtain ⟨d, h1, h2⟩ := hg
    rw [h2]
    simp only
    rw [wantedV_rel (r d b h2) b]
    have hy : yielded ops a.tmps j = boolOf (a.tmps.getD d undef) := by
      unfold yielded
      rw [h1]
      simp only [Option.bind_some]
      rw [Array.getD_eq_getD_getElem?]
      cases hx : a.tmps[d]? with
      | none => rfl
      | some x => cases x <;> rfl
    rw [hy]

theorem TR.put_undef (r : TR ρ t a.tmps) (dst : Option Nat) : TR ρ (dset t dst undefV) (a.put dst undef).tmps := by
  cases dst with
  | none => exact r
  | some d =>
    intro i
    show VR ρ (fset t d undefV i) ((a.tmps.setIfInBounds d undef).getD i undef)
    by_cases e : i = d
    · subst e
      rw [fset_same]
      simp only [Array.getD_eq_getD_getElem?, Array.getElem?_setIfInBounds, if_true]
      split
      · exact VR.undef
      · exact VR.undef
    · rw [fset_other _ _ e]
      have := r i
      simp only [Array.getD_eq_getD_getElem?, Array.getElem?_setIfInBounds] at this ⊢
      rw [if_neg (fun x => e x.symm)]
      exact this

theorem Act.defers_put (a : Act) (dst : Option Nat) (v : Value) : (a.put dst v).defers = a.defers := by cases dst <;> rfl

inductive CL (P : Program) (nt : Nat) (ops : Array Oper) : List Nat → List LOper → Prop
  | nil : CL P nt ops [] []
  | cons {k : Nat} {o : Oper} {l : LOper} {ks : List Nat} {ls : List LOper} (h1 : ops[k]? = some o) (h2 : compOper P nt ops o = some l) (h3 : CL P nt ops ks ls) : CL P nt ops (k :: ks) (l :: ls)

theorem CL.of_mapM {nt : Nat} {ops : Array Oper} : ∀ (m n : Nat) (ls : List LOper), ops.size = n + m → (ops.toList.drop n).mapM (compOper P nt ops) = some ls → CL P nt ops (List.range' n m) ls
  | 0, n, ls, hs, hm => by
    rw [List.drop_eq_nil_of_le (by simp; omega)] at hm
    simp only [List.mapM_nil, Option.pure_def, Option.some.injEq] at hm
    subst hm
    exact .nil
  | m + 1, n, ls, hs, hm => by
    have hn : n < ops.toList.length := by simp; omega
    rw [List.drop_eq_getElem_cons hn] at hm
    simp only [List.mapM_cons, Option.bind_eq_bind, Option.bind_eq_some_iff, Option.pure_def, Option.some.injEq] at hm
    obtain ⟨l, h1, ls', h2, rfl⟩ := hm
    rw [List.range'_succ]
    exact .cons (by simp [List.getElem?_eq_getElem hn, ← Array.getElem?_toList]) h1 (CL.of_mapM m (n + 1) ls' (by omega) h2)

/-- A REGION that keeps the text's order. -/
theorem region_sound (hcall : CallOK P call) {nt : Nat} {ops : Array Oper} {rd : Option Nat} {m : Nat} {Q : Exit → Act → World → Prop} {K : Tm → LHeap → Res} {res : Value × LHeap} {ks : List Nat} {ls : List LOper}
    (hl : CL P nt ops ks ls) : ∀ {t : Tm} {h : LHeap} {ρ : Rho} {a : Act} {w : World}, opsK call t h ls K = some res → Inv P ρ h w → TR ρ t a.tmps → a.tmps.size = nt →
    (∀ ρ' t' h' a' w', K t' h' = some res → Inv P ρ' h' w' → TR ρ' t' a'.tmps → Fr ρ h w ρ' h' w' → a'.tmps.size = nt → a'.defers = a.defers → Q .normal a' w') →
    wpOpsIn (W rd) m P ops Q ks a w := by
  induction hl with
  | nil =>
    intro t h ρ a w hk i r hs hq
    exact hq ρ t h a w hk i r (Fr.refl ρ h w) hs rfl
  | @cons k o l ks ls h1 h2 h3 ih =>
    intro t h ρ a w hk i r hs hq
    obtain ⟨hdst, hg, hop⟩ := compOper_some h2
    rw [wpOpsIn_cons]
    unfold wpOpIn
    rw [h1]
    simp only
    have hw := want_eq (a := a) h2 (fun n b _ => r n)
    rw [← hw]
    unfold opsK at hk
    have run : ob (opV call t h l.op) (fun p => opsK call (dset t l.dst p.1) p.2 ls K) = some res → o.wpIn (W rd) m P a w (wpOpsIn (W rd) m P ops Q ks) Q := by
      intro hk
      obtain ⟨⟨v, h'⟩, hv, hk⟩ := ob_some hk
      obtain ⟨c1, c2, c3⟩ := hop hv
      refine oper_in hcall i r c1 c2 hv ?_
      rintro v' w' ⟨ρ', g1, g2, g3⟩
      refine ih hk g2 ?_ (by rw [Act.size_put]; exact hs) ?_
      · rw [hdst]
        exact (r.mono g3.le).put (fun d hd => by rw [hs]; exact c3 d hd) g1
      · intro ρ2 t2 h2 a2 w2 k1 k2 k3 k4 k5 k6
        exact hq ρ2 t2 h2 a2 w2 k1 k2 k3 (g3.trans k4) k5 (by rw [k6, Act.defers_put])
    cases e : l.guard with
    | none =>
      rw [e] at hk
      simp only [opK_eq] at hk
      have : wantL t l = true := by simp [wantL, e]
      rw [this, if_pos rfl]
      exact run hk
    | some p =>
      obtain ⟨n, b⟩ := p
      rw [e] at hk
      simp only at hk
      have hwl : wantL t l = wantedV (t n) b := by simp [wantL, e]
      rw [hwl]
      cases hb : wantedV (t n) b with
      | true =>
        rw [hb] at hk
        simp only [og, opK_eq] at hk
        rw [if_pos rfl]
        exact run hk
      | false =>
        rw [hb] at hk
        simp only [og] at hk
        rw [if_neg (by simp)]
        refine ⟨fun f _ => about_any rfl f, ih hk i ?_ (by rw [Act.size_put]; exact hs) ?_⟩
        · rw [hdst]; exact r.put_undef _
        · intro ρ2 t2 h2 a2 w2 k1 k2 k3 k4 k5 k6
          exact hq ρ2 t2 h2 a2 w2 k1 k2 k3 k4 k5 (by rw [k6, Act.defers_put])
end
end Go.L1

/- A REGION THAT DRAWS ITS ORDER: what L1's operations hang on; the trace of an order. -/
namespace Go.L1
open Go

section
variable {P : Program} {o : Oper} {a : Act} {ρ : Rho} {h h' : LHeap} {w : World} {t t' : Tm} {call : CallF} {v : Value}

theorem lev_congr {xs : List Operand} (hx : ∀ x ∈ xs, ev t x = ev t' x) : lev t xs = lev t' xs := List.map_congr_left hx

theorem oev_congr {x : Option Operand} (hx : ∀ y ∈ x.toList, ev t y = ev t' y) : oev t x = oev t' x := by
  cases x with
  | none => rfl
  | some y => simp only [oev, Option.map_some, hx y (by simp)]

theorem parts_congr {ps : List (Nat × Nat × Operand)} (hx : ∀ x ∈ ps.map (·.2.2), ev t x = ev t' x) : (ps.map fun p => (p.1, p.2.1, ev t p.2.2)) = ps.map fun p => (p.1, p.2.1, ev t' p.2.2) :=
  List.map_congr_left fun p hp => by rw [hx p.2.2 (List.mem_map.2 ⟨p, hp, rfl⟩)]

/-- An operation hangs on what it names. -/
theorem opV_congr (l : LOp) (hx : ∀ x ∈ l.opds, ev t x = ev t' x) : opV call t h l = opV call t' h l := by
  cases l
  case build z ps => simp only [opV, opK, parts_congr (t := t) (t' := t') hx]
  case buildSlice n sz e z ps => simp only [opV, opK, parts_congr (t := t) (t' := t') hx]
  case mkFunc f x y => simp only [opV, opK, lev_congr (t := t) (t' := t') (xs := x) fun z hz => hx z (by simp [LOp.opds, hz]), lev_congr (t := t) (t' := t') (xs := y) fun z hz => hx z (by simp [LOp.opds, hz])]
  case call f xs => simp only [opV, opK, lev_congr (t := t) (t' := t') (xs := xs) fun z hz => hx z (by simp [LOp.opds, hz]), hx f (by simp [LOp.opds])]
  case min xs => simp only [opV, opK, lev_congr (t := t) (t' := t') (xs := xs) hx]
  case max xs => simp only [opV, opK, lev_congr (t := t) (t' := t') (xs := xs) hx]
  case sliceStr x lo hi =>
    simp only [opV, opK, hx x (by simp [LOp.opds]), oev_congr (t := t) (t' := t') (x := lo) fun z hz => hx z (by simp only [LOp.opds, List.mem_cons, List.mem_append]; simp [hz]),
      oev_congr (t := t) (t' := t') (x := hi) fun z hz => hx z (by simp only [LOp.opds, List.mem_cons, List.mem_append]; simp [hz])]
  case slice sz x lo hi mx =>
    simp only [opV, opK, hx x (by simp [LOp.opds]), oev_congr (t := t) (t' := t') (x := lo) fun z hz => hx z (by simp only [LOp.opds, List.mem_cons, List.mem_append]; simp [hz]),
      oev_congr (t := t) (t' := t') (x := hi) fun z hz => hx z (by simp only [LOp.opds, List.mem_cons, List.mem_append]; simp [hz]), oev_congr (t := t) (t' := t') (x := mx) fun z hz => hx z (by simp only [LOp.opds, List.mem_cons, List.mem_append]; simp [hz])]
  case sliceArr n sz x lo hi mx =>
    simp only [opV, opK, hx x (by simp [LOp.opds]), oev_congr (t := t) (t' := t') (x := lo) fun z hz => hx z (by simp only [LOp.opds, List.mem_cons, List.mem_append]; simp [hz]),
      oev_congr (t := t) (t' := t') (x := hi) fun z hz => hx z (by simp only [LOp.opds, List.mem_cons, List.mem_append]; simp [hz]), oev_congr (t := t) (t' := t') (x := mx) fun z hz => hx z (by simp only [LOp.opds, List.mem_cons, List.mem_append]; simp [hz])]
  case pick c x y => simp only [opV, opK, hx c (by simp [LOp.opds]), hx x (by simp [LOp.opds]), hx y (by simp [LOp.opds])]
  case mapUpdate ks m k x => simp only [opV, opK, hx m (by simp [LOp.opds]), hx k (by simp [LOp.opds]), hx x (by simp [LOp.opds])]
  case entryStore m k x => simp only [opV, opK, hx m (by simp [LOp.opds]), hx k (by simp [LOp.opds]), hx x (by simp [LOp.opds])]
  all_goals first
    | rfl
    | (rename_i x; simp only [opV, opK, hx x (by simp [LOp.opds])]; done)
    | (rename_i x _; simp only [opV, opK, hx x (by simp [LOp.opds])]; done)
    | (rename_i x y; simp only [opV, opK, hx x (by simp [LOp.opds]), hx y (by simp [LOp.opds])]; done)

theorem kind_acts (l : LOp) : l.kind = .eff ↔ l.acts = true := by
  cases l <;> try (simp [LOp.kind, LOp.acts]; done)
  rename_i c x
  cases c <;> simp [LOp.kind, LOp.acts]

theorem pure_ob {α : Type} {x : Option α} {f : α → Value} {H : LHeap} (hv : ob x (fun u => some (f u, H)) = some (v, h')) : h' = H ∧ ∀ Y : LHeap, ob x (fun u => some (f u, Y)) = some (v, Y) := by
  obtain ⟨u, hu, hv⟩ := ob_some hv
  simp only [Option.some.injEq, Prod.mk.injEq] at hv
  obtain ⟨rfl, rfl⟩ := hv
  exact ⟨rfl, fun Y => by rw [hu]; rfl⟩

/-- An operation that has nothing to do with the memory. -/
theorem pure_form {l : LOp} (hk : l.kind = .pure) (hv : opV call t h l = some (v, h')) : h' = h ∧ ∀ Y, opV call t Y l = some (v, Y) := by
  cases l <;> try (cases hk; done)
  case move x =>
    simp only [opV, opK, Option.some.injEq, Prod.mk.injEq] at hv ⊢
    obtain ⟨rfl, rfl⟩ := hv
    exact ⟨rfl, fun Y => by simp⟩
  case pick c x y =>
    simp only [opV, opK] at hv ⊢
    rcases oc_some hv with ⟨hb, hv⟩ | ⟨hb, hv⟩ <;>
    · simp only [Option.some.injEq, Prod.mk.injEq] at hv
      obtain ⟨rfl, rfl⟩ := hv
      exact ⟨rfl, fun Y => by rw [hb]; rfl⟩
  case conv c x =>
    simp only [opV, opK] at hv ⊢
    cases c <;> try (cases hk; done)
    all_goals
      unfold oConv at hv ⊢
      split at hv
      all_goals try (cases hv; done)
      all_goals try (rename_i e _ ; cases e; done)
      all_goals (simp only [Option.some.injEq, Prod.mk.injEq] at hv; obtain ⟨rfl, rfl⟩ := hv; exact ⟨rfl, fun Y => by simp_all⟩)
  case mkIface u x =>
    simp only [opV, opK, Option.some.injEq, Prod.mk.injEq] at hv ⊢
    obtain ⟨rfl, rfl⟩ := hv
    exact ⟨rfl, fun Y => by simp⟩
  case mkFunc f x y =>
    simp only [opV, opK, Option.some.injEq, Prod.mk.injEq] at hv ⊢
    obtain ⟨rfl, rfl⟩ := hv
    exact ⟨rfl, fun Y => by simp⟩
  case lenArr n =>
    simp only [opV, opK, Option.some.injEq, Prod.mk.injEq] at hv ⊢
    obtain ⟨rfl, rfl⟩ := hv
    exact ⟨rfl, fun Y => by simp⟩
  all_goals (simp only [opV, opK] at hv ⊢; exact pure_ob hv)

/-- An operation that makes one block. -/
theorem alloc_form {l : LOp} (hk : l.kind = .alloc) (hv : opV call t h l = some (v, h')) : ∃ ob, h' = hnew h ob ∧ ∀ Y : LHeap, Y.nx = h.nx → opV call t Y l = some (v, hnew Y ob) := by
  cases l <;> try (cases hk; done)
  case alloc z e =>
    simp only [opV, opK, Option.some.injEq, Prod.mk.injEq] at hv ⊢
    obtain ⟨rfl, rfl⟩ := hv
    exact ⟨_, rfl, fun Y hY => ⟨by simp [newV, hY], rfl⟩⟩
  case box n e x =>
    simp only [opV, opK, oBox] at hv ⊢
    obtain ⟨hc, hv⟩ := chk_some hv
    simp only [Option.some.injEq, Prod.mk.injEq] at hv
    obtain ⟨rfl, rfl⟩ := hv
    exact ⟨_, rfl, fun Y hY => by rw [hc]; simp [chk, newV, hY]⟩
  case buildSlice n sz e z ps =>
    simp only [opV, opK] at hv ⊢
    obtain ⟨d, hu, hv⟩ := ob_some hv
    simp only [Option.some.injEq, Prod.mk.injEq] at hv
    obtain ⟨rfl, rfl⟩ := hv
    exact ⟨_, rfl, fun Y hY => by rw [hu]; simp [ob, hY]⟩
  case mkMap =>
    simp only [opV, opK, Option.some.injEq, Prod.mk.injEq] at hv ⊢
    obtain ⟨rfl, rfl⟩ := hv
    exact ⟨_, rfl, fun Y hY => ⟨by simp [hY], rfl⟩⟩
  case mkSlice sz bytes e z x y =>
    simp only [opV, opK] at hv ⊢
    unfold oMkSlice at hv ⊢
    split at hv
    · rename_i l c e1 e2
      obtain ⟨hc, hv⟩ := chk_some hv
      simp only [Option.some.injEq, Prod.mk.injEq] at hv
      obtain ⟨rfl, rfl⟩ := hv
      exact ⟨_, rfl, fun Y hY => by simp only [e1, e2]; rw [hc]; simp [chk, hY]⟩
    · cases hv
  case conv c x =>
    cases c <;> try (cases hk; done)
    simp only [opV, opK] at hv ⊢
    unfold oConv at hv ⊢
    split at hv
    all_goals try (cases hv; done)
    all_goals try (rename_i e _ ; cases e; done)
    rename_i e0 s e1 e2
    cases e1
    obtain ⟨hc, hv⟩ := chk_some hv
    simp only [Option.some.injEq, Prod.mk.injEq] at hv
    obtain ⟨rfl, rfl⟩ := hv
    exact ⟨_, rfl, fun Y hY => by simp only [e2]; rw [hc]; simp [chk, hY]⟩

/-- The block that a value lies in. -/
def blkOf : Value → Option Nat
  | .pointer (some a) => some a.block
  | .slice (some a) _ _ => some a.block
  | .map (some r) => some r
  | _ => none

theorem rd1_turn {H Y : LHeap} {ad : Addr} {u : Value} (hv : rd1 H ad = some u) (hY : hget Y ad.block = hget H ad.block ∨ hget H ad.block = none) : rd1 Y ad = some u := by
  rcases hY with e | e
  · unfold rd1 at hv ⊢; rw [e]; exact hv
  · unfold rd1 at hv; rw [e] at hv; cases hv

theorem rdN_turn {H Y : LHeap} {ad : Addr} {n : Nat} {u : List Value} (hv : rdN H ad n = some u) (hY : hget Y ad.block = hget H ad.block ∨ hget H ad.block = none) : rdN Y ad n = some u := by
  rcases hY with e | e
  · unfold rdN at hv ⊢; rw [e]; exact hv
  · unfold rdN at hv; rw [e] at hv; cases hv

theorem mapOf_turn {H Y : LHeap} {m : Value} {u : Nat × List MapEntry × Nat} (hv : mapOf m H = some u) (hY : ∀ id, blkOf m = some id → hget Y id = hget H id ∨ hget H id = none) : mapOf m Y = some u := by
  unfold mapOf at hv ⊢
  split at hv
  · rename_i r
    rcases hY r rfl with e | e
    · rw [e]; exact hv
    · rw [e] at hv; cases hv
  · cases hv

theorem ob_turn {α β : Type} {x y : Option α} {k : α → Option β} {u : β} (hv : ob x k = some u) (hxy : ∀ z, x = some z → y = some z) : ob y k = some u := by
  obtain ⟨z, h1, h2⟩ := ob_some hv
  rw [hxy z h1]; exact h2

/-- An operation that looks at one block. -/
theorem read_form {l : LOp} (hk : reads l = true) {H : LHeap} (hv : opV call t H l = some (v, h')) {Y : LHeap} (hY : ∀ x ∈ l.opds, ∀ id, blkOf (ev t x) = some id → hget Y id = hget H id ∨ hget H id = none) :
    opV call t Y l = some (v, Y) := by
  have fin : ∀ {f : LHeap → Option Value}, ob (f H) (fun u => some (u, H)) = some (v, h') → (∀ u, f H = some u → f Y = some u) → ob (f Y) (fun u => some (u, Y)) = some (v, Y) := by
    intro f hv hf
    obtain ⟨u, hu, hv⟩ := ob_some hv
    simp only [Option.some.injEq, Prod.mk.injEq] at hv
    obtain ⟨rfl, rfl⟩ := hv
    rw [hf _ hu]; rfl
  cases l <;> try (cases hk; done)
  case load1 x =>
    simp only [opV, opK] at hv ⊢
    refine fin (f := fun H => oLoad1 (ev t x) H) hv fun u hu => ?_
    have hY := hY x (by simp [LOp.opds])
    simp only [oLoad1] at hu ⊢
    split at hu
    · exact rd1_turn hu (hY _ (by simp [blkOf, *]))
    · cases hu
  case loadN n x =>
    simp only [opV, opK] at hv ⊢
    refine fin (f := fun H => oLoadN n (ev t x) H) hv fun u hu => ?_
    have hY := hY x (by simp [LOp.opds])
    simp only [oLoadN] at hu ⊢
    split at hu
    · simp only [Option.map_eq_some_iff] at hu ⊢
      obtain ⟨c, h1, h2⟩ := hu
      exact ⟨c, rdN_turn h1 (hY _ (by simp [blkOf, *])), h2⟩
    · cases hu
  case lookup ks z ok m k =>
    simp only [opV, opK] at hv ⊢
    refine fin (f := fun H => oLookup ks z ok (ev t m) (ev t k) H) hv fun u hu => ?_
    have hY := hY m (by simp [LOp.opds])
    simp only [oLookup] at hu ⊢
    obtain ⟨hc, hu⟩ := chk_some hu
    rw [hc]
    simp only [chk]
    split at hu
    · exact hu
    · exact ob_turn hu fun z hz => mapOf_turn hz hY
  case lenMap x =>
    simp only [opV, opK] at hv ⊢
    refine fin (f := fun H => oLenMap (ev t x) H) hv fun u hu => ?_
    have hY := hY x (by simp [LOp.opds])
    simp only [oLenMap] at hu ⊢
    split at hu
    · exact hu
    · simp only [Option.map_eq_some_iff] at hu ⊢
      obtain ⟨c, h1, h2⟩ := hu
      exact ⟨c, mapOf_turn h1 hY, h2⟩
  case slice sz x lo hi mx =>
    simp only [opV, opK] at hv ⊢
    refine fin (f := fun H => oSlice sz (ev t x) (oev t lo) (oev t hi) (oev t mx) H) hv fun u hu => ?_
    have hY := hY x (by simp [LOp.opds])
    simp only [oSlice] at hu ⊢
    split at hu
    · exact hu
    · rename_i ad len cap he
      obtain ⟨hc, hu⟩ := cond_some hu
      rw [hc, cond_true]
      obtain ⟨z, h1, hu⟩ := ob_some hu
      rw [h1]
      simp only [ob]
      rcases hY ad.block (by simp [blkOf, *]) with e | e
      · rw [e]; exact hu
      · rw [e] at hu; cases hu
    · cases hu
  case sliceArr n sz x lo hi mx =>
    simp only [opV, opK] at hv ⊢
    refine fin (f := fun H => oSliceArr n sz (ev t x) (oev t lo) (oev t hi) (oev t mx) H) hv fun u hu => ?_
    have hY := hY x (by simp [LOp.opds])
    simp only [oSliceArr] at hu ⊢
    split at hu
    · rename_i ad he
      obtain ⟨z, h1, hu⟩ := ob_some hu
      rw [h1]
      simp only [ob]
      rcases hY ad.block (by simp [blkOf, *]) with e | e
      · rw [e]; exact hu
      · rw [e] at hu; cases hu
    · cases hu
  case cap x =>
    simp only [opV, opK] at hv ⊢
    refine fin (f := fun H => oCap (ev t x) H) hv fun u hu => ?_
    have hY := hY x (by simp [LOp.opds])
    simp only [oCap] at hu ⊢
    split at hu
    · exact hu
    · rename_i ad len cap he
      rcases hY ad.block (by simp [blkOf, *]) with e | e
      · rw [e]; exact hu
      · rw [e] at hu; cases hu
    · cases hu
  case conv c x =>
    have hY2 := hY x (by simp [LOp.opds])
    clear hY
    simp only [opV, opK] at hv ⊢
    unfold oConv at hv ⊢
    split at hv
    all_goals try (cases hk; done)
    all_goals try (cases hv; done)
    · rename_i e1
      simp only [e1, Option.some.injEq, Prod.mk.injEq] at hv ⊢
      simp [hv.1]
    · rename_i ad n cp e1
      obtain ⟨c, h1, hv⟩ := ob_some hv
      obtain ⟨s, h2, hv⟩ := ob_some hv
      simp only [Option.some.injEq, Prod.mk.injEq] at hv
      obtain ⟨rfl, rfl⟩ := hv
      simp only [e1]
      rw [rdN_turn (Y := Y) h1 (hY2 (bare ad).block (by simp [blkOf, e1, bare]))]
      simp only [ob, h2]
    · rename_i e1
      simp only [e1, Option.some.injEq, Prod.mk.injEq] at hv ⊢
      simp [hv.1]
    · rename_i ad e1
      simp only [e1]
      rcases hY2 ad.block (by simp [blkOf, e1]) with e | e
      · rw [e]
        split at hv
        · obtain ⟨hc, hv⟩ := chk_some hv
          simp only [Option.some.injEq, Prod.mk.injEq] at hv
          obtain ⟨rfl, rfl⟩ := hv
          simp [*, chk]
        · cases hv
      · rw [e] at hv; cases hv
    · rename_i e1
      simp only [e1, Option.some.injEq, Prod.mk.injEq] at hv ⊢
      simp [hv.1]
    · rename_i ad e1
      simp only [e1]
      rcases hY2 ad.block (by simp [blkOf, e1]) with e | e
      · rw [e]
        split at hv
        · obtain ⟨hc, hv⟩ := chk_some hv
          simp only [Option.some.injEq, Prod.mk.injEq] at hv
          obtain ⟨rfl, rfl⟩ := hv
          simp [*, chk]
        · cases hv
      · rw [e] at hv; cases hv

theorem read_same {l : LOp} (hk : reads l = true) (hv : opV call t h l = some (v, h')) : h' = h := by
  have := read_form hk hv (Y := h) (fun _ _ _ _ => .inl rfl)
  rw [hv] at this
  simp only [Option.some.injEq, Prod.mk.injEq] at this
  exact this.2

theorem same_eq : ∀ (n : Nat) (u v : Value), same n u v = true → u = v := by
  have prim : ∀ (n : Nat) (u v : Value), same n u v = true → (match u with | .iface .. | .agg _ | .tuple _ | .func .. => False | _ => True) → u = v := by
    intro n u v hs hu
    cases u <;> cases v <;> first | exact hu.elim | (cases n <;> simp [same] at hs; done) | skip
    case bool.bool x y =>
      have hs : (x == y) = true := by cases n <;> exact hs
      rw [eq_of_beq hs]
    case int.int j x k y =>
      have hs : (sameK j k && ieq x y) = true := by cases n <;> exact hs
      simp only [Bool.and_eq_true, ieq_eq] at hs
      rw [sameK_eq hs.1, eq_of_beq hs.2]
    case string.string x y =>
      have hs : bytesEq x.data.toList y.data.toList = true := by cases n <;> exact hs
      rw [bytesEq_ba hs]
    case pointer.pointer x y =>
      have hs : (x == y) = true := by cases n <;> exact hs
      rw [eq_of_beq hs]
    case slice.slice a n1 m1 b n2 m2 =>
      have hs : (a == b && n1 == n2 && m1 == m2) = true := by cases n <;> exact hs
      simp only [Bool.and_eq_true, beq_iff_eq] at hs
      rw [hs.1.1, hs.1.2, hs.2]
    case map.map x y =>
      have hs : (x == y) = true := by cases n <;> exact hs
      rw [eq_of_beq hs]
    case nilFunc.nilFunc => rfl
    case nilIface.nilIface => rfl
  intro n
  induction n with
  | zero =>
    intro u v hs
    cases u <;> first | exact prim 0 _ _ hs trivial | (cases v <;> simp [same] at hs)
  | succ n ih =>
    intro u v hs
    have all : ∀ a b : List Value, same.all n a b = true → a = b := by
      intro a
      induction a with
      | nil => intro b hb; cases b with | nil => rfl | cons _ _ => simp [same.all] at hb
      | cons x a iha =>
        intro b hb
        cases b with
        | nil => simp [same.all] at hb
        | cons y b =>
          simp only [same.all, Bool.and_eq_true] at hb
          rw [ih _ _ hb.1, iha _ hb.2]
    cases u <;> first | exact prim (n + 1) _ _ hs trivial | skip
    case iface t x =>
      cases v <;> simp [same] at hs
      rw [hs.1, ih _ _ hs.2]
    case agg x =>
      cases v <;> simp [same] at hs
      rw [Array.toList_inj.1 (all _ _ hs)]
    case tuple x =>
      cases v <;> simp [same] at hs
      rw [Array.toList_inj.1 (all _ _ hs)]
    case func f x y =>
      cases v with
      | func g x' y' =>
        cases f <;> cases g <;> simp [same] at hs
        rw [hs.1.1, Array.toList_inj.1 (all _ _ hs.1.2), Array.toList_inj.1 (all _ _ hs.2)]
      | _ => cases f <;> simp [same] at hs

theorem stays_at {l : LOp} : ∀ {n : Nat} {hs : List LHeap}, stays call t l v n hs = true → ∀ j H, j < n → hs[j]? = some H → ∃ h1, opV call t H l = some (v, h1)
  | 0, _, _, j, H, hj, _ => by omega
  | _ + 1, [], _, j, H, _, hH => by simp at hH
  | n + 1, H0 :: hs, hst, j, H, hj, hH => by
    simp only [stays, Bool.and_eq_true] at hst
    cases j with
    | zero =>
      simp only [List.getElem?_cons_zero, Option.some.injEq] at hH
      subst hH
      cases hv : opV call t H0 l with
      | none => rw [hv] at hst; simp at hst
      | some r =>
        obtain ⟨u, h1⟩ := r
        rw [hv] at hst
        exact ⟨h1, by rw [same_eq 100 _ _ hst.1]⟩
    | succ j => exact stays_at hst.2 j H (by omega) (by simpa using hH)
end

/-! ### The trace of an order -/

structure DS where
  t : Tm
  h : LHeap
  n : Nat
  snaps : List LHeap

def dval (call : CallF) (s : DS) (l : LOper) : Option (Value × LHeap) :=
  match wantL s.t l with
  | true => opV call s.t s.h l.op
  | false => some (undefV, s.h)

def dnext (s : DS) (l : LOper) (v : Value) (h' : LHeap) : DS :=
  match l.eff with
  | true => ⟨dset s.t l.dst v, h', s.n + 1, s.h :: s.snaps⟩
  | false => ⟨dset s.t l.dst v, h', s.n, s.snaps⟩

/-- One step of a trace. -/
structure DStep (call : CallF) (s : DS) (l : LOper) (v : Value) (s' : DS) : Prop where
  val : dval call s l = some (v, s'.h)
  next : s' = dnext s l v s'.h
  nx : l.eff = true → s.h.nx ≤ s'.h.nx ∧ s'.h.gn = s.h.gn
  stays : l.eff = false → reads l.op = true → wantL s.t l = true → stays call s.t l.op v (s.n - l.lo) s.snaps = true

theorem draw_trace {call : CallF} {K : Tm → LHeap → Res} {res : Value × LHeap} : ∀ {ls : List LOper} {t : Tm} {h : LHeap} {n : Nat} {snaps : List LHeap}, drawK call t h ls n snaps K = some res →
    ∃ (S : Nat → DS) (V : Nat → Value), S 0 = ⟨t, h, n, snaps⟩ ∧ (∀ k l, ls[k]? = some l → DStep call (S k) l (V k) (S (k + 1))) ∧ K (S ls.length).t (S ls.length).h = some res
  | [], t, h, n, snaps, hk => ⟨fun _ => ⟨t, h, n, snaps⟩, fun _ => undefV, rfl, fun k l h => by simp at h, hk⟩
  | l :: ls, t, h, n, snaps, hk => by
    have fin : ∀ v s', DStep call ⟨t, h, n, snaps⟩ l v s' → drawK call s'.t s'.h ls s'.n s'.snaps K = some res →
        ∃ (S : Nat → DS) (V : Nat → Value), S 0 = ⟨t, h, n, snaps⟩ ∧ (∀ k l', (l :: ls)[k]? = some l' → DStep call (S k) l' (V k) (S (k + 1))) ∧ K (S (l :: ls).length).t (S (l :: ls).length).h = some res := by
      intro v s' hst hk
      obtain ⟨S, V, h1, h2, h3⟩ := draw_trace hk
      refine ⟨fun k => match k with | 0 => ⟨t, h, n, snaps⟩ | k + 1 => S k, fun k => match k with | 0 => v | k + 1 => V k, rfl, fun k l' hl => ?_, h3⟩
      cases k with
      | zero =>
        simp only [List.getElem?_cons_zero, Option.some.injEq] at hl
        subst hl
        show DStep call ⟨t, h, n, snaps⟩ l v (S 0)
        rw [h1]; exact hst
      | succ k => exact h2 k l' (by simpa using hl)
    have go : ∀ (e : Bool), l.eff = e → ∀ v h', dval call ⟨t, h, n, snaps⟩ l = some (v, h') → (e = true → h.nx ≤ h'.nx ∧ h'.gn = h.gn) →
        (e = false → reads l.op = true → wantL t l = true → stays call t l.op v (n - l.lo) snaps = true) →
        (match e with | true => drawK call (dset t l.dst v) h' ls (n + 1) (h :: snaps) K | false => drawK call (dset t l.dst v) h' ls n snaps K) = some res →
        ∃ (S : Nat → DS) (V : Nat → Value), S 0 = ⟨t, h, n, snaps⟩ ∧ (∀ k l', (l :: ls)[k]? = some l' → DStep call (S k) l' (V k) (S (k + 1))) ∧ K (S (l :: ls).length).t (S (l :: ls).length).h = some res := by
      intro e he v h' hd hn hs hk
      cases e with
      | true => exact fin v ⟨dset t l.dst v, h', n + 1, h :: snaps⟩ ⟨hd, by simp [dnext, he], fun _ => hn rfl, (fun h => by rw [he] at h; cases h)⟩ hk
      | false => exact fin v ⟨dset t l.dst v, h', n, snaps⟩ ⟨hd, by simp [dnext, he], (fun h => by rw [he] at h; cases h), fun _ h1 h2 => hs rfl h1 h2⟩ hk
    cases heff : l.eff with
    | true =>
      unfold drawK at hk
      rw [heff] at hk
      cases hg : l.guard with
      | none =>
        rw [hg] at hk
        simp only [opK_eq] at hk
        obtain ⟨⟨v, h'⟩, hv, hk⟩ := ob_some hk
        obtain ⟨hx, hk⟩ := chk_some hk
        have hwl : wantL t l = true := by simp [wantL, hg]
        exact go true heff v h' (by simp only [dval, hwl, hv]) (fun _ => by simp only [Bool.and_eq_true] at hx; exact ⟨Nat.le_of_ble_eq_true hx.1, Nat.eq_of_beq_eq_true hx.2⟩) (fun h => by cases h) hk
      | some p =>
        obtain ⟨j, b⟩ := p
        rw [hg] at hk
        simp only at hk
        have hwl : wantL t l = wantedV (t j) b := by simp [wantL, hg]
        cases hb : wantedV (t j) b with
        | true =>
          rw [hb] at hk hwl
          simp only [og, opK_eq] at hk
          obtain ⟨⟨v, h'⟩, hv, hk⟩ := ob_some hk
          obtain ⟨hx, hk⟩ := chk_some hk
          exact go true heff v h' (by simp only [dval, hwl, hv]) (fun _ => by simp only [Bool.and_eq_true] at hx; exact ⟨Nat.le_of_ble_eq_true hx.1, Nat.eq_of_beq_eq_true hx.2⟩) (fun h => by cases h) hk
        | false =>
          rw [hb] at hk hwl
          simp only [og] at hk
          obtain ⟨hx, hk⟩ := chk_some hk
          exact go true heff undefV h (by simp only [dval, hwl]) (fun _ => by simp only [Bool.and_eq_true] at hx; exact ⟨Nat.le_of_ble_eq_true hx.1, Nat.eq_of_beq_eq_true hx.2⟩) (fun h => by cases h) hk
    | false =>
      unfold drawK at hk
      rw [heff] at hk
      cases hrd : reads l.op with
      | false =>
        rw [hrd] at hk
        cases hg : l.guard with
        | none =>
          rw [hg] at hk
          simp only [opK_eq] at hk
          obtain ⟨⟨v, h'⟩, hv, hk⟩ := ob_some hk
          have hwl : wantL t l = true := by simp [wantL, hg]
          exact go false heff v h' (by simp only [dval, hwl, hv]) (fun h => by cases h) (fun _ h => by rw [hrd] at h; cases h) hk
        | some p =>
          obtain ⟨j, b⟩ := p
          rw [hg] at hk
          simp only at hk
          have hwl : wantL t l = wantedV (t j) b := by simp [wantL, hg]
          cases hb : wantedV (t j) b with
          | true =>
            rw [hb] at hk hwl
            simp only [og, opK_eq] at hk
            obtain ⟨⟨v, h'⟩, hv, hk⟩ := ob_some hk
            exact go false heff v h' (by simp only [dval, hwl, hv]) (fun h => by cases h) (fun _ h => by rw [hrd] at h; cases h) hk
          | false =>
            rw [hb] at hk hwl
            simp only [og] at hk
            exact go false heff undefV h (by simp only [dval, hwl]) (fun h => by cases h) (fun _ h => by rw [hrd] at h; cases h) hk
      | true =>
        rw [hrd] at hk
        cases hg : l.guard with
        | none =>
          rw [hg] at hk
          simp only [opK_eq] at hk
          obtain ⟨⟨v, h'⟩, hv, hk⟩ := ob_some hk
          obtain ⟨hst, hk⟩ := chk_some hk
          have hwl : wantL t l = true := by simp [wantL, hg]
          exact go false heff v h' (by simp only [dval, hwl, hv]) (fun h => by cases h) (fun _ _ _ => hst) hk
        | some p =>
          obtain ⟨j, b⟩ := p
          rw [hg] at hk
          simp only at hk
          have hwl : wantL t l = wantedV (t j) b := by simp [wantL, hg]
          cases hb : wantedV (t j) b with
          | true =>
            rw [hb] at hk hwl
            simp only [og, opK_eq] at hk
            obtain ⟨⟨v, h'⟩, hv, hk⟩ := ob_some hk
            obtain ⟨hst, hk⟩ := chk_some hk
            exact go false heff v h' (by simp only [dval, hwl, hv]) (fun h => by cases h) (fun _ _ _ => hst) hk
          | false =>
            rw [hb] at hk hwl
            simp only [og] at hk
            exact go false heff undefV h (by simp only [dval, hwl]) (fun h => by cases h) (fun _ _ hw => by rw [hwl] at hw; cases hw) hk
end Go.L1

/- A REGION THAT DRAWS ITS ORDER: what the compiler has looked at; what holds when some of it is done. -/
namespace Go.L1
open Go

section
variable {P : Program} {nt : Nat} {ops : Array Oper} {b : Array Nat} {c : List Nat} {ls : List LOper}

structure DOne (P : Program) (nt : Nat) (ops : Array Oper) (b : Array Nat) (c : List Nat) (ls : List LOper) (k : Nat) (o : Oper) (l : LOper) : Prop where
  comp : ∃ l0, compOper P nt ops o = some l0 ∧ l.dst = l0.dst ∧ l.op = l0.op ∧ l.guard = l0.guard
  pair : ∀ k' l', k' < ops.size → k' ≠ k → ls[k']? = some l' → cN c k ≠ cN c k' ∧ ∀ d, l'.dst = some d → l.dst ≠ some d ∧
    (d ∈ tmpsOf o l → (k' < k → anc b c k k' = true) ∧ (¬ k' < k → anc b c k' k = true))
  ext : ∀ e ∈ o.after, Region.binds .any e = true → ∃ k', k' < k ∧ cN c k' = e.on
  clo : ∀ k', k' < ops.size → anc b c k k' = true → ∃ e ∈ o.after, Region.binds .any e = true ∧ (e.on = cN c k' ∨ (b.getD e.on 0).testBit (cN c k') = true)
  eff : l.eff = true → ∀ k', k' < k → anc b c k k' = true
  lo : l.lo = 0 ∨ ∃ k' l', k' < ops.size ∧ ls[k']? = some l' ∧ l'.eff = true ∧ anc b c k k' = true ∧ l.lo ≤ effs ls (k' + 1)
  acts : l.eff = false → l.op.acts = false
  opds : ∀ x ∈ l.op.opds, okOpd P x = true

structure DOK (P : Program) (nt : Nat) (ops : Array Oper) (b : Array Nat) (c : List Nat) (ls : List LOper) : Prop where
  len : ls.length = ops.size
  surj : ∀ i, i < ops.size → ∃ k, k < ops.size ∧ cN c k = i
  one : ∀ k, k < ops.size → ∃ o l, ops[cN c k]? = some o ∧ ls[k]? = some l ∧ DOne P nt ops b c ls k o l

theorem mapM_at {α β : Type} {f : α → Option β} : ∀ {xs : List α} {ys : List β}, xs.mapM f = some ys → ∀ (k : Nat) (x : α), xs[k]? = some x → ∃ y, ys[k]? = some y ∧ f x = some y
  | [], ys, _, k, x, h => by simp at h
  | x :: xs, ys, hm, k, x', h => by
    simp only [List.mapM_cons, Option.bind_eq_bind, Option.bind_eq_some_iff, Option.pure_def, Option.some.injEq] at hm
    obtain ⟨y, h1, ys', h2, rfl⟩ := hm
    cases k with
    | zero => simp only [List.getElem?_cons_zero, Option.some.injEq] at h; subst h; exact ⟨y, rfl, h1⟩
    | succ k => exact mapM_at h2 k x' (by simpa using h)

theorem dok_of {es : List Nat} (hm : c.mapM (compDrawn P nt ops b es) = some ls) (hd : drawOK P ops b c ls = true) : DOK P nt ops b c ls := by
  unfold drawOK at hd
  simp only [Bool.and_eq_true, List.all_eq_true, List.mem_range, List.any_eq_true] at hd
  obtain ⟨⟨⟨hc, hl⟩, hs⟩, h1⟩ := hd
  have hc := Nat.eq_of_beq_eq_true hc
  refine ⟨Nat.eq_of_beq_eq_true hl, fun i hi => ?_, fun k hk => ?_⟩
  · obtain ⟨k, hk, hk2⟩ := hs i hi
    exact ⟨k, hk, Nat.eq_of_beq_eq_true hk2⟩
  · have h := h1 k hk
    unfold drawOne at h
    split at h
    · rename_i o l ho hl'
      refine ⟨o, l, ho, hl', ?_⟩
      simp only [Bool.and_eq_true] at h
      obtain ⟨⟨⟨⟨⟨⟨hp, he⟩, hclo⟩, heff⟩, hlo⟩, hacts⟩, hopd⟩ := h
      simp only [List.all_eq_true, List.mem_range] at hp he hclo hopd
      refine ⟨?_, ?_, ?_, ?_, ?_, ?_, ?_, fun x hx => by simpa using hopd x hx⟩
      · have hck : c[k]? = some (cN c k) := by
          unfold cN
          rw [List.getD_eq_getElem?_getD, List.getElem?_eq_getElem (by omega)]
          rfl
        obtain ⟨l1, g1, g2⟩ := mapM_at hm k _ hck
        rw [hl'] at g1
        obtain rfl := Option.some.inj g1
        unfold compDrawn at g2
        rw [ho] at g2
        simp only at g2
        split at g2
        · rename_i l0 hl0
          simp only [Option.some.injEq] at g2
          subst g2
          exact ⟨l0, hl0, rfl, rfl, rfl⟩
        · cases g2
      · intro k' l' hk' hne hl2
        have h := hp k' hk'
        rw [hl2] at h
        simp only [drawPair, Bool.or_eq_true, Bool.and_eq_true, Bool.not_eq_true'] at h
        rcases h with h | ⟨h2, h3⟩
        · exact absurd (Nat.eq_of_beq_eq_true h).symm hne
        · refine ⟨(fun e => by rw [e, beq_true] at h2; cases h2), fun d hd => ?_⟩
          rw [hd] at h3
          simp only [Bool.and_eq_true, Bool.not_eq_true', Bool.or_eq_true] at h3
          refine ⟨fun e => by simp [e] at h3, fun hm => ?_⟩
          have h4 := h3.2.resolve_left (by simp only [List.contains_eq_mem, hm, decide_true]; simp)
          cases hb : Nat.blt k' k with
          | true =>
            have hlt : k' < k := by simpa [Nat.blt_eq] using hb
            rw [hb] at h4
            exact ⟨fun _ => h4, fun x => absurd hlt x⟩
          | false =>
            have hlt : ¬ k' < k := fun x => by rw [show Nat.blt k' k = true from by simpa [Nat.blt_eq] using x] at hb; cases hb
            rw [hb] at h4
            exact ⟨fun x => absurd x hlt, fun _ => h4⟩
      · intro e hea hb
        have h := he e (by simpa using hea)
        simp only [Bool.or_eq_true, Bool.not_eq_true', List.any_eq_true, List.mem_range, hb, Bool.true_eq_false, false_or] at h
        obtain ⟨k', h1, h2⟩ := h
        exact ⟨k', h1, Nat.eq_of_beq_eq_true h2⟩
      · intro k' hk' ha
        have h := hclo k' hk'
        simp only [Bool.or_eq_true, Bool.not_eq_true', List.any_eq_true, ha, Bool.true_eq_false, false_or, Bool.and_eq_true] at h
        obtain ⟨e, h1, h2, h3⟩ := h
        exact ⟨e, by simpa using h1, h2, h3.imp Nat.eq_of_beq_eq_true id⟩
      · intro hl3 k' hk'
        simp only [hl3, Bool.not_true, Bool.false_or, List.all_eq_true, List.mem_range] at heff
        exact heff k' hk'
      · simp only [Bool.or_eq_true, List.any_eq_true, List.mem_range, Bool.and_eq_true] at hlo
        rcases hlo with h | ⟨k', h1, ⟨h2, h3⟩, h4⟩
        · exact .inl (Nat.eq_of_beq_eq_true h)
        · right
          split at h2
          · rename_i l' hl2
            exact ⟨k', l', h1, hl2, h2, h3, Nat.le_of_ble_eq_true h4⟩
          · cases h2
      · intro hl3
        simp only [hl3, Bool.false_or, Bool.not_eq_true'] at hacts
        exact hacts
    · cases h
end

/-! ### Heaps -/

theorem lget_eq : ∀ (l : List LObj) (n : Nat), lget l n = l[n]?
  | [], n => by cases n <;> rfl
  | o :: l, 0 => rfl
  | o :: l, n + 1 => by rw [List.getElem?_cons_succ, ← lget_eq l n]; rfl

theorem hnew_new {h : LHeap} (hg : h.gn ≤ h.nx) (o : LObj) : hget (hnew h o) h.nx = some o := by
  unfold hget hnew
  simp only
  rw [if_neg (by omega), if_pos (by omega), show h.nx + 1 - 1 - h.nx = 0 from by omega]
  rfl

theorem hnew_old {h : LHeap} (hg : h.gn ≤ h.nx) (o : LObj) {id : Nat} (hi : id ≠ h.nx) : hget (hnew h o) id = hget h id := by
  unfold hget hnew
  simp only
  by_cases e1 : id < h.gn
  · rw [if_pos e1, if_pos e1]
  · rw [if_neg e1, if_neg e1]
    by_cases e2 : id < h.nx
    · rw [if_pos (by omega), if_pos e2, show h.nx + 1 - 1 - id = (h.nx - 1 - id) + 1 from by omega]
      rfl
    · rw [if_neg (by omega), if_neg e2]

/-- A heap with blocks more. -/
def ext (h : LHeap) (B : Nat) (f : Nat → LObj) : LHeap :=
  { h with nx := B, b := ((List.range (B - h.nx)).reverse.map fun j => f (h.nx + j)) ++ h.b, esc := 0 }

theorem ext_old {h : LHeap} {B : Nat} {f : Nat → LObj} (hB : h.nx ≤ B) {id : Nat} (hi : id < h.nx) : hget (ext h B f) id = hget h id := by
  unfold hget ext
  simp only
  by_cases e1 : id < h.gn
  · rw [if_pos e1, if_pos e1]
  · rw [if_neg e1, if_neg e1, if_pos (by omega), if_pos hi, lget_eq, lget_eq, List.getElem?_append_right (by simp; omega)]
    congr 1
    simp
    omega

theorem ext_new {h : LHeap} {B : Nat} {f : Nat → LObj} (hg : h.gn ≤ h.nx) {id : Nat} (h1 : h.nx ≤ id) (h2 : id < B) : hget (ext h B f) id = some (f id) := by
  unfold hget ext
  simp only
  rw [if_neg (by omega), if_pos h2, lget_eq, List.getElem?_append_left (by simp; omega), List.getElem?_map, List.getElem?_reverse (by simp; omega)]
  simp only [List.length_range]
  rw [List.getElem?_range (by omega)]
  simp only [Option.map_some, Option.some.injEq]
  congr 1
  omega

theorem ext_ge {h : LHeap} {B : Nat} {f : Nat → LObj} (hg : h.gn ≤ h.nx) (hB : h.nx ≤ B) {id : Nat} (h1 : B ≤ id) : hget (ext h B f) id = none := by
  unfold hget ext
  simp only
  rw [if_neg (by omega), if_neg (by omega)]

theorem hget_some_lt {h : LHeap} (hg : h.gn ≤ h.nx) {id : Nat} {o : LObj} (e : hget h id = some o) : id < h.nx := by
  unfold hget at e
  split at e
  · omega
  · split at e
    · assumption
    · cases e

theorem rcut_mono {ρ ρ' : Rho} (h : Rle ρ ρ') (B : Nat) : Rle (rcut ρ B) (rcut ρ' B) := fun id p e => by
  unfold rcut at e ⊢
  split at e
  · rename_i hlt; rw [if_pos hlt]; exact h _ _ e
  · cases e

theorem rcut_up {ρ : Rho} {B B' : Nat} (h : B ≤ B') : Rle (rcut ρ B) (rcut ρ B') := fun id p e => by
  unfold rcut at e ⊢
  split at e
  · rw [if_pos (by omega)]; exact e
  · cases e

theorem rcut_some {ρ : Rho} {B id : Nat} {p : Pl} (e : rcut ρ B id = some p) : id < B ∧ ρ id = some p := by
  unfold rcut at e
  split at e
  · exact ⟨by assumption, e⟩
  · cases e

theorem Inv.grow {P : Program} {ρ : Rho} {h : LHeap} {w w' : World} (i : Inv P ρ h w) (hw : ∀ (b : Nat) (x : Obj), w.heap[b]? = some x → w'.heap[b]? = some x) : Inv P ρ h w' :=
  { i with obj := fun id o a b => let ⟨p, x, h1, h2, h3⟩ := i.obj id o a b; ⟨p, x, h1, hw _ _ h2, h3⟩ }
end Go.L1

/- A REGION THAT DRAWS ITS ORDER: the trace's laws; what holds when some of it is done. -/
namespace Go.L1
open Go

/-- A trace of an order that the compiler has looked at. -/
structure Ctx (P : Program) (nt : Nat) (ops : Array Oper) (b : Array Nat) (c : List Nat) (ls : List LOper) (call : CallF) (S : Nat → DS) (V : Nat → Value) (t0 : Tm) (h0 : LHeap) : Prop where
  dok : DOK P nt ops b c ls
  s0 : S 0 = ⟨t0, h0, 0, []⟩
  step : ∀ (k : Nat) (l : LOper), ls[k]? = some l → DStep call (S k) l (V k) (S (k + 1))

section
variable {P : Program} {nt : Nat} {ops : Array Oper} {b : Array Nat} {c : List Nat} {ls : List LOper} {call : CallF} {S : Nat → DS} {V : Nat → Value} {t0 : Tm} {h0 : LHeap}

theorem dnext_t (s : DS) (l : LOper) (v : Value) (h' : LHeap) : (dnext s l v h').t = dset s.t l.dst v := by unfold dnext; cases l.eff <;> rfl
theorem dnext_n (s : DS) (l : LOper) (v : Value) (h' : LHeap) : (dnext s l v h').n = s.n + (if l.eff then 1 else 0) := by unfold dnext; cases l.eff <;> rfl

theorem Ctx.at (x : Ctx P nt ops b c ls call S V t0 h0) {k : Nat} (hk : k < ls.length) : ∃ o l, ops[cN c k]? = some o ∧ ls[k]? = some l ∧ DOne P nt ops b c ls k o l := x.dok.one k (by rw [← x.dok.len]; exact hk)

theorem Ctx.neff (x : Ctx P nt ops b c ls call S V t0 h0) {k : Nat} {l : LOper} (hl : ls[k]? = some l) (he : l.eff = false) :
    (S (k + 1)).h = (S k).h ∨ (∃ ob, (S (k + 1)).h = hnew (S k).h ob) := by
  have st := x.step k l hl
  have hk : k < ls.length := (List.getElem?_eq_some_iff.1 hl).1
  obtain ⟨o, l', _, hl', one⟩ := x.at hk
  rw [hl] at hl'
  obtain rfl := Option.some.inj hl'
  have hac := one.acts he
  have hv := st.val
  unfold dval at hv
  split at hv
  · cases hkd : l.op.kind with
    | pure => exact .inl (pure_form hkd hv).1
    | read => exact .inl (read_same ((kind_read _).1 hkd) hv)
    | alloc =>
      obtain ⟨ob, h1, _⟩ := alloc_form hkd hv
      exact .inr ⟨ob, h1⟩
    | eff => rw [(kind_acts _).1 hkd] at hac; cases hac
  · simp only [Option.some.injEq, Prod.mk.injEq] at hv
    exact .inl hv.2.symm

theorem Ctx.nx_le (x : Ctx P nt ops b c ls call S V t0 h0) {k : Nat} {l : LOper} (hl : ls[k]? = some l) : (S k).h.nx ≤ (S (k + 1)).h.nx := by
  cases he : l.eff with
  | true => exact ((x.step k l hl).nx he).1
  | false =>
    rcases x.neff hl he with h | ⟨ob, h⟩ <;> rw [h]
    · exact Nat.le_refl _
    · exact Nat.le_succ _

theorem Ctx.gn (x : Ctx P nt ops b c ls call S V t0 h0) : ∀ {k : Nat}, k ≤ ls.length → (S k).h.gn = h0.gn := by
  intro k
  induction k with
  | zero => intro _; rw [x.s0]
  | succ k ih =>
    intro hk
    obtain ⟨o, l, _, hl, _⟩ := x.at (k := k) (by omega)
    rw [← ih (by omega)]
    cases he : l.eff with
    | true => exact ((x.step k l hl).nx he).2
    | false => rcases x.neff hl he with h | ⟨ob, h⟩ <;> rw [h]; rfl

theorem Ctx.mono (x : Ctx P nt ops b c ls call S V t0 h0) {k k' : Nat} (hkk : k ≤ k') (hk : k' ≤ ls.length) : (S k).h.nx ≤ (S k').h.nx := by
  induction k' with
  | zero => rw [Nat.le_zero.1 hkk]; exact Nat.le_refl _
  | succ k' ih =>
    rcases Nat.lt_or_ge k (k' + 1) with g | g
    · obtain ⟨o, l, _, hl, _⟩ := x.at (k := k') (by omega)
      exact Nat.le_trans (ih (by omega) (by omega)) (x.nx_le hl)
    · rw [show k = k' + 1 from by omega]; exact Nat.le_refl _

theorem Ctx.snaps (x : Ctx P nt ops b c ls call S V t0 h0) {e : Nat} {le : LOper} (hle : ls[e]? = some le) (hef : le.eff = true) : ∀ {k : Nat}, e < k → k ≤ ls.length →
    (S e).n < (S k).n ∧ (S k).snaps[(S k).n - 1 - (S e).n]? = some (S e).h := by
  intro k
  induction k with
  | zero => intro h; omega
  | succ k ih =>
    intro hk hlen
    obtain ⟨o, l, _, hl, _⟩ := x.at (k := k) (by omega)
    have st := x.step k l hl
    have hnx := st.next
    by_cases hek : e = k
    · subst hek
      rw [hl] at hle
      obtain rfl := Option.some.inj hle
      have hs : S (e + 1) = ⟨dset (S e).t l.dst (V e), (S (e + 1)).h, (S e).n + 1, (S e).h :: (S e).snaps⟩ := by
        rw [hnx]; simp [dnext, hef]
      rw [hs]
      simp
    · obtain ⟨i1, i2⟩ := ih (by omega) (by omega)
      cases he : l.eff with
      | true =>
        have hs : S (k + 1) = ⟨dset (S k).t l.dst (V k), (S (k + 1)).h, (S k).n + 1, (S k).h :: (S k).snaps⟩ := by
          rw [hnx]; simp [dnext, he]
        rw [hs]
        simp only
        refine ⟨by omega, ?_⟩
        rw [show (S k).n + 1 - 1 - (S e).n = ((S k).n - 1 - (S e).n) + 1 from by omega, List.getElem?_cons_succ]
        exact i2
      | false =>
        have hs : S (k + 1) = ⟨dset (S k).t l.dst (V k), (S (k + 1)).h, (S k).n, (S k).snaps⟩ := by
          rw [hnx]; simp [dnext, he]
        rw [hs]
        exact ⟨i1, i2⟩

theorem Ctx.n_effs (x : Ctx P nt ops b c ls call S V t0 h0) : ∀ {k : Nat}, k ≤ ls.length → (S k).n = effs ls k := by
  intro k
  induction k with
  | zero => intro _; rw [x.s0]; rfl
  | succ k ih =>
    intro hk
    obtain ⟨o, l, _, hl, _⟩ := x.at (k := k) (by omega)
    have hn : (S (k + 1)).n = (S k).n + (if l.eff then 1 else 0) := by rw [(x.step k l hl).next, dnext_n]
    rw [hn, ih (by omega)]
    unfold effs
    rw [List.take_add_one, hl, List.countP_append]
    simp only [Option.toList_some, List.countP_singleton]

theorem effs_mono (ls : List LOper) {k k' : Nat} (h : k ≤ k') : effs ls k ≤ effs ls k' := by
  unfold effs
  obtain ⟨d, rfl⟩ : ∃ d, k' = k + d := ⟨k' - k, by omega⟩
  rw [List.take_add, List.countP_append]
  omega

theorem Ctx.frame_old (x : Ctx P nt ops b c ls call S V t0 h0) {d : Nat} : ∀ {k : Nat}, k ≤ ls.length → (∀ k' l', k' < k → ls[k']? = some l' → l'.dst ≠ some d) → (S k).t d = t0 d := by
  intro k
  induction k with
  | zero => intro _ _; rw [x.s0]
  | succ k ih =>
    intro hk hn
    obtain ⟨o, l, _, hl, _⟩ := x.at (k := k) (by omega)
    rw [(x.step k l hl).next, dnext_t]
    have hne := hn k l (by omega) hl
    have hi := ih (by omega) (fun k' l' h => hn k' l' (by omega))
    cases hd : l.dst with
    | none => exact hi
    | some d' =>
      show fset (S k).t d' (V k) d = _
      rw [fset_other _ _ (fun e => hne (by rw [hd, e]))]
      exact hi

theorem Ctx.frame_new (x : Ctx P nt ops b c ls call S V t0 h0) {d k1 : Nat} {l1 : LOper} (h1 : ls[k1]? = some l1) (hd1 : l1.dst = some d) : ∀ {k : Nat}, k1 < k → k ≤ ls.length → (S k).t d = V k1 := by
  intro k
  induction k with
  | zero => intro h; omega
  | succ k ih =>
    intro hk hlen
    obtain ⟨o, l, _, hl, one⟩ := x.at (k := k) (by omega)
    rw [(x.step k l hl).next, dnext_t]
    by_cases e : k1 = k
    · subst e
      rw [hl] at h1
      obtain rfl := Option.some.inj h1
      rw [hd1]
      exact fset_same _ _ _
    · have hi := ih (by omega) (by omega)
      have hne : l.dst ≠ some d := ((one.pair k1 l1 (by rw [← x.dok.len]; omega) e h1).2 d hd1).1
      cases hd : l.dst with
      | none => exact hi
      | some d' =>
        show fset (S k).t d' (V k) d = _
        rw [fset_other _ _ (fun e => hne (by rw [hd, e]))]
        exact hi

/-- Does the k-th operation make a block? -/
def isAl (S : Nat → DS) (k : Nat) : Prop := (S (k + 1)).h.nx = (S k).h.nx + 1

/-- Between effects: blocks are made, and nothing else. -/
theorem Ctx.seg (x : Ctx P nt ops b c ls call S V t0 h0) {M : Nat} (hs : (S M).h.nx = (S M).h.gn + (S M).h.b.length) : ∀ {q : Nat}, M ≤ q → q ≤ ls.length → (∀ k l, M ≤ k → k < q → ls[k]? = some l → l.eff = false) →
    (S q).h.gn = (S M).h.gn ∧ (S q).h.g = (S M).h.g ∧ (S q).h.esc = (S M).h.esc ∧ (S q).h.nx = (S q).h.gn + (S q).h.b.length ∧ (∀ id, id < (S M).h.nx → hget (S q).h id = hget (S M).h id) ∧
      (∀ k, M ≤ k → k < q → isAl S k → hget (S q).h (S k).h.nx = hget (S (k + 1)).h (S k).h.nx) ∧ (∀ id, (S M).h.nx ≤ id → id < (S q).h.nx → ∃ k, M ≤ k ∧ k < q ∧ id = (S k).h.nx ∧ isAl S k) := by
  intro q
  induction q with
  | zero =>
    intro hM _ _
    have : M = 0 := by omega
    subst this
    exact ⟨rfl, rfl, rfl, hs, fun _ _ => rfl, fun k _ h => by omega, fun id h1 h2 => by omega⟩
  | succ q ih =>
    intro hM hlen hne
    by_cases e : M = q + 1
    · subst e
      exact ⟨rfl, rfl, rfl, hs, fun _ _ => rfl, fun k h1 h => by omega, fun id h1 h2 => by omega⟩
    · obtain ⟨i1, i2, i3, i4, i5, i6, i7⟩ := ih (by omega) (by omega) (fun k l h1 h2 => hne k l h1 (by omega))
      obtain ⟨o, l, _, hl, _⟩ := x.at (k := q) (by omega)
      have hmo := x.mono (k := M) (k' := q) (by omega) (by omega)
      rcases x.neff hl (hne q l (by omega) (by omega) hl) with hh | ⟨ob, hh⟩
      · rw [hh]
        refine ⟨i1, i2, i3, i4, i5, fun k h1 h2 h3 => ?_, fun id h1 h2 => ?_⟩
        · have hkq : k ≠ q := fun e => by subst e; unfold isAl at h3; rw [hh] at h3; omega
          exact i6 k h1 (by omega) h3
        · obtain ⟨k, a1, a2, a3⟩ := i7 id h1 h2
          exact ⟨k, a1, by omega, a3⟩
      · have hgn : (S q).h.gn ≤ (S q).h.nx := by omega
        rw [hh]
        refine ⟨i1, i2, i3, by simp only [hnew, List.length_cons]; omega, fun id h1 => ?_, fun k h1 h2 h3 => ?_, fun id h1 h2 => ?_⟩
        · rw [hnew_old hgn _ (by omega)]; exact i5 id h1
        · by_cases hkq : k = q
          · subst hkq; rw [hh]
          · have := x.mono (k := k + 1) (k' := q) (by omega) (by omega)
            unfold isAl at h3
            rw [hnew_old hgn _ (by omega)]
            exact i6 k h1 (by omega) h3
        · simp only [hnew] at h2
          by_cases hid : id = (S q).h.nx
          · exact ⟨q, by omega, by omega, hid, by unfold isAl; rw [hh]; rfl⟩
          · obtain ⟨k, a1, a2, a3⟩ := i7 id h1 (by omega)
            exact ⟨k, a1, by omega, a3⟩
end

/-- What holds when the operations D are done, M of them up to the last effect. -/
structure J (P : Program) (nt : Nat) (ls : List LOper) (S : Nat → DS) (V : Nat → Value) (t0 : Tm) (ρ0 : Rho) (h0 : LHeap) (w0 : World) (a0 : Act) (D : Nat → Prop) (M : Nat) (ρ : Rho) (a : Act) (w : World) : Prop where
  ge : ∀ k, k < M → D k
  top : M ≤ ls.length
  eff : ∀ k l, D k → ls[k]? = some l → l.eff = true → k < M
  inv : Inv P (rcut ρ (S M).h.nx) (S M).h w
  dom : ∀ id p, ρ id = some p → id < (S M).h.nx ∨ ∃ k, D k ∧ M ≤ k ∧ k < ls.length ∧ id = (S k).h.nx ∧ isAl S k
  pend : ∀ k, D k → M ≤ k → k < ls.length → isAl S k → ∃ p x ob, ρ (S k).h.nx = some p ∧ hget (S (k + 1)).h (S k).h.nx = some ob ∧ ob.owned = true ∧ w.heap[p.b]? = some x ∧
    OR P (rcut ρ ((S k).h.nx + 1)) p ob x ∧ w0.heap.size ≤ p.b ∧ (∀ id o q, hget (S M).h id = some o → o.alive = true → ρ id = some q → q.b ≠ p.b) ∧
    (∀ k2 q, D k2 → M ≤ k2 → k2 ≠ k → k2 < ls.length → isAl S k2 → ρ (S k2).h.nx = some q → q.b ≠ p.b)
  new : ∀ k l d, D k → ls[k]? = some l → l.dst = some d → VR (rcut ρ (S (k + 1)).h.nx) (V k) (a.tmps.getD d undef)
  old : ∀ d, (∀ k l, D k → ls[k]? = some l → l.dst ≠ some d) → VR (rcut ρ h0.nx) (t0 d) (a.tmps.getD d undef)
  fr : Fr ρ0 h0 w0 (rcut ρ (S M).h.nx) (S M).h w
  size : a.tmps.size = nt
  defs : a.defers = a0.defers

section
variable {P : Program} {nt : Nat} {ops : Array Oper} {b : Array Nat} {c : List Nat} {ls : List LOper} {call : CallF} {S : Nat → DS} {V : Nat → Value} {t0 : Tm} {h0 : LHeap}
variable {ρ0 : Rho} {w0 : World} {a0 : Act} {D : Nat → Prop} {M : Nat} {ρ : Rho} {a : Act} {w : World}

/-- A heap of what is done goes with the world. -/
theorem J.build (x : Ctx P nt ops b c ls call S V t0 h0) (j : J P nt ls S V t0 ρ0 h0 w0 a0 D M ρ a w) {Y : LHeap} (hB : (S M).h.nx ≤ Y.nx) (hgn : Y.gn = (S M).h.gn) (hsz : Y.nx = Y.gn + Y.b.length) (hesc : Y.esc ≤ (S M).h.esc)
    (h1 : ∀ id, id < (S M).h.nx → hget Y id = hget (S M).h id)
    (h2 : ∀ id o, (S M).h.nx ≤ id → hget Y id = some o → o.alive = true → ∃ k, D k ∧ M ≤ k ∧ k < ls.length ∧ id = (S k).h.nx ∧ isAl S k ∧ hget (S (k + 1)).h id = some o) : Inv P (rcut ρ Y.nx) Y w := by
  have hmg := j.inv.gn_le
  have hlt : ∀ {id o}, hget Y id = some o → id < Y.nx := fun e => hget_some_lt (by omega) e
  refine ⟨fun id p h => (rcut_some h).1, ?_, ?_, hsz, ?_, by rw [hgn]; exact j.inv.num, ?_, ?_⟩
  · intro id o ho ha
    rcases Nat.lt_or_ge id (S M).h.nx with g | g
    · rw [h1 id g] at ho
      obtain ⟨p, y, g1, g2, g3⟩ := j.inv.obj id o ho ha
      exact ⟨p, y, rcut_up hB _ _ g1, g2, g3.mono (rcut_up hB)⟩
    · obtain ⟨k, k1, k2, k3, k4, k5, k6⟩ := h2 id o g ho ha
      obtain ⟨p, y, ob, g1, g2, _, g4, g5, _⟩ := j.pend k k1 k2 k3 k5
      subst k4
      rw [k6] at g2
      obtain rfl := Option.some.inj g2
      have := hlt ho
      exact ⟨p, y, by rw [rcut_lt this]; exact g1, g4, g5.mono (rcut_up (by omega))⟩
  · intro id id' o o' p p' ho ho' hw ha hp hp' hb
    have hp := (rcut_some hp).2
    have hp' := (rcut_some hp').2
    rcases Nat.lt_or_ge id (S M).h.nx with g | g
    · rw [h1 id g] at ho
      rcases Nat.lt_or_ge id' (S M).h.nx with g' | g'
      · rw [h1 id' g'] at ho'
        exact j.inv.inj id id' o o' p p' ho ho' hw ha (by rw [rcut_lt g]; exact hp) (by rw [rcut_lt g']; exact hp') hb
      · obtain ⟨k, k1, k2, k3, k4, k5, k6⟩ := h2 id' o' g' ho' ha
        obtain ⟨q, y, ob, g1, _, _, _, _, _, g7, _⟩ := j.pend k k1 k2 k3 k5
        rw [← k4, hp'] at g1
        obtain rfl := Option.some.inj g1
        exact absurd hb (g7 id o p ho (owned_alive hw) hp)
    · obtain ⟨k, k1, k2, k3, k4, k5, k6⟩ := h2 id o g ho (owned_alive hw)
      obtain ⟨q, y, ob, g1, _, _, _, _, _, g7, g8⟩ := j.pend k k1 k2 k3 k5
      rw [← k4, hp] at g1
      obtain rfl := Option.some.inj g1
      rcases Nat.lt_or_ge id' (S M).h.nx with g' | g'
      · rw [h1 id' g'] at ho'
        exact absurd hb.symm (g7 id' o' p' ho' ha hp')
      · obtain ⟨k', k1', k2', k3', k4', k5', k6'⟩ := h2 id' o' g' ho' ha
        by_cases e : k' = k
        · rw [k4, k4', e]
        · exact absurd hb.symm (g8 k' p' k1' k2' e k3' k5' (by rw [← k4']; exact hp'))
  · intro g hg
    exact rcut_up hB _ _ (j.inv.globs g hg)
  · intro g o ho hg
    rw [h1 g (by omega)] at ho
    exact j.inv.gro g o ho (by omega)
  · intro id o ho he
    rcases Nat.lt_or_ge id (S M).h.nx with g | g
    · rw [h1 id g] at ho
      rw [hgn]
      exact j.inv.esc id o ho (by omega)
    · by_cases ha : o.alive = true
      · obtain ⟨k, k1, k2, k3, k4, k5, k6⟩ := h2 id o g ho ha
        obtain ⟨p, y, ob, g1, g2, _, g4, g5, _⟩ := j.pend k k1 k2 k3 k5
        rw [← k4, k6] at g2
        obtain rfl := Option.some.inj g2
        exact (g5.ob (B := id + 1) (fun id' p' h => by have := (rcut_some h).1; omega)).mono (Nat.le_max_left _ _)
      · cases o <;> first | exact absurd rfl ha | trivial

/-- The heap at a place up to which all is done. -/
theorem J.at (x : Ctx P nt ops b c ls call S V t0 h0) (j : J P nt ls S V t0 ρ0 h0 w0 a0 D M ρ a w) {q : Nat} (hM : M ≤ q) (hq : q ≤ ls.length) (hall : ∀ k, k < q → D k) : Inv P (rcut ρ (S q).h.nx) (S q).h w := by
  have hsz := j.inv.size
  obtain ⟨s1, s2, s3, s4, s5, s6, s7⟩ := x.seg (M := M) hsz hM hq (fun k l h1 h2 hl => by
    cases he : l.eff with
    | false => rfl
    | true => have := j.eff k l (hall k h2) hl he; omega)
  have hmo := x.mono hM hq
  refine j.build x hmo s1 s4 (by omega) s5 (fun id o h1 ho _ => ?_)
  have hgn := j.inv.gn_le
  obtain ⟨k, k1, k2, k3, k4⟩ := s7 id h1 (hget_some_lt (by omega) ho)
  refine ⟨k, hall k k2, k1, by omega, k3, k4, ?_⟩
  rw [k3] at ho ⊢
  rw [s6 k k1 k2 k4] at ho
  exact ho
end
end Go.L1

/- A REGION THAT DRAWS ITS ORDER: any order goes with the one that was looked at. -/
namespace Go.L1
open Go

/-- A frame of some temporaries alone. -/
def actT (a : Act) (T : List Nat) : Act := { tmps := (Array.range a.tmps.size).map fun i => if T.contains i then a.tmps.getD i undef else undef, defers := a.defers }

theorem actT_get (a : Act) (T : List Nat) (d : Nat) : (actT a T).tmps.getD d undef = if T.contains d then a.tmps.getD d undef else undef := by
  unfold actT
  rcases Nat.lt_or_ge d a.tmps.size with g | g
  · simp [Array.getD_eq_getD_getElem?, g]
  · simp only [Array.getD_eq_getD_getElem?]
    rw [Array.getElem?_eq_none (by simpa using g), Array.getElem?_eq_none g]
    simp

theorem put_get (a : Act) (dst : Option Nat) (v : Value) (d : Nat) : (a.put dst v).tmps.getD d undef = if dst = some d ∧ d < a.tmps.size then v else a.tmps.getD d undef := by
  cases dst with
  | none => simp [Act.put]
  | some d' =>
    simp only [Act.put, Array.getD_eq_getD_getElem?, Array.getElem?_setIfInBounds, Option.some.injEq]
    by_cases e : d' = d
    · subst e
      rw [if_pos rfl]
      by_cases g : d' < a.tmps.size
      · rw [if_pos g, if_pos ⟨rfl, g⟩]; rfl
      · rw [if_neg g, if_neg (fun h => g h.2), Array.getElem?_eq_none (by omega)]
    · rw [if_neg e, if_neg (fun h => e h.1)]

section
variable {P : Program} {nt : Nat} {ops : Array Oper} {b : Array Nat} {c : List Nat} {ls : List LOper} {call : CallF} {S : Nat → DS} {V : Nat → Value} {t0 : Tm} {h0 : LHeap}
variable {ρ0 : Rho} {w0 : World} {a0 : Act} {D : Nat → Prop} {M : Nat} {ρ : Rho} {a : Act} {w : World}

theorem Ctx.unique (x : Ctx P nt ops b c ls call S V t0 h0) {k k' d : Nat} {l l' : LOper} (hl : ls[k]? = some l) (hl' : ls[k']? = some l') (hd : l.dst = some d) (hd' : l'.dst = some d) : k = k' := by
  have hk : k < ls.length := (List.getElem?_eq_some_iff.1 hl).1
  have hk' : k' < ls.length := (List.getElem?_eq_some_iff.1 hl').1
  obtain ⟨o, l1, _, hl1, one⟩ := x.at hk
  rw [hl] at hl1
  obtain rfl := Option.some.inj hl1
  rcases Nat.decEq k' k with e | e
  · exact absurd hd ((one.pair k' l' (by rw [← x.dok.len]; exact hk') e hl').2 d hd').1
  · exact e.symm

/-- What an operation looks at is there. -/
theorem J.looks (x : Ctx P nt ops b c ls call S V t0 h0) (j : J P nt ls S V t0 ρ0 h0 w0 a0 D M ρ a w) {k : Nat} (hk : k < ls.length) (hD : ¬ D k) (hanc : ∀ k', k' < ls.length → anc b c k k' = true → D k')
    (hclo : ∀ k1 k2, k1 < ls.length → k2 < ls.length → D k1 → anc b c k1 k2 = true → D k2) {o : Oper} {l : LOper} (hl : ls[k]? = some l) (one : DOne P nt ops b c ls k o l) {d : Nat} (hd : d ∈ tmpsOf o l) :
    VR (rcut ρ (S k).h.nx) ((S k).t d) (a.tmps.getD d undef) := by
  have hold : (∀ k' l', k' < k → ls[k']? = some l' → l'.dst ≠ some d) → (∀ k' l', D k' → ls[k']? = some l' → l'.dst ≠ some d) → VR (rcut ρ (S k).h.nx) ((S k).t d) (a.tmps.getD d undef) := by
    intro h1 h2
    rw [x.frame_old (by omega) h1]
    have := j.old d h2
    have hm := x.mono (k := 0) (k' := k) (Nat.zero_le _) (by omega)
    rw [x.s0] at hm
    exact this.mono (rcut_up hm)
  by_cases hw : ∃ (k' : Nat) (l' : LOper), ls[k']? = some l' ∧ l'.dst = some d
  · obtain ⟨k', l', hl', hd'⟩ := hw
    have hk' : k' < ls.length := (List.getElem?_eq_some_iff.1 hl').1
    by_cases e : k' = k
    · subst e
      exact hold (fun k2 l2 h2 hl2 hd2 => by have := x.unique hl2 hl' hd2 hd'; omega) (fun k2 l2 h2 hl2 hd2 => by have := x.unique hl2 hl' hd2 hd'; subst this; exact hD h2)
    · have hp := ((one.pair k' l' (by rw [← x.dok.len]; exact hk') e hl').2 d hd').2 hd
      by_cases hlt : k' < k
      · have hDk := hanc k' hk' (hp.1 hlt)
        rw [x.frame_new hl' hd' hlt (by omega)]
        exact (j.new k' l' d hDk hl' hd').mono (rcut_up (x.mono (by omega) (by omega)))
      · have hnD : ¬ D k' := fun h => hD (hclo k' k hk' hk h (hp.2 hlt))
        exact hold (fun k2 l2 h2 hl2 hd2 => by have := x.unique hl2 hl' hd2 hd'; omega) (fun k2 l2 h2 hl2 hd2 => by have := x.unique hl2 hl' hd2 hd'; subst this; exact hnD h2)
  · exact hold (fun k2 l2 _ hl2 hd2 => hw ⟨k2, l2, hl2, hd2⟩) (fun k2 l2 _ hl2 hd2 => hw ⟨k2, l2, hl2, hd2⟩)

/-- The temporaries behind one more operation. -/
theorem J.temps (x : Ctx P nt ops b c ls call S V t0 h0) (j : J P nt ls S V t0 ρ0 h0 w0 a0 D M ρ a w) {k : Nat} {l : LOper} (hl : ls[k]? = some l) (hD : ¬ D k) {ρ' : Rho} (hle : Rle ρ ρ') {v' : Value}
    (hv : VR (rcut ρ' (S (k + 1)).h.nx) (V k) v') (hr : v' = undef ∨ ∀ d, l.dst = some d → d < nt) :
    (∀ k1 l1 d, (D k1 ∨ k1 = k) → ls[k1]? = some l1 → l1.dst = some d → VR (rcut ρ' (S (k1 + 1)).h.nx) (V k1) ((a.put l.dst v').tmps.getD d undef)) ∧
      (∀ d, (∀ k1 l1, (D k1 ∨ k1 = k) → ls[k1]? = some l1 → l1.dst ≠ some d) → VR (rcut ρ' h0.nx) (t0 d) ((a.put l.dst v').tmps.getD d undef)) := by
  refine ⟨fun k1 l1 d h1 hl1 hd => ?_, fun d hn => ?_⟩
  · rw [put_get]
    rcases h1 with h1 | rfl
    · have hne : l.dst ≠ some d := fun e => by have := x.unique hl1 hl hd e; subst this; exact hD h1
      rw [if_neg (fun h => hne h.1)]
      exact (j.new k1 l1 d h1 hl1 hd).mono (rcut_mono hle _)
    · rw [hl] at hl1
      obtain rfl := Option.some.inj hl1
      by_cases g : d < a.tmps.size
      · rw [if_pos ⟨hd, g⟩]; exact hv
      · rw [if_neg (fun h => g h.2)]
        rcases hr with rfl | hr
        · simp only [Array.getD_eq_getD_getElem?, Array.getElem?_eq_none (Nat.le_of_not_lt g), Option.getD_none]; exact hv
        · exact absurd (by rw [j.size]; exact hr d hd) g
  · rw [put_get, if_neg (fun h => hn k l (.inr rfl) hl h.1)]
    exact (j.old d (fun k1 l1 h1 hl1 => hn k1 l1 (.inl h1) hl1)).mono (rcut_mono hle _)

/-- One more operation that does nothing with the memory. -/
theorem J.pure (x : Ctx P nt ops b c ls call S V t0 h0) (j : J P nt ls S V t0 ρ0 h0 w0 a0 D M ρ a w) {k : Nat} {l : LOper} (hl : ls[k]? = some l) (hD : ¬ D k) (he : l.eff = false) (hh : (S (k + 1)).h = (S k).h) {v' : Value}
    (hv : VR (rcut ρ (S (k + 1)).h.nx) (V k) v') (hr : v' = undef ∨ ∀ d, l.dst = some d → d < nt) : J P nt ls S V t0 ρ0 h0 w0 a0 (fun k1 => D k1 ∨ k1 = k) M ρ (a.put l.dst v') w := by
  obtain ⟨t1, t2⟩ := j.temps x hl hD (Rle.refl ρ) hv hr
  have hna : ¬ isAl S k := fun h => by unfold isAl at h; rw [hh] at h; omega
  refine ⟨fun k1 h => .inl (j.ge k1 h), j.top, ?_, j.inv, ?_, ?_, t1, t2, j.fr, by rw [Act.size_put]; exact j.size, by rw [Act.defers_put]; exact j.defs⟩
  · rintro k1 l1 (h | rfl) hl1 he1
    · exact j.eff k1 l1 h hl1 he1
    · rw [hl] at hl1
      obtain rfl := Option.some.inj hl1
      rw [he] at he1; cases he1
  · intro id p hp
    rcases j.dom id p hp with h | ⟨k1, h1, h2⟩
    · exact .inl h
    · exact .inr ⟨k1, .inl h1, h2⟩
  · rintro k1 (h | rfl) h2 h3 h4
    · obtain ⟨p, y, ob, g1, g2, g3, g4, g5, g6, g7, g8⟩ := j.pend k1 h h2 h3 h4
      refine ⟨p, y, ob, g1, g2, g3, g4, g5, g6, g7, fun k2 q hk2 a1 a2 a3 a4 a5 => ?_⟩
      rcases hk2 with hk2 | rfl
      · exact g8 k2 q hk2 a1 a2 a3 a4 a5
      · exact absurd a4 hna
    · exact absurd h4 hna

/-- One more operation that makes a block. -/
theorem J.alloc (x : Ctx P nt ops b c ls call S V t0 h0) (j : J P nt ls S V t0 ρ0 h0 w0 a0 D M ρ a w) {k : Nat} {l : LOper} (hl : ls[k]? = some l) (hD : ¬ D k) (hM : M ≤ k) (he : l.eff = false) {ob : LObj} (hh : (S (k + 1)).h = hnew (S k).h ob)
    (hgn : (S k).h.gn ≤ (S k).h.nx) (how : ob.owned = true) {y : Obj} {wd : Option (Nat × Nat)} {w' : World} (hp : w'.heap = w.heap.push y) (hos : w'.os = w.os) (htp : w'.tape = w.tape) (hou : w'.output = w.output)
    (hor : OR P (radd (rcut ρ (S k).h.nx) (S k).h.nx ⟨w.heap.size, 0, wd⟩) ⟨w.heap.size, 0, wd⟩ ob y) {v' : Value}
    (hv : VR (radd (rcut ρ (S k).h.nx) (S k).h.nx ⟨w.heap.size, 0, wd⟩) (V k) v') (hr : v' = undef ∨ ∀ d, l.dst = some d → d < nt) :
    J P nt ls S V t0 ρ0 h0 w0 a0 (fun k1 => D k1 ∨ k1 = k) M (radd ρ (S k).h.nx ⟨w.heap.size, 0, wd⟩) (a.put l.dst v') w' := by
  have hk : k < ls.length := (List.getElem?_eq_some_iff.1 hl).1
  have hal : isAl S k := by unfold isAl; rw [hh]; rfl
  have hal' : (S (k + 1)).h.nx = (S k).h.nx + 1 := hal
  have hMk := x.mono hM (by omega)
  have hfresh : ρ (S k).h.nx = none := by
    cases hq : ρ (S k).h.nx with
    | none => rfl
    | some q =>
      rcases j.dom _ _ hq with h | ⟨k1, h1, h2, h3, h4, h5⟩
      · omega
      · have h5' : (S (k1 + 1)).h.nx = (S k1).h.nx + 1 := h5
        rcases Nat.lt_trichotomy k1 k with g | g | g
        · have := x.mono (k := k1 + 1) (k' := k) (by omega) (by omega); omega
        · subst g; exact absurd h1 hD
        · have := x.mono (k := k + 1) (k' := k1) (by omega) (by omega); omega
  have hle : Rle ρ (radd ρ (S k).h.nx ⟨w.heap.size, 0, wd⟩) := fun id q hq => by
    rw [radd_other _ _ (fun e => by rw [e, hfresh] at hq; cases hq)]; exact hq
  have hcut : Rle (radd (rcut ρ (S k).h.nx) (S k).h.nx ⟨w.heap.size, 0, wd⟩) (rcut (radd ρ (S k).h.nx ⟨w.heap.size, 0, wd⟩) ((S k).h.nx + 1)) := fun id q hq => by
    by_cases e : id = (S k).h.nx
    · subst e
      rw [radd_same] at hq
      rw [rcut_lt (by omega), radd_same]
      exact hq
    · rw [radd_other _ _ e] at hq
      obtain ⟨q1, q2⟩ := rcut_some hq
      rw [rcut_lt (by omega), radd_other _ _ e]
      exact q2
  have hcutM : rcut (radd ρ (S k).h.nx ⟨w.heap.size, 0, wd⟩) (S M).h.nx = rcut ρ (S M).h.nx := by
    funext id
    unfold rcut
    split
    · rw [radd_other _ _ (by omega)]
    · rfl
  have hpush : ∀ (bb : Nat) (z : Obj), w.heap[bb]? = some z → w'.heap[bb]? = some z := fun bb z h => by
    have hb : bb < w.heap.size := (Array.getElem?_eq_some_iff.1 h).1
    rw [hp, Array.getElem?_push, if_neg (by omega)]; exact h
  have hlt : ∀ {bb : Nat} {z : Obj}, w.heap[bb]? = some z → bb < w.heap.size := fun h => (Array.getElem?_eq_some_iff.1 h).1
  have hsz : w'.heap.size = w.heap.size + 1 := by rw [hp]; simp
  obtain ⟨t1, t2⟩ := j.temps x hl hD hle (v' := v') (by rw [hal']; exact hv.mono hcut) hr
  refine ⟨fun k1 h => .inl (j.ge k1 h), j.top, ?_, ?_, ?_, ?_, t1, t2, ?_, by rw [Act.size_put]; exact j.size, by rw [Act.defers_put]; exact j.defs⟩
  · rintro k1 l1 (h | rfl) hl1 he1
    · exact j.eff k1 l1 h hl1 he1
    · rw [hl] at hl1
      obtain rfl := Option.some.inj hl1
      rw [he] at he1; cases he1
  · rw [hcutM]; exact j.inv.grow hpush
  · intro id p hid
    by_cases e : id = (S k).h.nx
    · exact .inr ⟨k, .inr rfl, hM, hk, e, hal⟩
    · rw [radd_other _ _ e] at hid
      rcases j.dom id p hid with h | ⟨k1, h1, h2⟩
      · exact .inl h
      · exact .inr ⟨k1, .inl h1, h2⟩
  · have base : ∀ k1, D k1 → M ≤ k1 → k1 < ls.length → isAl S k1 → (S k1).h.nx ≠ (S k).h.nx := by
      intro k1 h1 _ h3 h4 e
      obtain ⟨p, _, _, g1, _⟩ := j.pend k1 h1 (by assumption) h3 h4
      rw [e, hfresh] at g1; cases g1
    rintro k1 (h | rfl) h2 h3 h4
    · obtain ⟨p, z, ob1, g1, g2, g3, g4, g5, g6, g7, g8⟩ := j.pend k1 h h2 h3 h4
      refine ⟨p, z, ob1, by rw [radd_other _ _ (base k1 h h2 h3 h4)]; exact g1, g2, g3, hpush _ _ g4, g5.mono (rcut_mono hle _), g6, fun id o q ho ha hq => ?_, fun k2 q hk2 a1 a2 a3 a4 a5 => ?_⟩
      · have hid := hget_lt j.inv ho
        rw [radd_other _ _ (by omega)] at hq
        exact g7 id o q ho ha hq
      · rcases hk2 with hk2 | rfl
        · rw [radd_other _ _ (base k2 hk2 a1 a3 a4)] at a5
          exact g8 k2 q hk2 a1 a2 a3 a4 a5
        · rw [radd_same] at a5
          obtain rfl := Option.some.inj a5
          have := hlt g4
          simp only
          omega
    · refine ⟨⟨w.heap.size, 0, wd⟩, y, ob, radd_same _ _ _, by rw [hh]; exact hnew_new hgn ob, how, ?_, hor.mono hcut, j.fr.size, fun id o q ho ha hq => ?_, fun k2 q hk2 a1 a2 a3 a4 a5 => ?_⟩
      · simp only
        rw [hp, Array.getElem?_push, if_pos rfl]
      · have hid := hget_lt j.inv ho
        rw [radd_other _ _ (by omega)] at hq
        obtain ⟨p, z, q1, q2, _⟩ := j.inv.obj id o ho ha
        have q1 := (rcut_some q1).2
        rw [hq] at q1
        obtain rfl := Option.some.inj q1
        have := hlt q2
        simp only
        omega
      · rcases hk2 with hk2 | rfl
        · rw [radd_other _ _ (base k2 hk2 a1 a3 a4)] at a5
          obtain ⟨p, z, _, g1, _, _, g4, _⟩ := j.pend k2 hk2 a1 a3 a4
          rw [a5] at g1
          obtain rfl := Option.some.inj g1
          have := hlt g4
          simp only
          omega
        · exact absurd rfl a2
  · rw [hcutM]
    have f := j.fr
    exact ⟨f.le, f.nx, f.gn, f.g, by have := f.size; omega, hos.trans f.os, htp.trans f.tape, hou.trans f.output, fun bb hb hn => by
      have := f.size
      rw [hp, Array.getElem?_push, if_neg (by omega)]
      exact f.keep bb hb hn, f.img⟩

/-- One more effect. -/
theorem J.effect (x : Ctx P nt ops b c ls call S V t0 h0) (j : J P nt ls S V t0 ρ0 h0 w0 a0 D M ρ a w) {k : Nat} {l : LOper} (hl : ls[k]? = some l) (hD : ¬ D k) (hM : M ≤ k) (hall : ∀ k1, k1 < k → D k1) {ρ' : Rho} {w' : World}
    (hi : Inv P ρ' (S (k + 1)).h w') (hf : Fr (rcut ρ (S k).h.nx) (S k).h w ρ' (S (k + 1)).h w') {v' : Value} (hv : VR ρ' (V k) v') (hr : v' = undef ∨ ∀ d, l.dst = some d → d < nt) :
    J P nt ls S V t0 ρ0 h0 w0 a0 (fun k1 => D k1 ∨ k1 = k) (k + 1) (fun id => if id < (S (k + 1)).h.nx then ρ' id else ρ id) (a.put l.dst v') w' := by
  have hk : k < ls.length := (List.getElem?_eq_some_iff.1 hl).1
  have hk1 := x.nx_le hl
  have hMk := x.mono hM (by omega)
  have hcut : rcut (fun id => if id < (S (k + 1)).h.nx then ρ' id else ρ id) (S (k + 1)).h.nx = ρ' := by
    funext id
    unfold rcut
    split
    · rename_i g
      exact if_pos g
    · rename_i g
      cases hq : ρ' id with
      | none => rfl
      | some q => exact absurd (hi.dom id q hq) g
  have hle : Rle ρ (fun id => if id < (S (k + 1)).h.nx then ρ' id else ρ id) := fun id q hq => by
    show (if id < (S (k + 1)).h.nx then ρ' id else ρ id) = some q
    by_cases g : id < (S k).h.nx
    · rw [if_pos (by omega)]
      exact hf.le id q (by rw [rcut_lt g]; exact hq)
    · by_cases g2 : id < (S (k + 1)).h.nx
      · exfalso
        rcases j.dom id q hq with h | ⟨k2, h1, h2, h3, h4, h5⟩
        · omega
        · have h5' : (S (k2 + 1)).h.nx = (S k2).h.nx + 1 := h5
          rcases Nat.lt_trichotomy k2 k with e | e | e
          · have := x.mono (k := k2 + 1) (k' := k) (by omega) (by omega); omega
          · subst e; exact hD h1
          · have := x.mono (k := k + 1) (k' := k2) (by omega) (by omega); omega
      · rw [if_neg g2]; exact hq
  have hiK := j.at x hM (by omega) hall
  obtain ⟨t1, t2⟩ := j.temps x hl hD hle (v' := v') (by rw [hcut]; exact hv) hr
  have hlt : ∀ {bb : Nat} {z : Obj}, w.heap[bb]? = some z → bb < w.heap.size := fun h => (Array.getElem?_eq_some_iff.1 h).1
  -- what is pending behind the effect
  have hfar : ∀ k1, (D k1 ∨ k1 = k) → k + 1 ≤ k1 → D k1 ∧ M ≤ k1 := fun k1 h g => ⟨h.resolve_right (by omega), by omega⟩
  -- a pending block lies apart from all that the effect could see
  have hapart : ∀ k1 p, D k1 → k + 1 ≤ k1 → k1 < ls.length → isAl S k1 → ρ (S k1).h.nx = some p → ∀ id o q, hget (S k).h id = some o → o.alive = true → rcut ρ (S k).h.nx id = some q → q.b ≠ p.b := by
    intro k1 p h1 h2 h3 h4 h5 id o q ho ha hq
    obtain ⟨p', z, ob, g1, g2, g3, g4, g5, g6, g7, g8⟩ := j.pend k1 h1 (by omega) h3 h4
    rw [h5] at g1
    obtain rfl := Option.some.inj g1
    obtain ⟨_, hq2⟩ := rcut_some hq
    obtain ⟨s1, s2, s3, s4, s5, s6, s7⟩ := x.seg (M := M) j.inv.size hM (by omega) (fun k2 l2 a1 a2 a3 => by
      cases he : l2.eff with
      | false => rfl
      | true => have := j.eff k2 l2 (hall k2 a2) a3 he; omega)
    rcases Nat.lt_or_ge id (S M).h.nx with g | g
    · exact g7 id o q (by rw [← s5 id g]; exact ho) ha hq2
    · have hgn := j.inv.gn_le
      obtain ⟨k2, a1, a2, a3, a4⟩ := s7 id g (hget_some_lt (by omega) ho)
      exact g8 k2 q (hall k2 a2) a1 (by omega) (by omega) a4 (by rw [← a3]; exact hq2)
  refine ⟨fun k1 h => ?_, by omega, ?_, by rw [hcut]; exact hi, ?_, ?_, t1, t2, ?_, by rw [Act.size_put]; exact j.size, by rw [Act.defers_put]; exact j.defs⟩
  · rcases Nat.lt_or_ge k1 k with g | g
    · exact .inl (hall k1 g)
    · exact .inr (by omega)
  · rintro k1 l1 (h | rfl) hl1 he1
    · have := j.eff k1 l1 h hl1 he1; omega
    · omega
  · intro id p hid
    by_cases g : id < (S (k + 1)).h.nx
    · exact .inl g
    · have hid : (if id < (S (k + 1)).h.nx then ρ' id else ρ id) = some p := hid
      rw [if_neg g] at hid
      rcases j.dom id p hid with h | ⟨k1, h1, h2, h3, h4, h5⟩
      · omega
      · refine .inr ⟨k1, .inl h1, ?_, h3, h4, h5⟩
        have h5' : (S (k1 + 1)).h.nx = (S k1).h.nx + 1 := h5
        rcases Nat.lt_trichotomy k1 k with e | e | e
        · have := x.mono (k := k1 + 1) (k' := k) (by omega) (by omega); omega
        · subst e; exact absurd h1 hD
        · exact e
  · intro k1 h h2 h3 h4
    obtain ⟨h, hM1⟩ := hfar k1 h h2
    obtain ⟨p, z, ob, g1, g2, g3, g4, g5, g6, g7, g8⟩ := j.pend k1 h hM1 h3 h4
    have hge : (S (k + 1)).h.nx ≤ (S k1).h.nx := x.mono (by omega) (by omega)
    have hbig : ∀ {k2}, k + 1 ≤ k2 → k2 < ls.length → (if (S k2).h.nx < (S (k + 1)).h.nx then ρ' (S k2).h.nx else ρ (S k2).h.nx) = ρ (S k2).h.nx := fun a1 a2 => by
      have := x.mono (k := k + 1) a1 (by omega)
      rw [if_neg (by omega)]
    have ap := hapart k1 p h h2 h3 h4 g1
    refine ⟨p, z, ob, (hbig h2 h3).trans g1, g2, g3, ?_, g5.mono (rcut_mono hle _), g6, fun id o q ho ha hq => ?_, fun k2 q hk2 a1 a2 a3 a4 a5 => ?_⟩
    · rw [hf.keep p.b (hlt g4) (fun id o q ho hw hq => ap id o q ho (owned_alive hw) hq)]
      exact g4
    · have hid := hget_lt hi ho
      have hq : (if id < (S (k + 1)).h.nx then ρ' id else ρ id) = some q := hq
      rw [if_pos hid] at hq
      intro e
      have hb := hlt g4
      obtain ⟨id0, o0, p0, b1, b2, _, b4, b5⟩ := hf.img id o q ho ha hq (by rw [e]; exact hb)
      exact ap id0 o0 p0 b1 b2 b4 (b5.trans e)
    · obtain ⟨hk2, hM2⟩ := hfar k2 hk2 a1
      have a5 : (if (S k2).h.nx < (S (k + 1)).h.nx then ρ' (S k2).h.nx else ρ (S k2).h.nx) = some q := a5
      rw [hbig a1 a3] at a5
      exact g8 k2 q hk2 hM2 a2 a3 a4 a5
  · rw [hcut]
    refine Fr.trans ?_ hf
    -- from the start to the effect
    have f := j.fr
    obtain ⟨s1, s2, s3, s4, s5, s6, s7⟩ := x.seg (M := M) j.inv.size hM (by omega) (fun k2 l2 a1 a2 a3 => by
      cases he : l2.eff with
      | false => rfl
      | true => have := j.eff k2 l2 (hall k2 a2) a3 he; omega)
    refine ⟨f.le.trans (rcut_up hMk), Nat.le_trans f.nx hMk, s1.trans f.gn, s2.trans f.g, f.size, f.os, f.tape, f.output, f.keep, fun id o p ho ha hp hb => ?_⟩
    obtain ⟨_, hp2⟩ := rcut_some hp
    rcases Nat.lt_or_ge id (S M).h.nx with g | g
    · exact f.img id o p (by rw [← s5 id g]; exact ho) ha (by rw [rcut_lt g]; exact hp2) hb
    · have hgn := j.inv.gn_le
      obtain ⟨k2, a1, a2, a3, a4⟩ := s7 id g (hget_some_lt (by omega) ho)
      obtain ⟨p', z, ob, g1, _, _, _, _, g6, _⟩ := j.pend k2 (hall k2 a2) a1 (by omega) a4
      rw [← a3, hp2] at g1
      obtain rfl := Option.some.inj g1
      omega

/-- All is done. -/
theorem J.done (x : Ctx P nt ops b c ls call S V t0 h0) (j : J P nt ls S V t0 ρ0 h0 w0 a0 D M ρ a w) (hall : ∀ k, k < ls.length → D k) :
    Inv P (rcut ρ (S ls.length).h.nx) (S ls.length).h w ∧ TR (rcut ρ (S ls.length).h.nx) (S ls.length).t a.tmps ∧ Fr ρ0 h0 w0 (rcut ρ (S ls.length).h.nx) (S ls.length).h w := by
  have hM := j.top
  have hMk := x.mono hM (Nat.le_refl _)
  refine ⟨j.at x hM (Nat.le_refl _) hall, fun d => ?_, ?_⟩
  · by_cases hw : ∃ (k' : Nat) (l' : LOper), ls[k']? = some l' ∧ l'.dst = some d
    · obtain ⟨k', l', hl', hd'⟩ := hw
      have hk' : k' < ls.length := (List.getElem?_eq_some_iff.1 hl').1
      rw [x.frame_new hl' hd' hk' (Nat.le_refl _)]
      exact (j.new k' l' d (hall k' hk') hl' hd').mono (rcut_up (x.mono (by omega) (Nat.le_refl _)))
    · rw [x.frame_old (Nat.le_refl _) (fun k2 l2 _ hl2 hd2 => hw ⟨k2, l2, hl2, hd2⟩)]
      have hm := x.mono (k := 0) (k' := ls.length) (Nat.zero_le _) (Nat.le_refl _)
      rw [x.s0] at hm
      exact (j.old d (fun k2 l2 _ hl2 hd2 => hw ⟨k2, l2, hl2, hd2⟩)).mono (rcut_up hm)
  · have f := j.fr
    obtain ⟨s1, s2, s3, s4, s5, s6, s7⟩ := x.seg (M := M) j.inv.size hM (Nat.le_refl _) (fun k2 l2 a1 a2 a3 => by
      cases he : l2.eff with
      | false => rfl
      | true => have := j.eff k2 l2 (hall k2 a2) a3 he; omega)
    refine ⟨f.le.trans (rcut_up hMk), Nat.le_trans f.nx hMk, s1.trans f.gn, s2.trans f.g, f.size, f.os, f.tape, f.output, f.keep, fun id o p ho ha hp hb => ?_⟩
    obtain ⟨_, hp2⟩ := rcut_some hp
    rcases Nat.lt_or_ge id (S M).h.nx with g | g
    · exact f.img id o p (by rw [← s5 id g]; exact ho) ha (by rw [rcut_lt g]; exact hp2) hb
    · have hgn := j.inv.gn_le
      obtain ⟨k2, a1, a2, a3, a4⟩ := s7 id g (hget_some_lt (by omega) ho)
      obtain ⟨p', z, ob, g1, _, _, _, _, g6, _⟩ := j.pend k2 (hall k2 a2) a1 (by omega) a4
      rw [← a3, hp2] at g1
      obtain rfl := Option.some.inj g1
      omega
end
end Go.L1

/- A REGION THAT DRAWS ITS ORDER: the law. -/
namespace Go.L1
open Go

section
variable {P : Program} {nt : Nat} {ops : Array Oper} {b : Array Nat} {c : List Nat} {ls : List LOper} {call : CallF} {S : Nat → DS} {V : Nat → Value} {t0 : Tm} {h0 : LHeap}
variable {ρ0 : Rho} {w0 : World} {a0 : Act} {D : Nat → Prop} {M : Nat} {ρ : Rho} {a : Act} {w : World}

theorem blk_rel {u u' : Value} {id : Nat} (r : VR ρ u u') (hb : blkOf u = some id) : ∃ p, ρ id = some p := by
  cases r <;> simp only [blkOf, Option.some.injEq, reduceCtorEq] at hb
  all_goals (subst hb; exact ⟨_, by assumption⟩)

theorem hget_none {h : LHeap} (hg : h.gn ≤ h.nx) {id : Nat} (hi : h.nx ≤ id) : hget h id = none := by
  unfold hget
  rw [if_neg (by omega), if_neg (by omega)]

/-- The next effect, if there is one. -/
theorem next_eff (ls : List LOper) (M : Nat) : ∀ k, (∃ e l, M ≤ e ∧ e < k ∧ ls[e]? = some l ∧ l.eff = true ∧ ∀ e' l', M ≤ e' → e' < e → ls[e']? = some l' → l'.eff = false) ∨ (∀ e' l', M ≤ e' → e' < k → ls[e']? = some l' → l'.eff = false)
  | 0 => .inr fun e' l' _ h => by omega
  | k + 1 => by
    rcases next_eff ls M k with ⟨e, l, h1, h2, h3⟩ | h
    · exact .inl ⟨e, l, h1, by omega, h3⟩
    · by_cases hM : M ≤ k
      · cases hl : ls[k]? with
        | none =>
          refine .inr fun e' l' h1 h2 h3 => ?_
          by_cases e : e' = k
          · subst e; rw [hl] at h3; cases h3
          · exact h e' l' h1 (by omega) h3
        | some l =>
          cases he : l.eff with
          | true => exact .inl ⟨k, l, hM, by omega, hl, he, h⟩
          | false =>
            refine .inr fun e' l' h1 h2 h3 => ?_
            by_cases e : e' = k
            · subst e; rw [hl] at h3; obtain rfl := Option.some.inj h3; exact he
            · exact h e' l' h1 (by omega) h3
      · exact .inr fun e' l' h1 h2 h3 => absurd (Nat.lt_of_le_of_lt h1 h2) (by omega)

theorem wpIn_value {o : Oper} {v' : Value} {w' : World} (hd : ∀ c, o.op ≠ .defer c) {rd : Option Nat} {m : Nat} {next : Act → World → Prop} {Q : Exit → Act → World → Prop} (hr : (execOp a.eval o).run P w = .ok (.value v') w')
    (hn : next (a.put o.dst v') w') : o.wpIn (W rd) m P a w next Q := by
  refine ⟨fun f _ => about_any rfl f, ?_⟩
  rw [Oper.semAt_eq _ _ _ hd, hr, Oper.uponIn_value]
  exact hn

theorem hnew_inj {h : LHeap} {o o' : LObj} (e : hnew h o = hnew h o') : o = o' := by
  have := congrArg LHeap.b e
  simp only [hnew, List.cons.injEq, and_true] at this
  exact this

open Classical in
/-- What is made and not yet counted. -/
noncomputable def pendF (ls : List LOper) (S : Nat → DS) (D : Nat → Prop) (M : Nat) (id : Nat) : LObj :=
  if hx : ∃ ob, ∃ k, D k ∧ M ≤ k ∧ k < ls.length ∧ id = (S k).h.nx ∧ isAl S k ∧ hget (S (k + 1)).h id = some ob then hx.choose else .dead

theorem pendF_at (x : Ctx P nt ops b c ls call S V t0 h0) {k : Nat} (h1 : D k) (h2 : M ≤ k) (h3 : k < ls.length) (h4 : isAl S k) {ob : LObj} (h5 : hget (S (k + 1)).h (S k).h.nx = some ob) : pendF ls S D M (S k).h.nx = ob := by
  unfold pendF
  have hx : ∃ ob, ∃ k1, D k1 ∧ M ≤ k1 ∧ k1 < ls.length ∧ (S k).h.nx = (S k1).h.nx ∧ isAl S k1 ∧ hget (S (k1 + 1)).h (S k).h.nx = some ob := ⟨ob, k, h1, h2, h3, rfl, h4, h5⟩
  rw [dif_pos hx]
  obtain ⟨k1, a1, a2, a3, a4, a5, a6⟩ := hx.choose_spec
  have a5' : (S (k1 + 1)).h.nx = (S k1).h.nx + 1 := a5
  have h4' : (S (k + 1)).h.nx = (S k).h.nx + 1 := h4
  have hkk : k1 = k := by
    rcases Nat.lt_trichotomy k1 k with g | g | g
    · have := x.mono (k := k1 + 1) (k' := k) (by omega) (by omega); omega
    · exact g
    · have := x.mono (k := k + 1) (k' := k1) (by omega) (by omega); omega
  subst hkk
  rw [h5] at a6
  exact (Option.some.inj a6).symm

theorem J.ext (x : Ctx P nt ops b c ls call S V t0 h0) (j : J P nt ls S V t0 ρ0 h0 w0 a0 D M ρ a w) {B : Nat} (hB : (S M).h.nx ≤ B) : Inv P (rcut ρ B) (ext (S M).h B (pendF ls S D M)) w := by
  have hgn := j.inv.gn_le
  have hs := j.inv.size
  refine j.build x (Y := L1.ext (S M).h B (pendF ls S D M)) hB rfl ?_ (Nat.zero_le _) (fun id h => ext_old hB h) (fun id o h1 ho ha => ?_)
  · simp only [L1.ext, List.length_append, List.length_map, List.length_reverse, List.length_range]
    omega
  · have hlt : id < B := by
      rcases Nat.lt_or_ge id B with g | g
      · exact g
      · rw [ext_ge hgn hB g] at ho; cases ho
    rw [ext_new hgn h1 hlt] at ho
    have ho := Option.some.inj ho
    unfold pendF at ho
    split at ho
    · rename_i hx
      obtain ⟨k, a1, a2, a3, a4, a5, a6⟩ := hx.choose_spec
      rw [ho] at a6
      exact ⟨k, a1, a2, a3, a4, a5, a6⟩
    · subst ho; cases ha

/-- ONE OPERATION, wherever it stands. -/
theorem draw_step (hcall : CallOK P call) (x : Ctx P nt ops b c ls call S V t0 h0) (j : J P nt ls S V t0 ρ0 h0 w0 a0 D M ρ a w) (hg0 : h0.gn ≤ h0.nx) {k : Nat} (hk : k < ls.length) (hD : ¬ D k) (hanc : ∀ k', k' < ls.length → anc b c k k' = true → D k')
    (hclo : ∀ k1 k2, k1 < ls.length → k2 < ls.length → D k1 → anc b c k1 k2 = true → D k2) {rd : Option Nat} {m : Nat} {K : Act → World → Prop} {Q : Exit → Act → World → Prop}
    (hK : ∀ M' ρ' a' w', J P nt ls S V t0 ρ0 h0 w0 a0 (fun k1 => D k1 ∨ k1 = k) M' ρ' a' w' → K a' w') : wpOpIn (W rd) m P ops Q (cN c k) K a w := by
  obtain ⟨o, l, ho, hl, one⟩ := x.at hk
  obtain ⟨l0, hc0, e1, e2, e3⟩ := one.comp
  obtain ⟨hdst, _, hop⟩ := compOper_some hc0
  have hld : l.dst = o.dst := e1.trans hdst
  have hM : M ≤ k := by
    rcases Nat.lt_or_ge k M with g | g
    · exact absurd (j.ge k g) hD
    · exact g
  have hlook := fun {d : Nat} (hd : d ∈ tmpsOf o l) => j.looks x hk hD hanc hclo hl one hd
  have hwant : wantL (S k).t l = Region.wanted o (yielded ops a.tmps) := by
    rw [← want_eq (ρ := rcut ρ (S k).h.nx) (t := (S k).t) hc0 (fun n bb hg => hlook (by
      unfold tmpsOf
      rw [e3, hg]
      simp))]
    simp only [wantL, e3]
  have hall : l.eff = true → ∀ k1, k1 < k → D k1 := fun he k1 h1 => hanc k1 (by omega) (one.eff he k1 h1)
  have st := x.step k l hl
  have hv := st.val
  unfold wpOpIn
  rw [ho]
  simp only
  rw [← hwant]
  unfold dval at hv
  cases hwl : wantL (S k).t l with
  | false =>
    rw [hwl] at hv
    simp only [Option.some.injEq, Prod.mk.injEq] at hv
    obtain ⟨hv1, hv2⟩ := hv
    rw [if_neg (by simp)]
    refine ⟨fun f _ => about_any rfl f, ?_⟩
    rw [← hld]
    cases he : l.eff with
    | true =>
      have hi := j.at x hM (by omega) (hall he)
      refine hK _ _ _ _ (j.effect x hl hD hM (hall he) (ρ' := rcut ρ (S k).h.nx) (w' := w) (by rw [← hv2]; exact hi) (by rw [← hv2]; exact Fr.refl _ _ _) (v' := undef) (by rw [← hv1]; exact VR.undef) (.inl rfl))
    | false => exact hK _ _ _ _ (j.pure x hl hD he hv2.symm (v' := undef) (by rw [← hv1]; exact VR.undef) (.inl rfl))
  | true =>
    rw [hwl] at hv
    simp only at hv
    rw [if_pos rfl]
    obtain ⟨c1, c2, c3⟩ := hop (by rw [← e2]; exact hv)
    rw [← e2] at c1
    have c3' : ∀ d, l.dst = some d → d < nt := fun d hd => c3 d (by rw [← hld]; exact hd)
    -- the frame of what it looks at
    obtain ⟨T, hT⟩ : ∃ T, T = tmpsOf o l := ⟨_, rfl⟩
    obtain ⟨tT, htT⟩ : ∃ tT : Tm, tT = fun d => if T.contains d then (S k).t d else undefV := ⟨_, rfl⟩
    have hTR : TR (rcut ρ (S k).h.nx) tT (actT a T).tmps := by
      intro d
      rw [actT_get, htT]
      simp only
      split
      · rename_i hd
        exact hlook (by rw [← hT]; simpa using hd)
      · exact VR.undef
    have hev1 : ∀ y ∈ o.op.operands, (actT a T).eval y = a.eval y := by
      intro y hy
      cases y with
      | tmp d =>
        show (actT a T).tmps.getD d undef = a.tmps.getD d undef
        rw [actT_get, if_pos]
        rw [hT]
        simp only [List.contains_eq_mem, decide_eq_true_eq]
        unfold tmpsOf
        refine List.mem_append_left _ (List.mem_filterMap.2 ⟨.tmp d, ?_, rfl⟩)
        simp [hy]
      | _ => rfl
    have hev2 : ∀ y ∈ l.op.opds, ev (S k).t y = ev tT y := by
      intro y hy
      cases y with
      | tmp d =>
        show (S k).t d = tT d
        rw [htT]
        simp only
        rw [if_pos]
        rw [hT]
        simp only [List.contains_eq_mem, decide_eq_true_eq]
        unfold tmpsOf
        refine List.mem_append_left _ (List.mem_filterMap.2 ⟨.tmp d, ?_, rfl⟩)
        simp [hy]
      | _ => rfl
    cases he : l.eff with
    | true =>
      have hi := j.at x hM (by omega) (hall he)
      refine oper_in2 hcall hi hTR c1 c2 (by rw [← opV_congr l.op hev2]; exact hv) (fun y hy => (hev1 y hy).symm) ?_
      rintro v' w' ⟨ρ', g1, g2, g3⟩
      rw [← hld]
      exact hK _ _ _ _ (j.effect x hl hD hM (hall he) g2 g3 g1 (.inr c3'))
    | false =>
      have hac := one.acts he
      have hB := x.mono hM (k' := k) (by omega)
      have hi := j.ext x hB
      obtain ⟨hd, hsel⟩ := compOp_defer c1
      have hex : execOp a.eval o = execOp (actT a T).eval o := execOp_congr o hsel fun y hy => (hev1 y hy).symm
      have hnc : l.op.isCall = false := by
        cases hq : l.op with
        | call f as => rw [hq] at hac; cases hac
        | _ => rfl
      have quiet : ∀ {h1 : LHeap}, opV call (S k).t (L1.ext (S M).h (S k).h.nx (pendF ls S D M)) l.op = some (V k, h1) → (l.op.kind = .pure ∨ l.op.kind = .read) → (S (k + 1)).h = (S k).h → o.wpIn (W rd) m P a w K Q := by
        intro h1 hq hkd hsame
        have hs := op_step hi hTR c1 c2 hnc (by rw [← opV_congr l.op hev2]; exact hq)
        have hs : StepP P o (actT a T) (rcut ρ (S k).h.nx) (L1.ext (S M).h (S k).h.nx (pendF ls S D M)) w (V k) h1 := by
          rcases hkd with hkd | hkd <;> (rw [hkd] at hs; exact hs)
        obtain ⟨_, v', hrun, hvr⟩ := hs
        refine wpIn_value hd (by rw [hex]; exact hrun) ?_
        rw [← hld]
        exact hK _ _ _ _ (j.pure x hl hD he hsame (by rw [hsame]; exact hvr) (.inr c3'))
      cases hkd : l.op.kind with
      | eff => rw [(kind_acts _).1 hkd] at hac; cases hac
      | pure =>
        obtain ⟨p1, p2⟩ := pure_form hkd hv
        exact quiet (p2 _) (.inl hkd) p1
      | read =>
        have hrd := (kind_read _).1 hkd
        have hsame := read_same hrd hv
        -- where it is read
        have hq : ∃ q h1, M ≤ q ∧ q ≤ k ∧ (∀ e' l', M ≤ e' → e' < q → ls[e']? = some l' → l'.eff = false) ∧ opV call (S k).t (S q).h l.op = some (V k, h1) := by
          rcases next_eff ls M k with ⟨e, le, a1, a2, a3, a4, a5⟩ | hno
          · have hst := st.stays he hrd hwl
            obtain ⟨s1, s2⟩ := x.snaps a3 a4 a2 (by omega)
            have hlo : l.lo ≤ (S e).n := by
              rw [x.n_effs (by omega)]
              rcases one.lo with h | ⟨k', l', b1, b2, b3, b4, b5⟩
              · omega
              · have hDk := hanc k' (by rw [x.dok.len]; exact b1) b4
                have := j.eff k' l' hDk b2 b3
                have := effs_mono ls (k := k' + 1) (k' := e) (by omega)
                omega
            obtain ⟨h1, hh⟩ := stays_at hst ((S k).n - 1 - (S e).n) (S e).h (by omega) s2
            exact ⟨e, h1, a1, by omega, a5, hh⟩
          · exact ⟨k, _, hM, Nat.le_refl _, hno, hv⟩
        obtain ⟨q, h1, q1, q2, q3, q4⟩ := hq
        obtain ⟨s1, s2, s3, s4, s5, s6, s7⟩ := x.seg (M := M) j.inv.size q1 (by omega) q3
        have hgM := j.inv.gn_le
        refine quiet (read_form hrd q4 fun y hy id hid => ?_) (.inr hkd) hsame
        have hvr := ev_rel hi hTR (one.opds y hy)
        rw [← hev2 y hy] at hvr
        obtain ⟨p, hp⟩ := blk_rel hvr hid
        obtain ⟨hpB, hp⟩ := rcut_some hp
        rcases j.dom id p hp with g | ⟨k1, b1, b2, b3, b4, b5⟩
        · left
          rw [ext_old hB g, s5 id g]
        · obtain ⟨p', z, ob, g1, g2, _⟩ := j.pend k1 b1 b2 b3 b5
          have hge : (S M).h.nx ≤ (S k1).h.nx := x.mono b2 (by omega)
          rcases Nat.lt_or_ge k1 q with g | g
          · left
            rw [b4, s6 k1 b2 g b5, ext_new hgM hge (by rw [← b4]; exact hpB), pendF_at x b1 b2 b3 b5 g2, g2]
          · right
            have := x.mono g (k' := k1) (by omega)
            exact hget_none (by omega) (by omega)
      | alloc =>
        obtain ⟨ob, f1, f2⟩ := alloc_form hkd hv
        have hq := f2 (L1.ext (S M).h (S k).h.nx (pendF ls S D M)) rfl
        have hs := op_step hi hTR c1 c2 hnc (by rw [← opV_congr l.op hev2]; exact hq)
        rw [hkd] at hs
        obtain ⟨ob', y, wd, v', w', g1, g2, g3, g4, g5, g6, g7, g8, g9⟩ := hs
        have := hnew_inj g1
        subst this
        refine wpIn_value hd (by rw [hex]; exact g3) ?_
        rw [← hld]
        exact hK _ _ _ _ (j.alloc x hl hD hM he f1 (by
          rw [x.gn (by omega)]
          have := x.mono (k := 0) (k' := k) (Nat.zero_le _) (by omega)
          rw [x.s0] at this
          exact Nat.le_trans hg0 this) g2 g4 g5 g6 g7 g8 g9 (.inr c3'))

theorem count_set {listed : Array Bool} {i : Nat} (hi : i < listed.size) (hf : listed.getD i true = false) : (listed.setIfInBounds i true).toList.count false + 1 = listed.toList.count false := by
  have hi' : i < listed.toList.length := by simpa using hi
  have hq : listed.toList[i] = false := by
    rw [Array.getD_eq_getD_getElem?, Array.getElem?_eq_getElem hi] at hf
    simpa using hf
  rw [Array.toList_setIfInBounds, List.count_set hi', hq]
  have : 0 < listed.toList.count false := List.count_pos_iff.2 (by rw [← hq]; exact List.getElem_mem hi')
  have e1 : (false == false) = true := rfl
  have e2 : (true == false) = false := rfl
  rw [e1, e2]
  simp only [if_true, Bool.false_eq_true, if_false]
  omega

/-- A REGION THAT DRAWS ITS ORDER. -/
theorem drawn_sound (hcall : CallOK P call) (hm : P.follows .mixedOrders = true) (dok : DOK P nt ops b c ls) {t : Tm} {h : LHeap} {K : Tm → LHeap → Res} {res : Value × LHeap} (hk : drawK call t h ls 0 [] K = some res)
    (i : Inv P ρ h w) (r : TR ρ t a.tmps) (hs : a.tmps.size = nt) {rd : Option Nat} {m id : Nat} {Q : Exit → Act → World → Prop}
    (hq : ∀ ρ' t' h' a' w', K t' h' = some res → Inv P ρ' h' w' → TR ρ' t' a'.tmps → Fr ρ h w ρ' h' w' → a'.tmps.size = nt → a'.defers = a.defers → Q .normal a' w') : (Code.region id ops true).wpIn (W rd) m P Q a w := by
  obtain ⟨S, V, h0, h1, h2⟩ := draw_trace hk
  have x : Ctx P nt ops b c ls call S V t h := ⟨dok, h0, h1⟩
  have hN := dok.len
  have hgn := i.gn_le
  have hinj : ∀ k k', k < ls.length → k' < ls.length → cN c k = cN c k' → k = k' := by
    intro k k' hk hk' e
    obtain ⟨o, l, _, hl, one⟩ := x.at hk
    obtain ⟨o', l', _, hl', _⟩ := x.at hk'
    rcases Nat.decEq k' k with g | g
    · exact absurd e (one.pair k' l' (by omega) g hl').1
    · exact g.symm
  have hcN : ∀ k, k < ls.length → cN c k < ops.size := fun k hk => by
    obtain ⟨o, l, ho, _, _⟩ := x.at hk
    exact (Array.getElem?_eq_some_iff.1 ho).1
  refine wpIn_region_any hm ?_
  -- the law for what is listed
  have law : ∀ (fuel : Nat) (listed : Array Bool) (M : Nat) (ρ1 : Rho) (a1 : Act) (w1 : World), listed.size = ops.size → listed.toList.count false ≤ fuel →
      J P nt ls S V t ρ h w a (fun k => k < ls.length ∧ listed.getD (cN c k) false = true) M ρ1 a1 w1 →
      (∀ k1 k2, k1 < ls.length → k2 < ls.length → (k1 < ls.length ∧ listed.getD (cN c k1) false = true) → anc b c k1 k2 = true → (k2 < ls.length ∧ listed.getD (cN c k2) false = true)) →
      wpAnyIn (W rd) m P .any ops Q fuel listed a1 w1 := by
    have fin : ∀ (listed : Array Bool) (M : Nat) (ρ1 : Rho) (a1 : Act) (w1 : World), listed.size = ops.size → Region.ready .any ops listed = [] → J P nt ls S V t ρ h w a (fun k => k < ls.length ∧ listed.getD (cN c k) false = true) M ρ1 a1 w1 → Q .normal a1 w1 := by
      intro listed M ρ1 a1 w1 hsz hr j
      have hall : ∀ k, k < ls.length → (k < ls.length ∧ listed.getD (cN c k) false = true) := by
        intro k
        induction k using Nat.strongRecOn with
        | _ k ih =>
          intro hk
          refine ⟨hk, ?_⟩
          obtain ⟨o, l, ho, hl, one⟩ := x.at hk
          cases hc : listed.getD (cN c k) false with
          | true => rfl
          | false =>
            exfalso
            have hmem : cN c k ∈ Region.ready .any ops listed := by
              rw [mem_ready]
              have hlt : cN c k < listed.size := by rw [hsz]; exact hcN k hk
              refine ⟨?_, o, ho, fun e hea hb => ?_⟩
              · rw [Array.getD_eq_getD_getElem?, Array.getElem?_eq_getElem hlt] at hc ⊢
                simpa using hc
              · obtain ⟨k', hk', e'⟩ := one.ext e hea hb
                rw [← e']
                exact (ih k' hk' (by omega)).2
            rw [hr] at hmem
            cases hmem
      obtain ⟨g1, g2, g3⟩ := j.done x hall
      exact hq _ _ _ _ _ h2 g1 g2 g3 j.size j.defs
    intro fuel
    induction fuel with
    | zero =>
      intro listed M ρ1 a1 w1 hsz hcnt j hclo
      have hr : Region.ready .any ops listed = [] := by
        refine List.eq_nil_iff_forall_not_mem.2 fun i' hi' => ?_
        rw [mem_ready] at hi'
        obtain ⟨hf, o, ho, _⟩ := hi'
        have hlt : i' < listed.size := by rw [hsz]; exact (Array.getElem?_eq_some_iff.1 ho).1
        have := count_set hlt hf
        omega
      exact ⟨hr, fin listed M ρ1 a1 w1 hsz hr j⟩
    | succ fuel ih =>
      intro listed M ρ1 a1 w1 hsz hcnt j hclo
      refine ⟨fun hr => fin listed M ρ1 a1 w1 hsz hr j, fun i' hi' => ?_⟩
      rw [mem_ready] at hi'
      obtain ⟨hf, o, ho, haft⟩ := hi'
      have hlt : i' < ops.size := (Array.getElem?_eq_some_iff.1 ho).1
      obtain ⟨k, hk, rfl⟩ := dok.surj i' hlt
      rw [← hN] at hk
      obtain ⟨o', l, ho', hl, one⟩ := x.at hk
      rw [ho] at ho'
      obtain rfl := Option.some.inj ho'
      have hnD : ¬ (k < ls.length ∧ listed.getD (cN c k) false = true) := fun hh => by
        have hh := hh.2
        rw [Array.getD_eq_getD_getElem?, Array.getElem?_eq_getElem (by rw [hsz]; exact hlt)] at hf hh
        simp only [Option.getD_some] at hf hh
        rw [hf] at hh; cases hh
      have hanc : ∀ k', k' < ls.length → anc b c k k' = true → (k' < ls.length ∧ listed.getD (cN c k') false = true) := by
        intro k' hk' ha
        obtain ⟨e, e1, e2, e3⟩ := one.clo k' (by omega) ha
        have hl1 := haft e e1 e2
        rcases e3 with e3 | e3
        · exact ⟨hk', by rw [← e3]; exact hl1⟩
        · obtain ⟨k2, h21, h22⟩ := one.ext e e1 e2
          refine hclo k2 k' (by omega) hk' ⟨by omega, by rw [h22]; exact hl1⟩ ?_
          unfold anc
          rw [h22]; exact e3
      refine draw_step hcall x j hgn hk hnD hanc hclo fun M' ρ' a' w' j' => ?_
      have hset : ∀ k1, ((k1 < ls.length ∧ listed.getD (cN c k1) false = true) ∨ k1 = k) ↔ (k1 < ls.length ∧ (listed.setIfInBounds (cN c k) true).getD (cN c k1) false = true) := by
        intro k1
        constructor
        · rintro (⟨g1, g2⟩ | rfl)
          · exact ⟨g1, getD_set_true g2⟩
          · refine ⟨hk, ?_⟩
            rw [Array.getD_eq_getD_getElem?, Array.getElem?_setIfInBounds, if_pos rfl, if_pos (by rw [hsz]; exact hlt)]
            rfl
        · rintro ⟨g1, g2⟩
          by_cases e : k1 = k
          · exact .inr e
          · left
            rw [getD_set_ne false (fun e' => e (hinj k1 k g1 hk e'.symm))] at g2
            exact ⟨g1, g2⟩
      have hfun : (fun k1 => (k1 < ls.length ∧ listed.getD (cN c k1) false = true) ∨ k1 = k) = (fun k1 => k1 < ls.length ∧ (listed.setIfInBounds (cN c k) true).getD (cN c k1) false = true) := funext fun k1 => propext (hset k1)
      rw [hfun] at j'
      have hc1 := count_set (by rw [hsz]; exact hlt) hf
      refine ih _ M' ρ' a' w' (by simp [hsz]) (by omega) j' fun k1 k2 b1 b2 b3 b4 => ?_
      rcases (hset k1).2 b3 with b3 | rfl
      · exact (hset k2).1 (.inl (hclo k1 k2 b1 b2 b3 b4))
      · exact (hset k2).1 (.inl (hanc k2 b2 b4))
  have hnone : ∀ k, ¬ (k < ls.length ∧ (Array.replicate ops.size false).getD (cN c k) false = true) := by
    rintro k ⟨g1, g2⟩
    rw [Array.getD_eq_getD_getElem?, Array.getElem?_replicate] at g2
    split at g2 <;> cases g2
  have hcut : rcut ρ (S 0).h.nx = ρ := by
    rw [h0]
    funext id
    unfold rcut
    split
    · rfl
    · rename_i g
      cases hq : ρ id with
      | none => rfl
      | some q => exact absurd (i.dom id q hq) g
  refine law ops.size _ 0 ρ a _ (by simp) (by simp) ⟨fun k hk => by omega, Nat.zero_le _, fun k l hd => absurd hd (hnone k), ?_, fun id p hp => .inl (by rw [h0]; exact i.dom id p hp), fun k hd => absurd hd (hnone k), fun k l d hd => absurd hd (hnone k), fun d _ => ?_, ?_, hs, rfl⟩
    (fun k1 k2 _ _ hd => absurd hd (hnone k1))
  · rw [hcut, h0]; exact i.drew rfl
  · have : rcut ρ h.nx = ρ := by rw [h0] at hcut; exact hcut
    rw [this]
    exact r d
  · rw [hcut, h0]; exact Fr.drew ρ h w
end
end Go.L1

/- AT A RETURN: what the call made and nobody comes to any more is forgotten. -/
namespace Go.L1
open Go

theorem posIn_some {id : Nat} : ∀ {ks : List Nat} {i n : Nat}, posIn id ks n = some i → n ≤ i ∧ ks[i - n]? = some id
  | [], i, n, h => by cases h
  | k :: ks, i, n, h => by
    unfold posIn at h
    cases hb : Nat.beq k id with
    | true =>
      rw [hb] at h
      simp only [cond_true, Option.some.injEq] at h
      subst h
      rw [Nat.eq_of_beq_eq_true hb]
      simp
    | false =>
      rw [hb] at h
      obtain ⟨h1, h2⟩ := posIn_some (ks := ks) (i := i) (n := n + 1) h
      refine ⟨by omega, ?_⟩
      rw [show i - n = (i - (n + 1)) + 1 from by omega]
      exact h2

/-- The relation behind the return. -/
def rren (ρ : Rho) (base : Nat) (ks : List Nat) : Rho := fun id => if id < base then ρ id else (ks[id - base]?).bind ρ

section
variable {P : Program} {ρ : Rho} {base : Nat} {ks : List Nat}

theorem renId_rel {id id' : Nat} (hr : renId base ks id = some id') {p : Pl} (hp : ρ id = some p) : rren ρ base ks id' = some p := by
  unfold renId at hr
  cases hb : Nat.blt id base with
  | true =>
    rw [hb] at hr
    simp only [cond_true, Option.some.injEq] at hr
    subst hr
    have : id < base := by simpa [Nat.blt_eq] using hb
    unfold rren
    rw [if_pos this]; exact hp
  | false =>
    rw [hb] at hr
    simp only [cond_false] at hr
    obtain ⟨i, h1, h2⟩ := ob_some hr
    simp only [Option.some.injEq] at h2
    subst h2
    obtain ⟨_, h3⟩ := posIn_some h1
    unfold rren
    rw [if_neg (by omega), show base + i - base = i - 0 from by omega, h3]
    exact hp

theorem renVs_rel {n : Nat} (hv : ∀ v v2 v', renV base ks n v = some v2 → VR ρ v v' → VR (rren ρ base ks) v2 v') : ∀ {l l2 l' : List Value}, renV.renVs base ks n l = some l2 → LR ρ l l' → LR (rren ρ base ks) l2 l'
  | [], l2, l', h, r => by
    simp only [renV.renVs, Option.some.injEq] at h
    subst h
    rw [r.nil_left]; exact .nil
  | v :: l, l2, l', h, r => by
    simp only [renV.renVs] at h
    obtain ⟨v2, h1, h⟩ := ob_some h
    obtain ⟨l3, h2, h⟩ := ob_some h
    simp only [Option.some.injEq] at h
    subst h
    obtain ⟨v', r', rfl, g1, g2⟩ := r.cons_left
    exact .cons (hv _ _ _ h1 g1) (renVs_rel hv h2 g2)

theorem renV_rel : ∀ (n : Nat) (v v2 v' : Value), renV base ks n v = some v2 → VR ρ v v' → VR (rren ρ base ks) v2 v' := by
  have flat : ∀ (n : Nat) (v v2 v' : Value), renV base ks n v = some v2 → VR ρ v v' → (match v with | .iface .. | .agg _ | .tuple _ | .func .. => False | _ => True) → VR (rren ρ base ks) v2 v' := by
    intro n v v2 v' h r hf
    cases r <;> first | exact hf.elim | skip
    case bool => simp [renV] at h; subst h; exact .bool _
    case int => simp [renV] at h; subst h; exact .int _ _
    case str => simp [renV] at h; subst h; exact .str _
    case pnil => simp [renV] at h; subst h; exact .pnil
    case snil => simp [renV] at h; subst h; exact .snil _ _
    case mnil => simp [renV] at h; subst h; exact .mnil
    case nilFunc => simp [renV] at h; subst h; exact .nilFunc
    case nilIface => simp [renV] at h; subst h; exact .nilIface
    case ptr hp off =>
      simp only [renV] at h
      obtain ⟨b, h1, h⟩ := ob_some h
      simp only [Option.some.injEq] at h
      subst h
      exact .ptr (renId_rel h1 hp) off
    case mp hp =>
      simp only [renV] at h
      obtain ⟨b, h1, h⟩ := ob_some h
      simp only [Option.some.injEq] at h
      subst h
      exact .mp (renId_rel h1 hp)
    case slc hp hw off len cap =>
      simp only [renV] at h
      obtain ⟨b, h1, h⟩ := ob_some h
      simp only [Option.some.injEq] at h
      subst h
      exact .slc (renId_rel h1 hp) hw off len cap
    case slw hp hw off len cap cap' hc he =>
      simp only [renV] at h
      obtain ⟨b, h1, h⟩ := ob_some h
      simp only [Option.some.injEq] at h
      subst h
      exact .slw (renId_rel h1 hp) hw off len cap cap' hc he
    case slz hp hw off a =>
      simp only [renV] at h
      obtain ⟨b, h1, h⟩ := ob_some h
      simp only [Option.some.injEq] at h
      subst h
      exact .slz (renId_rel h1 hp) hw off a
    case slx hp off len cap =>
      simp only [renV] at h
      obtain ⟨b, h1, h⟩ := ob_some h
      simp only [Option.some.injEq] at h
      subst h
      exact .slx (renId_rel h1 hp) off len cap
    case slxz hp off a =>
      simp only [renV] at h
      obtain ⟨b, h1, h⟩ := ob_some h
      simp only [Option.some.injEq] at h
      subst h
      exact .slxz (renId_rel h1 hp) off a
  intro n
  induction n with
  | zero =>
    intro v v2 v' h r
    cases v <;> first | exact flat 0 _ _ _ h r trivial | (simp [renV] at h)
  | succ n ih =>
    intro v v2 v' h r
    cases v <;> first | exact flat (n + 1) _ _ _ h r trivial | skip
    case iface t x =>
      simp only [renV] at h
      obtain ⟨x2, h1, h⟩ := ob_some h
      simp only [Option.some.injEq] at h
      subst h
      cases r with
      | iface _ hx => exact .iface t (ih _ _ _ h1 hx)
    case agg c =>
      simp only [renV] at h
      obtain ⟨x2, h1, h⟩ := ob_some h
      simp only [Option.some.injEq] at h
      subst h
      obtain ⟨c', rfl, hl⟩ := r.agg_inv
      exact VR.agg' (renVs_rel ih h1 hl)
    case tuple c =>
      simp only [renV] at h
      obtain ⟨x2, h1, h⟩ := ob_some h
      simp only [Option.some.injEq] at h
      subst h
      obtain ⟨c', rfl, hl⟩ := r.tuple_inv
      exact VR.tuple' (renVs_rel ih h1 hl)
    case func f a b =>
      cases f with
      | func f =>
        simp only [renV] at h
        obtain ⟨a2, h1, h⟩ := ob_some h
        obtain ⟨b2, h2, h⟩ := ob_some h
        simp only [Option.some.injEq] at h
        subst h
        cases r with
        | fn _ ha ra hb rb =>
          have g1 := renVs_rel ih h1 ⟨ha, ra⟩
          have g2 := renVs_rel ih h2 ⟨hb, rb⟩
          exact .fn f g1.1 g1.2 g2.1 g2.2
      | _ => simp [renV] at h

theorem renV_known {n : Nat} {v v2 : Value} (h : renV base ks n v = some v2) (hk : known v = false) : known v2 = false := by
  cases v <;> first | cases hk | skip
  cases n with
  | zero => simp [renV] at h
  | succ n =>
    simp only [renV] at h
    obtain ⟨c, _, h⟩ := ob_some h
    simp only [Option.some.injEq] at h
    subst h
    rfl

theorem renVs_at {n : Nat} : ∀ {l l2 : List Value}, renV.renVs base ks n l = some l2 → l2.length = l.length ∧ ∀ j, j < l.length → renV base ks n (fr0 l j) = some (fr0 l2 j)
  | [], l2, h => by
    simp only [renV.renVs, Option.some.injEq] at h
    subst h
    exact ⟨rfl, fun j hj => absurd hj (Nat.not_lt_zero j)⟩
  | v :: l, l2, h => by
    simp only [renV.renVs] at h
    obtain ⟨v2, h1, h⟩ := ob_some h
    obtain ⟨l3, h2, h⟩ := ob_some h
    simp only [Option.some.injEq] at h
    subst h
    obtain ⟨g1, g2⟩ := renVs_at h2
    refine ⟨by simp [g1], fun j hj => ?_⟩
    cases j with
    | zero => exact h1
    | succ j => exact g2 j (by simpa using hj)

theorem renEs_at : ∀ {es es2 : List MapEntry}, renEs base ks es = some es2 → es2.length = es.length ∧ ∀ (j : Nat) (e : MapEntry), es[j]? = some e → ∃ e2, es2[j]? = some e2 ∧ renV base ks 50 e.key = some e2.key ∧ renV base ks 50 e.val = some e2.val ∧ e2.born = e.born
  | [], es2, h => by
    simp only [renEs, Option.some.injEq] at h
    subst h
    exact ⟨rfl, fun j e hj => by simp at hj⟩
  | x :: es, es2, h => by
    simp only [renEs] at h
    obtain ⟨k, h1, h⟩ := ob_some h
    obtain ⟨v, h2, h⟩ := ob_some h
    obtain ⟨l, h3, h⟩ := ob_some h
    simp only [Option.some.injEq] at h
    subst h
    obtain ⟨g1, g2⟩ := renEs_at h3
    refine ⟨by simp [g1], fun j e hj => ?_⟩
    cases j with
    | zero => simp only [List.getElem?_cons_zero, Option.some.injEq] at hj; subst hj; exact ⟨_, rfl, h1, h2, rfl⟩
    | succ j => exact g2 j e (by simpa using hj)

theorem renO_rel {p : Pl} {o o2 : LObj} {x : Obj} (h : renO base ks o = some o2) (r : OR P ρ p o x) : OR P (rren ρ base ks) p o2 x := by
  cases o with
  | cells c k e =>
    simp only [renO] at h
    obtain ⟨c2, h1, h⟩ := ob_some h
    simp only [Option.some.injEq] at h
    subst h
    obtain ⟨g1, g2⟩ := renVs_at h1
    cases x <;> try exact r.elim
    simp only [OR] at r ⊢
    refine ⟨fun j hj => ?_, ?_⟩
    · obtain ⟨v', a1, a2⟩ := r.1 j (by omega)
      refine ⟨v', a1, ?_⟩
      have := g2 j (by omega)
      rcases a2 with a2 | a2
      · exact .inl (renV_known this a2)
      · exact .inr (renV_rel 50 _ _ _ this a2)
    · rw [g1]; exact r.2
  | map es ck =>
    simp only [renO] at h
    obtain ⟨es2, h1, h⟩ := ob_some h
    simp only [Option.some.injEq] at h
    subst h
    obtain ⟨g1, g2⟩ := renEs_at h1
    cases x <;> try exact r.elim
    simp only [OR] at r ⊢
    refine ⟨r.1, by rw [g1]; exact r.2.1, fun j e2 e' h2 h3 => ?_⟩
    have hj : j < es.length := by rw [← g1]; exact (List.getElem?_eq_some_iff.1 h2).1
    obtain ⟨e3, b1, b2, b3, b4⟩ := g2 j _ (List.getElem?_eq_getElem hj)
    rw [h2] at b1
    obtain rfl := Option.some.inj b1
    have rr := r.2.2 j _ e' (List.getElem?_eq_getElem hj) h3
    exact ⟨renV_rel 50 _ _ _ b2 rr.key, renV_rel 50 _ _ _ b3 rr.val, b4.trans rr.born⟩
  | dead =>
    simp only [renO, Option.some.injEq] at h
    subst h
    trivial
  | siter _ _ => cases h
  | miter _ _ _ _ => cases h
  | loop _ _ _ _ _ _ => cases h

theorem renO_same {o o2 : LObj} (h : renO base ks o = some o2) : o2.owned = o.owned ∧ o2.alive = o.alive := by
  cases o with
  | cells c k e =>
    simp only [renO] at h
    obtain ⟨c2, _, h⟩ := ob_some h
    simp only [Option.some.injEq] at h
    subst h
    cases k <;> exact ⟨rfl, rfl⟩
  | map es ck =>
    simp only [renO] at h
    obtain ⟨es2, _, h⟩ := ob_some h
    simp only [Option.some.injEq] at h
    subst h
    exact ⟨rfl, rfl⟩
  | dead =>
    simp only [renO, Option.some.injEq] at h
    subst h
    exact ⟨rfl, rfl⟩
  | siter _ _ => cases h
  | miter _ _ _ _ => cases h
  | loop _ _ _ _ _ _ => cases h

theorem renOs_at {h : LHeap} : ∀ {l : List Nat} {acc bs : List LObj}, renOs h base ks l acc = some bs → bs.length = l.length + acc.length ∧ (∀ j, bs[l.length + j]? = acc[j]?) ∧
    ∀ (i k : Nat), l[i]? = some k → ∃ o o2, hget h k = some o ∧ renO base ks o = some o2 ∧ bs[l.length - 1 - i]? = some o2
  | [], acc, bs, hr => by
    simp only [renOs, Option.some.injEq] at hr
    subst hr
    exact ⟨by simp, fun j => by simp, fun i k hi => by simp at hi⟩
  | k0 :: l, acc, bs, hr => by
    simp only [renOs] at hr
    obtain ⟨o, h1, hr⟩ := ob_some hr
    obtain ⟨o2, h2, hr⟩ := ob_some hr
    obtain ⟨g1, g2, g3⟩ := renOs_at hr
    refine ⟨by simp [g1]; omega, fun j => ?_, fun i k hi => ?_⟩
    · have := g2 (j + 1)
      rw [List.getElem?_cons_succ] at this
      rw [← this]
      congr 1
      simp only [List.length_cons]
      omega
    · cases i with
      | zero =>
        simp only [List.getElem?_cons_zero, Option.some.injEq] at hi
        subst hi
        refine ⟨o, o2, h1, h2, ?_⟩
        have := g2 0
        rw [List.getElem?_cons_zero] at this
        rw [← this]
        congr 1
      | succ i =>
        rw [List.getElem?_cons_succ] at hi
        obtain ⟨o', o2', a1, a2, a3⟩ := g3 i k hi
        have hl : i < l.length := (List.getElem?_eq_some_iff.1 hi).1
        refine ⟨o', o2', a1, a2, ?_⟩
        rw [← a3]
        congr 1
        simp only [List.length_cons]
        omega

theorem nodup_inj : ∀ {l : List Nat}, nodup l = true → ∀ (i j k : Nat), l[i]? = some k → l[j]? = some k → i = j
  | [], _, i, j, k, h, _ => by simp at h
  | x :: l, hn, i, j, k, h1, h2 => by
    simp only [nodup, Bool.and_eq_true, Bool.not_eq_true', List.contains_eq_mem, decide_eq_false_iff_not] at hn
    cases i with
    | zero =>
      cases j with
      | zero => rfl
      | succ j =>
        simp only [List.getElem?_cons_zero, Option.some.injEq] at h1
        subst h1
        exact absurd (List.mem_of_getElem? (by simpa using h2)) hn.1
    | succ i =>
      cases j with
      | zero =>
        simp only [List.getElem?_cons_zero, Option.some.injEq] at h2
        subst h2
        exact absurd (List.mem_of_getElem? (by simpa using h1)) hn.1
      | succ j => rw [nodup_inj hn.2 i j k (by simpa using h1) (by simpa using h2)]

/-- AT A RETURN. -/
theorem ret_sound {ρ0 : Rho} {h0 h : LHeap} {w0 w : World} {v v' : Value} (i0 : Inv P ρ0 h0 w0) (i : Inv P ρ h w) (f : Fr ρ0 h0 w0 ρ h w) (hv : VR ρ v v') : Res1 P ρ0 h0 w0 (retV h0.nx v h).1 (retV h0.nx v h).2 v' w := by
  have plain : Res1 P ρ0 h0 w0 v h v' w := ⟨ρ, hv, i, f⟩
  unfold retV
  cases hesc : Nat.blt h.esc h0.nx with
  | true => exact plain
  | false =>
    simp only [cond_false]
    have hesc : h0.nx ≤ h.esc := by
      rcases Nat.lt_or_ge h.esc h0.nx with g | g
      · rw [show Nat.blt h.esc h0.nx = true from by simpa [Nat.blt_eq] using g] at hesc; cases hesc
      · exact g
    generalize reach h h0.nx 10000 (refs 50 h0.nx v) [] = ks
    split
    · rename_i v2 bs hv2 hbs
      cases hc : (nodup ks && ks.all fun k => Nat.ble h0.nx k) with
      | false => exact plain
      | true =>
        simp only [cond_true]
        simp only [Bool.and_eq_true, List.all_eq_true] at hc
        obtain ⟨hnd, hge⟩ := hc
        have hge : ∀ k ∈ ks, h0.nx ≤ k := fun k hk => Nat.le_of_ble_eq_true (hge k hk)
        obtain ⟨b1, b2, b3⟩ := renOs_at hbs
        simp only [List.length_nil, Nat.add_zero] at b1
        have hs := i.size
        have hs0 := i0.size
        have hgn := f.gn
        have hnx := f.nx
        obtain ⟨H, hH⟩ : ∃ H : LHeap, H = { h with nx := h0.nx + ks.length, b := bs ++ h.b.drop (h.nx - h0.nx), esc := cond ks.isEmpty h.esc (Nat.min h.esc h0.nx) } := ⟨_, rfl⟩
        rw [← hH]
        have Hnx : H.nx = h0.nx + ks.length := by rw [hH]
        have Hgn : H.gn = h.gn := by rw [hH]
        have Hg : H.g = h.g := by rw [hH]
        have Hesc : H.esc = cond ks.isEmpty h.esc (Nat.min h.esc h0.nx) := by rw [hH]
        have Hb : H.b = bs ++ h.b.drop (h.nx - h0.nx) := by rw [hH]
        have hlow : ∀ id, id < h0.nx → hget H id = hget h id := by
          intro id hid
          unfold hget
          rw [Hgn, Hg, Hnx, Hb]
          split
          · rfl
          · rw [if_pos (by omega), if_pos (by omega), lget_eq, lget_eq, List.getElem?_append_right (by omega), List.getElem?_drop]
            congr 1
            omega
        have hnew : ∀ (j k : Nat), ks[j]? = some k → ∃ o o2, hget h k = some o ∧ renO h0.nx ks o = some o2 ∧ hget H (h0.nx + j) = some o2 := by
          intro j k hj
          obtain ⟨o, o2, a1, a2, a3⟩ := b3 j k hj
          have hjl : j < ks.length := (List.getElem?_eq_some_iff.1 hj).1
          refine ⟨o, o2, a1, a2, ?_⟩
          unfold hget
          rw [Hgn, Hnx, Hb, if_neg (by omega), if_pos (by omega), lget_eq, List.getElem?_append_left (by omega), ← a3]
          congr 1
          omega
        have hcase : ∀ id o, hget H id = some o → id < h0.nx ∨ ∃ j k o1, ks[j]? = some k ∧ id = h0.nx + j ∧ hget h k = some o1 ∧ renO h0.nx ks o1 = some o := by
          intro id o ho
          rcases Nat.lt_or_ge id h0.nx with g | g
          · exact .inl g
          · have hlt := hget_some_lt (h := H) (by rw [Hgn, Hnx]; omega) ho
            rw [Hnx] at hlt
            have hj : id - h0.nx < ks.length := by omega
            obtain ⟨o1, o2, a1, a2, a3⟩ := hnew (id - h0.nx) _ (List.getElem?_eq_getElem hj)
            rw [show h0.nx + (id - h0.nx) = id from by omega, ho] at a3
            obtain rfl := Option.some.inj a3
            exact .inr ⟨id - h0.nx, _, o1, List.getElem?_eq_getElem hj, by omega, a1, a2⟩
        have rlow : ∀ id, id < h0.nx → rren ρ h0.nx ks id = ρ id := fun id hid => by unfold rren; rw [if_pos hid]
        have rnew : ∀ (j k : Nat), ks[j]? = some k → rren ρ h0.nx ks (h0.nx + j) = ρ k := fun j k hj => by
          unfold rren
          rw [if_neg (by omega), show h0.nx + j - h0.nx = j from by omega, hj]
          rfl
        refine ⟨rren ρ h0.nx ks, renV_rel 50 _ _ _ hv2 hv, ⟨?_, ?_, ?_, ?_, ?_, by rw [Hgn]; exact i.num, ?_, ?_⟩, ⟨?_, by rw [Hnx]; omega, by rw [Hgn]; exact hgn, by rw [Hg]; exact f.g, f.size, f.os, f.tape, f.output, f.keep, ?_⟩⟩
        · intro id p hp
          rw [Hnx]
          unfold rren at hp
          split at hp
          · omega
          · cases hq : ks[id - h0.nx]? with
            | none => rw [hq] at hp; cases hp
            | some k => have := (List.getElem?_eq_some_iff.1 hq).1; omega
        · intro id o ho ha
          rcases hcase id o ho with g | ⟨j, k, o1, g1, rfl, g3, g4⟩
          · rw [hlow id g] at ho
            obtain ⟨p, x, a1, a2, a3⟩ := i.obj id o ho ha
            exact ⟨p, x, by rw [rlow id g]; exact a1, a2, a3.turn (B := max (id + 1) h.gn) (fun id' q h1 h2 => by rw [rlow id' (Nat.lt_of_lt_of_le h1 (Nat.max_le.2 ⟨by omega, by omega⟩))]; exact h2) (i.esc id o ho (by omega))⟩
          · obtain ⟨p, x, a1, a2, a3⟩ := i.obj k o1 g3 (by rw [← (renO_same g4).2]; exact ha)
            exact ⟨p, x, by rw [rnew j k g1]; exact a1, a2, renO_rel g4 a3⟩
        · intro id id' o o' p p' ho ho' hw ha hp hp' hb
          rcases hcase id o ho with g | ⟨j, k, o1, g1, rfl, g3, g4⟩
          · rw [hlow id g] at ho
            rw [rlow id g] at hp
            rcases hcase id' o' ho' with g' | ⟨j', k', o1', g1', rfl, g3', g4'⟩
            · rw [hlow id' g'] at ho'
              rw [rlow id' g'] at hp'
              exact i.inj id id' o o' p p' ho ho' hw ha hp hp' hb
            · rw [rnew j' k' g1'] at hp'
              have := i.inj id k' o o1' p p' ho g3' hw (by rw [← (renO_same g4').2]; exact ha) hp hp' hb
              have := hge k' (List.mem_of_getElem? g1')
              omega
          · rw [rnew j k g1] at hp
            rcases hcase id' o' ho' with g' | ⟨j', k', o1', g1', rfl, g3', g4'⟩
            · rw [hlow id' g'] at ho'
              rw [rlow id' g'] at hp'
              have := i.inj k id' o1 o' p p' g3 ho' (by rw [← (renO_same g4).1]; exact hw) ha hp hp' hb
              have := hge k (List.mem_of_getElem? g1)
              omega
            · rw [rnew j' k' g1'] at hp'
              have := i.inj k k' o1 o1' p p' g3 g3' (by rw [← (renO_same g4).1]; exact hw) (by rw [← (renO_same g4').2]; exact ha) hp hp' hb
              subst this
              rw [nodup_inj hnd j j' k g1 g1']
        · rw [Hnx, Hgn, Hb]
          simp only [List.length_append, List.length_drop]
          omega
        · intro g hg
          have := i.num
          rw [rlow g (by omega)]
          exact i.globs g hg
        · intro g o ho hg
          rw [Hgn] at hg
          rw [hlow g (by omega)] at ho
          exact i.gro g o ho hg
        · intro id o ho he
          rcases hcase id o ho with g | ⟨j, k, o1, g1, rfl, g3, g4⟩
          · rw [hlow id g] at ho
            rw [Hgn]
            refine i.esc id o ho ?_
            rw [Hesc] at he
            cases ks with
            | nil => exact he
            | cons x l =>
              have he : id < Nat.min h.esc h0.nx := he
              exact Nat.lt_of_lt_of_le he (Nat.min_le_left _ _)
          · exfalso
            rw [Hesc] at he
            cases ks with
            | nil => simp at g1
            | cons x l =>
              simp only [List.isEmpty_cons, cond_false] at he
              have := Nat.min_le_right h.esc h0.nx
              have he : h0.nx + j < Nat.min h.esc h0.nx := he
              have h3 : Nat.min h.esc h0.nx ≤ h0.nx := this
              omega
        · intro id p hp
          rw [rlow id (i0.dom id p hp)]
          exact f.le id p hp
        · intro id o p ho ha hp hb
          rcases hcase id o ho with g | ⟨j, k, o1, g1, rfl, g3, g4⟩
          · rw [hlow id g] at ho
            rw [rlow id g] at hp
            exact f.img id o p ho ha hp hb
          · rw [rnew j k g1] at hp
            obtain ⟨id0, o0, p0, c1, c2, c3, c4, c5⟩ := f.img k o1 p g3 (by rw [← (renO_same g4).2]; exact ha) hp hb
            exact ⟨id0, o0, p0, c1, c2, fun h => c3 (by rw [← (renO_same g4).1]; exact h), c4, c5⟩
    · exact plain
end
end Go.L1

/- CODE: what the compiled form of a function's code comes to, the model's machine comes to. -/
namespace Go.L1
open Go

def exitOf : LExit → Exit
  | .normal => .normal
  | .ret => .ret
  | .exit i => .exit i
  | .goto l => .goto l

def markOf (r : Nat) : Deferred := { target := .collected r, args := #[] }

/-- The deferred calls of an activation: marks of loops alone, whose blocks hold none. -/
def DefOK (lo : Nat) (ds : List Deferred) (w : World) : Prop :=
  ∃ rs : List Nat, ds = rs.map markOf ∧ rs.Nodup ∧ ∀ r ∈ rs, lo ≤ r ∧ w.heap[r]? = some (.deferred (some []))

section
variable {P : Program} {ρ ρ' : Rho} {h h' : LHeap} {w w' : World} {a : Act} {t : Tm}

theorem Fr.keep_other (i : Inv P ρ h w) (f : Fr ρ h w ρ' h' w') {r : Nat} {x : Obj} (hx : w.heap[r]? = some x) (hno : ∀ (ρ : Rho) p o, o.owned = true → ¬ OR P ρ p o x) : w'.heap[r]? = some x := by
  have hlt : r < w.heap.size := (Array.getElem?_eq_some_iff.1 hx).1
  rw [f.keep r hlt fun id o p hg ho hp e => ?_]
  · exact hx
  · obtain ⟨q, y, h1, h2, h3⟩ := i.obj id o hg (owned_alive ho)
    rw [hp] at h1
    obtain rfl := Option.some.inj h1
    rw [e, hx] at h2
    obtain rfl := Option.some.inj h2
    exact hno _ _ _ ho h3

theorem or_deferred {p : Pl} {o : LObj} {ds : Option (List Deferred)} (ho : o.owned = true) : ¬ OR P ρ p o (.deferred ds) := by
  intro hr
  cases o <;> first | exact hr.elim | cases ho

theorem DefOK.keep {lo : Nat} {ds : List Deferred} (d : DefOK lo ds w) (i : Inv P ρ h w) (f : Fr ρ h w ρ' h' w') : DefOK lo ds w' := by
  obtain ⟨rs, h1, h2, h3⟩ := d
  exact ⟨rs, h1, h2, fun r hr => ⟨(h3 r hr).1, f.keep_other i (h3 r hr).2 fun _ _ _ ho => or_deferred ho⟩⟩

theorem Fr.grow (i : Inv P ρ h w) (hw : ∀ (b : Nat), b < w.heap.size → w'.heap[b]? = w.heap[b]?) (hs : w.heap.size ≤ w'.heap.size) (h1 : w'.os = w.os) (h2 : w'.tape = w.tape) (h3 : w'.output = w.output) : Fr ρ h w ρ h w' :=
  ⟨.refl ρ, Nat.le_refl _, rfl, rfl, hs, h1, h2, h3, fun b hb _ => hw b hb, fun id o p a b c _ => ⟨id, o, p, a, b, fun h => h, c, rfl⟩⟩

/-! ### A scope -/

theorem labelOf_none : ∀ {c : Code}, labelOf c = none → ∀ l, findLabel c l = none
  | .seq a b, h, l => by
    unfold labelOf at h
    split at h
    · cases h
    · rename_i ha
      unfold findLabel
      rw [labelOf_none ha l, labelOf_none h l]
  | .label l', h, l => by cases h
  | .skip, _, _ => rfl
  | .region .., _, _ => rfl
  | .cond .., _, _ => rfl
  | .block .., _, _ => rfl
  | .loop _, _, _ => rfl
  | .scope _, _, _ => rfl
  | .goto _, _, _ => rfl
  | .exit _, _, _ => rfl
  | .ret, _, _ => rfl
  | .rangeFunc .., _, _ => rfl
  | .refuse _, _, _ => rfl

theorem labelOf_some : ∀ {c : Code} {l : Nat} {r : Code}, labelOf c = some (l, r) → findLabel c l = some r
  | .seq a b, l, r, h => by
    unfold labelOf at h
    split at h
    · rename_i l' r' ha
      simp only [Option.some.injEq, Prod.mk.injEq] at h
      obtain ⟨rfl, rfl⟩ := h
      unfold findLabel
      rw [labelOf_some ha]
    · rename_i ha
      unfold findLabel
      rw [labelOf_none ha l, labelOf_some h]
  | .label l', l, r, h => by
    simp only [labelOf, Option.some.injEq, Prod.mk.injEq] at h
    obtain ⟨rfl, rfl⟩ := h
    simp [findLabel]
  | .skip, _, _, h => by cases h
  | .region .., _, _, h => by cases h
  | .cond .., _, _, h => by cases h
  | .block .., _, _, h => by cases h
  | .loop _, _, _, h => by cases h
  | .scope _, _, _, h => by cases h
  | .goto _, _, _, h => by cases h
  | .exit _, _, _, h => by cases h
  | .ret, _, _, h => by cases h
  | .rangeFunc .., _, _, h => by cases h
  | .refuse _, _, _, h => by cases h

/-- As Q; by a goto to l: J; by no other. -/
def jumpTo (l : Nat) (J : Act → World → Prop) (Q : Exit → Act → World → Prop) : Exit → Act → World → Prop
  | .goto l', a, w => l' = l ∧ J a w
  | e, a, w => Q e a w

def scopeIn (F : Fence) (n : Nat) (P : Program) (l : Nat) (rest : Code) (Q : Exit → Act → World → Prop) : Nat → Act → World → Prop
  | 0, _, _ => False
  | m + 1, a, w => rest.wpIn F n P (jumpTo l (scopeIn F n P l rest Q m) Q) a w

theorem wpIn_scope {F : Fence} {n : Nat} {c rest : Code} {Q : Exit → Act → World → Prop} (l : Nat) (hf : findLabel c l = some rest) (m : Nat) (first : c.wpIn F n P (jumpTo l (scopeIn F n P l rest Q m) Q) a w) : (Code.scope c).wpIn F n P Q a w := by
  intro b k cs hro hb hr
  have hg : gotoIn l (.inScope c :: k) = some (.code rest :: .inScope c :: k) := by simp [gotoIn, hf]
  have hsc : ∀ {a : Act} {w : World}, step P (lone (b.atR a (.code (.scope c) :: k)) cs w) = .next (lone (b.atR a (.code c :: .inScope c :: k)) cs w) := step_lone_go (by simp [stepG, stepG.exec, Frame.atR])
  have hin : ∀ {a : Act} {w : World}, step P (lone (b.atR a (.inScope c :: k)) cs w) = .next (lone (b.atR a k) cs w) := step_lone_go (by simp [stepG, stepG.exec, Frame.atR])
  have key : ∀ m a w, scopeIn F n P l rest Q m a w → ∃ e a' w', Q e a' w' ∧ ArrivesIn (Machine.fenced P F) P (lone (b.atR a (.code rest :: .inScope c :: k)) cs w) b k cs e a' w' := by
    intro m
    induction m with
    | zero => intro a w h; exact h.elim
    | succ m ih =>
      intro a w h
      obtain ⟨e, a₁, w₁, hq, harr⟩ := h b (.inScope c :: k) cs hro hb hr
      cases e with
      | normal => exact ⟨.normal, a₁, w₁, hq, StepsIn.trans harr (.one (fenced_calm hb hr rfl) hin)⟩
      | exit id =>
        have hx : exitTo id (.inScope c :: k) = exitTo id k := by simp [exitTo]
        exact ⟨_, a₁, w₁, hq, fun k' hk => harr.1 k' (by rw [hx]; exact hk), fun hr' hk => harr.2 hr' (by rw [hx]; exact hk)⟩
      | goto l' =>
        obtain ⟨rfl, hJ⟩ := hq
        obtain ⟨e₂, a₂, w₂, hq₂, harr₂⟩ := ih a₁ w₁ hJ
        exact ⟨e₂, a₂, w₂, hq₂, .of_steps (harr.1 _ hg) harr₂⟩
      | ret => exact ⟨_, a₁, w₁, hq, harr⟩
      | panic ch => exact ⟨_, a₁, w₁, hq, harr⟩
      | outgrown => exact ⟨_, a₁, w₁, hq, harr⟩
  have h0 : (lone (b.atR a (.code (.scope c) :: k)) cs w).fenced P F := fenced_calm hb hr rfl
  obtain ⟨e, a₁, w₁, hq, harr⟩ := first b (.inScope c :: k) cs hro hb hr
  cases e with
  | normal => exact ⟨.normal, a₁, w₁, hq, .head h0 hsc (StepsIn.trans harr (.one (fenced_calm hb hr rfl) hin))⟩
  | exit id =>
    have hx : exitTo id (.inScope c :: k) = exitTo id k := by simp [exitTo]
    exact ⟨_, a₁, w₁, hq, fun k' hk => .head h0 hsc (harr.1 k' (by rw [hx]; exact hk)), fun hr' hk => let ⟨k₁, h1, h2⟩ := harr.2 hr' (by rw [hx]; exact hk); ⟨k₁, h1, .head h0 hsc h2⟩⟩
  | goto l' =>
    obtain ⟨rfl, hJ⟩ := hq
    obtain ⟨e₂, a₂, w₂, hq₂, harr₂⟩ := key m a₁ w₁ hJ
    exact ⟨e₂, a₂, w₂, hq₂, .of_steps (.head h0 hsc (harr.1 _ hg)) harr₂⟩
  | ret => exact ⟨_, a₁, w₁, hq, .of_steps (.one h0 hsc) harr⟩
  | panic ch => exact ⟨_, a₁, w₁, hq, .of_steps (.one h0 hsc) harr⟩
  | outgrown => exact ⟨_, a₁, w₁, hq, .of_steps (.one h0 hsc) harr⟩

/-! ### A loop's record -/

theorem sameSt_eq {s s' : LoopState} (h : sameSt s s' = true) : s = s' := by cases s <;> cases s' <;> first | rfl | cases h

/-- A loop's record in both. -/
theorem loop_rec (i : Inv P ρ h w) {l : Nat} {st : LoopState} {pend : Option LExit} {t : Tm} {ps : List Nat} {x y : LCode} (hg : hget h l = some (.loop st pend t ps x y)) :
    ∃ p r, ρ l = some p ∧ w.heap[p.b]? = some (.loop r) ∧ OR P ρ p (.loop st pend t ps x y) (.loop r) := by
  obtain ⟨p, z, h1, h2, h3⟩ := i.obj l _ hg rfl
  cases z <;> try exact h3.elim
  exact ⟨p, _, h1, h2, h3⟩

theorem loop_set (i : Inv P ρ h w) {l : Nat} {o : LObj} (hg : hget h l = some o) (ho : o.owned = true) {p : Pl} (hp : ρ l = some p) {r r' : Loop} (hx : w.heap[p.b]? = some (.loop r)) {o' : LObj}
    (hr : OR P ρ p o' (.loop r')) (hob : OB (l + 1) o → OB (l + 1) o') :
    (setObj p.b (.loop r')).run P w = .ok () { w with heap := w.heap.setIfInBounds p.b (.loop r') } ∧ Inv P ρ (hset h l o' 0) { w with heap := w.heap.setIfInBounds p.b (.loop r') } ∧
      Fr ρ h w ρ (hset h l o' 0) { w with heap := w.heap.setIfInBounds p.b (.loop r') } := by
  have hlt : p.b < w.heap.size := (Array.getElem?_eq_some_iff.1 hx).1
  refine ⟨by simp [setObj, Sem.run, hx], ?_⟩
  exact i.set hg ho hp 0 (by simp [Array.getElem?_setIfInBounds, hlt]) (fun b hb => by simp only [Array.getElem?_setIfInBounds]; rw [if_neg (fun x => hb x.symm)]) (by simp) rfl rfl rfl hr (fun _ _ h => hob h)

theorem getLoop_run {l : Nat} {r : Loop} (hx : w.heap[l]? = some (.loop r)) : (Instr.getLoop l).run P w = .ok r w := by
  have h1 : (getObj l).run P w = .ok (.loop r) w := by simp [getObj, Sem.run, hx]
  simp only [Instr.getLoop, Sem.run_bind, h1, Result.andThen_ok, Sem.run_pure]

theorem loopSet_some {l : Nat} {st st' : LoopState} {pend : Option LExit} {h2 : LHeap} (hs : loopSet h l st st' pend = some h2) (i : Inv P ρ h w) (hpn : pend = some .normal → False) :
    ∃ p r, ρ l = some p ∧ w.heap[p.b]? = some (.loop r) ∧ r.state = st ∧
      (setObj p.b (.loop { r with state := st', pending := pend.bind codeOf })).run P w = .ok () { w with heap := w.heap.setIfInBounds p.b (.loop { r with state := st', pending := pend.bind codeOf }) } ∧
      Inv P ρ h2 { w with heap := w.heap.setIfInBounds p.b (.loop { r with state := st', pending := pend.bind codeOf }) } ∧
      Fr ρ h w ρ h2 { w with heap := w.heap.setIfInBounds p.b (.loop { r with state := st', pending := pend.bind codeOf }) } := by
  unfold loopSet at hs
  split at hs
  · rename_i s t ps x y hg
    obtain ⟨hst, hs⟩ := chk_some hs
    simp only [Option.some.injEq] at hs
    subst hs
    have := sameSt_eq hst
    subst this
    obtain ⟨p, r, h1, h2, h3⟩ := loop_rec i hg
    have h4 := h3
    simp only [OR] at h4
    obtain ⟨g1, g2, g3, g4, g5, g6, d, d', g7, g8⟩ := h4
    have hor : OR P ρ p (.loop st' pend t ps x y) (.loop { r with state := st', pending := pend.bind codeOf }) := ⟨rfl, rfl, hpn, g4, g5, g6, d, d', g7, g8⟩
    obtain ⟨k1, k2, k3⟩ := loop_set i hg rfl h1 h2 hor (fun h => h)
    exact ⟨p, r, h1, h2, g1, k1, k2, k3⟩
  · cases hs

theorem put_args {ps : List Nat} : ∀ {args args' : List Value} {t : Tm} {tm : Array Value}, ps.length = args.length → LR ρ args args' → TR ρ t tm → (∀ j ∈ ps, j < tm.size) →
    TR ρ ((ps.zip args).foldl (fun t p => fset t p.1 p.2) t) ((ps.zip args').foldl (fun (tm : Array Value) (x : Nat × Value) => tm.setIfInBounds x.1 x.2) tm) ∧ ((ps.zip args').foldl (fun (tm : Array Value) (x : Nat × Value) => tm.setIfInBounds x.1 x.2) tm).size = tm.size := by
  induction ps with
  | nil => intro args args' t tm _ _ r _; exact ⟨r, rfl⟩
  | cons j ps ih =>
    intro args args' t tm hl hr r hj
    cases args with
    | nil => simp at hl
    | cons v args =>
      obtain ⟨v', r', rfl, g1, g2⟩ := hr.cons_left
      have h1 : TR ρ (fset t j v) (tm.setIfInBounds j v') := TR.put (a := ⟨tm, []⟩) (dst := some j) r (fun d hd => by cases hd; exact hj j List.mem_cons_self) g1
      obtain ⟨k1, k2⟩ := ih (args := args) (args' := r') (t := fset t j v) (tm := tm.setIfInBounds j v') (by simpa using hl) g2 h1 (fun x hx => by simpa using hj x (List.mem_cons_of_mem _ hx))
      exact ⟨k1, by simpa using k2⟩
end

/-! ### Code -/

section
variable {P : Program} {call : CallF} {n nt : Nat} {res : Value × LHeap} {lo : Nat}

/-- What is asked of what follows. -/
def Then (P : Program) (nt lo : Nat) (K : KF) (res : Value × LHeap) (ρ : Rho) (h : LHeap) (w : World) (Q : Exit → Act → World → Prop) : Prop :=
  ∀ e t' h' ρ' a' w', K e t' h' = some res → Inv P ρ' h' w' → TR ρ' t' a'.tmps → Fr ρ h w ρ' h' w' → a'.tmps.size = nt → DefOK lo a'.defers w' → Q (exitOf e) a' w'

theorem Then.from {K : KF} {ρ ρ' : Rho} {h h' : LHeap} {w w' : World} {Q : Exit → Act → World → Prop} (q : Then P nt lo K res ρ h w Q) (f : Fr ρ h w ρ' h' w') : Then P nt lo K res ρ' h' w' Q :=
  fun e t2 h2 ρ2 a2 w2 k i r f2 s d => q e t2 h2 ρ2 a2 w2 k i r (f.trans f2) s d

theorem den_sound (hcall : CallOK P call) (hm : P.follows .mixedOrders = true) : ∀ (d : Nat) (c : Code) (rb : Bool) (rd : Option Nat), (rb = false → rd = none) → ∀ {K : KF} {t : Tm} {h : LHeap} {ρ : Rho} {a : Act} {w : World} {m : Nat} {Q : Exit → Act → World → Prop},
    den call n (comp P rb nt d c) K t h = some res → Inv P ρ h w → TR ρ t a.tmps → a.tmps.size = nt → DefOK lo a.defers w → lo ≤ w.heap.size → Then P nt lo K res ρ h w Q → c.wpIn (W rd) m P Q a w := by
  intro d
  induction d with
  | zero => intro c rb rd _ K t h ρ a w m Q hk; simp [comp, den] at hk
  | succ d ih =>
    intro c rb rd hrd K t h ρ a w m Q hk i r hs hd hlo hq
    cases c with
    | skip => exact wpIn_skip (hq .normal t h ρ a w hk i r (Fr.refl ρ h w) hs hd)
    | label l => exact wpIn_label (hq .normal t h ρ a w hk i r (Fr.refl ρ h w) hs hd)
    | exit id => exact wpIn_exit (hq (.exit id) t h ρ a w hk i r (Fr.refl ρ h w) hs hd)
    | goto l => exact wpIn_goto (hq (.goto l) t h ρ a w hk i r (Fr.refl ρ h w) hs hd)
    | ret => exact wpIn_ret (hq .ret t h ρ a w hk i r (Fr.refl ρ h w) hs hd)
    | refuse why => simp [comp, den] at hk
    | region id ops dr =>
      have fin : ∀ ρ' t' h' a' w', K .normal t' h' = some res → Inv P ρ' h' w' → TR ρ' t' a'.tmps → Fr ρ h w ρ' h' w' → a'.tmps.size = nt → a'.defers = a.defers → Q .normal a' w' :=
        fun ρ' t' h' a' w' k1 k2 k3 k4 k5 k6 => hq .normal t' h' ρ' a' w' k1 k2 k3 k4 k5 (by rw [k6]; exact hd.keep i k4)
      cases dr with
      | false =>
        simp only [comp] at hk
        split at hk
        · rename_i ls hls
          simp only [den] at hk
          refine wpIn_region ?_
          have hcl := CL.of_mapM (P := P) (nt := nt) (ops := ops) ops.size 0 ls (by omega) (by simpa using hls)
          rw [List.range_eq_range']
          exact region_sound hcall hcl hk i r hs fin
        · simp [den] at hk
      | true =>
        simp only [comp] at hk
        split at hk
        · rename_i ls hls
          simp only [den] at hk
          unfold compDraw at hls
          dsimp only at hls
          split at hls
          · rename_i ls' hmm
            split at hls
            · rename_i hok
              simp only [Option.some.injEq] at hls
              subst hls
              exact drawn_sound hcall hm (dok_of hmm hok) hk i r hs fin
            · cases hls
          · cases hls
        · simp [den] at hk
    | seq x y =>
      simp only [comp, den] at hk
      refine wpIn_seq (ih x rb rd hrd hk i r hs hd hlo ?_)
      intro e t' h' ρ' a' w' k1 k2 k3 k4 k5 k6
      cases e with
      | normal => exact ih y rb rd hrd k1 k2 k3 k5 k6 (Nat.le_trans hlo k4.size) (hq.from k4)
      | ret => exact hq .ret t' h' ρ' a' w' k1 k2 k3 k4 k5 k6
      | exit j => exact hq (.exit j) t' h' ρ' a' w' k1 k2 k3 k4 k5 k6
      | goto l => exact hq (.goto l) t' h' ρ' a' w' k1 k2 k3 k4 k5 k6
    | cond c x y =>
      simp only [comp] at hk
      split at hk
      · rename_i hc
        simp only [den] at hk
        have hr := ev_rel i r hc
        rcases oc_some hk with ⟨hb, hk⟩ | ⟨hb, hk⟩
        · rw [hb] at hr
          exact wpIn_cond_true hr.bool_inv (ih x rb rd hrd hk i r hs hd hlo hq)
        · rw [hb] at hr
          exact wpIn_cond_false hr.bool_inv (ih y rb rd hrd hk i r hs hd hlo hq)
      · simp [den] at hk
    | block id x =>
      simp only [comp, den] at hk
      refine wpIn_block (ih x rb rd hrd hk i r hs hd hlo ?_)
      intro e t' h' ρ' a' w' k1 k2 k3 k4 k5 k6
      cases e with
      | normal => exact hq .normal t' h' ρ' a' w' k1 k2 k3 k4 k5 k6
      | ret => exact hq .ret t' h' ρ' a' w' k1 k2 k3 k4 k5 k6
      | goto l => exact hq (.goto l) t' h' ρ' a' w' k1 k2 k3 k4 k5 k6
      | exit j =>
        show (if j = id then Q .normal a' w' else Q (.exit j) a' w')
        simp only [blockK] at k1
        by_cases e : j = id
        · rw [if_pos e]
          rw [e, beq_true] at k1
          exact hq .normal t' h' ρ' a' w' k1 k2 k3 k4 k5 k6
        · rw [if_neg e]
          rw [beq_false e] at k1
          exact hq (.exit j) t' h' ρ' a' w' k1 k2 k3 k4 k5 k6
    | loop x =>
      simp only [comp, den] at hk
      refine wpIn_loop_rounds n ?_
      have key : ∀ (n0 : Nat) (t : Tm) (h : LHeap) (ρ : Rho) (a : Act) (w : World), loopN n0 (fun again => den call n (comp P rb nt d x) (seqK again K)) t h = some res → Inv P ρ h w → TR ρ t a.tmps → a.tmps.size = nt → DefOK lo a.defers w → lo ≤ w.heap.size →
          Then P nt lo K res ρ h w Q → Code.roundsIn (W rd) m P x Q n0 a w := by
        intro n0
        induction n0 with
        | zero => intro t h ρ a w hk; cases hk
        | succ n0 ihn =>
          intro t h ρ a w hk i r hs hd hlo hq
          rw [roundsIn_succ]
          refine ih x rb rd hrd (K := seqK (loopN n0 fun again => den call n (comp P rb nt d x) (seqK again K)) K) hk i r hs hd hlo ?_
          intro e t' h' ρ' a' w' k1 k2 k3 k4 k5 k6
          cases e with
          | normal => exact ihn t' h' ρ' a' w' k1 k2 k3 k5 k6 (Nat.le_trans hlo k4.size) (hq.from k4)
          | ret => exact hq .ret t' h' ρ' a' w' k1 k2 k3 k4 k5 k6
          | exit j => exact hq (.exit j) t' h' ρ' a' w' k1 k2 k3 k4 k5 k6
          | goto l => exact hq (.goto l) t' h' ρ' a' w' k1 k2 k3 k4 k5 k6
      exact key n t h ρ a w hk i r hs hd hlo hq
    | scope x =>
      simp only [comp] at hk
      split at hk
      · rename_i l rest hlab
        simp only [den] at hk
        have key : ∀ (n0 : Nat) (t : Tm) (h : LHeap) (ρ : Rho) (a : Act) (w : World), loopN n0 (fun again => den call n (comp P rb nt d rest) (scopeK l again K)) t h = some res → Inv P ρ h w → TR ρ t a.tmps → a.tmps.size = nt → DefOK lo a.defers w → lo ≤ w.heap.size →
            Then P nt lo K res ρ h w Q → scopeIn (W rd) m P l rest Q n0 a w := by
          intro n0
          induction n0 with
          | zero => intro t h ρ a w hk; cases hk
          | succ n0 ihn =>
            intro t h ρ a w hk i r hs hd hlo hq
            refine ih rest rb rd hrd (K := scopeK l (loopN n0 fun again => den call n (comp P rb nt d rest) (scopeK l again K)) K) hk i r hs hd hlo ?_
            intro e t' h' ρ' a' w' k1 k2 k3 k4 k5 k6
            cases e with
            | normal => exact hq .normal t' h' ρ' a' w' k1 k2 k3 k4 k5 k6
            | ret => exact hq .ret t' h' ρ' a' w' k1 k2 k3 k4 k5 k6
            | exit j => exact hq (.exit j) t' h' ρ' a' w' k1 k2 k3 k4 k5 k6
            | goto l' =>
              simp only [scopeK] at k1
              obtain ⟨hb, k1⟩ := cond_some k1
              exact ⟨Nat.eq_of_beq_eq_true hb, ihn t' h' ρ' a' w' k1 k2 k3 k5 k6 (Nat.le_trans hlo k4.size) (hq.from k4)⟩
        refine wpIn_scope l (labelOf_some hlab) n (ih x rb rd hrd hk i r hs hd hlo ?_)
        intro e t' h' ρ' a' w' k1 k2 k3 k4 k5 k6
        cases e with
        | normal => exact hq .normal t' h' ρ' a' w' k1 k2 k3 k4 k5 k6
        | ret => exact hq .ret t' h' ρ' a' w' k1 k2 k3 k4 k5 k6
        | exit j => exact hq (.exit j) t' h' ρ' a' w' k1 k2 k3 k4 k5 k6
        | goto l' =>
          simp only [scopeK] at k1
          obtain ⟨hb, k1⟩ := cond_some k1
          exact ⟨Nat.eq_of_beq_eq_true hb, key n t' h' ρ' a' w' k1 k2 k3 k5 k6 (Nat.le_trans hlo k4.size) (hq.from k4)⟩
      · simp [den] at hk
    | rangeFunc g ps as bd =>
      simp only [comp] at hk
      split at hk
      · rename_i hc
        simp only [Bool.and_eq_true, Bool.not_eq_true'] at hc
        obtain ⟨⟨hg, hps⟩, hrb⟩ := hc
        have hrdn := hrd hrb
        subst hrdn
        simp only [den] at hk
        unfold oRange at hk
        split at hk
        · rename_i fg x y hev
          obtain ⟨⟨v1, h1⟩, hc1, hk⟩ := ob_some hk
          obtain ⟨⟨e1, h2⟩, he1, hk⟩ := ob_some hk
          have hrg := ev_rel i r hg
          rw [hev] at hrg
          obtain ⟨f', x', y', hf', hx, hy, hrel⟩ := fn_inv hrg
          obtain ⟨g1, hgg, hfg⟩ := hrel.resolve_right (by rintro ⟨l, p, h, _⟩; cases h)
          have hgg : fg = g1 := by cases hgg; rfl
          subst hgg
          subst hfg
          refine wpIn_rangeFunc fun fn _ => ?_
          -- the two blocks
          obtain ⟨w1, hw1⟩ : ∃ w1 : World, w1 = w.alloc (.deferred (some [])) := ⟨_, rfl⟩
          have hsz1 : w1.heap.size = w.heap.size + 1 := by rw [hw1]; simp
          have hold1 : ∀ b, b < w.heap.size → w1.heap[b]? = w.heap[b]? := fun b hb => by
            rw [hw1]
            show (w.heap.push _)[b]? = _
            rw [Array.getElem?_push, if_neg (by omega)]
          have hnew1 : w1.heap[w.heap.size]? = some (.deferred (some [])) := by
            rw [hw1]
            show (w.heap.push _)[_]? = _
            rw [Array.getElem?_push, if_pos rfl]
          have i1 : Inv P ρ h w1 := i.grow fun b z hb => by rw [hold1 b (Array.getElem?_eq_some_iff.1 hb).1]; exact hb
          have f1 : Fr ρ h w ρ h w1 := Fr.grow i hold1 (by omega) (by rw [hw1]; rfl) (by rw [hw1]; rfl) (by rw [hw1]; rfl)
          obtain ⟨rec, hrec⟩ : ∃ rec : Loop, rec = { state := .ready, pending := none, fn, tmps := a.tmps, params := ps, assign := as, body := bd, defers := w.heap.size } := ⟨_, rfl⟩
          have hdom : Rle ρ (radd ρ h.nx ⟨w1.heap.size, 0, none⟩) := Rle.radd i _
          have hor : OR P (radd ρ h.nx ⟨w1.heap.size, 0, none⟩) ⟨w1.heap.size, 0, none⟩ (.loop .ready none t ps.toList (comp P true nt d as) (comp P true nt d bd)) (.loop rec) := by
            rw [hrec]
            refine ⟨rfl, rfl, (fun h => by cases h), r.mono hdom, by simp, fun j hj => ?_, d, d, (by show comp P true a.tmps.size d as = _; rw [hs]), (by show comp P true a.tmps.size d bd = _; rw [hs])⟩
            show j < a.tmps.size
            rw [hs]
            rw [Array.all_eq_true_iff_forall_mem] at hps
            have := hps j (by simpa using hj)
            simpa using this
          obtain ⟨i2, f2⟩ := i1.alloc _ _ none hor
          obtain ⟨w2, hw2⟩ : ∃ w2 : World, w2 = w1.alloc (.loop rec) := ⟨_, rfl⟩
          rw [← hw2] at i2 f2
          have henter : (Instr.enterLoop fn a.tmps ps as bd none).run P w = .ok (w1.heap.size, [markOf w.heap.size]) w2 := by
            have hn : ∀ (o : Obj) (w : World), (newObj o).run P w = .ok w.heap.size (w.alloc o) := fun _ _ => rfl
            simp only [Instr.enterLoop, Sem.run_bind, hn, Result.andThen_ok, Sem.run_pure]
            rw [hw2, hrec, hw1]
            rfl
          have hyv : VR (radd ρ h.nx ⟨w1.heap.size, 0, none⟩) (.func (.yield h.nx) #[] #[]) (.func (.yield w1.heap.size) #[] #[]) := VR.yield (p := ⟨w1.heap.size, 0, none⟩) (radd_same _ _ _)
          have hres : (resolve a.eval (rangeCall g w1.heap.size) 0).run P w2 = .ok { target := .fn (.func fg) y', args := x' ++ #[Value.func (.yield w1.heap.size) #[] #[]] } w2 := by
            have : (resolve a.eval (rangeCall g w1.heap.size) 0) = Deferred.ofValue (a.eval g) #[Value.func (.yield w1.heap.size) #[] #[]] := by
              simp [resolve, rangeCall]
              rfl
            rw [this, hf']
            rfl
          have hargs : LR (radd ρ h.nx ⟨w1.heap.size, 0, none⟩) (x.toList ++ ([.func (.yield h.nx) #[] #[]] ++ y.toList)) (x'.toList ++ ([Value.func (.yield w1.heap.size) #[] #[]] ++ y'.toList)) :=
            (hx.mono hdom).append ((LR.cons hyv .nil).append (hy.mono hdom))
          obtain ⟨fn2, hfn2, hname, hcase⟩ := hcall _ _ _ _ _ hc1 _ w2 _ i2 hargs
          rcases hcase with ⟨hb, hcalls⟩ | ⟨_, hno, _⟩
          · have hinv : (invoke (.fn (.func fg) y') (x' ++ #[Value.func (.yield w1.heap.size) #[] #[]])).run P w2 = .ok (.enter fg (x'.toList ++ ([Value.func (.yield w1.heap.size) #[] #[]] ++ y'.toList)).toArray) w2 := by
              have hb2 : fn2.body ≠ none := fun e => by rw [e] at hb; cases hb
              have heq : (x' ++ #[Value.func (.yield w1.heap.size) #[] #[]] ++ y') = (x'.toList ++ ([Value.func (.yield w1.heap.size) #[] #[]] ++ y'.toList)).toArray := by
                apply Array.toList_inj.1; simp
              simp only [invoke, heq]
              unfold callFunc
              simp [hfn2, hname, hb2]
            refine ⟨w1.heap.size, [markOf w.heap.size], w2, _, w2, fg, _, w2, henter, hres, fun f' _ => about_any rfl f', hinv, fun h => by simp [W, Fence.wide] at h, (hcalls none (m - 1)).mono ?_⟩
            intro e w3 he
            cases e with
            | panicked _ => exact he.elim
            | outgrown => exact he.elim
            | returned v' =>
              obtain ⟨ρ3, _, i3, f3⟩ := he
              -- the loop's end
              unfold loopEnd at he1
              split at he1
              · rename_i st pend t2 ps2 a2 b2 hgl
                obtain ⟨hst, he1⟩ := chk_some he1
                simp only [Option.some.injEq, Prod.mk.injEq] at he1
                obtain ⟨rfl, rfl⟩ := he1
                obtain ⟨p, r3, hp, hx3, ho3⟩ := loop_rec i3 hgl
                have hpl := f3.le h.nx _ (radd_same ρ h.nx ⟨w1.heap.size, 0, none⟩)
                rw [hp] at hpl
                obtain rfl := Option.some.inj hpl
                obtain ⟨o1, o2, o3, _⟩ := ho3
                obtain ⟨k1, k2, k3⟩ := loop_set i3 hgl rfl hp hx3 (r' := { r3 with state := .exhausted }) (o' := .dead) trivial (fun _ => trivial)
                simp only at k1 k2 k3 hx3
                have hend : (Instr.endLoop w1.heap.size).run P w3 = .ok (pend.bind codeOf) { w3 with heap := w3.heap.setIfInBounds w1.heap.size (.loop { r3 with state := .exhausted }) } := by
                  have hnb : (r3.state == LoopState.busy) = false := by
                    rw [o1]
                    simp only [Bool.or_eq_true] at hst
                    rcases hst with e | e <;> rw [sameSt_eq e] <;> rfl
                  simp only [Instr.endLoop, Sem.run_bind, getLoop_run hx3, Result.andThen_ok, hnb, Bool.false_eq_true, if_false, Sem.run_pure, k1]
                  rw [o2]
                refine ⟨_, _, hend, ?_⟩
                have fall : Fr ρ h w ρ3 _ _ := f1.trans (f2.trans (f3.trans k3))
                have hle3 : Rle ρ ρ3 := fall.le
                have hdef : DefOK lo ([markOf w.heap.size] ++ a.defers) { w3 with heap := w3.heap.setIfInBounds w1.heap.size (.loop { r3 with state := .exhausted }) } := by
                  obtain ⟨rs, d1, d2, d3⟩ := hd.keep i fall
                  obtain ⟨rs0, z1, z2, z3⟩ := hd
                  have hrs : rs0 = rs := by
                    have : rs0.map markOf = rs.map markOf := by rw [← z1, ← d1]
                    refine List.map_inj_right (fun x y hxy => ?_) |>.1 this
                    simpa [markOf] using hxy
                  subst hrs
                  refine ⟨w.heap.size :: rs0, by rw [d1]; rfl, List.nodup_cons.2 ⟨fun hin => ?_, d2⟩, fun r hr => ?_⟩
                  · have := (Array.getElem?_eq_some_iff.1 (z3 _ hin).2).1
                    omega
                  · rcases List.mem_cons.1 hr with rfl | hr
                    · refine ⟨hlo, ?_⟩
                      have q2 := f2.keep_other i1 hnew1 (fun _ _ _ ho => or_deferred ho)
                      have q3 := f3.keep_other i2 q2 (fun _ _ _ ho => or_deferred ho)
                      exact k3.keep_other i3 q3 (fun _ _ _ ho => or_deferred ho)
                    · exact d3 r hr
                have go : ∀ e, e = pend.getD .normal → Q (exitOf e) { a with defers := [markOf w.heap.size] ++ a.defers } { w3 with heap := w3.heap.setIfInBounds w1.heap.size (.loop { r3 with state := .exhausted }) } := by
                  rintro e rfl
                  exact hq _ t _ ρ3 _ _ hk k2 (r.mono hle3) fall hs hdef
                cases pend with
                | none => exact go .normal rfl
                | some e =>
                  cases e with
                  | normal => exact (o3 rfl).elim
                  | ret => exact wpIn_ret (go .ret rfl)
                  | exit j => exact wpIn_exit (go (.exit j) rfl)
                  | goto l => exact wpIn_goto (go (.goto l) rfl)
              · cases he1
          · exfalso
            have := hno (.func (.yield w1.heap.size) #[] #[]) (by simp)
            cases this
        · cases hk
      · simp [den] at hk
end
end Go.L1

/- CALLS: what L1 answers to a call, the model's machine answers, in every world that goes with the logical heap, on every tape. -/
namespace Go.L1
open Go

section
variable {P : Program} {ρ ρ' : Rho} {h h' : LHeap} {w w' : World} {a : Act} {t : Tm} {v : Value}

/-! ### A function's results -/

theorem loadVar_run {ty : TypeId} (hty : (P.underlying ty).isSome = true) (i : Inv P ρ h w) {ad : Addr} {p : Pl} (hp : ρ ad.block = some p) {u : Value}
    (hu : (if isAggT P ty then (rdN h ad (P.cellsOf ty)).map fun c => Value.agg ⟨c⟩ else rd1 h ad) = some u) : ∃ u', (loadVar ty ⟨p.b, p.o + ad.off, none⟩).run P w = .ok u' w ∧ VR ρ u u' := by
  obtain ⟨d, ht⟩ := Option.isSome_iff_exists.1 hty
  unfold loadVar
  simp only [Sem.run_bind, isAgg_run ht, Result.andThen_ok]
  split at hu
  · rename_i hag
    simp only [Option.map_eq_some_iff] at hu
    obtain ⟨c, hc, rfl⟩ := hu
    obtain ⟨r', h1, _, h2⟩ := loadCells_run i hc hp
    refine ⟨.agg r'.toArray, ?_, VR.agg' h1⟩
    rw [hag]
    simp only [if_true, Sem.run_bind, sizeOf_run ht, Result.andThen_ok, h2, Sem.run_pure]
  · rename_i hag
    obtain ⟨v', h1, h2⟩ := load_run i hu hp
    refine ⟨v', ?_, h1⟩
    rw [if_neg hag]
    exact h2

def resOne (tmps : Array Value) : ResultVar → Sem Value
  | .tmp t => pure (tmps.getD t undef)
  | .cell a t => do loadVar t (← asAddr (tmps.getD a undef))

theorem res_one (i : Inv P ρ h w) (r : TR ρ t a.tmps) {x : ResultVar} {l : LRes} (hc : compRes P x = some l) {u : Value} (hu : resV t h l = some u) : ∃ u', (resOne a.tmps x).run P w = .ok u' w ∧ VR ρ u u' := by
  cases x with
  | tmp n =>
    simp only [compRes, Option.some.injEq] at hc
    subst hc
    simp only [resV, Option.some.injEq] at hu
    subst hu
    exact ⟨_, rfl, r n⟩
  | cell n ty =>
    simp only [compRes] at hc
    split at hc
    · rename_i hty
      simp only [Option.some.injEq] at hc
      have hr := r n
      have fin : ∀ ad, t n = .pointer (some ad) → (if isAggT P ty then (rdN h ad (P.cellsOf ty)).map fun c => Value.agg ⟨c⟩ else rd1 h ad) = some u → ∃ u', (resOne a.tmps (.cell n ty)).run P w = .ok u' w ∧ VR ρ u u' := by
        intro ad he hld
        rw [he] at hr
        obtain ⟨p, hp, _, hx⟩ := hr.ptr_inv
        obtain ⟨u', h1, h2⟩ := loadVar_run hty i hp hld
        refine ⟨u', ?_, h2⟩
        simp only [resOne, hx, asAddr, Sem.run_bind, Sem.run_pure, Result.andThen_ok, h1]
      split at hc
      · rename_i hag
        subst hc
        simp only [resV] at hu
        split at hu
        · rename_i ad he
          exact fin ad he (by rw [if_pos hag]; exact hu)
        · cases hu
      · rename_i hag
        subst hc
        simp only [resV] at hu
        split at hu
        · rename_i ad he
          exact fin ad he (by rw [if_neg hag]; exact hu)
        · cases hu
    · cases hc

theorem res_list (i : Inv P ρ h w) (r : TR ρ t a.tmps) : ∀ {xs : List ResultVar} {ls : List LRes}, xs.mapM (compRes P) = some ls → ∀ {k : List Value → Res} {res : Value × LHeap}, resL t h ls k = some res →
    ∃ vs vs', k vs = some res ∧ LR ρ vs vs' ∧ (xs.mapM (resOne a.tmps)).run P w = .ok vs' w
  | [], ls, hm, k, res, hk => by
    simp only [List.mapM_nil, Option.pure_def, Option.some.injEq] at hm
    subst hm
    exact ⟨[], [], hk, .nil, rfl⟩
  | x :: xs, ls, hm, k, res, hk => by
    simp only [List.mapM_cons, Option.bind_eq_bind, Option.bind_eq_some_iff, Option.pure_def, Option.some.injEq] at hm
    obtain ⟨l, h1, ls', h2, rfl⟩ := hm
    simp only [resL] at hk
    obtain ⟨u, hu, hk⟩ := ob_some hk
    obtain ⟨u', g1, g2⟩ := res_one i r h1 hu
    obtain ⟨vs, vs', k1, k2, k3⟩ := res_list i r h2 hk
    refine ⟨u :: vs, u' :: vs', k1, .cons g2 k2, ?_⟩
    simp only [List.mapM_cons, Sem.run_bind, g1, Result.andThen_ok, k3, Sem.run_pure]

theorem results_run (i : Inv P ρ h w) (r : TR ρ t a.tmps) {fn : Func} {ls : List LRes} (hm : fn.results.toList.mapM (compRes P) = some ls) {k : List Value → Res} {res : Value × LHeap} (hk : resL t h ls k = some res) :
    ∃ vs v', k vs = some res ∧ VR ρ (tup vs) v' ∧ (results fn a.tmps).run P w = .ok v' w := by
  obtain ⟨vs, vs', k1, k2, k3⟩ := res_list i r hm hk
  have hres : (fn.results.mapM (resOne a.tmps)).run P w = .ok vs'.toArray w := by
    rw [Array.mapM_eq_mapM_toList]
    simp only [map_eq_pure_bind, Sem.run_bind, k3, Result.andThen_ok, Sem.run_pure]
  have hdef : results fn a.tmps = (do
      let vs ← fn.results.mapM (resOne a.tmps)
      pure (if h : vs.size = 1 then vs[0] else .tuple vs)) := rfl
  have hrun : (results fn a.tmps).run P w = .ok (if h : vs'.toArray.size = 1 then vs'.toArray[0] else .tuple vs'.toArray) w := by
    rw [hdef]
    simp only [Sem.run_bind, hres, Result.andThen_ok, Sem.run_pure]
  refine ⟨vs, _, k1, ?_, hrun⟩
  have hl := k2.1
  match vs, vs', hl, k2 with
  | [], [], _, _ => exact VR.tuple' (a := []) (a' := []) .nil
  | [v], [v'], _, k2 => exact k2.head
  | v :: v2 :: r, v' :: v2' :: r', _, k2 =>
    have : ¬ (v' :: v2' :: r').toArray.size = 1 := by simp
    rw [dif_neg this]
    exact VR.tuple' (a := v :: v2 :: r) (a' := v' :: v2' :: r') k2

/-! ### A function's frame -/

theorem frame_rel {args args' : List Value} (hl : LR ρ args args') (nt : Nat) : TR ρ (fr0 args) (args'.toArray ++ Array.replicate (nt - args'.toArray.size) undef) := by
  intro j
  rcases Nat.lt_or_ge j args.length with g | g
  · have h1 := hl.2 j g
    have g' : j < args'.length := by rw [← hl.1]; exact g
    rw [Array.getD_eq_getD_getElem?, Array.getElem?_append_left (by simpa using g'), List.getElem?_toArray, fr0_get args' j g']
    exact h1
  · have h1 : fr0 args j = undefV := by
      clear hl
      induction args generalizing j with
      | nil => cases j <;> rfl
      | cons v l ih =>
        cases j with
        | zero => simp at g
        | succ j => exact ih j (by simpa using g)
    rw [h1, Array.getD_eq_getD_getElem?, Array.getElem?_append_right (by simp; rw [← hl.1]; exact g)]
    cases hq : (Array.replicate (nt - args'.toArray.size) undef)[j - args'.toArray.size]? with
    | none => exact VR.undef
    | some x =>
      rw [Array.getElem?_replicate] at hq
      split at hq
      · simp only [Option.some.injEq] at hq
        subst hq
        exact VR.undef
      · cases hq

/-! ### Leaving -/

/-- The marks are taken; the results are read; what was asked holds. -/
theorem leaves_run {F : Fence} {n : Nat} {fn : Func} {tmps : Array Value} {ρ0 : Rho} {h0 : LHeap} {w0 : World} {R : Value → World → Prop} : ∀ (rs : List Nat) {w : World} (i : Inv P ρ h w) (f : Fr ρ0 h0 w0 ρ h w), rs.Nodup →
    (∀ r ∈ rs, w0.heap.size ≤ r ∧ w.heap[r]? = some (.deferred (some []))) →
    (∀ w', Inv P ρ h w' → Fr ρ0 h0 w0 ρ h w' → ∃ v', (results fn tmps).run P w' = .ok v' w' ∧ R v' w') → LeavesInM F n P fn tmps (EndR R) (rs.map markOf) .returning w
  | [], w, i, f, _, _, hR => by
    obtain ⟨v', h1, h2⟩ := hR w i f
    exact ⟨v', h1, h2⟩
  | r :: rs, w, i, f, hn, hd, hR => by
    obtain ⟨hlo, hx⟩ := hd r List.mem_cons_self
    have hlt : r < w.heap.size := (Array.getElem?_eq_some_iff.1 hx).1
    obtain ⟨w', hw'⟩ : ∃ w' : World, w' = { w with heap := w.heap.setIfInBounds r (.deferred none) } := ⟨_, rfl⟩
    have hoth : ∀ b, b ≠ r → w'.heap[b]? = w.heap[b]? := fun b hb => by
      rw [hw']
      simp only [Array.getElem?_setIfInBounds]
      rw [if_neg (fun e => hb e.symm)]
    have htake : (Instr.takeDeferred r).run P w = .ok [] w' := by
      have h1 : (getObj r).run P w = .ok (.deferred (some [])) w := by simp [getObj, Sem.run, hx]
      have h2 : (setObj r (.deferred none)).run P w = .ok () w' := by rw [hw']; simp [setObj, Sem.run, hx]
      simp only [Instr.takeDeferred, Sem.run_bind, h1, Result.andThen_ok, h2, Sem.run_pure]
    have hsz : w'.heap.size = w.heap.size := by rw [hw']; simp
    have iobj : ∀ id o, hget h id = some o → o.alive = true → ∃ p x, ρ id = some p ∧ w'.heap[p.b]? = some x ∧ OR P ρ p o x := by
      intro id o ho ha
      obtain ⟨p, x, g1, g2, g3⟩ := i.obj id o ho ha
      refine ⟨p, x, g1, ?_, g3⟩
      have hne : p.b ≠ r := by
        intro e
        rw [e, hx] at g2
        obtain rfl := Option.some.inj g2
        cases o <;> first | exact g3.elim | cases ha
      rw [hoth p.b hne]
      exact g2
    have i' : Inv P ρ h w' := { i with obj := iobj }
    have f' : Fr ρ0 h0 w0 ρ h w' := ⟨f.le, f.nx, f.gn, f.g, by rw [hsz]; exact f.size, by rw [hw']; exact f.os, by rw [hw']; exact f.tape, by rw [hw']; exact f.output, fun b hb hno => by
      rw [hoth b (by omega)]; exact f.keep b hb hno, f.img⟩
    refine ⟨by simp, .inl ⟨r, w', rfl, htake, ?_⟩⟩
    refine leaves_run rs i' f' (List.nodup_cons.1 hn).2 (fun r' hr' => ?_) hR
    obtain ⟨q1, q2⟩ := hd r' (List.mem_cons_of_mem _ hr')
    exact ⟨q1, by rw [hoth r' (fun e => (List.nodup_cons.1 hn).1 (e ▸ hr'))]; exact q2⟩

theorem W_round {r : Option Nat} {m : Nat} {g : FuncId} {args : Array Value} {R : Ending → World → Prop} (hc : CallsIn (W none) m P g args w R) : CallsIn (W r) m P g args w R := hc

/-- A FUNCTION's body. -/
theorem body_sound {call : CallF} (hcall : CallOK P call) (hm : P.follows .mixedOrders = true) {n : Nat} {g : FuncId} {fn : Func} {lf : LFunc} (hfn : P.funcs[g]? = some fn) (hcf : compFunc P fn = some lf) {args : List Value} {args' : List Value} {v : Value}
    (hk : den call n lf.body (finK lf.results h.nx) (fr0 args) h = some (v, h')) (hlen : args.length ≤ lf.ntmps) (i : Inv P ρ h w) (hl : LR ρ args args') (r : Option Nat) (m : Nat) : CallsIn (W r) m P g args'.toArray w (EndR (Res1 P ρ h w v h')) := by
  unfold compFunc at hcf
  split at hcf
  · rename_i body results hb hrs
    simp only [Option.some.injEq] at hcf
    subst hcf
    simp only at hk hlen
    refine W_round (callsIn_of_wp_marks (F := W none) hfn hb trivial ?_ rfl)
    have hsz : (args'.toArray ++ Array.replicate (fn.ntmps - args'.toArray.size) undef).size = fn.ntmps := by
      simp only [Array.size_append, List.size_toArray, Array.size_replicate]
      rw [← hl.1]
      omega
    refine den_sound (lo := w.heap.size) hcall hm 1000 body false none (fun _ => rfl) (a := { tmps := args'.toArray ++ Array.replicate (fn.ntmps - args'.toArray.size) undef, defers := [] }) hk i (frame_rel hl fn.ntmps) hsz ⟨[], rfl, List.nodup_nil, fun r hr => by cases hr⟩ (Nat.le_refl _) ?_
    intro e t' h2 ρ' a' w' k1 k2 k3 k4 k5 k6
    have fin : resL t' h2 results (fun vs => some (retV h.nx (tup vs) h2)) = some (v, h') → LeavesInM (W none) m P fn a'.tmps (EndR (Res1 P ρ h w v h')) a'.defers .returning w' := by
      intro hres
      obtain ⟨rs, d1, d2, d3⟩ := k6
      rw [d1]
      refine leaves_run rs k2 k4 d2 d3 (fun w3 i3 f3 => ?_)
      obtain ⟨vs, v', g1, g2, g3⟩ := results_run i3 k3 hrs hres
      refine ⟨v', g3, ?_⟩
      have := ret_sound i i3 f3 g2
      simp only [Option.some.injEq] at g1
      rw [g1] at this
      exact this
    cases e with
    | normal => exact fin k1
    | ret => exact fin k1
    | exit j => cases k1
    | goto l => cases k1
  · cases hcf

/-- A ROUND of a range over a function. -/
theorem round_sound {call : CallF} (hcall : CallOK P call) (hm : P.follows .mixedOrders = true) {n l : Nat} {args args' : List Value} {v : Value} (hk : roundL call n l args h = some (v, h')) (i : Inv P ρ h w) (hl : LR ρ args args') :
    FnOK P ρ (.yield l) args' w (Res1 P ρ h w v h') := by
  unfold roundL at hk
  split at hk
  · rename_i t ps as bd hg
    obtain ⟨hlen, hk⟩ := chk_some hk
    have hlen := Nat.eq_of_beq_eq_true hlen
    obtain ⟨p, r, hp, hx, hor⟩ := loop_rec i hg
    obtain ⟨o1, o2, o3, o4, o5, o6, d, d', o7, o8⟩ := hor
    have hyield : (Instr.yield p.b args'.toArray).run P w = .ok (.round p.b r.fn ((ps.zip args').foldl (fun (tm : Array Value) (x : Nat × Value) => tm.setIfInBounds x.1 x.2) r.tmps) r.assign r.body) w := by
      have hsz : args'.length = ps.length := by rw [← hl.1]; exact hlen
      simp only [Instr.yield, Sem.run_bind, getLoop_run hx, Result.andThen_ok, o5, List.size_toArray, hsz, ne_eq, not_true_eq_false, if_false, Sem.run_pure]
      congr 2
      simp
    refine ⟨p, hp, r.fn, _, r.assign, r.body, hyield, fun r0 m => ?_⟩
    obtain ⟨tr, tsz⟩ := put_args (ps := ps) hlen.symm hl o4 o6
    refine roundIn_of_wpIn (F := W r0) trivial ?_
    show r.assign.wpIn (W (some p.b)) m P _ _ w
    have hsame : ∀ {ρ1 : Rho} {h1 : LHeap} {w1 : World}, Fr ρ h w ρ1 h1 w1 → ∀ {q : Pl}, ρ1 l = some q → q = p := fun f q hq => by
      have := f.le l p hp
      rw [hq] at this
      exact Option.some.inj this
    rw [← o7] at hk
    refine den_sound (lo := 0) (nt := r.tmps.size) hcall hm d r.assign true (some p.b) (fun h => by cases h) hk i tr tsz ⟨[], rfl, List.nodup_nil, fun r hr => by cases hr⟩ (Nat.zero_le _) ?_
    intro e t1 h1 ρ1 a1 w1 k1 k2 k3 k4 k5 k6
    cases e with
    | ret => cases k1
    | exit j => cases k1
    | goto l => cases k1
    | normal =>
      simp only [seqK] at k1
      obtain ⟨h2, hls, k1⟩ := ob_some k1
      obtain ⟨q, r1, q1, q2, q3, q4, q5, q6⟩ := loopSet_some hls k2 (fun h => by cases h)
      obtain rfl := hsame k4 q1
      have hbegin : (Instr.beginRound q.b).run P w1 = .ok () { w1 with heap := w1.heap.setIfInBounds q.b (.loop { r1 with state := .busy, pending := none }) } := by
        have hor1 : r1.pending = none := by
          unfold loopSet at hls
          split at hls
          · rename_i s t3 ps3 a3 b3 hg3
            obtain ⟨p3, r3, z1, z2, z3⟩ := loop_rec k2 hg3
            rw [q1] at z1
            obtain rfl := Option.some.inj z1
            rw [q2] at z2
            have := Option.some.inj z2
            cases this
            exact z3.2.1
          · cases hls
        have hset : (setObj q.b (.loop { r1 with state := .busy })).run P w1 = .ok () { w1 with heap := w1.heap.setIfInBounds q.b (.loop { r1 with state := .busy, pending := none }) } := by
          have : ({ r1 with state := .busy } : Loop) = { r1 with state := .busy, pending := none } := by rw [← hor1]
          rw [this]
          exact q4
        simp only [Instr.beginRound, Sem.run_bind, getLoop_run q2, Result.andThen_ok, hset, q3, Sem.run_pure]
      refine ⟨_, hbegin, ?_⟩
      rw [← o8] at k1
      refine den_sound (lo := 0) (nt := r.tmps.size) hcall hm d' r.body true (some q.b) (fun h => by cases h) k1 q5 (k3.mono q6.le) k5 (k6.keep k2 q6) (Nat.zero_le _) ?_
      intro e t4 h4 ρ4 a4 w4 j1 j2 j3 j4 j5 j6
      have f4 := k4.trans (q6.trans j4)
      have fin : ∀ {st : LoopState} {pend : Option LExit} {jump : Option Code} {bb : Bool}, ob (loopSet h4 l .busy st pend) (fun h => some (retV h.nx (.bool bb) h)) = ob (loopSet h4 l .busy st pend) (fun h => some (retV h.nx (.bool bb) h)) → True := fun _ => trivial
      have go : ∀ (st : LoopState) (pend : Option LExit) (jump : Option Code) (bb : Bool) (h5 : LHeap), loopSet h4 l .busy st pend = some h5 → (pend = some .normal → False) → pend.bind codeOf = jump → (if jump.isNone then LoopState.ready else LoopState.done) = st → jump.isNone = bb →
          some (retV h.nx (.bool bb) h5) = some (v, h') → ∃ v' w', (Instr.endRound q.b jump).run P w4 = .ok v' w' ∧ EndR (Res1 P ρ h w v h') (.returned v') w' := by
        intro st pend jump bb h5 hls5 hpn hj hst hbb hres
        obtain ⟨q', r5, y1, y2, y3, y4, y5, y6⟩ := loopSet_some hls5 j2 hpn
        obtain rfl := hsame f4 y1
        rw [hj] at y4 y5 y6
        refine ⟨.bool bb, { w4 with heap := w4.heap.setIfInBounds q'.b (.loop { r5 with state := st, pending := jump }) }, ?_, ?_⟩
        · simp only [Instr.endRound, Sem.run_bind, getLoop_run y2, Result.andThen_ok, hst, y4, Sem.run_pure]
          rw [hbb]
        · have := ret_sound i y5 (f4.trans y6) (VR.bool (ρ := ρ4) bb)
          have hres := Option.some.inj hres
          rw [hres] at this
          exact this
      cases e with
      | normal =>
        simp only [roundK] at j1
        obtain ⟨h5, hls5, j1⟩ := ob_some j1
        exact go .ready none none true h5 hls5 (fun h => by cases h) rfl rfl rfl j1
      | ret =>
        simp only [roundK] at j1
        obtain ⟨h5, hls5, j1⟩ := ob_some j1
        exact go .done (some .ret) (some .ret) false h5 hls5 (fun h => by cases h) rfl rfl rfl j1
      | exit jj =>
        simp only [roundK] at j1
        obtain ⟨h5, hls5, j1⟩ := ob_some j1
        exact go .done (some (.exit jj)) (some (.exit jj)) false h5 hls5 (fun h => by cases h) rfl rfl rfl j1
      | goto jj =>
        simp only [roundK] at j1
        obtain ⟨h5, hls5, j1⟩ := ob_some j1
        exact go .done (some (.goto jj)) (some (.goto jj)) false h5 hls5 (fun h => by cases h) rfl rfl rfl j1
  · cases hk
end

/-! ### The law -/

/-- An environment of the program's: its functions' compiled forms; contracts for others. -/
structure EnvOK (P : Program) (E : Env) : Prop where
  mixed : P.follows .mixedOrders = true
  funcs : ∀ f lf, E.funcs f = some lf → ∃ fn, P.funcs[f]? = some fn ∧ fn.name ≠ "runtime.NumGoroutine" ∧ compFunc P fn = some lf
  ext : ∀ f g, E.ext f = some g → ∀ args h v h', g args h = some (v, h') → ∀ ρ w args', Inv P ρ h w → LR ρ args args' → FnOK P ρ (.func f) args' w (Res1 P ρ h w v h')

theorem call_sound {P : Program} {E : Env} (ok : EnvOK P E) : ∀ n, CallOK P (callN E n) := by
  intro n
  induction n with
  | zero => intro f args h v h' hk; cases hk
  | succ n ih =>
    intro f args h v h' hk ρ w args' i hl
    cases f with
    | func g =>
      simp only [callN, callF] at hk
      split at hk
      · rename_i x hx
        exact ok.ext g x hx args h v h' hk ρ w args' i hl
      · obtain ⟨lf, hlf, hk⟩ := ob_some hk
        obtain ⟨hlen, hk⟩ := chk_some hk
        obtain ⟨fn, h1, h2, h3⟩ := ok.funcs g lf hlf
        refine ⟨fn, h1, h2, .inl ⟨?_, fun r m => body_sound ih ok.mixed h1 h3 hk (Nat.le_of_ble_eq_true hlen) i hl r m⟩⟩
        unfold compFunc at h3
        split at h3
        · rename_i hb _
          rw [hb]; rfl
        · cases h3
    | yield l => exact round_sound ih ok.mixed hk i hl
    | _ => cases hk

/-- A call of a function that has a body. -/
theorem calls_of_callN {P : Program} {E : Env} (ok : EnvOK P E) {n : Nat} {g : FuncId} {args : List Value} {h : LHeap} {v : Value} {h' : LHeap} (hk : callN E n (.func g) args h = some (v, h')) (hb : ∀ fn, P.funcs[g]? = some fn → fn.body.isSome = true)
    {ρ : Rho} {w : World} {args' : List Value} (i : Inv P ρ h w) (hl : LR ρ args args') : Calls P g args'.toArray w fun e w' => ∃ v', e = .returned v' ∧ Res1 P ρ h w v h' v' w' := by
  obtain ⟨fn, h1, h2, h3⟩ := call_sound ok n _ _ _ _ _ hk ρ w args' i hl
  rcases h3 with ⟨_, h3⟩ | ⟨hn, _⟩
  · have := callsIn_wide.1 (h3 none 0)
    refine this.mono fun e w' he => ?_
    cases e with
    | returned v' => exact ⟨v', rfl, he⟩
    | panicked _ => exact he.elim
    | outgrown => exact he.elim
  · have := hb fn h1
    rw [hn] at this
    cases this

/-- ... and of its record: inside any fence that lets in all functions. -/
theorem callsIn_of_callN {P : Program} {E : Env} (ok : EnvOK P E) {n : Nat} {g : FuncId} {args : List Value} {h : LHeap} {v : Value} {h' : LHeap} (hk : callN E n (.func g) args h = some (v, h')) (hb : ∀ fn, P.funcs[g]? = some fn → fn.body.isSome = true)
    {ρ : Rho} {w : World} {args' : List Value} (i : Inv P ρ h w) (hl : LR ρ args args') : ∀ m, CallsIn Fence.wide m P g args'.toArray w (EndR (Res1 P ρ h w v h')) := by
  obtain ⟨fn, h1, h2, h3⟩ := call_sound ok n _ _ _ _ _ hk ρ w args' i hl
  rcases h3 with ⟨_, h3⟩ | ⟨hn, _⟩
  · exact fun m => h3 none m
  · have := hb fn h1
    rw [hn] at this
    cases this
end Go.L1

/- FROM A RUN OF L1's TO A ROW: a run from an empty heap; a call known by its run; what is as it was. -/
namespace Go.L1
open Go

def FTree.all (p : Nat → LFunc → Prop) : FTree → Prop
  | .nil => True
  | .leaf i f => p i f
  | .node _ a b => a.all p ∧ b.all p

theorem FTree.get_all {p : Nat → LFunc → Prop} : ∀ {t : FTree}, t.all p → ∀ {n f}, t.get n = some f → p n f
  | .nil, _, n, f, h => by cases h
  | .leaf i g, hp, n, f, h => by
    obtain ⟨h1, h2⟩ := cond_some (show cond (Nat.beq i n) (some g) none = some f from h)
    simp only [Option.some.injEq] at h2
    subst h2
    rw [← Nat.eq_of_beq_eq_true h1]
    exact hp
  | .node m a b, hp, n, f, h => by
    unfold FTree.get at h
    cases hb : Nat.blt n m with
    | true => rw [hb] at h; exact FTree.get_all hp.1 h
    | false => rw [hb] at h; exact FTree.get_all hp.2 h

/-- The compiled form of a function of the program's. -/
def FnIs (P : Program) (i : Nat) (l : LFunc) : Prop := ∃ fn, P.funcs[i]? = some fn ∧ fn.name ≠ "runtime.NumGoroutine" ∧ compFunc P fn = some l

/-- All is as it was, but for what is new. -/
structure Kept (w w' : World) : Prop where
  os : w'.os = w.os
  tape : w'.tape = w.tape
  output : w'.output = w.output
  size : w.heap.size ≤ w'.heap.size
  keep : ∀ b, b < w.heap.size → w'.heap[b]? = w.heap[b]?

theorem Kept.frozen {w w' : World} (k : Kept w w') (a : Addr) (h : a.block < w.heap.size) : w'.frozen? a = w.frozen? a := by
  unfold World.frozen?; rw [k.keep _ h]

theorem Kept.but {w w' : World} (k : Kept w w') (may : MemPlace → Prop) : w.keptBut w' may := by
  refine ⟨k.os, k.output, fun i hi => ?_⟩
  rw [k.keep i hi]
  cases w.heap[i]? with
  | none => rfl
  | some o => cases o <;> first | exact ⟨rfl, rfl, rfl, fun _ _ => rfl⟩ | exact .inr ⟨rfl, rfl⟩ | rfl

/-- As 'post_of_same', of what was there alone. -/
theorem post_of_kept {H : Type} {enc : TypeId × Value → H} {P : Program} {f : Func} {s : ChangeSpec} {apart fresh handsOn again : Bool} {W W' : World} {args : Array Value} {v : Value} {ds gs : List (DataW H)} {before pa pv : List MemPlace}
    (hW : DataW.Whole enc P f.params.toList s.vars apart W args.toList ds gs before)
    (hres : ∀ (b : Nat) (sp : Nat → Bool) (hd : Bool), DataW.TrodAll enc P W' b sp hd f.resultTypes.toList (v.resultList f.resultTypes.size) (s.fn H (ds ++ gs)).results [])
    (hargs : ∀ sp : Nat → Bool, (∀ p ∈ before, sp p.block = true) → DataW.TrodAll enc P W' 0 sp true f.params.toList args.toList (s.fn H (ds ++ gs)).args pa)
    (hvars : ∀ sp : Nat → Bool, (∀ p ∈ before, sp p.block = true) → DataW.TrodVars enc P W' sp s.vars (s.fn H (ds ++ gs)).vars pv)
    (hps : before = pa ++ pv) (hk : W.keptBut W' (· ∈ before)) (hfz : ∀ a : Addr, a.block < W.heap.size → W'.frozen? a = W.frozen? a)
    (hok : ∀ (j : Nat) (t : TypeId) (r : Value), f.resultTypes[j]? = some t → (v.resultList f.resultTypes.size)[j]? = some r → Value.okWide P W' .any 0 t r) :
    s.post enc P f apart fresh handsOn again W args v W' := by
  have hold : ∀ p ∈ before, (fun b => decide (b < W.heap.size)) p.block = true := fun p hp => by simpa using hW.lt p hp
  refine ⟨ds, gs, before, [], pa, pv, hW, hres _ _ _, hargs _ hold, hvars _ hold, World.keptBut_mono (fun p hp => ⟨hp, ?_⟩) hk, fun _ => ?_⟩
  · rw [hps, List.mem_append] at hp
    exact Or.inr hp
  · have hlt := hW.lt
    obtain ⟨_, _, _, _, _, hz, hn⟩ := hW
    refine ⟨hok, _, _, ([] ++ pa) ++ pv, ⟨[] ++ pa, pv, ChangeShapes.trodAll_append (hargs _ (fun _ _ => rfl)) (hres _ _ _), hvars _ (fun _ _ => rfl), rfl, ?_, ?_⟩, ?_⟩
    · intro b off hp
      have hin : MemPlace.cell b off ∈ before := by rw [hps]; simpa using hp
      rw [hfz _ (hlt _ hin)]
      exact hz b off hin
    · intro ha
      have := hn ha
      rw [hps] at this
      simpa using this
    · intro p hp _
      rw [hps]
      simpa using hp

/-! ### A run from an empty heap -/

section
variable {P : Program} {E : Env} {ρ : Rho} {w : World} {gn : Nat} {G : List (Nat × LObj)}

theorem Inv.start (hdom : ∀ id p, ρ id = some p → id < gn) (hglobs : ∀ g, g < P.globals.size → ρ g = some ⟨g, 0, none⟩) (hnum : P.globals.size ≤ gn)
    (hG : ∀ id o, gget G id = some o → id < gn → o.owned = false ∧ (o.alive = true → ∃ p x, ρ id = some p ∧ w.heap[p.b]? = some x ∧ OR P ρ p o x)) : Inv P ρ (startH gn G) w := by
  have hg : ∀ {id o}, hget (startH gn G) id = some o → id < gn ∧ gget G id = some o := by
    intro id o h
    unfold hget startH at h
    simp only at h
    split at h
    · exact ⟨by assumption, h⟩
    · cases h
  refine ⟨hdom, ?_, ?_, rfl, hglobs, hnum, ?_, ?_⟩
  · intro id o ho ha
    obtain ⟨h1, h2⟩ := hg ho
    exact (hG id o h2 h1).2 ha
  · intro id id' o o' p p' ho ho' hw
    obtain ⟨h1, h2⟩ := hg ho
    rw [(hG id o h2 h1).1] at hw
    cases hw
  · intro g o ho _
    obtain ⟨h1, h2⟩ := hg ho
    exact (hG g o h2 h1).1
  · intro id o ho _
    obtain ⟨h1, h2⟩ := hg ho
    by_cases ha : o.alive = true
    · obtain ⟨p, x, _, _, hr⟩ := (hG id o h2 h1).2 ha
      exact (hr.ob hdom).mono (Nat.le_max_right _ _)
    · cases o <;> first | exact absurd rfl ha | trivial

theorem Fr.kept {ρ' : Rho} {h' : LHeap} {w' : World} (i : Inv P ρ (startH gn G) w) (f : Fr ρ (startH gn G) w ρ' h' w') : Kept w w' := by
  refine ⟨f.os, f.tape, f.output, f.size, fun b hb => f.keep b hb fun id o p hg ho _ => ?_⟩
  have hge := i.owned_ge hg ho
  have hlt := hget_lt i hg
  have e1 : (startH gn G).gn = gn := rfl
  have e2 : (startH gn G).nx = gn := rfl
  omega

theorem FnOK.mono {f : Fn} {args : List Value} {R R' : Value → World → Prop} (h : FnOK P ρ f args w R) {ρ2 : Rho} (hρ : ∀ l p, ρ l = some p → ρ2 l = some p) (hr : ∀ v w', R v w' → R' v w') : FnOK P ρ2 f args w R' := by
  have he : ∀ e w', EndR R e w' → EndR R' e w' := fun e w' h => by
    cases e with
    | returned v => exact hr _ _ h
    | panicked _ => exact h
    | outgrown => exact h
  cases f with
  | func g =>
    obtain ⟨fn, h1, h2, h3⟩ := h
    refine ⟨fn, h1, h2, h3.imp (fun ⟨a, b⟩ => ⟨a, fun r m => (b r m).mono he⟩) (fun ⟨a, b, v, w', c, d⟩ => ⟨a, b, v, w', c, hr _ _ d⟩)⟩
  | yield l =>
    obtain ⟨p, h1, fi, tm, as, bd, h2, h3⟩ := h
    exact ⟨p, hρ _ _ h1, fi, tm, as, bd, h2, fun r m => (h3 r m).mono he⟩
  | _ => exact h

/-- A function without parameters, run from an empty heap to a bool. -/
theorem calls_start (ok : EnvOK P E) {n : Nat} {g : FuncId} {b : Bool} {h' : LHeap} (hk : callN E n (.func g) [] (startH gn G) = some (.bool b, h')) (hb : ∀ fn, P.funcs[g]? = some fn → fn.body.isSome = true) (i : Inv P ρ (startH gn G) w) :
    Calls P g #[] w fun e w' => e = .returned (.bool b) ∧ Kept w w' := by
  refine (calls_of_callN ok hk hb i .nil).mono fun e w' ⟨v', h1, ρ', h2, _, f⟩ => ?_
  rw [h2.bool_inv] at h1
  exact ⟨h1, f.kept i⟩

theorem same_all {n : Nat} : ∀ {a b : List Value}, same.all n a b = true → a = b
  | [], [], _ => rfl
  | [], _ :: _, h => by simp [same.all] at h
  | _ :: _, [], h => by simp [same.all] at h
  | x :: a, y :: b, h => by
    simp only [same.all, Bool.and_eq_true] at h
    rw [same_eq _ _ _ h.1, same_all h.2]

theorem sameO_eq {x y : LObj} (h : sameO x y = true) : x = y := by
  cases x <;> cases y <;> simp only [sameO, Bool.false_eq_true] at h
  · rename_i c k e c' k' e'
    simp only [Bool.and_eq_true] at h
    obtain ⟨h1, h2, h3⟩ := h
    rw [same_all h1, Nat.eq_of_beq_eq_true h3]
    cases k <;> cases k' <;> first | rfl | (simp [sameKd] at h2; done) | skip
    rename_i a b
    rw [Nat.eq_of_beq_eq_true (show Nat.beq a b = true from h2)]
  · rfl

theorem sameG_eq : ∀ {a b : List (Nat × LObj)}, sameG a b = true → a = b
  | [], [], _ => rfl
  | [], _ :: _, h => by simp [sameG] at h
  | _ :: _, [], h => by simp [sameG] at h
  | (i, x) :: a, (j, y) :: b, h => by
    simp only [sameG, Bool.and_eq_true] at h
    rw [show i = j from Nat.eq_of_beq_eq_true h.1, sameO_eq h.2.1, sameG_eq h.2.2]

theorem known_ext (ok : EnvOK P E) {n : Nat} {g : FuncId} {h1 : LHeap} (hk : callN E n (.func g) [] (startH gn G) = some (.bool true, h1)) {args : List Value} {h : LHeap} {v : Value} {h' : LHeap} (hx : knownX gn G args h = some (v, h')) {args' : List Value}
    (i : Inv P ρ h w) (hl : LR ρ args args') : FnOK P ρ (.func g) args' w (Res1 P ρ h w v h') := by
  unfold knownX at hx
  split at hx
  · obtain ⟨hc, hx⟩ := chk_some hx
    simp only [Option.some.injEq, Prod.mk.injEq] at hx
    obtain ⟨rfl, rfl⟩ := hx
    simp only [Bool.and_eq_true] at hc
    obtain ⟨c1, c2, c3⟩ := hc
    have c1 := Nat.eq_of_beq_eq_true c1
    have c2 := Nat.le_of_ble_eq_true c2
    have c3 := sameG_eq c3
    have hgn := i.gn_le
    have i0 : Inv P (rcut ρ gn) (startH gn G) w := by
      refine Inv.start (fun id p h => (rcut_some h).1) (fun g hg => ?_) (by rw [← c1]; exact i.num) (fun id o ho hid => ?_)
      · have := i.num
        rw [rcut_lt (by omega)]
        exact i.globs g hg
      · have ho' : hget h id = some o := by
          unfold hget
          rw [if_pos (by omega), c3]
          exact ho
        refine ⟨i.gro id o ho' (by omega), fun ha => ?_⟩
        obtain ⟨p, x, q1, q2, q3⟩ := i.obj id o ho' ha
        refine ⟨p, x, by rw [rcut_lt hid]; exact q1, q2, q3.turn (B := max (id + 1) h.gn) (fun id' q a1 a2 => ?_) (i.esc id o ho' (by omega))⟩
        have : id' < gn := Nat.lt_of_lt_of_le a1 (Nat.max_le.2 ⟨by omega, by omega⟩)
        rw [rcut_lt this]; exact a2
    have := call_sound ok n _ _ _ _ _ hk _ w [] i0 .nil
    rw [hl.nil_left]
    refine this.mono (fun l p h => (rcut_some h).2) fun v' w' ⟨ρ', r1, _, f⟩ => ?_
    have k := f.kept i0
    refine ⟨ρ, ?_, i.grow fun b x hb => ?_, Fr.grow i k.keep k.size k.os k.tape k.output⟩
    · rw [r1.bool_inv]; exact .bool _
    · rw [k.keep b (Array.getElem?_eq_some_iff.1 hb).1]; exact hb
  · cases hx

theorem isTrue_some {x : Option (Value × LHeap)} (h : isTrue x = true) : ∃ h', x = some (.bool true, h') := by
  unfold isTrue at h
  split at h
  · exact ⟨_, rfl⟩
  · cases h
end
end Go.L1

/- FUNCTIONS THAT HAVE NO BODY IN THE PROGRAM: what the model answers for them is what L1's entries answer. -/
namespace Go.L1
open Go

/-- math/bits.Add64. -/
def add64X (args : List Value) (h : LHeap) : Option (Value × LHeap) :=
  match args with
  | [.int .u64 (.ofNat x), .int .u64 (.ofNat y), .int .u64 (.ofNat c)] => chk (Nat.ble c 1) (some (.tuple #[.int .u64 (.ofNat (Nat.mod (Nat.add (Nat.add x y) c) 18446744073709551616)), .int .u64 (.ofNat (Nat.div (Nat.add (Nat.add x y) c) 18446744073709551616))], h))
  | _ => none

section
variable {P : Program} {ρ : Rho} {h h' : LHeap} {w : World} {v : Value}

/-- An entry that answers with a value and leaves the world alone. -/
theorem ext_ok {g : FuncId} {fn : Func} {e : Array Value → Sem Value} (hf : P.funcs[g]? = some fn) (hname : (fn.name == "runtime.NumGoroutine") = false) (hb : fn.body.isNone = true) (hn : Extern.findNext fn = none) (he : Extern.find fn = some e)
    {args' : List Value} (i : Inv P ρ h w) (hy : ∀ a ∈ args', isYield a = false) {v' : Value} (hr : (e args'.toArray).run P w = .ok v' w) (hv : VR ρ v v') : FnOK P ρ (.func g) args' w (Res1 P ρ h w v h) := by
  refine ⟨fn, hf, by simpa using hname, .inr ⟨by simpa using hb, hy, v', w, ?_, ρ, hv, i, Fr.refl ρ h w⟩⟩
  rw [run_callFunc_extern hf hname hb hn he, hr]
  rfl

theorem add64_ext {g : FuncId} {fn : Func} (hf : P.funcs[g]? = some fn) (hname : (fn.name == "runtime.NumGoroutine") = false) (hb : fn.body.isNone = true) (hn : Extern.findNext fn = none) (he : Extern.find fn = some add64Entry)
    {args : List Value} (hx : add64X args h = some (v, h')) {args' : List Value} (i : Inv P ρ h w) (hl : LR ρ args args') : FnOK P ρ (.func g) args' w (Res1 P ρ h w v h') := by
  unfold add64X at hx
  split at hx
  · rename_i x y c
    obtain ⟨hc, hx⟩ := chk_some hx
    simp only [Option.some.injEq, Prod.mk.injEq] at hx
    obtain ⟨rfl, rfl⟩ := hx
    obtain ⟨x', r, rfl, h1, hl⟩ := hl.cons_left
    obtain ⟨y', r, rfl, h2, hl⟩ := hl.cons_left
    obtain ⟨c', r, rfl, h3, hl⟩ := hl.cons_left
    obtain rfl := hl.nil_left
    obtain rfl := h1.int_inv
    obtain rfl := h2.int_inv
    obtain rfl := h3.int_inv
    have hc := Nat.le_of_ble_eq_true hc
    refine ext_ok hf hname hb hn he i (fun a ha => ?_) (run_add64 (Int.ofNat x) (Int.ofNat y) (Int.ofNat c) (Int.natCast_nonneg x) (Int.natCast_nonneg y) (Int.natCast_nonneg c) (by simp only [Int.ofNat_eq_natCast]; omega) w) ?_
    · simp only [List.mem_cons, List.not_mem_nil, or_false] at ha
      rcases ha with rfl | rfl | rfl <;> rfl
    · exact VR.tuple' (a := [_, _]) (a' := [_, _]) (.cons (.int _ _) (.cons (.int _ _) .nil))
  · cases hx
end
end Go.L1
