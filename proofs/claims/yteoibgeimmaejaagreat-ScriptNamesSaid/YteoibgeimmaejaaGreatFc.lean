/- A MACHINE IN LEAN THAT SPEAKS FOR THE MODEL: text Fc of four. What its run answers the model answers, in every world, on every tape. -/
import Derived.Test.YteoibgeimmaejaaGreatFb
import Derived.Laws.StructEq
import Derived.ChangeKeysEq
import Derived.LaidEqlPtr
import Derived.Laws.IdiomStrings
import Derived.Laws.BytesString
import Derived.Lib.Builder
import Derived.Laws.AppendOwn
import Derived.Lib.UnsafeStr
import Derived.Lib.BytesEntry
/- ONE OPERATION, kind by kind: equality. -/
namespace Go.L1
open Go

/-- A plain type's kind. -/
def pkOf : TypeDesc → Option PK
  | .bool => some .b
  | .int _ => some .n
  | .string => some .s
  | _ => none

section
variable {P : Program} {o : Oper} {a : Act} {ρ : Rho} {h h' : LHeap} {w : World} {t : Tm} {call : CallF} {v : Value}

theorem bytesEq_beq (x y : ByteArray) : bytesEq x.data.toList y.data.toList = (x.toList == y.toList) := by
  rw [bytesEq_eq, ByteArray.toList_eq, ByteArray.toList_eq]

theorem primEq_run {x y x' y' : Value} (hx : VR ρ x x') (hy : VR ρ y y') {k : PK} {b : Bool} (hb : primEq k x y = some b) {ty : TypeId} {dd : TypeDesc} (d : Nat)
    (ht : P.underlying ty = some dd) (hk : pkOf dd = some k) : (Op.equalIn (d + 1) ty x' y').run P w = .ok b w := by
  unfold primEq at hb
  split at hb
  · rename_i c e
    obtain rfl := hx.bool_inv
    obtain rfl := hy.bool_inv
    simp only [Option.some.injEq] at hb
    subst hb
    cases dd <;> simp only [pkOf, Option.some.injEq, reduceCtorEq] at hk
    exact run_equalIn_bool' w d ty c e ht
  · rename_i j c q e
    obtain rfl := hx.int_inv
    obtain rfl := hy.int_inv
    obtain ⟨h1, h2⟩ := cond_some hb
    obtain rfl := sameK_eq h1
    simp only [Option.some.injEq] at h2
    subst h2
    cases dd <;> simp only [pkOf, Option.some.injEq, reduceCtorEq] at hk
    rw [ieq_eq]
    exact run_equalIn_int w d ty _ _ c e ht
  · rename_i c e
    obtain rfl := hx.str_inv
    obtain rfl := hy.str_inv
    simp only [Option.some.injEq] at hb
    subst hb
    cases dd <;> simp only [pkOf, Option.some.injEq, reduceCtorEq] at hk
    rw [bytesEq_beq]
    exact run_equalIn_string w d ty c e ht
  · cases hb

theorem cellsEq_append {c e : List Value} : ∀ {os os' : List (Nat × PK)} {b : Bool}, cellsEq c e (os ++ os') = some b →
    ∃ r, cellsEq c e os = some r ∧ (r = false → b = false) ∧ (r = true → cellsEq c e os' = some b)
  | [], os', b, hb => ⟨true, rfl, by simp, fun _ => hb⟩
  | o :: os, os', b, hb => by
    simp only [List.cons_append, cellsEq] at hb ⊢
    split at hb
    · rename_i x y hx hy
      split at hb
      · obtain ⟨r, h1, h2, h3⟩ := cellsEq_append hb
        rename_i hp
        exact ⟨r, by simp [hp, h1], h2, h3⟩
      · rename_i hp
        simp only [Option.some.injEq] at hb
        subst hb
        exact ⟨false, by simp [hp], fun _ => rfl, by simp⟩
      · cases hb
    · cases hb

theorem head_drop {l : List Value} {n : Nat} {x : Value} (hx : (l.drop n).head? = some x) : n < l.length ∧ fr0 l n = x := by
  rw [List.head?_drop] at hx
  exact ⟨(List.getElem?_eq_some_iff.1 hx).1, fr0_of_get hx⟩

theorem drop_head {l : List Value} {n : Nat} (hn : n < l.length) : (l.drop n).head? = some (fr0 l n) := by
  rw [List.head?_drop]; exact fr0_get l n hn

/-- Cells compared within a part. -/
theorem cellsEq_shift {c e : List Value} {off n : Nat} : ∀ {os : List (Nat × PK)} {b : Bool}, (∀ o ∈ os, o.1 < n) → cellsEq c e (os.map fun o => (off + o.1, o.2)) = some b →
    cellsEq ((c.drop off).take n) ((e.drop off).take n) os = some b
  | [], b, _, hb => hb
  | o :: os, b, hn, hb => by
    have ho := hn o List.mem_cons_self
    simp only [List.map_cons, cellsEq] at hb ⊢
    split at hb
    · rename_i x y hx hy
      obtain ⟨a1, a2⟩ := head_drop hx
      obtain ⟨b1, b2⟩ := head_drop hy
      have e1 : (((c.drop off).take n).drop o.1).head? = some x := by
        rw [drop_head (by rw [List.length_take, List.length_drop]; omega), fr0_take _ _ _ ho, fr0_drop, a2]
      have e2 : (((e.drop off).take n).drop o.1).head? = some y := by
        rw [drop_head (by rw [List.length_take, List.length_drop]; omega), fr0_take _ _ _ ho, fr0_drop, b2]
      rw [e1, e2]
      simp only
      split at hb
      · exact cellsEq_shift (fun o' ho' => hn o' (List.mem_cons_of_mem _ ho')) hb
      · exact hb
      · cases hb
    · cases hb

theorem LR.part {c c' : List Value} (hl : LR ρ c c') (off n : Nat) : LR ρ ((c.drop off).take n) ((c'.drop off).take n) := by
  refine ⟨by simp [hl.1], fun j hj => ?_⟩
  rw [List.length_take, List.length_drop] at hj
  rw [fr0_take _ _ _ (by omega), fr0_take _ _ _ (by omega), fr0_drop, fr0_drop]
  exact hl.2 _ (by omega)

/-- A type's cells, compared as L1 compares them, the model's machine compares alike. -/
theorem flat_part (n : Nat)
    (ih : ∀ (ty : TypeId) (os : List (Nat × PK)), flat P n ty = some os → isAggT P ty = true → ∀ (d : Nat), n ≤ d → ∀ (c c' e e' : List Value) (b : Bool), LR ρ c c' → LR ρ e e' →
      cellsEq c e os = some b → (Op.equalIn d ty (.agg c'.toArray) (.agg e'.toArray)).run P w = .ok b w)
    {ty : TypeId} {os : List (Nat × PK)} (hf : flat P n ty = some os) (hn : os.all (fun o => decide (o.1 < P.cellsOf ty)) = true) {dd : TypeDesc} (ht : P.underlying ty = some dd) {d : Nat} (hd : n ≤ d)
    {c c' e e' : List Value} (hc : LR ρ c c') (he : LR ρ e e') {off : Nat} {b : Bool} (hb : cellsEq c e (os.map fun o => (off + o.1, o.2)) = some b) :
    ∃ x y, (part ty c'.toArray off).run P w = .ok x w ∧ (part ty e'.toArray off).run P w = .ok y w ∧ (Op.equalIn d ty x y).run P w = .ok b w := by
  rw [List.all_eq_true] at hn
  simp only [decide_eq_true_eq] at hn
  by_cases hag : isAggT P ty = true
  · refine ⟨.agg (c'.toArray.extract off (off + P.cellsOf ty)), .agg (e'.toArray.extract off (off + P.cellsOf ty)), ?_, ?_, ?_⟩
    · unfold Go.part
      simp only [Sem.run_bind, isAgg_run ht, hag, Result.andThen_ok, if_true, sizeOf_run ht, Sem.run_pure]
    · unfold Go.part
      simp only [Sem.run_bind, isAgg_run ht, hag, Result.andThen_ok, if_true, sizeOf_run ht, Sem.run_pure]
    · have e1 : (c'.toArray.extract off (off + P.cellsOf ty)) = ((c'.drop off).take (P.cellsOf ty)).toArray := by simp
      have e2 : (e'.toArray.extract off (off + P.cellsOf ty)) = ((e'.drop off).take (P.cellsOf ty)).toArray := by simp
      rw [e1, e2]
      exact ih ty os hf hag d hd _ _ _ _ b (hc.part off _) (he.part off _) (cellsEq_shift hn hb)
  · have hag' : isAggT P ty = false := by simpa using hag
    cases n with
    | zero => cases hf
    | succ n =>
      obtain ⟨d, rfl⟩ : ∃ q, d = q + 1 := ⟨d - 1, by omega⟩
      have key : ∀ k, os = [(0, k)] → pkOf dd = some k → _ := fun k hos hk => by
        subst hos
        simp only [List.map_cons, List.map_nil, Nat.add_zero, cellsEq] at hb
        split at hb
        · rename_i x y hx hy
          obtain ⟨a1, a2⟩ := head_drop hx
          obtain ⟨b1, b2⟩ := head_drop hy
          have hp : primEq k x y = some b := by
            cases hq : primEq k x y with
            | none => rw [hq] at hb; cases hb
            | some r => cases r <;> rw [hq] at hb <;> simpa using hb
          have g1 := fr0_get c' off (by rw [← hc.1]; exact a1)
          have g2 := fr0_get e' off (by rw [← he.1]; exact b1)
          refine (⟨fr0 c' off, fr0 e' off, ?_, ?_, ?_⟩ : ∃ x y, (Go.part ty c'.toArray off).run P w = .ok x w ∧ (Go.part ty e'.toArray off).run P w = .ok y w ∧ (Op.equalIn (d + 1) ty x y).run P w = .ok b w)
          · unfold Go.part
            have g1' : c'.toArray[off]? = some (fr0 c' off) := by simpa using g1
            simp only [Sem.run_bind, isAgg_run ht, hag', Result.andThen_ok, Bool.false_eq_true, if_false, g1', Sem.run_pure]
          · unfold Go.part
            have g2' : e'.toArray[off]? = some (fr0 e' off) := by simpa using g2
            simp only [Sem.run_bind, isAgg_run ht, hag', Result.andThen_ok, Bool.false_eq_true, if_false, g2', Sem.run_pure]
          · exact primEq_run (a2 ▸ hc.2 _ a1) (b2 ▸ he.2 _ b1) hp d ht hk
        · cases hb
      unfold flat at hf
      rw [ht] at hf
      have hag2 := hag'
      unfold isAggT at hag2
      rw [ht] at hag2
      cases dd <;> simp only [Option.some.injEq, reduceCtorEq] at hf hag2
      · exact key _ hf.symm rfl
      · exact key _ hf.symm rfl
      · exact key _ hf.symm rfl

theorem flat_fields (n d : Nat) (hd : n ≤ d)
    (ih : ∀ (ty : TypeId) (os : List (Nat × PK)), flat P n ty = some os → isAggT P ty = true → ∀ (d : Nat), n ≤ d → ∀ (c c' e e' : List Value) (b : Bool), LR ρ c c' → LR ρ e e' →
      cellsEq c e os = some b → (Op.equalIn d ty (.agg c'.toArray) (.agg e'.toArray)).run P w = .ok b w)
    {c c' e e' : List Value} (hc : LR ρ c c') (he : LR ρ e e') : ∀ (fs : List Field) {os : List (Nat × PK)} {b : Bool}, flatS P (flat P n) fs = some os → cellsEq c e os = some b →
      (Op.eqFields d c'.toArray e'.toArray fs).run P w = .ok b w
  | [], os, b, hf, hb => by
    simp only [flatS, Option.some.injEq] at hf
    subst hf
    simp only [cellsEq, Option.some.injEq] at hb
    subst hb
    rfl
  | f :: fs, os, b, hf, hb => by
    simp only [flatS] at hf
    split at hf
    · rename_i l r hl hr
      split at hf
      · rename_i hcnd
        simp only [Bool.and_eq_true, bne_iff_ne, ne_eq] at hcnd
        simp only [Option.some.injEq] at hf
        subst hf
        obtain ⟨dd, hdd⟩ := Option.isSome_iff_exists.1 hcnd.2
        obtain ⟨q, h1, h2, h3⟩ := cellsEq_append hb
        obtain ⟨x, y, p1, p2, p3⟩ := flat_part n ih hl hcnd.1.2 hdd hd hc he h1
        simp only [Op.eqFields, ne_eq, hcnd.1.1, not_false_eq_true, if_true, Sem.run_bind, p1, p2, p3, Result.andThen_ok]
        cases q with
        | false =>
          rw [h2 rfl]
          rfl
        | true =>
          simp only [Bool.not_true, Bool.false_eq_true, if_false]
          exact flat_fields n d hd ih hc he fs hr (h3 rfl)
      · cases hf
    · cases hf

theorem flat_items (n d : Nat) (hd : n ≤ d)
    (ih : ∀ (ty : TypeId) (os : List (Nat × PK)), flat P n ty = some os → isAggT P ty = true → ∀ (d : Nat), n ≤ d → ∀ (c c' e e' : List Value) (b : Bool), LR ρ c c' → LR ρ e e' →
      cellsEq c e os = some b → (Op.equalIn d ty (.agg c'.toArray) (.agg e'.toArray)).run P w = .ok b w)
    {c c' e e' : List Value} (hc : LR ρ c c') (he : LR ρ e e') {ty : TypeId} {l : List (Nat × PK)} (hl : flat P n ty = some l) (hall : l.all (fun o => decide (o.1 < P.cellsOf ty)) = true)
    {dd : TypeDesc} (ht : P.underlying ty = some dd) : ∀ (is : List Nat) {b : Bool}, cellsEq c e (is.flatMap fun i => l.map fun o => (i * P.cellsOf ty + o.1, o.2)) = some b →
      (Op.eqItems d ty (P.cellsOf ty) c'.toArray e'.toArray is).run P w = .ok b w
  | [], b, hb => by
    simp only [List.flatMap_nil, cellsEq, Option.some.injEq] at hb
    subst hb
    rfl
  | i :: is, b, hb => by
    rw [List.flatMap_cons] at hb
    obtain ⟨q, h1, h2, h3⟩ := cellsEq_append hb
    obtain ⟨x, y, p1, p2, p3⟩ := flat_part n ih hl hall ht hd hc he h1
    simp only [Op.eqItems, Sem.run_bind, p1, p2, p3, Result.andThen_ok]
    cases q with
    | false =>
      rw [h2 rfl]
      rfl
    | true =>
      simp only [Bool.not_true, Bool.false_eq_true, if_false]
      exact flat_items n d hd ih hc he hl hall ht is (h3 rfl)

theorem flat_run : ∀ (n : Nat) (ty : TypeId) (os : List (Nat × PK)), flat P n ty = some os → isAggT P ty = true → ∀ (d : Nat), n ≤ d → ∀ (c c' e e' : List Value) (b : Bool), LR ρ c c' → LR ρ e e' →
    cellsEq c e os = some b → (Op.equalIn d ty (.agg c'.toArray) (.agg e'.toArray)).run P w = .ok b w
  | 0, _, _, hf, _ => by cases hf
  | n + 1, ty, os, hf, hag => by
    intro d hd c c' e e' b hc he hb
    obtain ⟨d, rfl⟩ : ∃ q, d = q + 1 := ⟨d - 1, by omega⟩
    have ih := flat_run n
    unfold flat at hf
    unfold isAggT at hag
    cases hu : P.underlying ty with
    | none => rw [hu] at hag; cases hag
    | some dd =>
      rw [hu] at hf hag
      cases dd <;> simp only [reduceCtorEq, Bool.false_eq_true] at hag hf
      case struct fs =>
        split at hf
        · cases hf
        · rename_i hst
          have hst' : P.stoodInHeld ty = false := by simpa using hst
          have hfo : P.fieldsOf ty = fs := by simp [Program.fieldsOf, hu]
          rw [run_equalIn_struct w d ty _ _ (by rw [hfo]; exact hu) hst', hfo]
          exact flat_fields n d (by omega) ih hc he fs.toList hf hb
      case array len el =>
        split at hf
        · rename_i l hl
          split at hf
          · rename_i hcnd
            simp only [Bool.and_eq_true] at hcnd
            simp only [Option.some.injEq] at hf
            subst hf
            obtain ⟨dd, hdd⟩ := Option.isSome_iff_exists.1 hcnd.2
            obtain ⟨j, hj, _⟩ := info_of_underlying hdd
            rw [run_equalIn_array w d _ _ hu hj]
            exact flat_items n d (by omega) ih hc he hl hcnd.1 hdd _ hb
          · cases hf
        · cases hf
end
end Go.L1

/- ONE OPERATION, kind by kind: equality, the operation. -/
namespace Go.L1
open Go

/-- Not a number, not a string. -/
def plainless : Value → Bool
  | .int _ _ | .float _ _ | .complex _ _ _ | .string _ => false
  | _ => true

section
variable {P : Program} {o : Oper} {a : Act} {ρ : Rho} {h h' : LHeap} {w : World} {t : Tm} {call : CallF} {v : Value}

theorem run_eql_plainless {ty : TypeId} {u z : Value} (hu : plainless u = true) {b : Bool} (he : (Op.equalIn 10000 ty u z).run P w = .ok b w) : (binOp .eql ty u z).run P w = .ok (.bool b) w := by
  have he' : (Op.equal ty u z).run P w = .ok b w := he
  cases u <;> first | (cases hu; done) | skip
  all_goals
    simp only [binOp, Sem.run_bind, he', Result.andThen_ok, Sem.run_pure]

theorem run_neq_plainless {ty : TypeId} {u z : Value} (hu : plainless u = true) {b : Bool} (he : (Op.equalIn 10000 ty u z).run P w = .ok b w) : (binOp .neq ty u z).run P w = .ok (.bool (!b)) w := by
  have he' : (Op.equal ty u z).run P w = .ok b w := he
  cases u <;> first | (cases hu; done) | skip
  all_goals
    simp only [binOp, Sem.run_bind, he', Result.andThen_ok, Sem.run_pure]

set_option maxHeartbeats 4000000 in
theorem equal_run {ty : TypeId} {x y : Operand} {q : EqK} (hq : eqKind P ty x y = some q) {u z u' z' : Value} (hu : VR ρ u u') (hz : VR ρ z z') {b : Bool} (hb : eqV q u z = some b) {d : Nat} (hd : 100 ≤ d) :
    (Op.equalIn (d + 1) ty u' z').run P w = .ok b w ∧ plainless u' = true ∧ ∀ op, (eqGuard op ty x y u' z').run P w = .ok () w := by
  unfold eqKind at hq
  cases ht : P.underlying ty with
  | none => rw [ht] at hq; cases hq
  | some dd =>
    rw [ht] at hq
    cases dd <;> simp only [reduceCtorEq] at hq
    case bool =>
      simp only [Option.some.injEq] at hq
      subst hq
      cases u <;> cases z <;> simp only [eqV, reduceCtorEq] at hb
      simp only [Option.some.injEq] at hb
      rw [hu.bool_inv, hz.bool_inv]
      subst hb
      exact ⟨run_equalIn_bool' w d ty _ _ ht, rfl, fun op => by cases op <;> rfl⟩
    case struct fs =>
      split at hq
      · cases hq
      · rename_i hg
        simp only [Option.map_eq_some_iff] at hq
        obtain ⟨os, hos, rfl⟩ := hq
        cases u <;> cases z <;> simp only [eqV, reduceCtorEq] at hb
        obtain ⟨c', rfl, hc⟩ := hu.agg_inv
        obtain ⟨e', rfl, he⟩ := hz.agg_inv
        exact ⟨flat_run 100 ty os hos (by simp [isAggT, ht]) (d + 1) (by omega) _ _ _ _ b hc he hb, rfl, fun op => run_eqGuard_agg w op ty x y _ _ (by simpa using hg)⟩
    case array len el =>
      split at hq
      · cases hq
      · rename_i hg
        simp only [Option.map_eq_some_iff] at hq
        obtain ⟨os, hos, rfl⟩ := hq
        cases u <;> cases z <;> simp only [eqV, reduceCtorEq] at hb
        obtain ⟨c', rfl, hc⟩ := hu.agg_inv
        obtain ⟨e', rfl, he⟩ := hz.agg_inv
        exact ⟨flat_run 100 ty os hos (by simp [isAggT, ht]) (d + 1) (by omega) _ _ _ _ b hc he hb, rfl, fun op => run_eqGuard_agg w op ty x y _ _ (by simpa using hg)⟩
    case pointer el =>
      split at hq
      · cases hq
      · rename_i hsz
        simp only [Option.some.injEq] at hq
        subst hq
        have hinfo : ∃ j, P.info? el = some j ∧ j.size ≠ 0 := by
          cases hj : P.info? el with
          | none => exact absurd (by simp [Program.cellsOf, hj]) hsz
          | some j => exact ⟨j, rfl, by simpa [Program.cellsOf, hj] using hsz⟩
        obtain ⟨j, hj, hjs⟩ := hinfo
        cases u <;> cases z <;> simp only [eqV, reduceCtorEq] at hb
        rename_i p1 p2
        cases p1 with
        | none =>
          have e1 : u' = .pointer none := by cases hu; rfl
          subst e1
          have e2 : ∃ p2', z' = .pointer p2' ∧ p2'.isNone = p2.isNone := by cases hz <;> exact ⟨_, rfl, rfl⟩
          obtain ⟨p2', rfl, e3⟩ := e2
          simp only [eqV, Option.some.injEq] at hb
          subst hb
          refine ⟨?_, rfl, fun op => by cases op <;> rfl⟩
          rw [← e3]
          cases p2' <;> simp [Op.equalIn, run_underlying ht]
        | some a1 =>
          obtain ⟨q1, hq1, hs1, rfl⟩ := hu.ptr_inv
          cases p2 with
          | none =>
            have e2 : z' = .pointer none := by cases hz; rfl
            subst e2
            simp only [eqV, Option.some.injEq] at hb
            subst hb
            exact ⟨by simp [Op.equalIn, run_underlying ht], rfl, fun op => by cases op <;> rfl⟩
          | some a2 =>
            obtain ⟨q2, hq2, hs2, rfl⟩ := hz.ptr_inv
            simp only [eqV] at hb
            split at hb
            · rename_i hbl
              simp only [Option.some.injEq] at hb
              subst hb
              rw [hbl, hq2] at hq1
              obtain rfl := Option.some.inj hq1
              refine ⟨?_, rfl, fun op => by cases op <;> rfl⟩
              have e4 : (a1 == a2) = ((Addr.mk q2.b (q2.o + a1.off) none) == (Addr.mk q2.b (q2.o + a2.off) none)) := by
                obtain ⟨b1, o1, s1⟩ := a1
                obtain ⟨b2, o2, s2⟩ := a2
                simp only at hbl hs1 hs2
                subst hbl hs1 hs2
                by_cases e : o1 = o2
                · subst e; simp
                · have n1 : (Addr.mk b1 o1 none == Addr.mk b1 o2 none) = false := by simp [e]
                  have n2 : (Addr.mk q2.b (q2.o + o1) none == Addr.mk q2.b (q2.o + o2) none) = false := by simp [e]
                  rw [n1, n2]
              rw [e4]
              simp [Op.equalIn, run_underlying ht, sizeOf, typeInfo, hj, hjs, sameAddr]
            · cases hb
    case slice el =>
      simp only [Option.some.injEq] at hq
      subst hq
      cases u <;> cases z <;> simp only [eqV, reduceCtorEq] at hb
      rename_i p1 n1 c1 p2 n2 c2
      have e1 : ∃ p1' n1' c1', u' = .slice p1' n1' c1' ∧ p1'.isNone = p1.isNone := by cases hu <;> exact ⟨_, _, _, rfl, rfl⟩
      have e2 : ∃ p2' n2' c2', z' = .slice p2' n2' c2' ∧ p2'.isNone = p2.isNone := by cases hz <;> exact ⟨_, _, _, rfl, rfl⟩
      obtain ⟨p1', n1', c1', rfl, e1⟩ := e1
      obtain ⟨p2', n2', c2', rfl, e2⟩ := e2
      refine ⟨?_, rfl, fun op => by cases op <;> rfl⟩
      cases p1 with
      | none =>
        simp only [eqV, Option.some.injEq] at hb
        subst hb
        cases p1' with
        | some _ => cases e1
        | none => rw [← e2]; cases p2' <;> simp [Op.equalIn, run_underlying ht]
      | some a1 =>
        cases p2 with
        | some a2 => cases hb
        | none =>
          simp only [eqV, Option.some.injEq] at hb
          subst hb
          cases p1' with
          | none => cases e1
          | some _ =>
            cases p2' with
            | some _ => cases e2
            | none => simp [Op.equalIn, run_underlying ht]
    case map kt el =>
      simp only [Option.some.injEq] at hq
      subst hq
      cases u <;> cases z <;> simp only [eqV, reduceCtorEq] at hb
      rename_i p1 p2
      have e1 : ∃ p1', u' = .map p1' ∧ p1'.isNone = p1.isNone := by cases hu <;> exact ⟨_, rfl, rfl⟩
      have e2 : ∃ p2', z' = .map p2' ∧ p2'.isNone = p2.isNone := by cases hz <;> exact ⟨_, rfl, rfl⟩
      obtain ⟨p1', rfl, e1⟩ := e1
      obtain ⟨p2', rfl, e2⟩ := e2
      refine ⟨?_, rfl, fun op => by cases op <;> rfl⟩
      cases p1 with
      | none =>
        simp only [eqV, Option.some.injEq] at hb
        subst hb
        cases p1' with
        | some _ => cases e1
        | none => rw [← e2]; cases p2' <;> simp [Op.equalIn, run_underlying ht]
      | some a1 =>
        cases p2 with
        | some a2 => cases hb
        | none =>
          simp only [eqV, Option.some.injEq] at hb
          subst hb
          cases p1' with
          | none => cases e1
          | some _ =>
            cases p2' with
            | some _ => cases e2
            | none => simp [Op.equalIn, run_underlying ht]
    case func =>
      simp only [Option.some.injEq] at hq
      subst hq
      cases u <;> cases z <;> simp only [eqV, reduceCtorEq] at hb
      all_goals simp only [Option.some.injEq] at hb; subst hb
      · have e1 : ∃ f c d, u' = .func f c d := by cases hu <;> exact ⟨_, _, _, rfl⟩
        obtain ⟨_, _, _, rfl⟩ := e1
        cases hz
        exact ⟨by simp [Op.equalIn, run_underlying ht], rfl, fun op => by cases op <;> rfl⟩
      · have e1 : ∃ f c d, z' = .func f c d := by cases hz <;> exact ⟨_, _, _, rfl⟩
        obtain ⟨_, _, _, rfl⟩ := e1
        cases hu
        exact ⟨by simp [Op.equalIn, run_underlying ht], rfl, fun op => by cases op <;> rfl⟩
      · cases hu
        cases hz
        exact ⟨by simp [Op.equalIn, run_underlying ht], rfl, fun op => by cases op <;> rfl⟩
    case interface ms =>
      split at hq
      · rename_i hcst
        simp only [Option.some.injEq] at hq
        subst hq
        cases u <;> cases z <;> simp only [eqV, reduceCtorEq] at hb
        · rename_i t1 v1 t2 v2
          split at hb
          · cases hb
          · rename_i hne
            simp only [Option.some.injEq] at hb
            subst hb
            cases hu
            cases hz
            exact ⟨by simp [Op.equalIn, run_underlying ht, hne], rfl, fun op => by cases op <;> rfl⟩
        · simp only [Option.some.injEq] at hb
          subst hb
          cases hu
          cases hz
          exact ⟨by simp [Op.equalIn, run_underlying ht], rfl, fun op => by cases op <;> rfl⟩
        · simp only [Option.some.injEq] at hb
          subst hb
          cases hu
          cases hz
          exact ⟨by simp [Op.equalIn, run_underlying ht], rfl, fun op => by cases op <;> rfl⟩
        · simp only [Option.some.injEq] at hb
          subst hb
          cases hu
          cases hz
          refine ⟨by simp [Op.equalIn, run_underlying ht], rfl, fun op => ?_⟩
          cases op <;> first | rfl | skip
          all_goals
            cases x <;> cases y <;> first | rfl | (exact Bool.noConfusion hcst)
      · cases hq

theorem s_eq (i : Inv P ρ h w) (r : TR ρ t a.tmps) {ty : TypeId} {op : BinOp} {neg : Bool} {x y : Operand} {q : EqK} {kx : TypeId} (ho : o.op = .binOp op ty x y kx) (hop : (op = .eql ∧ neg = false) ∨ (op = .neq ∧ neg = true))
    (hx : okOpd P x = true) (hy : okOpd P y = true) (hq : eqKind P ty x y = some q) (hv : opV call t h (.eq neg q x y) = some (v, h')) : StepP P o a ρ h w v h' := by
  simp only [opV, opK] at hv
  obtain ⟨b, hb, hv⟩ := ob_some hv
  simp only [Option.some.injEq, Prod.mk.injEq] at hv
  obtain ⟨rfl, rfl⟩ := hv
  obtain ⟨h1, h2, h3⟩ := equal_run (w := w) hq (ev_rel i r hx) (ev_rel i r hy) hb (d := 9999) (by decide)
  rcases hop with ⟨rfl, rfl⟩ | ⟨rfl, rfl⟩
  · refine StepP.pure i (v' := .bool b) ?_ (.bool _)
    unfold execOp; rw [ho]
    simp only [Sem.run_bind, h3, Result.andThen_ok, run_eql_plainless h2 h1, Sem.run_pure]
  · refine StepP.pure i (v' := .bool (!b)) ?_ (.bool _)
    unfold execOp; rw [ho]
    simp only [Sem.run_bind, h3, Result.andThen_ok, run_neq_plainless h2 h1, Sem.run_pure]
end
end Go.L1

/- ONE OPERATION, kind by kind: conversions. -/
namespace Go.L1
open Go

section
variable {P : Program} {o : Oper} {a : Act} {ρ : Rho} {h h' : LHeap} {w : World} {t : Tm} {call : CallF} {v : Value}

theorem convert_run {src dst : TypeId} {x : Operand} (ho : o.op = .convert src dst x) {u : Value} {w' : World} (hr : (convert src dst (a.eval x)).run P w = .ok u w') :
    (execOp a.eval o).run P w = .ok (.value u) w' := by
  unfold execOp; rw [ho]
  simp only [Sem.run_bind, hr, Result.andThen_ok, Sem.run_pure]

theorem Fr.drawn {ρ' : Rho} {w' : World} (f : Fr ρ h { w with drawn := w.drawn + 1 } ρ' h' w') : Fr ρ h w ρ' h' w' := (Fr.drew ρ h w).trans f

theorem map_bytes (s : ByteArray) : (s.data.map fun b => Value.int .u8 b.toNat).toList = s.data.toList.map fun b => Value.int .u8 b.toNat := by simp

theorem fr0_append_left {l r : List Value} {j : Nat} (hj : j < l.length) : fr0 (l ++ r) j = fr0 l j := by
  refine fr0_of_get ?_
  rw [List.getElem?_append_left hj]
  exact fr0_get l j hj

theorem byte_cell {l : List UInt8} {j : Nat} (hj : j < l.length) : VR ρ (fr0 (l.map fun b => Value.int .u8 b.toNat) j) (fr0 (l.map fun b => Value.int .u8 b.toNat) j) := by
  have : (l.map fun b => Value.int .u8 b.toNat)[j]? = some (.int .u8 (l[j]).toNat) := by simp [hj]
  rw [fr0_of_get this]
  exact .int _ _

theorem s_convBytes (i : Inv P ρ h w) (r : TR ρ t a.tmps) {src dst e : TypeId} {x : Operand} (ho : o.op = .convert src dst x) (hx : okOpd P x = true)
    (hs : P.underlying src = some .string) (hd : P.underlying dst = some (.slice e)) (he : P.underlying e = some (.int .u8))
    (hv : opV call t h (.conv (.strBytes e) x) = some (v, h')) : StepA P o a ρ h w v h' := by
  have hr := ev_rel i r hx
  simp only [opV, opK, oConv] at hv
  split at hv
  all_goals try (rename_i e1 e2; cases e1; done)
  · rename_i e0 s e1 e2
    cases e1
    obtain ⟨_, hv⟩ := chk_some hv
    simp only [Option.some.injEq, Prod.mk.injEq] at hv
    obtain ⟨rfl, rfl⟩ := hv
    rw [e2] at hr
    have hx' := hr.str_inv
    have hrun := run_bytes_of_string w src dst e s hs hd he
    rw [← hx'] at hrun
    have id := i.drew (w' := w.drew) rfl
    have hcap := grownCap_ge w s.size 0 e
    have hsz : (bytesRow s (grownCap w s.size 0 e)).size = grownCap w s.size 0 e := by
      simp only [bytesRow, Array.size_append, Array.size_map, Array.size_replicate]
      have : s.data.size = s.size := rfl
      omega
    have hOR : OR P (radd ρ h.nx ⟨w.heap.size, 0, some (1, grownCap w s.size 0 e)⟩) ⟨w.heap.size, 0, some (1, grownCap w s.size 0 e)⟩ (.cells (s.data.toList.map fun b => .int .u8 b.toNat) (.wide 1) e)
        (.cells (bytesRow s (grownCap w s.size 0 e)) e ((bytesRow s (grownCap w s.size 0 e)).size, (bytesRow s (grownCap w s.size 0 e)).size + 1)) := by
      refine ⟨fun j hj => ?_, ?_, Nat.one_pos, rfl, ?_, ?_⟩
      · simp only [List.length_map] at hj
        refine ⟨fr0 (s.data.toList.map fun b => .int .u8 b.toNat) j, ?_, .inr (byte_cell hj)⟩
        have hj' : j < s.data.size := by simpa using hj
        simp only [bytesRow, Nat.zero_add]
        rw [Array.getElem?_append, if_pos (by simpa using hj')]
        have : (s.data.toList.map fun b => Value.int .u8 b.toNat)[j]? = some (.int .u8 (s.data[j]).toNat) := by
          rw [List.getElem?_map, Array.getElem?_toList, Array.getElem?_eq_getElem hj']
          rfl
        rw [fr0_of_get this, Array.getElem?_map, Array.getElem?_eq_getElem hj']
        simp
      · simp only [hsz]
      · simp only [List.length_map, hsz, Nat.zero_add]
        exact hcap
      · intro j _ h2 h3
        simp only at h3
        omega
    refine ⟨_, _, _, _, _, rfl, rfl, convert_run ho hrun, rfl, rfl, rfl, rfl, hOR, ?_⟩
    have : VR (radd ρ h.nx ⟨w.heap.size, 0, some (1, grownCap w s.size 0 e)⟩) (.slice (some ⟨h.nx, 0, none⟩) s.data.toList.length s.data.toList.length) (.slice (some ⟨w.heap.size, 0 + 0, none⟩) s.data.toList.length (grownCap w s.size 0 e)) :=
      VR.slw (p := ⟨w.heap.size, 0, some (1, grownCap w s.size 0 e)⟩) (radd_same _ _ _) rfl 0 _ _ _ hcap (by simp)
    exact this
  · cases hv

theorem toBytes_some : ∀ {c : List Value} {s : List UInt8}, toBytes c = some s → ∃ ns : List Int, c = ns.map (Value.int .u8) ∧ s = ns.map fun n => UInt8.ofNat n.toNat
  | [], s, hs => ⟨[], rfl, by simpa [toBytes] using hs.symm⟩
  | v :: c, s, hs => by
    unfold toBytes at hs
    split at hs
    · rename_i e0; cases e0
    · rename_i n l e0
      cases e0
      simp only [Option.map_eq_some_iff] at hs
      obtain ⟨l, hl, rfl⟩ := hs
      obtain ⟨ns, rfl, rfl⟩ := toBytes_some hl
      exact ⟨n :: ns, rfl, rfl⟩
    · cases hs

theorem LR.ints {k : IntKind} : ∀ {ns : List Int} {l : List Value}, LR ρ (ns.map (Value.int k)) l → l = ns.map (Value.int k)
  | [], l, hl => hl.nil_left
  | n :: ns, l, hl => by
    obtain ⟨v', r, rfl, hv, hr⟩ := hl.cons_left
    rw [hv.int_inv, LR.ints hr]
    rfl

theorem foldl_push : ∀ (ns : List Int) (s : ByteArray), ns.foldl (fun r n => r.push (UInt8.ofNat n.toNat)) s = ⟨⟨s.data.toList ++ ns.map fun n => UInt8.ofNat n.toNat⟩⟩
  | [], s => by simp
  | n :: ns, s => by
    rw [List.foldl_cons, foldl_push ns]
    simp [ByteArray.push]

theorem s_conv (i : Inv P ρ h w) (r : TR ρ t a.tmps) {src dst : TypeId} {c : LConv} {x : Operand} (ho : o.op = .convert src dst x) (hx : okOpd P x = true) (hc : compConv P src dst = some c)
    (hnb : ∀ e, c ≠ .strBytes e) (hv : opV call t h (.conv c x) = some (v, h')) : StepP P o a ρ h w v h' := by
  have hr := ev_rel i r hx
  have hv0 := hv
  simp only [opV, opK, oConv] at hv
  unfold compConv at hc
  split at hc
  · rename_i k0 k hs hd
    simp only [Option.some.injEq] at hc
    subst hc
    split at hv
    all_goals try (rename_i e1 e2; cases e1; done)
    · rename_i q kk n e1 e2
      obtain rfl := LConv.int.inj e1
      simp only [Option.some.injEq, Prod.mk.injEq] at hv
      obtain ⟨rfl, rfl⟩ := hv
      rw [e2] at hr
      have hx' := hr.int_inv
      refine StepP.pure i (convert_run ho (u := .int k (k.wrap n)) ?_) (by rw [wr_eq]; exact .int _ _)
      rw [hx']
      simp [convert, run_underlying hs, run_underlying hd, Conv.intToInt]
    · cases hv
  · rename_i hs hd
    simp only [Option.some.injEq] at hc
    subst hc
    split at hv
    all_goals try (rename_i e1 e2; cases e1; done)
    · rename_i s e1 e2
      simp only [Option.some.injEq, Prod.mk.injEq] at hv
      obtain ⟨rfl, rfl⟩ := hv
      rw [e2] at hr
      have hx' := hr.str_inv
      refine StepP.pure i (convert_run ho (u := .string s) ?_) (.str _)
      rw [hx']
      simp [convert, run_underlying hs, run_underlying hd]
    · cases hv
  · rename_i e hs hd
    split at hc
    · rename_i he
      simp only [Option.some.injEq] at hc
      subst hc
      exact absurd rfl (hnb e)
    · cases hc
  · rename_i e hs hd
    split at hc
    · rename_i he
      simp only [Option.some.injEq] at hc
      subst hc
      split at hv
      all_goals try (rename_i e1 e2; cases e1; done)
      · rename_i n m e1 e2
        simp only [Option.some.injEq, Prod.mk.injEq] at hv
        obtain ⟨rfl, rfl⟩ := hv
        rw [e2] at hr
        have hx' : a.eval x = .slice none n m := by generalize a.eval x = z at hr; cases hr; rfl
        refine StepP.pure i (convert_run ho (u := .string .empty) ?_) (.str _)
        rw [hx', run_convert_bytes_string w src dst e _ _ _ hs he hd]
        rfl
      · rename_i ad n m e1 e2
        obtain ⟨cs, hcs, hv⟩ := ob_some hv
        obtain ⟨s, hsb, hv⟩ := ob_some hv
        simp only [Option.some.injEq, Prod.mk.injEq] at hv
        obtain ⟨rfl, rfl⟩ := hv
        rw [e2] at hr
        obtain ⟨ns, rfl, rfl⟩ := toBytes_some hsb
        have hstr : ∀ (a' : Addr) (n' m' : Nat), a.eval x = .slice (some a') n' m' → (loadCells a' n').run P w = .ok (ns.map (Value.int .u8)).toArray w →
            StepP P o a ρ h w (.string ⟨⟨ns.map fun n => UInt8.ofNat n.toNat⟩⟩) h := by
          intro a' n' m' hx' hl
          refine StepP.pure i (convert_run ho (u := .string ⟨⟨ns.map fun n => UInt8.ofNat n.toNat⟩⟩) ?_) (.str _)
          rw [hx', run_convert_bytes_string w src dst e _ _ _ hs he hd, run_bytesToString w a' n' m' ns hl, foldl_push]
          rfl
        obtain ⟨p, b', m', hp, hx', _, hb⟩ := hr.slice_inv
        rcases hb with hn | hb
        · subst hn
          have hns : ns = [] := by
            obtain ⟨_, c0, _, _, _, hcut, _⟩ := rdN_some hcs
            have := (cut_some hcut).1
            simpa using this
          subst hns
          exact hstr _ _ _ hx' rfl
        · subst hb
          obtain ⟨r', g1, g2, g3⟩ := loadCells_run i hcs (p := p) hp
          rw [LR.ints g1] at g3
          exact hstr _ _ _ hx' g3
      · cases hv
    · cases hc
  · rename_i e hs hd
    split at hc
    · cases hc
    · rename_i hsz
      simp only [Option.some.injEq] at hc
      subst hc
      split at hv
      all_goals try (rename_i e1 e2; cases e1; done)
      · rename_i e1 e2
        simp only [Option.some.injEq, Prod.mk.injEq] at hv
        obtain ⟨rfl, rfl⟩ := hv
        rw [e2] at hr
        have hx' : a.eval x = .pointer none := by generalize a.eval x = z at hr; cases hr; rfl
        refine StepP.pure i (convert_run ho (u := .pointer none) ?_) .pnil
        rw [hx']
        simp [convert, run_underlying hs, run_underlying hd, Conv.unsafePointer]
      · rename_i q n ad e1 e2
        cases e1
        rw [e2] at hr
        obtain ⟨p, hp, hsp, hx'⟩ := hr.ptr_inv
        split at hv
        · rename_i cs ee hg
          obtain ⟨hk, hv⟩ := chk_some hv
          simp only [Bool.and_eq_true] at hk
          obtain ⟨⟨k1, k2⟩, k3⟩ := hk
          have k1 := Nat.eq_of_beq_eq_true k1
          have k2 := Nat.eq_of_beq_eq_true k2
          have k3 := Nat.eq_of_beq_eq_true k3
          simp only [Option.some.injEq, Prod.mk.injEq] at hv
          obtain ⟨rfl, rfl⟩ := hv
          obtain ⟨q, xo, hq, hxo, ro⟩ := i.obj _ _ hg rfl
          rw [hp] at hq
          obtain rfl := Option.some.inj hq
          cases xo <;> try exact ro.elim
          rename_i cr er fz
          obtain ⟨_, r1, r2, r3, r4, r5⟩ := ro
          obtain ⟨j, hj, hjs⟩ : ∃ j, P.info? e = some j ∧ j.size ≠ 0 := by
            cases hj : P.info? e with
            | none => exact absurd (by simp [Program.cellsOf, hj]) hsz
            | some j => exact ⟨j, rfl, by simpa [Program.cellsOf, hj] using hsz⟩
          have hsh : w.shape? p.b = some (er, cr.size) := by simp [World.shape?, hxo]
          refine StepP.pure i (convert_run ho (u := .pointer (some ⟨p.b, p.o + ad.off, none⟩)) ?_) ?_
          · rw [hx']
            refine Lib.run_to_unsafe w _ hs hd hj hjs hsh ?_
            simp only
            rw [r2, k1, r4, k3]
            omega
          · rw [ptr_eta hsp]
            exact .ptr hp _
        · cases hv
      · cases hv
  · rename_i e hs hd
    split at hc
    · cases hc
    · rename_i hsz
      simp only [Bool.or_eq_true, decide_eq_true_eq, Bool.not_eq_true', not_or, Bool.not_eq_false] at hsz
      simp only [Option.some.injEq] at hc
      subst hc
      split at hv
      all_goals try (rename_i e1 e2; cases e1; done)
      · rename_i e1 e2
        simp only [Option.some.injEq, Prod.mk.injEq] at hv
        obtain ⟨rfl, rfl⟩ := hv
        rw [e2] at hr
        have hx' : a.eval x = .pointer none := by generalize a.eval x = z at hr; cases hr; rfl
        refine StepP.pure i (convert_run ho (u := .pointer none) ?_) .pnil
        rw [hx']
        simp [convert, run_underlying hs, run_underlying hd, Conv.unsafePointer]
      · rename_i q n ad e1 e2
        cases e1
        rw [e2] at hr
        obtain ⟨p, hp, hsp, hx'⟩ := hr.ptr_inv
        split at hv
        · rename_i cs ee hg
          obtain ⟨hk, hv⟩ := chk_some hv
          simp only [Bool.and_eq_true] at hk
          obtain ⟨⟨k1, k2⟩, k3⟩ := hk
          have k1 := Nat.eq_of_beq_eq_true k1
          have k2 := Nat.eq_of_beq_eq_true k2
          have k3 := Nat.eq_of_beq_eq_true k3
          simp only [Option.some.injEq, Prod.mk.injEq] at hv
          obtain ⟨rfl, rfl⟩ := hv
          obtain ⟨q, xo, hq, hxo, ro⟩ := i.obj _ _ hg rfl
          rw [hp] at hq
          obtain rfl := Option.some.inj hq
          cases xo <;> try exact ro.elim
          rename_i cr er fz
          obtain ⟨_, r1, r2, r3, r4, r5⟩ := ro
          obtain ⟨j, hj, hjs⟩ : ∃ j, P.info? e = some j ∧ j.size = P.cellsOf e := by
            cases hj : P.info? e with
            | none => exact absurd (by simp [Program.cellsOf, hj]) hsz.1
            | some j => exact ⟨j, rfl, by simp [Program.cellsOf, hj]⟩
          have hsh : w.shape? p.b = some (er, cr.size) := by simp [World.shape?, hxo]
          refine StepP.pure i (convert_run ho (u := .pointer (some ⟨p.b, p.o + ad.off, none⟩)) ?_) ?_
          · rw [hx']
            refine Lib.run_from_unsafe w _ hs hd hj hsh ?_
            simp only
            rw [r2, k1, r4, k3, r3, ← k2, Nat.div_self (by omega)]
            exact hsz.2
          · rw [ptr_eta hsp]
            exact .ptr hp _
        · cases hv
      · cases hv
  · cases hc
end
end Go.L1

/- ONE OPERATION, kind by kind: append. -/
namespace Go.L1
open Go

section
variable {P : Program} {o : Oper} {a : Act} {ρ : Rho} {h h' : LHeap} {w : World} {t : Tm} {call : CallF} {v : Value}

/-- What is appended, as the model's machine reads it. -/
def Src (P : Program) (w : World) (size : Nat) (z : Value) (d : TypeDesc) (x' : Value) (n : Nat) (new' : List Value) : Prop :=
  ((∀ k, d ≠ .int k) ∧ (Builtin.lenOf x').run P w = .ok n w ∧ ∀ w1 : World, w1.heap = w.heap → (Builtin.firstCells size n x').run P w1 = .ok new'.toArray w1) ∨
  (∃ k q l, d = .int k ∧ x' = .int q l ∧ 0 ≤ l ∧ l < 1099511627776 ∧ n = l.toNat ∧ new' = rep n z.cells.toList)

theorem src_run (i : Inv P ρ h w) {e : TypeId} {z : List Value} {zv : Value} (hz : zv.cells.toList = z) (hzl : z.length = P.cellsOf e) (hzb : z.all (bareV 50) = true) {d : TypeDesc} {zeros : Bool}
    (hd : zeros = isIntD d) {x x' : Value} (hx : VR ρ x x') {n : Nat} {new : List Value} (hs : srcCells h (P.cellsOf e) z zeros x = some (n, new)) :
    ∃ new', LR ρ new new' ∧ new.length = n * P.cellsOf e ∧ Src P w (P.cellsOf e) zv d x' n new' := by
  unfold srcCells at hs
  have hnz : zeros = false → ∀ k, d ≠ .int k := by rintro h0 k rfl; rw [h0] at hd; cases hd
  split at hs
  · rename_i c
    simp only [Option.some.injEq, Prod.mk.injEq] at hs
    obtain ⟨rfl, rfl⟩ := hs
    have hx' : x' = .slice none 0 c := by cases hx; rfl
    subst hx'
    exact ⟨[], .nil, by simp, .inl ⟨hnz rfl, rfl, fun w1 _ => by simp [Builtin.firstCells]⟩⟩
  · rename_i ad m c
    simp only [Option.map_eq_some_iff, Prod.mk.injEq] at hs
    obtain ⟨cs, hcs, rfl, rfl⟩ := hs
    obtain ⟨p, b', m', hp, rfl, _, hb⟩ := hx.slice_inv
    have hl : cs.length = m * P.cellsOf e := by
      obtain ⟨_, c0, _, _, _, hcut, _⟩ := rdN_some hcs
      exact (cut_some hcut).1
    rcases hb with hm | hb
    · subst hm
      have hcs0 : cs = [] := List.eq_nil_of_length_eq_zero (by simpa using hl)
      subst hcs0
      exact ⟨[], .nil, hl, .inl ⟨hnz rfl, rfl, fun w1 _ => by simp [Builtin.firstCells, loadCells, loadCellsFrom]⟩⟩
    · subst hb
      obtain ⟨r', g1, g2, g3⟩ := loadCells_run i hcs (p := p) hp
      refine ⟨r', g1, hl, .inl ⟨hnz rfl, rfl, fun w1 hw1 => ?_⟩⟩
      obtain ⟨r2, k1, k2, k3⟩ := rdN_real i hcs hp
      have e1 : (loadCells ⟨p.b, p.o + ad.off, none⟩ (m * P.cellsOf e)).run P w1 = .ok r2.toArray w1 := by
        rw [← k2, k1.1]
        exact run_loadCells_list w1 ⟨p.b, p.o + ad.off, none⟩ r2 (fun j v hv => by rw [addr_add]; have := k3 j v hv; simpa [World.cell?, hw1, bare] using this)
      have e2 : (loadCells ⟨p.b, p.o + ad.off, none⟩ (m * P.cellsOf e)).run P w = .ok r2.toArray w := by
        rw [← k2, k1.1]
        exact run_loadCells_list w ⟨p.b, p.o + ad.off, none⟩ r2 (fun j v hv => by rw [addr_add]; exact k3 j v hv)
      have : r2 = r' := by
        have e3 : (loadCells ⟨p.b, p.o + ad.off, none⟩ (m * P.cellsOf e)).run P w = .ok r'.toArray w := g3
        rw [e2] at e3
        simpa using e3
      subst this
      exact e1
  · rename_i s
    obtain ⟨h1, h2⟩ := cond_some hs
    have h1 := Nat.eq_of_beq_eq_true h1
    simp only [Option.some.injEq, Prod.mk.injEq] at h2
    obtain ⟨rfl, rfl⟩ := h2
    obtain rfl := hx.str_inv
    refine ⟨s.data.toList.map fun b => .int .u8 b.toNat, ⟨rfl, fun j hj => byte_cell (by simpa using hj)⟩, by simp [h1], .inl ⟨hnz rfl, rfl, fun w1 _ => ?_⟩⟩
    have hs : s.extract 0 s.data.toList.length = s := by
      have : s.data.toList.length = s.size := rfl
      rw [this]
      simp
    simp only [Builtin.firstCells, hs, Sem.run_pure]
    congr 1
    apply Array.ext'
    simp
  · rename_i q l
    obtain ⟨h1, h2⟩ := cond_some hs
    simp only [Option.some.injEq, Prod.mk.injEq] at h2
    obtain ⟨rfl, rfl⟩ := h2
    obtain rfl := hx.int_inv
    obtain ⟨a1, a2, a3⟩ := inL_some h1
    have hk : ∃ k, d = .int k := by
      cases d <;> first | (cases hd; done) | exact ⟨_, rfl⟩
    obtain ⟨k, rfl⟩ := hk
    refine ⟨rep l.toNat z, LR.bare (rep_bare hzb), ?_, .inr ⟨k, q, l, rfl, rfl, a1, by omega, rfl, by rw [hz]⟩⟩
    unfold rep
    simp [hzl]
  · cases hs

theorem zeroCells_rep {z : Value} {n : Nat} : Builtin.zeroCells z.cells n = (rep n z.cells.toList).toArray := by
  have h := rep_range z.cells.toList n
  unfold Builtin.zeroCells
  apply Array.ext'
  rw [← h]
  simp

/-- append where there is room. -/
theorem append_room {ty u e rt : TypeId} {d : TypeDesc} {j : TypeInfo} {z : Value} (ht : P.underlying ty = some (.slice e)) (hu : P.underlying u = some d) (hj : P.info? e = some j) (hjz : j.zero = some z)
    {x' : Value} {n : Nat} {new' : List Value} (hs : Src P w j.size z d x' n new') (hb : n * j.bytes ≤ 70368744177664) {base : Option Addr} {sLen sCap : Nat} (hr : sLen + n ≤ sCap) {w' : World}
    (hst : ∀ ad, base = some ad → (storeCells (ad.add (sLen * j.size)) new').run P w = .ok () w') (hno : base = none → w' = w) (hnew : z.cells.size = j.size) :
    (Builtin.append_ #[ty, u] rt #[.slice base sLen sCap, x']).run P w = .ok (.slice base (sLen + n) sCap) w' := by
  rcases hs with ⟨hd, hn, hf⟩ | ⟨k, q, l, rfl, rfl, h0, hl, rfl, rfl⟩
  · have hz : (match d with | .int _ => true | _ => false) = false := by cases d <;> first | rfl | exact absurd rfl (hd _)
    have hf' := hf w rfl
    cases base with
    | none =>
      obtain rfl := hno rfl
      simp [Builtin.append_, run_underlying ht, run_underlying hu, sizeOf, typeInfo, hj, hz, hn, hr, hf']
    | some ad =>
      have := hst ad rfl
      simp [Builtin.append_, run_underlying ht, run_underlying hu, sizeOf, typeInfo, hj, hz, hn, hr, hf', this]
  · have hwl : IntKind.i64.wrap l = l := wrap64_small h0 (by omega)
    have c1 : ¬ l < 0 := by omega
    have c2 : ¬ (281474976710656 < l * (j.bytes : Int)) := by
      have h3 : ((l.toNat * j.bytes : Nat) : Int) ≤ (70368744177664 : Nat) := Int.ofNat_le.2 hb
      rw [Int.natCast_mul, Int.toNat_of_nonneg h0] at h3
      generalize l * (j.bytes : Int) = q2 at h3 ⊢
      omega
    by_cases h00 : l.toNat * j.size = 0
    · have hrep : rep l.toNat z.cells.toList = [] := by
        have : (rep l.toNat z.cells.toList).length = l.toNat * j.size := by
          unfold rep
          rw [← hnew]
          simp
        exact List.eq_nil_of_length_eq_zero (by omega)
      rw [hrep] at hst
      cases base with
      | none =>
        obtain rfl := hno rfl
        simp [Builtin.append_, run_underlying ht, run_underlying hu, sizeOf, typeInfo, hj, asInt, asIntOf, hwl, c1, c2, hr, h00]
      | some ad =>
        have := hst ad rfl
        simp only [storeCells, Sem.run_pure, Result.ok.injEq, true_and] at this
        subst this
        simp [Builtin.append_, run_underlying ht, run_underlying hu, sizeOf, typeInfo, hj, asInt, asIntOf, hwl, c1, c2, hr, h00, storeCells]
    · have hzc : ∀ w : World, (zeroValue e).run P w = .ok z w := fun w => by simp [zeroValue, typeInfo, hj, hjz]
      cases base with
      | none =>
        obtain rfl := hno rfl
        simp [Builtin.append_, run_underlying ht, run_underlying hu, sizeOf, typeInfo, hj, asInt, asIntOf, hwl, c1, c2, hr, h00, hzc]
      | some ad =>
        have := hst ad rfl
        simp [Builtin.append_, run_underlying ht, run_underlying hu, sizeOf, typeInfo, hj, asInt, asIntOf, hwl, c1, c2, hr, h00, hzc, zeroCells_rep, this]

/-- append where there is no room. -/
theorem append_grow {ty u e rt : TypeId} {d : TypeDesc} {j : TypeInfo} {z : Value} (ht : P.underlying ty = some (.slice e)) (hu : P.underlying u = some d) (hj : P.info? e = some j) (hjz : j.zero = some z)
    {x' : Value} {n : Nat} {new' : List Value} (hs : Src P w j.size z d x' n new') {base : Option Addr} {sLen sCap : Nat} (hb0 : n * j.bytes ≤ 70368744177664) (hb : (sLen + n) * j.bytes ≤ 70368744177664) (hb1 : 0 < j.bytes)
    (hr : sCap < sLen + n) {old' : List Value} (hold : (Builtin.firstCells j.size sLen (.slice base sLen sCap)).run P w.drew = .ok old'.toArray w.drew) (hnew : z.cells.size = j.size) :
    (Builtin.append_ #[ty, u] rt #[.slice base sLen sCap, x']).run P w =
      .ok (.slice (some ⟨w.heap.size, 0, none⟩) (sLen + n) (grownCap w (sLen + n) sCap e))
        (w.drew.alloc (.cells (old' ++ new' ++ rep (grownCap w (sLen + n) sCap e - (sLen + n)) z.cells.toList).toArray e)) := by
  have hsmall : sLen + n ≤ 70368744177664 := by
    have := Nat.le_mul_of_pos_right (sLen + n) hb1
    omega
  have c0 : ¬ (sLen + n ≤ sCap) := by omega
  have c1 : ¬ (9223372036854775807 < ((sLen : Int) + (n : Int))) := by omega
  have c2 : ¬ (281474976710656 < Builtin.nextslicecap (sLen + n) sCap * j.bytes) := by
    have := growslice_fits (need := sLen + n) (old := sCap) (bytes := j.bytes) hr (by omega)
    omega
  have hzc : ∀ w : World, (zeroValue e).run P w = .ok z w := fun w => by simp [zeroValue, typeInfo, hj, hjz]
  rcases hs with ⟨hd, hn, hf⟩ | ⟨k, q, l, rfl, rfl, h0, hl, rfl, rfl⟩
  · have hz : (match d with | .int _ => true | _ => false) = false := by cases d <;> first | rfl | exact absurd rfl (hd _)
    have hf' := hf w.drew rfl
    simp [Builtin.append_, run_underlying ht, run_underlying hu, sizeOf, typeInfo, hj, hz, hn, c0, c1, c2, hf', hold, hzc, Question.forced, newRow, grownCap, zeroCells_rep]
  · have hwl : IntKind.i64.wrap l = l := wrap64_small h0 (by omega)
    have d1 : ¬ l < 0 := by omega
    have d2 : ¬ (281474976710656 < l * (j.bytes : Int)) := by
      have h3 : ((l.toNat * j.bytes : Nat) : Int) ≤ (70368744177664 : Nat) := Int.ofNat_le.2 hb0
      rw [Int.natCast_mul, Int.toNat_of_nonneg h0] at h3
      generalize l * (j.bytes : Int) = q2 at h3 ⊢
      omega
    have c1' : ¬ (9223372036854775807 < ((sLen : Int) + max l 0)) := by omega
    by_cases h00 : l.toNat * j.size = 0
    · have hrep : rep l.toNat z.cells.toList = [] := by
        have : (rep l.toNat z.cells.toList).length = l.toNat * j.size := by
          unfold rep
          rw [← hnew]
          simp
        exact List.eq_nil_of_length_eq_zero (by omega)
      simp [Builtin.append_, run_underlying ht, run_underlying hu, sizeOf, typeInfo, hj, asInt, asIntOf, hwl, d1, d2, c0, c1', c2, h00, hold, hzc, Question.forced, newRow, grownCap, zeroCells_rep, hrep]
    · simp [Builtin.append_, run_underlying ht, run_underlying hu, sizeOf, typeInfo, hj, asInt, asIntOf, hwl, d1, d2, c0, c1', c2, h00, hold, hzc, Question.forced, newRow, grownCap, zeroCells_rep]
end
end Go.L1

/- ONE OPERATION, kind by kind: append, the operation. -/
namespace Go.L1
open Go

section
variable {P : Program} {o : Oper} {a : Act} {ρ : Rho} {h h' : LHeap} {w : World} {t : Tm} {call : CallF} {v : Value}

/-- A new number for a place that no living block holds. -/
theorem Inv.put (i : Inv P ρ h w) (o : LObj) (x : Obj) (p : Pl) (hx : w.heap[p.b]? = some x) (hr : OR P (radd ρ h.nx p) p o x)
    (hfree : ∀ id o' q, hget h id = some o' → o'.alive = true → ρ id = some q → q.b ≠ p.b) : Inv P (radd ρ h.nx p) (hnew h o) w := by
  have hle : Rle ρ (radd ρ h.nx p) := fun id q hq => by
    rw [radd_other _ _ (by have := i.dom _ _ hq; omega)]; exact hq
  have hdom : ∀ id q, radd ρ h.nx p id = some q → id < h.nx + 1 := by
    intro id q hq
    by_cases e : id = h.nx
    · omega
    · rw [radd_other _ _ e] at hq
      exact Nat.lt_succ_of_lt (i.dom _ _ hq)
  refine ⟨?_, ?_, ?_, ?_, ?_, i.num, ?_, ?_⟩
  · intro id q hq
    by_cases e : id = h.nx
    · subst e; exact Nat.lt_succ_self _
    · rw [radd_other _ _ e] at hq
      exact Nat.lt_succ_of_lt (i.dom _ _ hq)
  · intro id y hg ha
    by_cases e : id = h.nx
    · subst e
      rw [hget_hnew_new i] at hg
      obtain rfl := Option.some.inj hg
      exact ⟨_, x, radd_same _ _ _, hx, hr⟩
    · rw [hget_hnew_old i _ e] at hg
      obtain ⟨q, z, hq, hz, r⟩ := i.obj id y hg ha
      exact ⟨q, z, hle _ _ hq, hz, r.mono hle⟩
  · intro id id' y y' q q' hg hg' ho ha hq hq' hb
    by_cases e : id = h.nx
    · by_cases e' : id' = h.nx
      · rw [e, e']
      · subst e
        rw [radd_same] at hq
        obtain rfl := Option.some.inj hq
        rw [hget_hnew_old i _ e'] at hg'
        rw [radd_other _ _ e'] at hq'
        exact absurd hb.symm (hfree _ _ _ hg' ha hq')
    · rw [hget_hnew_old i _ e] at hg
      rw [radd_other _ _ e] at hq
      by_cases e' : id' = h.nx
      · subst e'
        rw [radd_same] at hq'
        obtain rfl := Option.some.inj hq'
        exact absurd hb (hfree _ _ _ hg (owned_alive ho) hq)
      · rw [hget_hnew_old i _ e'] at hg'
        rw [radd_other _ _ e'] at hq'
        exact i.inj _ _ _ _ _ _ hg hg' ho ha hq hq' hb
  · have := i.size
    simp only [hnew, List.length_cons]
    omega
  · intro g hg
    have := i.gn_le
    have := i.num
    rw [radd_other _ _ (by omega)]
    exact i.globs g hg
  · intro g y hg hlt'
    have := i.gn_le
    rw [hget_hnew_old i _ (by simp only [hnew] at hlt'; omega)] at hg
    exact i.gro g y hg hlt'
  · intro id y hg hlt'
    by_cases e : id = h.nx
    · subst e
      rw [hget_hnew_new i] at hg
      obtain rfl := Option.some.inj hg
      exact (hr.ob hdom).mono (Nat.le_max_left _ _)
    · rw [hget_hnew_old i _ e] at hg
      exact i.esc id y hg hlt'

/-- A block dies. -/
theorem Inv.kill (i : Inv P ρ h w) {id : Nat} {o : LObj} (hg : hget h id = some o) (ho : o.owned = true) : Inv P ρ (hset h id .dead 0) w ∧ Fr ρ h w ρ (hset h id .dead 0) w := by
  obtain ⟨p, x, hp, hx, _⟩ := i.obj id o hg (owned_alive ho)
  exact i.set hg ho hp 0 hx (fun _ _ => rfl) rfl rfl rfl rfl (o' := .dead) trivial (fun _ _ _ => trivial)

/-- An own block dies; its place goes on under a new number, in a world in which its real block alone has turned. -/
theorem Inv.regrow (i : Inv P ρ h w) {id : Nat} {o o2 : LObj} (hg : hget h id = some o) (ho : o.owned = true) {p : Pl} (hp : ρ id = some p) {w' : World} {x' : Obj}
    (hx : w'.heap[p.b]? = some x') (hoth : ∀ b, b ≠ p.b → w'.heap[b]? = w.heap[b]?) (hsz : w'.heap.size = w.heap.size) (hos : w'.os = w.os) (htp : w'.tape = w.tape) (hout : w'.output = w.output)
    {q : Pl} (hq : q.b = p.b) (hr : OR P (radd ρ h.nx q) q o2 x') : Inv P (radd ρ h.nx q) (hnew (hset h id .dead 0) o2) w' ∧ Fr ρ h w (radd ρ h.nx q) (hnew (hset h id .dead 0) o2) w' := by
  obtain ⟨i1, f1⟩ := i.set hg ho hp 0 hx hoth hsz hos htp hout (o' := .dead) trivial (fun _ _ _ => trivial)
  have hl := hget_lt i hg
  have hge := i.owned_ge hg ho
  have hdead := hget_hset_same i hg hge .dead 0
  have hother := fun {id' : Nat} (e : id' ≠ id) => hget_hset_other i hl e .dead 0
  have hfree : ∀ id' o' q', hget (hset h id .dead 0) id' = some o' → o'.alive = true → ρ id' = some q' → q'.b ≠ q.b := by
    intro id' o' q' hg' ha hq' hb
    by_cases e : id' = id
    · subst e
      rw [hdead] at hg'
      obtain rfl := Option.some.inj hg'
      cases ha
    · rw [hother e] at hg'
      exact e (i.inj _ _ _ _ _ _ hg hg' ho ha hp hq' (by rw [hb, hq])).symm
  have i2 := i1.put o2 x' q (by rw [hq]; exact hx) hr hfree
  refine ⟨i2, ⟨fun id' q' h' => by rw [radd_other _ _ (by have := i.dom _ _ h'; omega)]; exact h', Nat.le_succ _, rfl, rfl, by omega, hos, htp, hout, ?_, ?_⟩⟩
  · intro b hb hn
    exact hoth b (fun e => hn id o p hg ho hp e.symm)
  · intro id' y q' hg' hoy hq' hb
    by_cases e : id' = h.nx
    · subst e
      have e2 : radd ρ h.nx q h.nx = some q := radd_same _ _ _
      rw [e2] at hq'
      obtain rfl := Option.some.inj hq'
      exact ⟨id, o, p, hg, owned_alive ho, fun _ => ho, hp, hq.symm⟩
    · rw [hget_hnew_old i1 _ e] at hg'
      rw [radd_other _ _ e] at hq'
      by_cases e1 : id' = id
      · subst e1
        rw [hdead] at hg'
        obtain rfl := Option.some.inj hg'
        cases hoy
      · rw [hother e1] at hg'
        exact ⟨id', y, q', hg', hoy, fun h => h, hq', rfl⟩

theorem LR.length {l l' : List Value} (h : LR ρ l l') : l.length = l'.length := h.1

/-- append has made a new row. -/
theorem grown_step {h0 : LHeap} (i : Inv P ρ h0 w) (f0 : Fr ρ h w ρ h0 w) {e : TypeId} {sz N C : Nat} {c c' rest : List Value} (hc : LR ρ c c') (hl : c.length = N * sz) (hN : N ≤ C) (hrest : rest.length = (C - N) * sz) (hsz : 0 < sz)
    (hrun : (execOp a.eval o).run P w = .ok (.value (.slice (some ⟨w.heap.size, 0, none⟩) N C)) (w.drew.alloc (.cells (c' ++ rest).toArray e))) :
    Step1 P o a ρ h w (appNew h0 sz e N c).1 (appNew h0 sz e N c).2 := by
  have id := i.drew (w' := w.drew) rfl
  have hrs : (c' ++ rest).length = C * sz := by
    rw [List.length_append, ← hc.1, hl, hrest, ← Nat.add_mul]
    congr 1
    omega
  have hle : Rle ρ (radd ρ h0.nx ⟨w.heap.size, 0, some (sz, C * sz)⟩) := fun id' p hp => by
    rw [radd_other _ _ (by have := i.dom _ _ hp; omega)]; exact hp
  have hOR : OR P (radd ρ h0.nx ⟨w.heap.size, 0, some (sz, C * sz)⟩) ⟨w.heap.size, 0, some (sz, C * sz)⟩ (.cells c (.wide sz) e) (.cells (c' ++ rest).toArray e) := by
    refine ⟨fun j hj => ⟨fr0 c' j, ?_, .inr ((hc.2 j hj).mono hle)⟩, ?_, hsz, rfl, ?_, ?_⟩
    · have hj' : j < c'.length := by rw [← hc.1]; exact hj
      simp only [Nat.zero_add, List.getElem?_toArray]
      rw [List.getElem?_append_left hj']
      exact fr0_get c' j hj'
    · simp only [List.size_toArray, hrs]
    · simp only [List.size_toArray, hrs, hl, Nat.zero_add]
      exact Nat.mul_le_mul_right _ hN
    · intro j _ _ h3
      simp only at h3
      omega
  obtain ⟨i', f'⟩ := id.alloc _ _ _ hOR
  refine ⟨_, _, _, .inl hrun, ?_, i', f0.trans f'.drawn⟩
  have : VR (radd ρ h0.nx ⟨w.heap.size, 0, some (sz, C * sz)⟩) (.slice (some ⟨h0.nx, 0, none⟩) N N) (.slice (some ⟨w.heap.size, 0 + 0, none⟩) N C) :=
    VR.slw (p := ⟨w.heap.size, 0, some (sz, C * sz)⟩) (radd_same _ _ _) rfl 0 _ _ _ hN (by simp)
  exact this
end
end Go.L1

/- ONE OPERATION, kind by kind: append, the whole. -/
namespace Go.L1
open Go

section
variable {P : Program} {o : Oper} {a : Act} {ρ : Rho} {h h' : LHeap} {w : World} {t : Tm} {call : CallF} {v : Value}

theorem one_rel {vs vs' : List Value} (hs : LR ρ vs vs') (hone : vs.all oneCell = true) : ∀ u ∈ vs', oneCell u = true := by
  rw [List.all_eq_true] at hone
  intro u hu
  obtain ⟨j, hj, rfl⟩ := List.getElem_of_mem hu
  have hj' : j < vs.length := by rw [hs.1]; exact hj
  have h1 := hs.2 j hj'
  have h2 := hone _ (fr0_mem hj')
  have h3 : fr0 vs' j = vs'[j] := fr0_of_get (List.getElem?_eq_getElem hj)
  rw [h3] at h1
  generalize fr0 vs j = z at h1 h2
  generalize vs'[j] = z2 at h1
  cases h1 <;> first | rfl | cases h2

theorem slice_len {ad : Addr} {len n cap cap' : Nat} {b' : Addr} (hr : VR ρ (.slice (some ad) len cap) (.slice (some b') len cap')) (hn : len + n ≤ cap) :
    VR ρ (.slice (some ad) (len + n) cap) (.slice (some b') (len + n) cap') := by
  cases hr with
  | slc hp hw off _ _ => exact .slc hp hw off _ _
  | slw hp hw off _ _ _ hc he => exact .slw hp hw off _ _ _ hc he
  | slx hp off _ _ => exact .slx hp off _ _
  | slz hp hw off =>
    have : n = 0 := by omega
    subst this
    exact .slz hp hw off _
  | slxz hp off =>
    have : n = 0 := by omega
    subst this
    exact .slxz hp off _

theorem app_run {s x : Operand} {ty u : TypeId} (ho : o.op = .call { callee := .builtin .append, args := #[s, x], argTypes := #[ty, u] }) {r : Value} {w' : World}
    (hr : (Builtin.append_ #[ty, u] o.type #[a.eval s, a.eval x]).run P w = .ok r w') : (execOp a.eval o).run P w = .ok (.value r) w' :=
  value_run ho (fun _ => by
    have hm : (#[s, x] : Array Operand).map a.eval = #[a.eval s, a.eval x] := by simp
    rw [hm]; rfl) hr

theorem s_append (i : Inv P ρ h w) (r : TR ρ t a.tmps) {s x : Operand} {ty u e : TypeId} {d : TypeDesc} {z : List Value} (ho : o.op = .call { callee := .builtin .append, args := #[s, x], argTypes := #[ty, u] })
    (hs : okOpd P s = true) (hx : okOpd P x = true) (ht : P.underlying ty = some (.slice e)) (hu : P.underlying u = some d) (hz : zeroC P e = some z) (hzl : z.length = P.cellsOf e) (hsz : P.cellsOf e ≠ 0) (hby : P.bytesOf e ≠ 0)
    (hv : opV call t h (.append (P.cellsOf e) (P.bytesOf e) e z (isIntD d) s x) = some (v, h')) : Step1 P o a ρ h w v h' := by
  simp only [opV, opK] at hv
  obtain ⟨⟨v1, h1⟩, happ, hv⟩ := ob_some hv
  simp only [Option.some.injEq, Prod.mk.injEq] at hv
  obtain ⟨rfl, rfl⟩ := hv
  obtain ⟨zv, hzu, rfl, hzb⟩ := zeroC_some hz
  obtain ⟨j, hj, hjz⟩ := zeroOf_info hzu
  have hjs : j.size = P.cellsOf e := by simp [Program.cellsOf, hj]
  have hjb : j.bytes = P.bytesOf e := by simp [Program.bytesOf, hj]
  have hzs : zv.cells.size = j.size := by rw [hjs, ← hzl]; simp
  have hrs := ev_rel i r hs
  have hrx := ev_rel i r hx
  unfold appendL at happ
  obtain ⟨⟨n, new⟩, hsrc, happ⟩ := ob_some happ
  obtain ⟨hchk, happ⟩ := chk_some happ
  simp only [Bool.and_eq_true] at hchk
  obtain ⟨hb00, hone⟩ := hchk
  have hb0 := Nat.le_of_ble_eq_true hb00
  simp only at hb0 hone happ
  clear hb00
  obtain ⟨new', hnr, hnl, hS⟩ := src_run (P := P) (w := w) i (zv := zv) rfl hzl hzb rfl hrx hsrc
  rw [← hjs] at hS hnl
  rw [← hjb] at hb0
  have hrest : ∀ C N : Nat, (rep (C - N) zv.cells.toList).length = (C - N) * j.size := by
    intro C N
    unfold rep
    rw [← hzs]
    simp
  split at happ
  · rename_i he
    rw [he] at hrs
    have hs' : a.eval s = .slice none 0 0 := by generalize a.eval s = q at hrs; cases hrs; rfl
    by_cases hn : n = 0
    · subst hn
      have happ : some (Value.slice none 0 0, h) = some (v1, h1) := happ
      simp only [Option.some.injEq, Prod.mk.injEq] at happ
      obtain ⟨rfl, rfl⟩ := happ
      have hrun := append_room (P := P) (w := w) (rt := o.type) ht hu hj hjz hS hb0 (base := none) (sLen := 0) (sCap := 0) (by omega) (w' := w) (fun _ h => by cases h) (fun _ => rfl) hzs
      rw [← hs'] at hrun
      exact Step1.pure i (app_run ho hrun) (by first | exact hrs | exact .snil _ _)
    · rw [beq_false hn] at happ
      have happ : some (appNew h (P.cellsOf e) e n new) = some (v1, h1) := happ
      simp only [Option.some.injEq] at happ
      have hold : (Builtin.firstCells j.size 0 (.slice none 0 0)).run P w.drew = .ok ([] : List Value).toArray w.drew := run_firstCells_none (P := P) w.drew j.size 0 0 0
      have hrun := append_grow (P := P) (w := w) (rt := o.type) ht hu hj hjz hS (base := none) (sLen := 0) (sCap := 0) hb0 (by rw [Nat.zero_add]; exact hb0) (by omega) (by omega) hold hzs
      rw [← hs'] at hrun
      simp only [Nat.zero_add, List.nil_append] at hrun
      have hge := grownCap_ge w n 0 e
      have hst := grown_step (P := P) (o := o) (a := a) i (Fr.refl ρ h w) hnr (by rw [hnl, hjs]) hge (by rw [hrest, hjs]) (Nat.pos_of_ne_zero hsz) (app_run ho hrun)
      rw [happ] at hst
      exact hst
  · rename_i ad len cap he
    rw [he] at hrs
    obtain ⟨p, b', cap', hp, hs', hcc, hb'⟩ := hrs.slice_inv
    rw [hs'] at hrs
    split at happ
    · rename_i c k e' hg
      by_cases hroom : len + n ≤ cap
      · rw [show Nat.ble (len + n) cap = true from Nat.ble_eq_true_of_le hroom] at happ
        have happ : appRoom h ad len cap n (P.cellsOf e) new c k e' = some (v1, h1) := happ
        have hcz : b' ≠ ⟨p.b, p.o + ad.off, none⟩ → new = [] := by
          intro hne
          have hl0 := hb'.resolve_right hne
          have hn0 : n = 0 := by
            cases hrs with
            | slc hp2 =>
              obtain rfl := Option.some.inj (hp.symm.trans hp2)
              exact absurd rfl hne
            | slw hp2 =>
              obtain rfl := Option.some.inj (hp.symm.trans hp2)
              exact absurd rfl hne
            | slx hp2 =>
              obtain rfl := Option.some.inj (hp.symm.trans hp2)
              exact absurd rfl hne
            | slz => omega
            | slxz => omega
          subst hn0
          exact List.eq_nil_of_length_eq_zero (by simpa using hnl)
        have fin : ∀ (h2 : LHeap) (w2 : World), (storeCells (b'.add (len * j.size)) new').run P w = .ok () w2 → Inv P ρ h2 w2 → Fr ρ h w ρ h2 w2 → v1 = .slice (some ad) (len + n) cap → h1 = h2 → Step1 P o a ρ h w v1 h1 := by
          rintro h2 w2 hst i2 f2 rfl rfl
          have hrun := append_room (P := P) (w := w) (rt := o.type) ht hu hj hjz hS hb0 (base := some b') (sLen := len) (sCap := cap') (by omega) (w' := w2) (fun _ h => by cases h; exact hst) (fun h => by cases h) hzs
          rw [← hs'] at hrun
          exact ⟨ρ, _, w2, .inl (app_run ho hrun), slice_len hrs hroom, i2, f2⟩
        unfold appRoom at happ
        split at happ
        · obtain ⟨hn, happ3⟩ := cond_some happ
          have hn := Nat.eq_of_beq_eq_true hn
          simp only [Option.some.injEq, Prod.mk.injEq] at happ3
          subst hn
          have hnil : new = [] := List.eq_nil_of_length_eq_zero (by simpa using hnl)
          subst hnil
          have hn' := hnr.nil_left
          subst hn'
          exact fin h w rfl i (Fr.refl ρ h w) happ3.1.symm happ3.2.symm
        · rename_i hk
          obtain ⟨c', hput, happ⟩ := ob_some happ
          simp only [Option.some.injEq, Prod.mk.injEq] at happ
          have hwr : wrN h ⟨ad.block, ad.off + len * P.cellsOf e, none⟩ new = some (hset h ad.block (.cells c' k e') (topL new)) := by
            unfold wrN
            rw [hg]
            cases k with
            | ro => exact absurd rfl hk
            | fixed => simp [hone, hput]
            | wide q => simp [hone, hput]
          obtain ⟨w2, g1, g2, g3⟩ := wrN_run i hwr hnr hp
          refine fin _ w2 ?_ g2 g3 happ.1.symm happ.2.symm
          by_cases hbe : b' = ⟨p.b, p.o + ad.off, none⟩
          · rw [hbe, addr_add, hjs, Nat.add_assoc]
            exact g1
          · have := hcz hbe
            subst this
            have hn' := hnr.nil_left
            subst hn'
            exact g1
      · have hlt : cap < len + n := by omega
        rw [show Nat.ble (len + n) cap = false from by
          cases hq : Nat.ble (len + n) cap with
          | false => rfl
          | true => exact absurd (Nat.le_of_ble_eq_true hq) hroom] at happ
        have happ : chk (Nat.ble ((len + n) * P.bytesOf e) 70368744177664) (appGrow h ad len n (P.cellsOf e) new k e e') = some (v1, h1) := happ
        obtain ⟨hb2, happ⟩ := chk_some happ
        have hb2 := Nat.le_of_ble_eq_true hb2
        rw [← hjb] at hb2
        unfold appGrow at happ
        obtain ⟨old, hold, happ⟩ := ob_some happ
        have hsz' : 0 < P.cellsOf e := Nat.pos_of_ne_zero hsz
        obtain ⟨old', hor, hol, hOS⟩ := src_run (P := P) (w := w) (d := .bool) (zeros := false) i (zv := zv) rfl hzl hzb rfl (x := .slice (some ad) len cap) (x' := .slice (some b') len cap') hrs
          (n := len) (new := old) (by simp [srcCells, hold])
        have hold' : (Builtin.firstCells j.size len (.slice (some b') len cap')).run P w.drew = .ok old'.toArray w.drew := by
          rcases hOS with ⟨_, _, hf⟩ | ⟨_, _, _, hq, _⟩
          · rw [hjs]; exact hf w.drew rfl
          · cases hq
        have hlen : (old ++ new).length = (len + n) * P.cellsOf e := by rw [List.length_append, hol, hnl, hjs, Nat.add_mul]
        have grow : ∀ (h0 : LHeap), Inv P ρ h0 w → Fr ρ h w ρ h0 w → cap' < len + n → some (appNew h0 (P.cellsOf e) e (len + n) (old ++ new)) = some (v1, h1) → Step1 P o a ρ h w v1 h1 := by
          intro h0 i0 f0 hlt' heq
          simp only [Option.some.injEq] at heq
          have hrun := append_grow (P := P) (w := w) (rt := o.type) ht hu hj hjz hS (base := some b') (sLen := len) (sCap := cap') hb0 hb2 (by omega) hlt' hold' hzs
          rw [← hs'] at hrun
          have hge := grownCap_ge w (len + n) cap' e
          have hst := grown_step (P := P) (o := o) (a := a) i0 f0 (hor.append hnr) hlen hge (by rw [hrest, hjs]) hsz' (app_run ho hrun)
          rw [heq] at hst
          exact hst
        have hkd := kind_of i hg hp
        by_cases hsure : (ad.spot.isSome || !k.isWide) = true
        · rw [hsure] at happ
          refine grow h i (Fr.refl ρ h w) ?_ happ
          cases hrs with
          | slc => exact hlt
          | slx => exact hlt
          | slxz => omega
          | slz => omega
          | slw hp2 hw off _ _ _ hc hE =>
            exfalso
            have hkw : k.isWide = false := by simpa using hsure
            have := hkd.2 hkw
            rw [hp] at hp2
            obtain rfl := Option.some.inj hp2
            rw [hw] at this
            cases this
        · have hsure' : (ad.spot.isSome || !k.isWide) = false := by simpa using hsure
          rw [hsure'] at happ
          have happ : cond (isW k (P.cellsOf e) && Nat.beq e' e) (some (appNew (hset h ad.block .dead 0) (P.cellsOf e) e (len + n) (old ++ new))) none = some (v1, h1) := happ
          obtain ⟨hcnd, happ3⟩ := cond_some happ
          clear happ
          simp only [Bool.and_eq_true] at hcnd
          obtain ⟨hkw, hee⟩ := hcnd
          have hee := Nat.eq_of_beq_eq_true hee
          subst hee
          have hkw : k = .wide (P.cellsOf e') := by
            cases k with
            | wide q =>
              have := Nat.eq_of_beq_eq_true hkw
              rw [this]
            | _ => cases hkw
          subst hkw
          have hown : (LObj.cells c (.wide (P.cellsOf e')) e').owned = true := rfl
          by_cases hlt' : cap' < len + n
          · obtain ⟨i0, f0⟩ := i.kill hg hown
            exact grow _ i0 f0 hlt' happ3
          · cases hrs with
            | slc => omega
            | slx => omega
            | slxz => omega
            | slz => omega
            | @slw id p2 szq E hp2 hw off _ _ _ hc hE =>
              simp only at hp hg hold
              rw [hp] at hp2
              obtain rfl := Option.some.inj hp2
              obtain ⟨q, xo, hq, hxo, ro⟩ := i.obj _ _ hg rfl
              rw [hp] at hq
              obtain rfl := Option.some.inj hq
              cases xo <;> try exact ro.elim
              rename_i cr er fz
              obtain ⟨ro1, ro2, _, rfl, ro4, ro5⟩ := ro
              rw [hw] at ro2
              simp only [Option.some.injEq, Prod.mk.injEq] at ro2
              obtain ⟨rfl, rfl⟩ := ro2
              have hle2 : (len + n) * P.cellsOf er ≤ cap' * P.cellsOf er := Nat.mul_le_mul_right _ (by omega)
              have hnl' : new'.length = n * P.cellsOf er := by rw [← hnr.1, hnl, hjs]
              rw [Nat.add_mul] at hle2
              obtain ⟨w2, c2, g1, g2, g3, g4, g5, g6, g7, g8, g9⟩ := storeCells_run (P := P) new' 0 w p.b (p.o + off + len * P.cellsOf er) cr er fz hxo (by omega)
                (fun jj x1 x2 => ro5 jj (by omega) (by omega)) (one_rel hnr hone)
              have hORn : OR P (radd ρ h.nx ⟨p.b, p.o + off, some (P.cellsOf er, cr.size)⟩) ⟨p.b, p.o + off, some (P.cellsOf er, cr.size)⟩ (.cells (old ++ new) (.wide (P.cellsOf er)) er) (.cells c2 er fz) := by
                have hle : Rle ρ (radd ρ h.nx ⟨p.b, p.o + off, some (P.cellsOf er, cr.size)⟩) := fun id' p' hp' => by
                  rw [radd_other _ _ (by have := i.dom _ _ hp'; omega)]; exact hp'
                obtain ⟨r2, k1, k2, k3⟩ := rdN_real i hold hp
                refine ⟨fun jj hjj => ?_, by rw [g3], hsz', rfl, by simp only; rw [hlen, g3, Nat.add_mul]; omega, fun jj x1 x2 => ro5 jj (by simp only at x1; omega) (by rw [← g3]; exact x2)⟩
                simp only [Nat.add_zero] at g4
                simp only
                by_cases hlo : jj < old.length
                · refine ⟨fr0 r2 jj, ?_, .inr ?_⟩
                  · rw [g4, if_neg (by rw [hol] at hlo; omega)]
                    have hr2 := fr0_get r2 jj (by rw [← k1.1]; exact hlo)
                    have := k3 jj _ hr2
                    simpa [World.cell?, hxo, bare] using this
                  · rw [fr0_append_left hlo]
                    exact (k1.2 jj hlo).mono hle
                · have hjn : jj - old.length < new.length := by rw [List.length_append] at hjj; omega
                  refine ⟨fr0 new' (jj - old.length), ?_, .inr ?_⟩
                  · have hg' := fr0_get new' (jj - old.length) (by rw [← hnr.1]; exact hjn)
                    rw [hol] at hlo hjn hg' ⊢
                    rw [hnl, hjs] at hjn
                    rw [g4, if_pos (by omega), ← hg']
                    congr 1
                    omega
                  · have : fr0 (old ++ new) jj = fr0 new (jj - old.length) := by
                      refine fr0_of_get ?_
                      rw [List.getElem?_append_right (by omega)]
                      exact fr0_get new _ hjn
                    rw [this]
                    exact (hnr.2 _ hjn).mono hle
              obtain ⟨i2, f2⟩ := i.regrow hg hown hp g2 g5 g6 g7 g8 g9 (q := ⟨p.b, p.o + off, some (P.cellsOf er, cr.size)⟩) rfl hORn
              have hrun := append_room (P := P) (w := w) (rt := o.type) ht hu hj hjz hS hb0 (base := some ⟨p.b, p.o + off, none⟩) (sLen := len) (sCap := cap') (by omega) (w' := w2)
                (fun _ h => by cases h; rw [addr_add, hjs]; exact g1) (fun h => by cases h) hzs
              rw [← hs'] at hrun
              have happ : some (appNew (hset h id .dead 0) (P.cellsOf er) er (len + n) (old ++ new)) = some (v1, h1) := happ3
              simp only [Option.some.injEq, appNew, Prod.mk.injEq] at happ
              obtain ⟨rfl, rfl⟩ := happ
              refine ⟨_, _, w2, .inl (app_run ho hrun), ?_, i2, f2⟩
              exact VR.slw (p := ⟨p.b, p.o + off, some (P.cellsOf er, cr.size)⟩) (radd_same _ _ _) rfl 0 _ _ _ (by omega) (by simpa using hE)
    · cases happ
  · cases happ
end
end Go.L1

/- ONE OPERATION, kind by kind: copy, clear, unsafe. -/
namespace Go.L1
open Go

section
variable {P : Program} {o : Oper} {a : Act} {ρ : Rho} {h h' : LHeap} {w : World} {t : Tm} {call : CallF} {v : Value}

theorem nmin_eq (x y : Nat) : nmin x y = Nat.min x y := by
  unfold nmin
  by_cases e : x ≤ y
  · rw [show Nat.ble x y = true from Nat.ble_eq_true_of_le e]
    exact (Nat.min_eq_left e).symm
  · rw [show Nat.ble x y = false from by
      cases hq : Nat.ble x y with
      | false => rfl
      | true => exact absurd (Nat.le_of_ble_eq_true hq) e]
    exact (Nat.min_eq_right (Nat.le_of_lt (Nat.lt_of_not_le e))).symm

/-- What is written from a slice's head on. -/
theorem wr_head (i : Inv P ρ h w) {ad : Addr} {n m : Nat} {x' : Value} (hr : VR ρ (.slice (some ad) n m) x') {vs vs' : List Value} (hn : n = 0 → vs = []) (hv : wrN h (bare ad) vs = some h') (hs : LR ρ vs vs') :
    ∃ b' m' w', x' = .slice (some b') n m' ∧ (storeCells b' vs').run P w = .ok () w' ∧ Inv P ρ h' w' ∧ Fr ρ h w ρ h' w' := by
  obtain ⟨p, b', m', hp, rfl, _, hb⟩ := hr.slice_inv
  obtain ⟨w', g1, g2, g3⟩ := wrN_run i hv hs (p := p) hp
  rcases hb with h0 | hb
  · have := hn h0
    subst this
    have hn' := hs.nil_left
    subst hn'
    simp only [storeCells, Sem.run_pure, Result.ok.injEq, true_and] at g1
    subst g1
    exact ⟨b', m', w, rfl, rfl, g2, g3⟩
  · subst hb
    exact ⟨_, m', w', rfl, g1, g2, g3⟩

theorem cp_run (i : Inv P ρ h w) {sz n sl : Nat} {x x' : Value} (hx : VR ρ x x') (hl : lenSrc x = some sl) (hn : n ≤ sl) {new : List Value} (hc : cpCells h sz n x = some new) :
    ∃ new', LR ρ new new' ∧ (n = 0 → new = []) ∧ (Builtin.lenOf x').run P w = .ok sl w ∧ (Builtin.firstCells sz n x').run P w = .ok new'.toArray w := by
  unfold cpCells at hc
  split at hc
  · rename_i q c
    simp only [Option.some.injEq] at hc
    subst hc
    have hx' : x' = .slice none q c := by cases hx; rfl
    subst hx'
    simp only [lenSrc, Option.some.injEq] at hl
    subst hl
    exact ⟨[], .nil, fun _ => rfl, rfl, rfl⟩
  · rename_i ad q c
    simp only [lenSrc, Option.some.injEq] at hl
    subst hl
    obtain ⟨p, b', m', hp, rfl, _, hb⟩ := hx.slice_inv
    have hlen : new.length = n * sz := by
      obtain ⟨_, c0, _, _, _, hcut, _⟩ := rdN_some hc
      exact (cut_some hcut).1
    have hnil : n = 0 → new = [] := by
      rintro rfl
      exact List.eq_nil_of_length_eq_zero (by simpa using hlen)
    rcases hb with h0 | hb
    · have hn0 : n = 0 := by omega
      have := hnil hn0
      subst this
      subst hn0
      exact ⟨[], .nil, fun _ => rfl, rfl, by simp [Builtin.firstCells, loadCells, loadCellsFrom]⟩
    · subst hb
      obtain ⟨r', g1, g2, g3⟩ := loadCells_run i hc (p := p) hp
      exact ⟨r', g1, hnil, rfl, g3⟩
  · rename_i s
    obtain ⟨h1, h2⟩ := cond_some hc
    have h1 := Nat.eq_of_beq_eq_true h1
    subst h1
    simp only [Option.some.injEq] at h2
    subst h2
    obtain rfl := hx.str_inv
    simp only [lenSrc, Option.some.injEq] at hl
    subst hl
    refine ⟨(s.data.toList.take n).map fun b => .int .u8 b.toNat, ⟨rfl, fun j hj => byte_cell (by simpa using hj)⟩, by rintro rfl; rfl, rfl, ?_⟩
    simp only [Builtin.firstCells, Sem.run_pure]
    congr 1
    apply Array.ext'
    simp [ByteArray.data_extract, List.map_take]
  · cases hc

theorem s_copy (i : Inv P ρ h w) (r : TR ρ t a.tmps) {x y : Operand} {ty e : TypeId} {ats : Array TypeId} (ho : o.op = .call { callee := .builtin .copy, args := #[x, y], argTypes := ats }) (hat : ats[0]? = some ty)
    (hx : okOpd P x = true) (hy : okOpd P y = true) (ht : P.underlying ty = some (.slice e)) (hi : (P.info? e).isSome = true)
    (hv : opV call t h (.copy (P.cellsOf e) x y) = some (v, h')) : Step1 P o a ρ h w v h' := by
  simp only [opV, opK] at hv
  obtain ⟨⟨v1, h1⟩, hc, hv⟩ := ob_some hv
  simp only [Option.some.injEq, Prod.mk.injEq] at hv
  obtain ⟨rfl, rfl⟩ := hv
  obtain ⟨j, hj⟩ := Option.isSome_iff_exists.1 hi
  have hrx := ev_rel i r hx
  have hry := ev_rel i r hy
  have hm : (#[x, y] : Array Operand).map a.eval = #[a.eval x, a.eval y] := by simp
  unfold oCopy at hc
  split at hc
  · rename_i base dl cap he
    rw [he] at hrx
    obtain ⟨sl, hsl, hc⟩ := ob_some hc
    obtain ⟨new, hnew, hc⟩ := ob_some hc
    rw [nmin_eq] at hnew hc
    obtain ⟨new', g1, g2, g3, g4⟩ := cp_run (w := w) i hry hsl (Nat.min_le_left _ _) hnew
    split at hc
    · simp only [Option.some.injEq, Prod.mk.injEq] at hc
      obtain ⟨rfl, rfl⟩ := hc
      have hx' : ∃ n c, a.eval x = .slice none n c ∧ n = dl := by generalize a.eval x = z at hrx; cases hrx; exact ⟨_, _, rfl, rfl⟩
      obtain ⟨n, c, hx', rfl⟩ := hx'
      refine Step1.pure i (value_run ho (fun _ => by rw [hm]; rfl) (s := Builtin.copy_ ats o.type #[a.eval x, a.eval y]) (u := goInt (Nat.min sl n)) ?_) (.int _ _)
      simp [Builtin.copy_, hat, run_underlying ht, hx', g3, sizeOf_info hj, g4]
    · rename_i ad
      simp only [Option.map_eq_some_iff, Prod.mk.injEq] at hc
      obtain ⟨h2, hw, rfl, rfl⟩ := hc
      obtain ⟨b', m', w', hx', k1, k2, k3⟩ := wr_head i hrx (fun h0 => g2 (by subst h0; exact Nat.min_eq_right (Nat.zero_le _))) hw g1
      refine ⟨ρ, goInt (Nat.min sl dl), w', .inl (value_run ho (fun _ => by rw [hm]; rfl) (s := Builtin.copy_ ats o.type #[a.eval x, a.eval y]) ?_), .int _ _, k2, k3⟩
      simp [Builtin.copy_, hat, run_underlying ht, hx', g3, sizeOf_info hj, g4, k1]
  · cases hc

theorem s_clearSlice (i : Inv P ρ h w) (r : TR ρ t a.tmps) {x : Operand} {ty e : TypeId} {z : List Value} (ho : o.op = .call { callee := .builtin .clear, args := #[x], argTypes := #[ty] })
    (hx : okOpd P x = true) (ht : P.underlying ty = some (.slice e)) (hz : zeroC P e = some z) (hv : opV call t h (.clearSlice z x) = some (v, h')) : Step1 P o a ρ h w v h' := by
  simp only [opV, opK] at hv
  obtain ⟨h1, hc, hv⟩ := ob_some hv
  simp only [Option.some.injEq, Prod.mk.injEq] at hv
  obtain ⟨rfl, rfl⟩ := hv
  have hrx := ev_rel i r hx
  obtain ⟨zv, hzu, rfl, hzb⟩ := zeroC_some hz
  have hm : (#[x] : Array Operand).map a.eval = #[a.eval x] := by simp
  unfold oClear at hc
  split at hc
  · rename_i n c he
    rw [he] at hrx
    simp only [Option.some.injEq] at hc
    subst hc
    have hx' : a.eval x = .slice none n c := by generalize a.eval x = q at hrx; cases hrx; rfl
    refine Step1.pure i (value_run ho (fun _ => by rw [hm]; rfl) (s := Builtin.clear_ #[ty] o.type #[a.eval x]) (u := .tuple #[]) ?_) VR.undef
    simp [Builtin.clear_, run_underlying ht, hx']
  · rename_i ad n c he
    rw [he] at hrx
    by_cases hn : n = 0
    · subst hn
      have hc : some h = some h1 := hc
      simp only [Option.some.injEq] at hc
      subst hc
      obtain ⟨p, b', m', hp, hx', _, _⟩ := hrx.slice_inv
      refine Step1.pure i (value_run ho (fun _ => by rw [hm]; rfl) (s := Builtin.clear_ #[ty] o.type #[a.eval x]) (u := .tuple #[]) ?_) VR.undef
      simp [Builtin.clear_, run_underlying ht, hx']
    · rw [beq_false hn] at hc
      have hc : wrN h (bare ad) (rep n zv.cells.toList) = some h1 := hc
      obtain ⟨b', m', w', hx', k1, k2, k3⟩ := wr_head i hrx (fun h0 => absurd h0 hn) hc (LR.bare (rep_bare hzb))
      refine ⟨ρ, .tuple #[], w', .inl (value_run ho (fun _ => by rw [hm]; rfl) (s := Builtin.clear_ #[ty] o.type #[a.eval x]) ?_), VR.undef, k2, k3⟩
      obtain ⟨k, rfl⟩ : ∃ k, n = k + 1 := ⟨n - 1, by omega⟩
      simp [Builtin.clear_, run_underlying ht, hx', zero_run hzu, zeroCells_rep, k1]
  · cases hc

theorem s_unsafeData (i : Inv P ρ h w) (r : TR ρ t a.tmps) {x : Operand} {ats : Array TypeId} (ho : o.op = .call { callee := .builtin .unsafeSliceData, args := #[x], argTypes := ats })
    (hx : okOpd P x = true) (hv : opV call t h (.unsafeData x) = some (v, h')) : StepP P o a ρ h w v h' := by
  simp only [opV, opK] at hv
  obtain ⟨u, hu, hv⟩ := ob_some hv
  simp only [Option.some.injEq, Prod.mk.injEq] at hv
  obtain ⟨rfl, rfl⟩ := hv
  have hrx := ev_rel i r hx
  have hm : (#[x] : Array Operand).map a.eval = #[a.eval x] := by simp
  unfold oUnsafeData at hu
  split at hu
  · rename_i n c he
    rw [he] at hrx
    simp only [Option.some.injEq] at hu
    subst hu
    have hx' : a.eval x = .slice none n c := by generalize a.eval x = q at hrx; cases hrx; rfl
    refine StepP.pure i (value_run ho (fun _ => by rw [hm]; rfl) (s := Builtin.unsafeSliceData_ ats o.type #[a.eval x]) (u := .pointer none) ?_) .pnil
    rw [hx']
    rfl
  · rename_i ad n c he
    rw [he] at hrx
    obtain ⟨h1, h2⟩ := cond_none hu
    simp only [Option.some.injEq] at h2
    subst h2
    have hn : n ≠ 0 := by rintro rfl; cases h1
    have hc : c ≠ 0 := by rintro rfl; rw [Bool.or_eq_false_iff] at h1; cases h1.2
    obtain ⟨p, b', m', hp, hx', hle, hb⟩ := hrx.slice_inv
    have hb := hb.resolve_left hn
    subst hb
    refine StepP.pure i (value_run ho (fun _ => by rw [hm]; rfl) (s := Builtin.unsafeSliceData_ ats o.type #[a.eval x]) (u := .pointer (some ⟨p.b, p.o + ad.off, none⟩)) ?_) (.ptr hp ad.off)
    rw [hx']
    exact Lib.run_unsafeSliceData_row w ats o.type _ _ _ (by omega)
  · cases hu
end
end Go.L1

/- ONE OPERATION, kind by kind: unsafe.String. -/
namespace Go.L1
open Go

section
variable {P : Program} {o : Oper} {a : Act} {ρ : Rho} {h h' : LHeap} {w : World} {t : Tm} {call : CallF} {v : Value}

/-- In a row of 'count' bytes, n of them lie side by side from 'off' on. -/
theorem liesAt_off {e : TypeId} (hc : P.cellsOf e = 1) (count off n : Nat) (hn : off + n ≤ count) : liesAt P P.depth e count off e n = true := by
  have hd : P.depth = (2 * (P.types.size + Made.depth) + 1) + 1 := rfl
  rw [hd]
  simp only [liesAt, Bool.or_eq_true]
  left
  rw [hd]
  simp [rowAt, hc, hn, sameLayout, Nat.mod_one]

theorem loadBytes_ints (w : World) : ∀ (l : List Int) (a : Addr) (acc : ByteArray), (∀ j x, l[j]? = some x → w.cell? (a.add j) = some (.int .u8 x)) →
    (loadBytes a acc l.length).run P w = .ok ⟨acc.data ++ (l.map fun n => UInt8.ofNat n.toNat).toArray⟩ w
  | [], a, acc, _ => by simp [loadBytes]
  | x :: l, a, acc, h => by
    have h0 : w.cell? a = some (.int .u8 x) := by
      have := h 0 x rfl
      simpa [Addr.add] using this
    have ih := loadBytes_ints w l (a.add 1) (acc.push (UInt8.ofNat x.toNat)) (fun j y hy => by
      have := h (j + 1) y (by simpa using hy)
      have e : (a.add 1).add j = a.add (j + 1) := by
        unfold Addr.add
        by_cases hj : j = 0
        · subst hj; simp
        · simp [hj]; omega
      rw [e]; exact this)
    have hx : x.toNat.toUInt8 = UInt8.ofNat x.toNat := rfl
    simp only [List.length_cons, loadBytes, Sem.run_bind, run_load, h0, Result.andThen, hx]
    rw [ih]
    congr 1
    apply ByteArray.ext
    simp [ByteArray.push]

theorem unsafeString_run {pt it ty e : TypeId} (hp : P.underlying pt = some (.pointer e)) (hc : P.cellsOf e = 1) {g off cells : Nat} (hsh : w.shape? g = some (e, cells)) {k : IntKind} {ns : List Int} (h0 : ns ≠ []) (hn : off + ns.length ≤ cells) (h63 : ns.length ≤ 9223372036854775807)
    (hcell : ∀ j x, ns[j]? = some x → w.cell? ((⟨g, off, none⟩ : Addr).add j) = some (.int .u8 x)) :
    (Builtin.unsafeString_ #[pt, it] ty #[.pointer (some ⟨g, off, none⟩), .int k ns.length]).run P w = .ok (.string ⟨⟨ns.map fun n => UInt8.ofNat n.toNat⟩⟩) (w.freeze ⟨g, off, none⟩ ns.length) := by
  have hl : ns.length ≠ 0 := by simpa using h0
  have hlb := loadBytes_ints (P := P) w ns ⟨g, off, none⟩ .empty hcell
  have hlies := liesAt_off (P := P) hc (cells / P.cellsOf e) off ns.length (by rw [hc]; simpa using hn)
  have h63' : ¬ (9223372036854775807 : Int) < (ns.length : Int) := by omega
  have hdef : Builtin.unsafeString_ #[pt, it] ty #[.pointer (some ⟨g, off, none⟩), .int k ns.length] =
      (do
        let n ← asInt (.int k ns.length)
        if n < 0 then runtimePanic (.error "unsafe.String: len out of range")
        if n > IntKind.i64.max then unsupported (.unsafePointer "String: a length above the largest int")
        if n = 0 then pure (.string .empty)
        else if ← variablesAt ⟨g, off, none⟩ (← elemOf pt) n.toNat then do
          let s ← loadBytes ⟨g, off, none⟩ .empty n.toNat
          freeze ⟨g, off, none⟩ n.toNat
          pure (.string s)
        else unsupported (.unsafePointer "String: not so many bytes at ptr")) := rfl
  rw [hdef]
  have hmax : IntKind.i64.max = 9223372036854775807 := rfl
  have hneg : ¬ (ns.length : Int) < 0 := by omega
  simp [asInt, asIntOf, hmax, h63', hneg, hl, variablesAt, hsh, elemOf, run_underlying hp, hlies, hlb]

theorem freeze_at (w : World) (g off n : Nat) (hn : n ≠ 0) {c : Array Value} {e : TypeId} {fz : Nat × Nat} (hg : w.heap[g]? = some (.cells c e fz)) :
    (∃ fz', (w.freeze ⟨g, off, none⟩ n).heap[g]? = some (.cells c e fz')) ∧ (∀ b, b ≠ g → (w.freeze ⟨g, off, none⟩ n).heap[b]? = w.heap[b]?) ∧ (w.freeze ⟨g, off, none⟩ n).heap.size = w.heap.size ∧
      (w.freeze ⟨g, off, none⟩ n).os = w.os ∧ (w.freeze ⟨g, off, none⟩ n).tape = w.tape ∧ (w.freeze ⟨g, off, none⟩ n).output = w.output := by
  unfold World.freeze
  rw [if_neg hn]
  refine ⟨?_, fun b hb => ?_, by simp, rfl, rfl, rfl⟩
  · simp [Array.getElem?_modify, hg]
  · simp only [Array.getElem?_modify]
    rw [if_neg (fun x => hb x.symm)]

theorem s_unsafeStr (i : Inv P ρ h w) (r : TR ρ t a.tmps) {x y : Operand} {pt it e : TypeId} (ho : o.op = .call { callee := .builtin .unsafeString, args := #[x, y], argTypes := #[pt, it] })
    (hx : okOpd P x = true) (hy : okOpd P y = true) (hpt : P.underlying pt = some (.pointer e)) (hc1 : P.cellsOf e = 1) (hv : opV call t h (.unsafeStr e x y) = some (v, h')) : Step1 P o a ρ h w v h' := by
  simp only [opV, opK] at hv
  obtain ⟨⟨v1, h1⟩, hc, hv⟩ := ob_some hv
  simp only [Option.some.injEq, Prod.mk.injEq] at hv
  obtain ⟨rfl, rfl⟩ := hv
  have hrx := ev_rel i r hx
  have hry := ev_rel i r hy
  have hm : (#[x, y] : Array Operand).map a.eval = #[a.eval x, a.eval y] := by simp
  unfold oUnsafeStr at hc
  split at hc
  · rename_i k e1 e2
    rw [e1] at hrx
    rw [e2] at hry
    have hx' : a.eval x = .pointer none := by generalize a.eval x = q at hrx; cases hrx; rfl
    have hy' := hry.int_inv
    simp only [Option.some.injEq, Prod.mk.injEq] at hc
    obtain ⟨rfl, rfl⟩ := hc
    refine Step1.pure i (value_run ho (fun _ => by rw [hm]; rfl) (s := Builtin.unsafeString_ #[pt, it] o.type #[a.eval x, a.eval y]) (u := .string .empty) ?_) (.str _)
    rw [hx', hy']
    have hdef : Builtin.unsafeString_ #[pt, it] o.type #[.pointer none, .int k (.ofNat 0)] =
        (do
          let n ← asInt (.int k (.ofNat 0))
          if n < 0 then runtimePanic (.error "unsafe.String: len out of range")
          if n > IntKind.i64.max then unsupported (.unsafePointer "String: a length above the largest int")
          if n = 0 then pure (.string .empty)
          else runtimePanic (.error "unsafe.String: ptr is nil and len is not zero")) := rfl
    rw [hdef]
    have hmax : IntKind.i64.max = 9223372036854775807 := rfl
    simp [asInt, asIntOf, hmax]
  · rename_i ad k n e1 e2
    rw [e1] at hrx
    rw [e2] at hry
    have hy' := hry.int_inv
    obtain ⟨p, hp, hsp, hx'⟩ := hrx.ptr_inv
    split at hc
    · rename_i cs sz e' hg
      obtain ⟨hk, hc3⟩ := chk_some hc
      clear hc
      simp only [Bool.and_eq_true] at hk
      have hk1 := Nat.eq_of_beq_eq_true hk.1
      have hk2 := Nat.le_of_ble_eq_true hk.2
      subst hk1
      obtain ⟨c', hcs, hc⟩ := ob_some hc3
      obtain ⟨s, hsb, hc⟩ := ob_some hc
      simp only [Option.some.injEq, Prod.mk.injEq] at hc
      obtain ⟨rfl, rfl⟩ := hc
      obtain ⟨ns, rfl, rfl⟩ := toBytes_some hsb
      obtain ⟨q, xo, hq, hxo, ro⟩ := i.obj _ _ hg rfl
      rw [hp] at hq
      obtain rfl := Option.some.inj hq
      cases xo <;> try exact ro.elim
      rename_i cr er fz
      obtain ⟨_, r1, r2, r3, r4, r5⟩ := ro
      subst r3
      have hlen : ns.length = n + 1 ∧ ad.off + ns.length ≤ cs.length := by
        obtain ⟨_, c0, k0, e0, hg0, hcut, _⟩ := rdN_some hcs
        rw [hg] at hg0
        cases hg0
        obtain ⟨g1, g2⟩ := cut_some hcut
        have g1' : ns.length = n + 1 := by simpa using g1
        have := (g2 n (by omega)).1
        exact ⟨g1', by omega⟩
      have hsh : w.shape? p.b = some (er, cr.size) := by simp [World.shape?, hxo]
      obtain ⟨r', k1, k2, k3⟩ := rdN_real i hcs hp
      have hr' := LR.ints k1
      subst hr'
      have hcell : ∀ j x, ns[j]? = some x → w.cell? ((⟨p.b, p.o + ad.off, none⟩ : Addr).add j) = some (.int .u8 x) := by
        intro j x hj
        rw [addr_add]
        exact k3 j _ (by rw [List.getElem?_map, hj]; rfl)
      have hrun := unsafeString_run (P := P) (it := it) (ty := o.type) hpt hc1 hsh (k := k) (ns := ns) (by intro h0; rw [h0] at hlen; simp at hlen) (by omega) (by omega) hcell
      obtain ⟨⟨fz', f1⟩, f2, f3, f4, f5, f6⟩ := freeze_at w p.b (p.o + ad.off) ns.length (by omega) hxo
      obtain ⟨i2, f⟩ := i.set hg rfl hp 0 f1 f2 f3 f4 f5 f6 (o' := .dead) trivial (fun _ _ _ => trivial)
      refine ⟨ρ, _, _, .inl (value_run ho (fun _ => by rw [hm]; rfl) (s := Builtin.unsafeString_ #[pt, it] o.type #[a.eval x, a.eval y]) ?_), .str _, i2, f⟩
      rw [hx', hy']
      rw [hlen.1] at hrun
      rw [hlen.1]
      exact hrun
    · cases hc
  · cases hc
end
end Go.L1

/- ONE OPERATION, kind by kind: maps: a key is checked, a key is found. -/
namespace Go.L1
open Go

section
variable {P : Program} {o : Oper} {a : Act} {ρ : Rho} {h h' : LHeap} {w : World} {t : Tm} {call : CallF} {v : Value}

theorem keyKind_prim {kt : TypeId} {k : PK} (hk : keyKind P kt = some (.prim k)) : ∃ d, P.underlying kt = some d ∧ pkOf d = some k := by
  unfold keyKind at hk
  cases hu : P.underlying kt with
  | none => rw [hu] at hk; cases hk
  | some d =>
    rw [hu] at hk
    cases d <;> simp only [reduceCtorEq, Option.some.injEq, KeyK.prim.injEq] at hk
    case struct =>
      split at hk
      · split at hk <;> cases hk
      · cases hk
    case array =>
      split at hk
      · split at hk <;> cases hk
      · cases hk
    all_goals exact ⟨_, rfl, by rw [← hk]; rfl⟩

theorem keyKind_agg {kt : TypeId} {n : Nat} {os : List (Nat × PK)} (hk : keyKind P kt = some (.agg n os)) :
    isAggT P kt = true ∧ flat P 100 kt = some os ∧ (∀ o ∈ os, o.1 < n) ∧ ∀ j, j < n → ∃ o ∈ os, o.1 = j := by
  have fin : (match flat P 100 kt with
      | some os => if os.all (fun o => decide (o.1 < P.cellsOf kt)) && (List.range (P.cellsOf kt)).all (fun j => os.any fun o => Nat.beq o.1 j) then some (KeyK.agg (P.cellsOf kt) os) else none
      | none => none) = some (KeyK.agg n os) → flat P 100 kt = some os ∧ (∀ o ∈ os, o.1 < n) ∧ ∀ j, j < n → ∃ o ∈ os, o.1 = j := by
    intro hk
    split at hk
    · rename_i os' hf
      split at hk
      · rename_i hc
        simp only [Option.some.injEq, KeyK.agg.injEq] at hk
        obtain ⟨rfl, rfl⟩ := hk
        simp only [Bool.and_eq_true, List.all_eq_true, decide_eq_true_eq, List.mem_range, List.any_eq_true] at hc
        exact ⟨hf, hc.1, fun j hj => by
          obtain ⟨o, h1, h2⟩ := hc.2 j hj
          exact ⟨o, h1, Nat.eq_of_beq_eq_true h2⟩⟩
      · cases hk
    · cases hk
  unfold keyKind at hk
  unfold isAggT
  cases hu : P.underlying kt with
  | none => rw [hu] at hk; cases hk
  | some d =>
    rw [hu] at hk
    cases d <;> simp only [reduceCtorEq, Option.some.injEq] at hk
    all_goals exact ⟨rfl, fin hk⟩

theorem sameNow_prim {k k' x x' : Value} (hk : VR ρ k k') (hx : VR ρ x x') {q : PK} {d : TypeDesc} (hd : pkOf d = some q) {b : Bool} (hb : primEq q k x = some b) : Instr.sameNow d k' x' = some b := by
  unfold primEq at hb
  split at hb
  · rename_i c e
    obtain rfl := hk.bool_inv
    obtain rfl := hx.bool_inv
    simp only [Option.some.injEq] at hb
    subst hb
    cases d <;> simp only [pkOf, Option.some.injEq, reduceCtorEq] at hd
    rfl
  · rename_i j c q e
    obtain rfl := hk.int_inv
    obtain rfl := hx.int_inv
    obtain ⟨h1, h2⟩ := cond_some hb
    obtain rfl := sameK_eq h1
    simp only [Option.some.injEq] at h2
    subst h2
    cases d <;> simp only [pkOf, Option.some.injEq, reduceCtorEq] at hd
    simp [Instr.sameNow, ieq_eq]
  · rename_i c e
    obtain rfl := hk.str_inv
    obtain rfl := hx.str_inv
    simp only [Option.some.injEq] at hb
    subst hb
    cases d <;> simp only [pkOf, Option.some.injEq, reduceCtorEq] at hd
    simp only [Instr.sameNow]
    rw [bytesEq_beq, ← beq_toListBytes]
  · cases hb

def ESR (ρ : Rho) (es : List MapEntry) (es' : List MapEntry) : Prop := es.length = es'.length ∧ ∀ (i : Nat) (e e' : MapEntry), es[i]? = some e → es'[i]? = some e' → ER ρ e e'

theorem ESR.cons {es : List MapEntry} {e : MapEntry} {es' : List MapEntry} (hr : ESR ρ (e :: es) es') : ∃ e' r', es' = e' :: r' ∧ ER ρ e e' ∧ ESR ρ es r' := by
  cases es' with
  | nil => have := hr.1; simp at this
  | cons e' r' => exact ⟨e', r', rfl, hr.2 0 e e' rfl rfl, by simpa using hr.1, fun i x y hx hy => hr.2 (i + 1) x y (by simpa using hx) (by simpa using hy)⟩

/-- What was found, in both. -/
def FR (ρ : Rho) : Option (Nat × Value) → Option (Nat × Value) → Prop
  | none, none => True
  | some (i, v), some (j, v') => i = j ∧ VR ρ v v'
  | _, _ => False

theorem findNow_prim {k k' : Value} (hk : VR ρ k k') {q : PK} {d : TypeDesc} (hd : pkOf d = some q) : ∀ (es es' : List MapEntry) (i : Nat) {y : Option (Nat × Value)}, ESR ρ es es' → findK (.prim q) k es i = some y →
    ∃ y', Instr.findNow d k' es' i = some y' ∧ FR ρ y y'
  | [], es', i, y, hr, hf => by
    have : es' = [] := List.eq_nil_of_length_eq_zero hr.1.symm
    subst this
    simp only [findK, Option.some.injEq] at hf
    subst hf
    exact ⟨none, rfl, trivial⟩
  | e :: es, es', i, y, hr, hf => by
    obtain ⟨e', r', rfl, he, hr'⟩ := hr.cons
    simp only [findK, keyEq] at hf
    split at hf
    · rename_i hq
      simp only [Option.some.injEq] at hf
      subst hf
      exact ⟨some (i, e'.val), by simp [Instr.findNow, sameNow_prim hk he.key hd hq], rfl, he.val⟩
    · rename_i hq
      obtain ⟨y', h1, h2⟩ := findNow_prim hk hd es r' (i + 1) hr' hf
      exact ⟨y', by simp [Instr.findNow, sameNow_prim hk he.key hd hq, h1], h2⟩
    · cases hf

theorem findAsking_agg {c c' : List Value} (hk : LR ρ c c') {kt : TypeId} {n : Nat} {os : List (Nat × PK)} (hf : flat P 100 kt = some os) (hag : isAggT P kt = true) : ∀ (es es' : List MapEntry) (i : Nat) {y : Option (Nat × Value)},
    ESR ρ es es' → findK (.agg n os) (.agg ⟨c⟩) es i = some y → ∃ y', (Instr.findAsking kt (.agg c'.toArray) es' i).run P w = .ok y' w ∧ FR ρ y y'
  | [], es', i, y, hr, hf' => by
    have : es' = [] := List.eq_nil_of_length_eq_zero hr.1.symm
    subst this
    simp only [findK, Option.some.injEq] at hf'
    subst hf'
    exact ⟨none, rfl, trivial⟩
  | e :: es, es', i, y, hr, hf' => by
    obtain ⟨e', r', rfl, he, hr'⟩ := hr.cons
    have key : ∀ b, keyEq (.agg n os) (.agg ⟨c⟩) e.key = some b → (Op.equal kt (.agg c'.toArray) e'.key).run P w = .ok b w := by
      intro b hb
      unfold keyEq at hb
      split at hb
      · rename_i h0; cases h0
      · rename_i n' os' x y' h0 h1 h2
        cases h0
        cases h1
        have hek := he.key
        rw [h2] at hek
        obtain ⟨z', hz, hl⟩ := hek.agg_inv
        rw [hz]
        exact flat_run 100 kt os hf hag 10000 (by decide) c c' _ _ b hk hl hb
      · cases hb
    simp only [findK] at hf'
    split at hf'
    · rename_i hq
      simp only [Option.some.injEq] at hf'
      subst hf'
      exact ⟨some (i, e'.val), by simp [Instr.findAsking, key _ hq], rfl, he.val⟩
    · rename_i hq
      obtain ⟨y', h1, h2⟩ := findAsking_agg hk hf hag es r' (i + 1) hr' hf'
      exact ⟨y', by simp [Instr.findAsking, key _ hq, h1], h2⟩
    · cases hf'
end
end Go.L1

/- ONE OPERATION, kind by kind: maps: the key's check; finding. -/
namespace Go.L1
open Go

section
variable {P : Program} {o : Oper} {a : Act} {ρ : Rho} {h h' : LHeap} {w : World} {t : Tm} {call : CallF} {v : Value}

theorem checkKey_plain {ty : TypeId} {d : TypeDesc} (ht : P.underlying ty = some d) {k : PK} (hd : pkOf d = some k) (b : Bool) (n : Nat) (x : Value) : (Instr.checkKey b (n + 1) ty x).run P w = .ok () w := by
  cases d <;> simp only [pkOf, Option.some.injEq, reduceCtorEq] at hd
  all_goals simp [Instr.checkKey, run_underlying ht]

/-- A type's cells are all there: the part is checked. -/
theorem check_part (n : Nat) (b : Bool)
    (ih : ∀ (ty : TypeId) (os : List (Nat × PK)), flat P n ty = some os → isAggT P ty = true → ∀ (d : Nat), n ≤ d → ∀ (c : List Value), (∀ o ∈ os, o.1 < c.length) → (Instr.checkKey b d ty (.agg c.toArray)).run P w = .ok () w)
    {ty : TypeId} {os : List (Nat × PK)} (hf : flat P n ty = some os) (hn : os.all (fun o => decide (o.1 < P.cellsOf ty)) = true) {dd : TypeDesc} (ht : P.underlying ty = some dd) {d : Nat} (hd : n ≤ d)
    {c : List Value} {off : Nat} (hb : ∀ o ∈ os, off + o.1 < c.length) :
    ∃ x, (part ty c.toArray off).run P w = .ok x w ∧ (Instr.checkKey b d ty x).run P w = .ok () w := by
  rw [List.all_eq_true] at hn
  simp only [decide_eq_true_eq] at hn
  by_cases hag : isAggT P ty = true
  · refine ⟨.agg (c.toArray.extract off (off + P.cellsOf ty)), ?_, ?_⟩
    · unfold Go.part
      simp only [Sem.run_bind, isAgg_run ht, hag, Result.andThen_ok, if_true, sizeOf_run ht, Sem.run_pure]
    · have e1 : (c.toArray.extract off (off + P.cellsOf ty)) = ((c.drop off).take (P.cellsOf ty)).toArray := by simp
      rw [e1]
      refine ih ty os hf hag d hd _ (fun o ho => ?_)
      have h1 := hn o ho
      have h2 := hb o ho
      rw [List.length_take, List.length_drop]
      omega
  · have hag' : isAggT P ty = false := by simpa using hag
    cases n with
    | zero => cases hf
    | succ n =>
      obtain ⟨d, rfl⟩ : ∃ q, d = q + 1 := ⟨d - 1, by omega⟩
      have key : ∀ k, os = [(0, k)] → pkOf dd = some k → ∃ x, (part ty c.toArray off).run P w = .ok x w ∧ (Instr.checkKey b (d + 1) ty x).run P w = .ok () w := fun k hos hk => by
        subst hos
        have hlt := hb (0, k) List.mem_cons_self
        refine ⟨fr0 c off, ?_, checkKey_plain ht hk b d _⟩
        have g1 := fr0_get c off (by simpa using hlt)
        unfold Go.part
        have g1' : c.toArray[off]? = some (fr0 c off) := by simpa using g1
        simp only [Sem.run_bind, isAgg_run ht, hag', Result.andThen_ok, Bool.false_eq_true, if_false, g1', Sem.run_pure]
      unfold flat at hf
      rw [ht] at hf
      have hag2 := hag'
      unfold isAggT at hag2
      rw [ht] at hag2
      cases dd <;> simp only [Option.some.injEq, reduceCtorEq] at hf hag2
      · exact key _ hf.symm rfl
      · exact key _ hf.symm rfl
      · exact key _ hf.symm rfl

theorem check_run (b : Bool) : ∀ (n : Nat) (ty : TypeId) (os : List (Nat × PK)), flat P n ty = some os → isAggT P ty = true → ∀ (d : Nat), n ≤ d → ∀ (c : List Value), (∀ o ∈ os, o.1 < c.length) →
    (Instr.checkKey b d ty (.agg c.toArray)).run P w = .ok () w
  | 0, _, _, hf, _ => by cases hf
  | n + 1, ty, os, hf, hag => by
    intro d hd c hb
    obtain ⟨d, rfl⟩ : ∃ q, d = q + 1 := ⟨d - 1, by omega⟩
    have ih := check_run b n
    unfold flat at hf
    unfold isAggT at hag
    cases hu : P.underlying ty with
    | none => rw [hu] at hag; cases hag
    | some dd =>
      rw [hu] at hf hag
      cases dd <;> simp only [reduceCtorEq, Bool.false_eq_true] at hag hf
      case struct fs =>
        split at hf
        · cases hf
        · simp only [Instr.checkKey, Sem.run_bind, run_underlying hu, Result.andThen_ok]
          rw [← Array.forIn_toList]
          generalize fs.toList = l at hf
          clear hu
          induction l generalizing os with
          | nil => rfl
          | cons f l ihl =>
            simp only [flatS] at hf
            split at hf
            · rename_i lo r hl hr
              split at hf
              · rename_i hcnd
                simp only [Bool.and_eq_true, bne_iff_ne, ne_eq] at hcnd
                simp only [Option.some.injEq] at hf
                subst hf
                obtain ⟨dd, hdd⟩ := Option.isSome_iff_exists.1 hcnd.2
                obtain ⟨x, p1, p2⟩ := check_part n b ih hl hcnd.1.2 hdd (d := d) (by omega) (c := c) (off := f.offset) (fun o ho => hb (f.offset + o.1, o.2) (List.mem_append_left _ (List.mem_map.2 ⟨o, ho, rfl⟩)))
                have := ihl r (fun o ho => hb o (List.mem_append_right _ ho)) hr
                simp only [List.forIn_cons, Sem.run_bind, ne_eq, hcnd.1.1, not_false_eq_true, if_true, p1, p2, Result.andThen_ok, Sem.run_pure]
                exact this
              · cases hf
            · cases hf
      case array len el =>
        split at hf
        · rename_i l hl
          split at hf
          · rename_i hcnd
            simp only [Bool.and_eq_true] at hcnd
            simp only [Option.some.injEq] at hf
            subst hf
            obtain ⟨dd, hdd⟩ := Option.isSome_iff_exists.1 hcnd.2
            obtain ⟨j, hj, _⟩ := info_of_underlying hdd
            simp only [Instr.checkKey, Sem.run_bind, run_underlying hu, Result.andThen_ok]
            simp only [Std.Legacy.Range.forIn_eq_forIn_range', Std.Legacy.Range.size, Nat.sub_zero, Nat.add_one_sub_one, Nat.div_one]
            rw [List.range_eq_range'] at hb
            generalize List.range' 0 len = is at hb
            induction is with
            | nil => rfl
            | cons i is ihi =>
              rw [List.flatMap_cons] at hb
              obtain ⟨x, p1, p2⟩ := check_part n b ih hl hcnd.1 hdd (d := d) (by omega) (c := c) (off := i * P.cellsOf el) (fun o ho => hb (i * P.cellsOf el + o.1, o.2) (List.mem_append_left _ (List.mem_map.2 ⟨o, ho, rfl⟩)))
              have := ihi (fun o ho => hb o (List.mem_append_right _ ho))
              simp only [List.forIn_cons, Sem.run_bind, sizeOf_info hj, p1, p2, Result.andThen_ok, Sem.run_pure]
              exact this
          · cases hf
        · cases hf

theorem key_checked {kt : TypeId} {ks : KeyK} (hk : keyKind P kt = some ks) {k k' : Value} (hr : VR ρ k k') (hok : keyOk ks k = true) (b : Bool) : (Instr.checkKey b 10000 kt k').run P w = .ok () w := by
  cases ks with
  | prim q =>
    obtain ⟨d, h1, h2⟩ := keyKind_prim hk
    exact checkKey_plain h1 h2 b 9999 _
  | agg n os =>
    obtain ⟨h1, h2, h3, _⟩ := keyKind_agg hk
    cases k <;> simp only [keyOk, Bool.false_eq_true] at hok
    obtain ⟨c', rfl, hl⟩ := hr.agg_inv
    have hok := Nat.eq_of_beq_eq_true hok
    exact check_run b 100 kt os h2 h1 10000 (by decide) c'.toList (fun o ho => by
      rw [← hl.1, hok]
      exact h3 o ho)

theorem key_found {kt : TypeId} {ks : KeyK} (hk : keyKind P kt = some ks) {k k' : Value} (hr : VR ρ k k') {es es' : List MapEntry} (he : ESR ρ es es') {y : Option (Nat × Value)} (hf : findK ks k es 0 = some y) (hok : keyOk ks k = true) :
    ∃ y', (Instr.findKey kt k' es').run P w = .ok y' w ∧ FR ρ y y' := by
  unfold Instr.findKey
  cases ks with
  | prim q =>
    obtain ⟨d, h1, h2⟩ := keyKind_prim hk
    obtain ⟨y', g1, g2⟩ := findNow_prim hr h2 es es' 0 he hf
    exact ⟨y', by simp only [Sem.run_bind, run_underlying h1, Result.andThen_ok, g1, Sem.run_pure], g2⟩
  | agg n os =>
    obtain ⟨h1, h2, h3, _⟩ := keyKind_agg hk
    cases k <;> simp only [keyOk, Bool.false_eq_true] at hok
    obtain ⟨c', rfl, hl⟩ := hr.agg_inv
    rename_i c
    cases hu : P.underlying kt with
    | none => unfold isAggT at h1; rw [hu] at h1; cases h1
    | some d =>
      cases es' with
      | nil =>
        have : es = [] := List.eq_nil_of_length_eq_zero he.1
        subst this
        simp only [findK, Option.some.injEq] at hf
        subst hf
        exact ⟨none, by simp only [Sem.run_bind, run_underlying hu, Result.andThen_ok, Instr.findNow, Sem.run_pure], trivial⟩
      | cons e' r' =>
        have hs : Instr.sameNow d (.agg c') e'.key = none := by cases d <;> rfl
        obtain ⟨y', g1, g2⟩ := findAsking_agg (P := P) (w := w) hl h2 h1 es (e' :: r') 0 he hf
        exact ⟨y', by simp only [Sem.run_bind, run_underlying hu, Result.andThen_ok, Instr.findNow, hs]; exact g1, g2⟩
end
end Go.L1

/- ONE OPERATION, kind by kind: maps read. -/
namespace Go.L1
open Go

section
variable {P : Program} {o : Oper} {a : Act} {ρ : Rho} {h h' : LHeap} {w : World} {t : Tm} {call : CallF} {v : Value}

theorem mapOf_rel (i : Inv P ρ h w) {m m' : Value} (hr : VR ρ m m') {r : Nat} {es : List MapEntry} {ck : Nat} (hm : mapOf m h = some (r, es, ck)) :
    m = .map (some r) ∧ hget h r = some (.map es ck) ∧ ∃ p es', ρ r = some p ∧ m' = .map (some p.b) ∧ w.heap[p.b]? = some (.map es' ck) ∧ ESR ρ es es'.toList := by
  unfold mapOf at hm
  split at hm
  · split at hm
    · rename_i r0 es0 ck0 hg
      simp only [Option.some.injEq, Prod.mk.injEq] at hm
      obtain ⟨rfl, rfl, rfl⟩ := hm
      obtain ⟨p, x, hp, hx, ro⟩ := i.obj _ _ hg rfl
      have hm' : m' = .map (some p.b) := by
        cases hr with
        | mp hp2 =>
          rw [hp] at hp2
          obtain rfl := Option.some.inj hp2
          rfl
      cases x <;> try exact ro.elim
      obtain ⟨rfl, r1, r2⟩ := ro
      exact ⟨rfl, hg, p, _, hp, hm', hx, r1, r2⟩
    · cases hm
  · cases hm

theorem getObj_run {r : Nat} {es : Array MapEntry} {ck : Nat} (hx : w.heap[r]? = some (.map es ck)) : (getObj r).run P w = .ok (.map es ck) w := by simp [getObj, Sem.run, hx]

theorem zeroV_run {e : TypeId} {z : Value} (hz : zeroOf P e = some z) (w : World) : (zeroValue e).run P w = .ok z w := by
  obtain ⟨j, h1, h2⟩ := zeroOf_info hz
  simp [zeroValue, typeInfo, h1, h2]

theorem pair_rel {u u' : Value} {b : Bool} (hu : VR ρ u u') : VR ρ (.tuple #[u, .bool b]) (.tuple #[u', .bool b]) :=
  VR.tuple' (a := [u, .bool b]) (a' := [u', .bool b]) (.cons hu (.cons (.bool b) .nil))

theorem s_lookup (i : Inv P ρ h w) (r : TR ρ t a.tmps) {ty kt e : TypeId} {ks : KeyK} {z : Value} {ok : Bool} {m k : Operand} (ho : o.op = .lookup ty m k ok) (hm : okOpd P m = true) (hk : okOpd P k = true)
    (ht : P.underlying ty = some (.map kt e)) (hks : keyKind P kt = some ks) (hz : zeroOf P e = some z) (hzb : bareV 50 z = true) (hv : opV call t h (.lookup ks z ok m k) = some (v, h')) : StepP P o a ρ h w v h' := by
  simp only [opV, opK] at hv
  obtain ⟨u, hu, hv⟩ := ob_some hv
  simp only [Option.some.injEq, Prod.mk.injEq] at hv
  obtain ⟨rfl, rfl⟩ := hv
  have hrm := ev_rel i r hm
  have hrk := ev_rel i r hk
  have hzr : VR ρ z z := VR.self 50 z hzb
  unfold oLookup at hu
  obtain ⟨hok, hu⟩ := chk_some hu
  have hck := fun b => key_checked (P := P) (w := w) hks hrk hok b
  have fin : ∀ (u' : Value), (Instr.lookup ty (a.eval m) (a.eval k) ok).run P w = .ok u' w → VR ρ u u' → StepP P o a ρ h w u h := by
    intro u' h1 h2
    refine StepP.pure i (v' := u') ?_ h2
    unfold execOp; rw [ho]
    simp only [Sem.run_bind, h1, Result.andThen_ok, Sem.run_pure]
  have hnone : (Instr.findKey kt (a.eval k) []).run P w = .ok none w := by
    obtain ⟨y', g1, g2⟩ := key_found (P := P) (w := w) hks hrk (es := []) (es' := []) ⟨rfl, fun i e e' h1 => by simp at h1⟩ (y := none) rfl hok
    cases y' with
    | none => exact g1
    | some _ => exact g2.elim
  split at hu
  · rename_i he
    rw [he] at hrm
    simp only [Option.some.injEq] at hu
    subst hu
    have hm' : a.eval m = .map none := by generalize a.eval m = q at hrm; cases hrm; rfl
    cases ok
    · refine fin z ?_ hzr
      simp [Instr.lookup, run_underlying ht, hm', hck, hnone, zeroV_run hz]
    · refine fin (.tuple #[z, .bool false]) ?_ (pair_rel hzr)
      simp [Instr.lookup, run_underlying ht, hm', hck, hnone, zeroV_run hz]
  · obtain ⟨⟨r0, es, ck⟩, hmo, hu⟩ := ob_some hu
    obtain ⟨y, hf, hu⟩ := ob_some hu
    obtain ⟨_, hg, p, es', hp, hm', hx, her⟩ := mapOf_rel i hrm hmo
    obtain ⟨y', g1, g2⟩ := key_found (P := P) (w := w) hks hrk her hf hok
    split at hu
    · rename_i j v0
      cases y' with
      | none => exact g2.elim
      | some q =>
        obtain ⟨j', v'⟩ := q
        obtain ⟨_, hvr⟩ := g2
        simp only [Option.some.injEq] at hu
        subst hu
        cases ok
        · refine fin v' ?_ hvr
          simp [Instr.lookup, run_underlying ht, hm', getObj_run hx, hck, g1]
        · refine fin (.tuple #[v', .bool true]) ?_ (pair_rel hvr)
          simp [Instr.lookup, run_underlying ht, hm', getObj_run hx, hck, g1]
    · cases y' with
      | some _ => exact g2.elim
      | none =>
        simp only [Option.some.injEq] at hu
        subst hu
        cases ok
        · refine fin z ?_ hzr
          simp [Instr.lookup, run_underlying ht, hm', getObj_run hx, hck, g1, zeroV_run hz]
        · refine fin (.tuple #[z, .bool false]) ?_ (pair_rel hzr)
          simp [Instr.lookup, run_underlying ht, hm', getObj_run hx, hck, g1, zeroV_run hz]
end
end Go.L1

/- ONE OPERATION, kind by kind: a map's length. -/
namespace Go.L1
open Go

section
variable {P : Program} {o : Oper} {a : Act} {ρ : Rho} {h h' : LHeap} {w : World} {t : Tm} {call : CallF} {v : Value}

theorem s_lenMap (i : Inv P ρ h w) (r : TR ρ t a.tmps) {ty kt e : TypeId} {x : Operand} (ho : o.op = .call { callee := .builtin .len, args := #[x], argTypes := #[ty] }) (hx : okOpd P x = true)
    (ht : P.underlying ty = some (.map kt e)) (hv : opV call t h (.lenMap x) = some (v, h')) : StepP P o a ρ h w v h' := by
  simp only [opV, opK] at hv
  obtain ⟨u, hu, hv⟩ := ob_some hv
  simp only [Option.some.injEq, Prod.mk.injEq] at hv
  obtain ⟨rfl, rfl⟩ := hv
  have hr := ev_rel i r hx
  have hm : (#[x] : Array Operand).map a.eval = #[a.eval x] := by simp
  unfold oLenMap at hu
  split at hu
  · rename_i he
    rw [he] at hr
    simp only [Option.some.injEq] at hu
    subst hu
    have hx' : a.eval x = .map none := by generalize a.eval x = q at hr; cases hr; rfl
    refine StepP.pure i (value_run ho (fun _ => by rw [hm]; rfl) (s := Builtin.len_ #[ty] o.type #[a.eval x]) (u := goInt 0) ?_) (.int _ _)
    simp [Builtin.len_, run_underlying ht, hx']
  · simp only [Option.map_eq_some_iff] at hu
    obtain ⟨⟨r0, es, ck⟩, hmo, rfl⟩ := hu
    obtain ⟨_, hg, p, es', hp, hm', hxo, her⟩ := mapOf_rel i hr hmo
    refine StepP.pure i (value_run ho (fun _ => by rw [hm]; rfl) (s := Builtin.len_ #[ty] o.type #[a.eval x]) (u := goInt es.length) ?_) (.int _ _)
    have hl : es'.size = es.length := by rw [her.1]; simp
    simp [Builtin.len_, run_underlying ht, hm', getObj_run hxo, hl]
end
end Go.L1

/- ONE OPERATION, kind by kind: maps written. -/
namespace Go.L1
open Go

section
variable {P : Program} {o : Oper} {a : Act} {ρ : Rho} {h h' : LHeap} {w : World} {t : Tm} {call : CallF} {v : Value}

theorem findK_at {ks : KeyK} {k : Value} : ∀ {es : List MapEntry} {n i : Nat} {u : Value}, findK ks k es n = some (some (i, u)) →
    ∃ e, n ≤ i ∧ es[i - n]? = some e ∧ e.val = u ∧ keyEq ks k e.key = some true
  | [], n, i, u, hf => by simp [findK] at hf
  | e :: es, n, i, u, hf => by
    unfold findK at hf
    split at hf
    · rename_i hk
      simp only [Option.some.injEq, Prod.mk.injEq] at hf
      obtain ⟨rfl, rfl⟩ := hf
      exact ⟨e, Nat.le_refl _, by simp, rfl, hk⟩
    · obtain ⟨e', h1, h2, h3, h4⟩ := findK_at hf
      exact ⟨e', by omega, by rw [show i - n = (i - (n + 1)) + 1 from by omega]; exact h2, h3, h4⟩
    · cases hf

theorem bytesEq_ba {x y : ByteArray} (hb : bytesEq x.data.toList y.data.toList = true) : x = y := by
  rw [bytesEq_eq] at hb
  have h1 : x.data.toList = y.data.toList := by simpa using hb
  have h2 : x.data = y.data := Array.toList_inj.1 h1
  cases x; cases y; simp_all

theorem primEq_same {q : PK} {x y : Value} (hb : primEq q x y = some true) : x = y := by
  unfold primEq at hb
  split at hb
  · simp only [Option.some.injEq, beq_iff_eq] at hb; rw [hb]
  · obtain ⟨h1, h2⟩ := cond_some hb
    simp only [Option.some.injEq] at h2
    rw [ieq_eq] at h2
    have h2 := eq_of_beq h2
    have h1 := sameK_eq h1
    subst h1; subst h2; rfl
  · simp only [Option.some.injEq] at hb
    rw [bytesEq_ba hb]
  · cases hb

theorem cellsEq_same {c e : List Value} : ∀ {os : List (Nat × PK)}, cellsEq c e os = some true → ∀ q ∈ os, fr0 c q.1 = fr0 e q.1
  | [], _, q, hq => by cases hq
  | q :: os, hb, q', hq' => by
    unfold cellsEq at hb
    split at hb
    · rename_i x y hx hy
      split at hb
      · rename_i hp
        rcases List.mem_cons.1 hq' with rfl | hm
        · rw [(head_drop hx).2, (head_drop hy).2]; exact primEq_same hp
        · exact cellsEq_same hb q' hm
      · cases hb
      · cases hb
    · cases hb

theorem fr0_ext {c e : List Value} (hl : c.length = e.length) (hf : ∀ i, i < c.length → fr0 c i = fr0 e i) : c = e := by
  refine List.ext_getElem? fun i => ?_
  rcases Nat.lt_or_ge i c.length with g | g
  · rw [fr0_get _ _ g, fr0_get _ _ (by omega), hf i g]
  · rw [List.getElem?_eq_none g, List.getElem?_eq_none (by omega)]

/-- A key that is the same as another one's is that one. -/
theorem key_same {kt : TypeId} {ks : KeyK} (hk : keyKind P kt = some ks) {x y : Value} (hx : keyOk ks x = true) (hy : keyOk ks y = true) (he : keyEq ks x y = some true) : x = y := by
  cases ks with
  | prim q => exact primEq_same (by simpa [keyEq] using he)
  | agg n os =>
    obtain ⟨_, _, h3, h4⟩ := keyKind_agg hk
    cases x <;> simp only [keyOk, Bool.false_eq_true] at hx
    cases y <;> simp only [keyOk, Bool.false_eq_true] at hy
    rename_i c e
    have hx := Nat.eq_of_beq_eq_true hx
    have hy := Nat.eq_of_beq_eq_true hy
    have he : cellsEq c.toList e.toList os = some true := he
    have : c.toList = e.toList := fr0_ext (by rw [hx, hy]) fun i hi => by
      obtain ⟨q, hq, rfl⟩ := h4 i (by omega)
      exact cellsEq_same he q hq
    rw [Array.toList_inj.1 this]

/-- Whichever of two equal keys stays. -/
theorem stays_run {kt : TypeId} {ks : KeyK} (hk : keyKind P kt = some ks) {x x' y y' : Value} (hx : keyOk ks x = true) (hy : keyOk ks y = true) (he : keyEq ks x y = some true)
    (rx : VR ρ x x') (ry : VR ρ y y') (w : World) : ∃ u' w', (Instr.keyThatStays y' x').run P w = .ok u' w' ∧ VR ρ x u' ∧ (w' = w ∨ w' = { w with drawn := w.drawn + 1 }) := by
  have hxy := key_same hk hx hy he
  subst hxy
  unfold Instr.keyThatStays
  split
  · exact ⟨x', w, rfl, rx, .inl rfl⟩
  · by_cases hc : Question.cut (.extern "map.whichKeyStays" 2) (w.tape w.drawn (.extern "map.whichKeyStays" 2)) = 0
    · refine ⟨x', { w with drawn := w.drawn + 1 }, ?_, rx, .inr rfl⟩
      simp [choose, Sem.run, Question.forced, hc]
    · refine ⟨y', { w with drawn := w.drawn + 1 }, ?_, ry, .inr rfl⟩
      simp [choose, Sem.run, Question.forced, hc]

theorem Step1.upto {w1 : World} (hw : w1 = w ∨ w1 = { w with drawn := w.drawn + 1 }) {ρ' : Rho} {w' : World} (f : Fr ρ h w1 ρ' h' w') : Fr ρ h w ρ' h' w' := by
  rcases hw with rfl | rfl
  · exact f
  · exact f.drawn

theorem esSet_get : ∀ (es : List MapEntry) (n : Nat) (f : MapEntry → MapEntry) (i : Nat), (esSet es n f)[i]? = if i = n then (es[i]?).map f else es[i]?
  | [], n, f, i => by simp [esSet]
  | e :: l, 0, f, i => by cases i <;> simp [esSet]
  | e :: l, n + 1, f, i => by
    cases i with
    | zero => simp [esSet]
    | succ i => simp only [esSet, List.getElem?_cons_succ, esSet_get l n f i, Nat.add_right_cancel_iff]

theorem esSet_length : ∀ (es : List MapEntry) (n : Nat) (f : MapEntry → MapEntry), (esSet es n f).length = es.length
  | [], _, _ => rfl
  | _ :: _, 0, _ => rfl
  | _ :: l, n + 1, f => by simp [esSet, esSet_length l n f]

theorem ESR.set {es : List MapEntry} {es' : Array MapEntry} (he : ESR ρ es es'.toList) (n : Nat) {f g : MapEntry → MapEntry} (hf : ∀ e e', es[n]? = some e → es'[n]? = some e' → ER ρ e e' → ER ρ (f e) (g e')) :
    ESR ρ (esSet es n f) (es'.modify n g).toList := by
  refine ⟨by rw [esSet_length, he.1]; simp, fun i e e' h1 h2 => ?_⟩
  rw [esSet_get] at h1
  simp only [Array.getElem?_toList, Array.getElem?_modify] at h2
  by_cases e : i = n
  · subst e
    rw [if_pos rfl] at h1 h2
    simp only [Option.map_eq_some_iff] at h1 h2
    obtain ⟨x, hx, rfl⟩ := h1
    obtain ⟨y, hy, rfl⟩ := h2
    exact hf x y hx hy (he.2 i x y hx (by simpa using hy))
  · rw [if_neg e] at h1
    rw [if_neg (fun x => e x.symm)] at h2
    exact he.2 i _ _ h1 (by simpa using h2)

theorem ESR.push {es : List MapEntry} {es' : Array MapEntry} (he : ESR ρ es es'.toList) {x y : MapEntry} (hr : ER ρ x y) : ESR ρ (es ++ [x]) (es'.push y).toList := by
  have hl := he.1
  refine ⟨by simp [hl], fun i e e' h1 h2 => ?_⟩
  rw [Array.toList_push] at h2
  rcases Nat.lt_or_ge i es.length with g | g
  · rw [List.getElem?_append_left g] at h1
    rw [List.getElem?_append_left (by omega)] at h2
    exact he.2 i _ _ h1 h2
  · rw [List.getElem?_append_right g] at h1
    rw [List.getElem?_append_right (by omega), ← hl] at h2
    obtain ⟨k, hk⟩ : ∃ k, i - es.length = k := ⟨_, rfl⟩
    rw [hk] at h1 h2
    cases k with
    | zero =>
      simp only [List.getElem?_cons_zero, Option.some.injEq] at h1 h2
      subst h1; subst h2
      exact hr
    | succ k => simp at h1

theorem set_ob {es : List MapEntry} {ck n : Nat} {f : MapEntry → MapEntry} {B : Nat} (ho : OB B (.map es ck)) (hf : ∀ e ∈ es, VB B (f e).key ∧ VB B (f e).val) : OB B (.map (esSet es n f) ck) := by
  intro e he
  obtain ⟨i, hi, rfl⟩ := List.getElem_of_mem he
  have h1 := List.getElem?_eq_getElem hi
  rw [esSet_get] at h1
  split at h1
  · simp only [Option.map_eq_some_iff] at h1
    obtain ⟨x, hx, h1⟩ := h1
    rw [← h1]
    exact hf x (List.mem_of_getElem? hx)
  · exact ho _ (List.mem_of_getElem? h1)

theorem push_ob {es : List MapEntry} {ck ck2 : Nat} {x : MapEntry} {B : Nat} (ho : OB B (.map es ck)) (hx : VB B x.key ∧ VB B x.val) : OB B (.map (es ++ [x]) ck2) := by
  intro e he
  rcases List.mem_append.1 he with he | he
  · exact ho e he
  · rw [List.mem_singleton.1 he]; exact hx

theorem erase_ob {es : List MapEntry} {ck n : Nat} {B : Nat} (ho : OB B (.map es ck)) : OB B (.map (es.eraseIdx n) ck) :=
  fun e he => ho e (List.mem_of_mem_eraseIdx he)

/-- A map's block in another state. -/
theorem map_set (i : Inv P ρ h w) {r : Nat} {es : List MapEntry} {ck : Nat} (hg : hget h r = some (.map es ck)) {p : Pl} (hp : ρ r = some p) {es0' : Array MapEntry} {ck0 : Nat} (hx : w.heap[p.b]? = some (.map es0' ck0))
    {w1 : World} (hw : w1 = w ∨ w1 = { w with drawn := w.drawn + 1 }) {es2 : List MapEntry} {es2' : Array MapEntry} (ck2 : Nat) (he : ESR ρ es2 es2'.toList) (tp : Nat) (hob : tp ≤ r + 1 → tp < 1000000000 → OB (r + 1) (.map es ck) → OB (r + 1) (.map es2 ck2)) :
    (setObj p.b (.map es2' ck2)).run P w1 = .ok () { w1 with heap := w1.heap.setIfInBounds p.b (.map es2' ck2) } ∧
      Inv P ρ (hset h r (.map es2 ck2) tp) { w1 with heap := w1.heap.setIfInBounds p.b (.map es2' ck2) } ∧ Fr ρ h w ρ (hset h r (.map es2 ck2) tp) { w1 with heap := w1.heap.setIfInBounds p.b (.map es2' ck2) } := by
  have e1 : w1.heap = w.heap := by rcases hw with rfl | rfl <;> rfl
  have hx1 : w1.heap[p.b]? = some (.map es0' ck0) := by rw [e1]; exact hx
  have hlt : p.b < w1.heap.size := (Array.getElem?_eq_some_iff.1 hx1).1
  refine ⟨by simp [setObj, Sem.run, hx1], ?_⟩
  have i1 : Inv P ρ h w1 := i.drew e1
  obtain ⟨k1, k2⟩ := i1.set hg rfl hp tp (w' := { w1 with heap := w1.heap.setIfInBounds p.b (.map es2' ck2) }) (x' := .map es2' ck2) (o' := .map es2 ck2)
    (by simp [Array.getElem?_setIfInBounds, hlt]) (fun b hb => by simp only [Array.getElem?_setIfInBounds]; rw [if_neg (fun x => hb x.symm)]) (by simp) rfl rfl rfl ⟨rfl, he.1, he.2⟩ hob
  exact ⟨k1, Step1.upto hw k2⟩

theorem old_ok {ks : KeyK} {es : List MapEntry} {i : Nat} (hok : oldOk ks es i = true) : ∃ e, es[i]? = some e ∧ keyOk ks e.key = true := by
  unfold oldOk at hok
  rw [List.head?_drop] at hok
  split at hok
  · rename_i e he; exact ⟨e, he, hok⟩
  · cases hok

theorem s_mapUpdate (i : Inv P ρ h w) (r : TR ρ t a.tmps) {ty kt e : TypeId} {ks : KeyK} {m k x : Operand} (ho : o.op = .mapUpdate ty m k x) (hm : okOpd P m = true) (hk : okOpd P k = true) (hx : okOpd P x = true)
    (ht : P.underlying ty = some (.map kt e)) (hks : keyKind P kt = some ks) (hv : opV call t h (.mapUpdate ks m k x) = some (v, h')) : Step1 P o a ρ h w v h' := by
  simp only [opV, opK] at hv
  obtain ⟨h1, hu, hv⟩ := ob_some hv
  simp only [Option.some.injEq, Prod.mk.injEq] at hv
  obtain ⟨rfl, rfl⟩ := hv
  have hrm := ev_rel i r hm
  have hrk := ev_rel i r hk
  have hrx := ev_rel i r hx
  unfold oMapUpdate at hu
  obtain ⟨hok, hu⟩ := chk_some hu
  obtain ⟨⟨r0, es, ck⟩, hmo, hu⟩ := ob_some hu
  obtain ⟨y, hf, hu⟩ := ob_some hu
  obtain ⟨_, hg, p, es', hp, hm', hxo, her⟩ := mapOf_rel i hrm hmo
  obtain ⟨y', g1, g2⟩ := key_found (P := P) (w := w) hks hrk her hf hok
  have hck := key_checked (P := P) (w := w) hks hrk hok false
  have fin : ∀ (w' : World), (Instr.mapUpdate ty (a.eval m) (a.eval k) (a.eval x)).run P w = .ok () w' → Inv P ρ h1 w' ∧ Fr ρ h w ρ h1 w' → Step1 P o a ρ h w undefV h1 := by
    intro w' q1 q2
    refine ⟨ρ, undef, w', .inr ⟨rfl, ?_⟩, VR.undef, q2.1, q2.2⟩
    unfold execOp; rw [ho]
    simp only [Sem.run_bind, q1, Result.andThen_ok, Sem.run_pure]
  split at hu
  · rename_i j v0
    cases y' with
    | none => exact g2.elim
    | some q =>
      obtain ⟨j', v'⟩ := q
      obtain ⟨rfl, hvr⟩ := g2
      obtain ⟨hold, hu⟩ := chk_some hu
      simp only [Option.some.injEq] at hu
      subst hu
      obtain ⟨e0, he0, hk0⟩ := old_ok hold
      obtain ⟨e1, _, he1, _, heq⟩ := findK_at hf
      simp only [Nat.sub_zero] at he1
      have : e1 = e0 := by rw [he0] at he1; exact (Option.some.inj he1).symm
      subst this
      have hlt : j < es'.toList.length := by rw [← her.1]; exact (List.getElem?_eq_some_iff.1 he0).1
      have he2 : es'.toList[j]? = some es'.toList[j] := List.getElem?_eq_getElem hlt
      have ree := her.2 j _ _ he0 he2
      obtain ⟨u', w1, q1, q2, q3⟩ := stays_run hks hok hk0 heq hrk ree.key w
      have hset := map_set i hg hp hxo q3 (es2 := esSet es j fun e => { e with key := ev t k, val := ev t x }) (es2' := es'.modify j fun e => { e with key := u', val := a.eval x }) ck
        (her.set j fun e e' _ _ rr => ⟨q2, hrx, rr.born⟩) (topL [ev t k, ev t x]) (fun a1 a2 a3 => set_ob a3 fun e _ => ⟨topL_in a1 a2 _ (by simp), topL_in a1 a2 _ (by simp)⟩)
      refine fin _ ?_ hset.2
      have hk2 : ((es'[j]?).map (·.key)).getD (a.eval k) = es'.toList[j].key := by
        rw [← Array.getElem?_toList, he2]; rfl
      simp only [Instr.mapUpdate, Sem.run_bind, run_underlying ht, Result.andThen_ok, hm', getObj_run hxo, hck, g1, hk2, q1, hset.1]
  · cases y' with
    | some _ => exact g2.elim
    | none =>
      simp only [Option.some.injEq] at hu
      subst hu
      have hset := map_set i hg hp hxo (.inl rfl) (es2 := es ++ [{ key := ev t k, val := ev t x, born := ck }]) (es2' := es'.push { key := a.eval k, val := a.eval x, born := ck }) (ck + 1)
        (her.push ⟨hrk, hrx, rfl⟩) (topL [ev t k, ev t x]) (fun a1 a2 a3 => push_ob a3 ⟨topL_in a1 a2 _ (by simp), topL_in a1 a2 _ (by simp)⟩)
      refine fin _ ?_ hset.2
      simp only [Instr.mapUpdate, Sem.run_bind, run_underlying ht, Result.andThen_ok, hm', getObj_run hxo, hck, g1, hset.1]

theorem s_mapEntry (i : Inv P ρ h w) (r : TR ρ t a.tmps) {ty kt e : TypeId} {ks : KeyK} {z : Value} {m k : Operand} (ho : o.op = .mapEntry ty m k) (hm : okOpd P m = true) (hk : okOpd P k = true)
    (ht : P.underlying ty = some (.map kt e)) (hks : keyKind P kt = some ks) (hz : zeroOf P e = some z) (hzb : bareV 50 z = true) (hv : opV call t h (.mapEntry ks z m k) = some (v, h')) : Step1 P o a ρ h w v h' := by
  simp only [opV, opK] at hv
  obtain ⟨⟨u, h1⟩, hu, hv⟩ := ob_some hv
  simp only [Option.some.injEq, Prod.mk.injEq] at hv
  obtain ⟨rfl, rfl⟩ := hv
  have hrm := ev_rel i r hm
  have hrk := ev_rel i r hk
  have hzr : VR ρ z z := VR.self 50 z hzb
  unfold oMapEntry at hu
  obtain ⟨hok, hu⟩ := chk_some hu
  obtain ⟨⟨r0, es, ck⟩, hmo, hu⟩ := ob_some hu
  obtain ⟨y, hf, hu⟩ := ob_some hu
  obtain ⟨_, hg, p, es', hp, hm', hxo, her⟩ := mapOf_rel i hrm hmo
  obtain ⟨y', g1, g2⟩ := key_found (P := P) (w := w) hks hrk her hf hok
  have hck := key_checked (P := P) (w := w) hks hrk hok false
  have fin : ∀ (u' : Value) (w' : World), (Instr.mapEntry ty (a.eval m) (a.eval k)).run P w = .ok u' w' → VR ρ u u' → Inv P ρ h1 w' ∧ Fr ρ h w ρ h1 w' → Step1 P o a ρ h w u h1 := by
    intro u' w' q1 q0 q2
    refine ⟨ρ, u', w', .inl ?_, q0, q2.1, q2.2⟩
    unfold execOp; rw [ho]
    simp only [Sem.run_bind, q1, Result.andThen_ok, Sem.run_pure]
  split at hu
  · rename_i j v0
    cases y' with
    | none => exact g2.elim
    | some q =>
      obtain ⟨j', v'⟩ := q
      obtain ⟨rfl, hvr⟩ := g2
      obtain ⟨hold, hu⟩ := chk_some hu
      simp only [Option.some.injEq, Prod.mk.injEq] at hu
      obtain ⟨rfl, rfl⟩ := hu
      obtain ⟨e0, he0, hk0⟩ := old_ok hold
      obtain ⟨e1, _, he1, _, heq⟩ := findK_at hf
      simp only [Nat.sub_zero] at he1
      have : e1 = e0 := by rw [he0] at he1; exact (Option.some.inj he1).symm
      subst this
      have hlt : j < es'.toList.length := by rw [← her.1]; exact (List.getElem?_eq_some_iff.1 he0).1
      have he2 : es'.toList[j]? = some es'.toList[j] := List.getElem?_eq_getElem hlt
      have ree := her.2 j _ _ he0 he2
      obtain ⟨u', w1, q1, q2, q3⟩ := stays_run hks hok hk0 heq hrk ree.key w
      have hset := map_set i hg hp hxo q3 (es2 := esSet es j fun e => { e with key := ev t k }) (es2' := es'.modify j fun e => { e with key := u' }) ck
        (her.set j fun e e' _ _ rr => ⟨q2, rr.val, rr.born⟩) (topL [ev t k]) (fun a1 a2 a3 => set_ob a3 fun e he => ⟨topL_in a1 a2 _ (by simp), (a3 e he).2⟩)
      have hk2 : ((es'[j]?).map (·.key)).getD (a.eval k) = es'.toList[j].key := by
        rw [← Array.getElem?_toList, he2]; rfl
      have hb2 : ((es'[j]?).map fun e => (e.born : Int)).getD 0 = (es'.toList[j].born : Int) := by
        rw [← Array.getElem?_toList, he2]; rfl
      have hb1 : (((es.drop j).head?.map fun e => (e.born : Int)).getD 0) = (e1.born : Int) := by
        rw [List.head?_drop, he0]; rfl
      refine fin (.tuple #[v', goInt (((es'[j]?).map (·.born)).getD 0)]) _ ?_ ?_ hset.2
      · simp only [Instr.mapEntry, Sem.run_bind, run_underlying ht, Result.andThen_ok, hm', getObj_run hxo, hck, g1, hk2, q1, hset.1, Sem.run_pure]
      · rw [hb2, hb1, ree.born]
        exact VR.tuple' (a := [v0, _]) (a' := [v', _]) (.cons hvr (.cons (.int _ _) .nil))
  · cases y' with
    | some _ => exact g2.elim
    | none =>
      simp only [Option.some.injEq, Prod.mk.injEq] at hu
      obtain ⟨rfl, rfl⟩ := hu
      have hset := map_set i hg hp hxo (.inl rfl) (es2 := es ++ [{ key := ev t k, val := z, born := ck }]) (es2' := es'.push { key := a.eval k, val := z, born := ck }) (ck + 1)
        (her.push ⟨hrk, hzr, rfl⟩) (topL [ev t k, z]) (fun a1 a2 a3 => push_ob a3 ⟨topL_in a1 a2 _ (by simp), topL_in a1 a2 _ (by simp)⟩)
      refine fin (.tuple #[z, goInt ck]) _ ?_ ?_ hset.2
      · simp only [Instr.mapEntry, Sem.run_bind, run_underlying ht, Result.andThen_ok, hm', getObj_run hxo, hck, g1, zeroV_run hz, hset.1, Sem.run_pure]
      · exact VR.tuple' (a := [z, _]) (a' := [z, _]) (.cons hzr (.cons (.int _ _) .nil))

theorem findBorn_spec : ∀ (es : List MapEntry) (es' : List MapEntry) (n : Int) (s j : Nat), ESR ρ es es' → findBorn es n s = some j → ∃ k, j = s + k ∧ es'.findIdx? (fun e => (e.born : Int) == n) = some k
  | [], es', n, s, j, _, hf => by simp [findBorn] at hf
  | e :: es, es', n, s, j, he, hf => by
    obtain ⟨e', r', rfl, h1, h2⟩ := he.cons
    have hf : cond (ieq (.ofNat e.born) n) (some s) (findBorn es n (s + 1)) = some j := hf
    rw [ieq_eq] at hf
    rw [List.findIdx?_cons, ← h1.born]
    cases hb : (Int.ofNat e.born == n) with
    | true =>
      rw [hb] at hf
      simp only [cond_true, Option.some.injEq] at hf
      subst hf
      exact ⟨0, rfl, rfl⟩
    | false =>
      rw [hb] at hf
      simp only [cond_false] at hf
      obtain ⟨k, rfl, h4⟩ := findBorn_spec es r' n (s + 1) j h2 hf
      refine ⟨k + 1, by omega, ?_⟩
      rw [h4]; rfl

theorem s_entryStore (i : Inv P ρ h w) (r : TR ρ t a.tmps) {ty : TypeId} {m s x : Operand} (ho : o.op = .entryStore ty m s x) (hm : okOpd P m = true) (hs : okOpd P s = true) (hx : okOpd P x = true)
    (hv : opV call t h (.entryStore m s x) = some (v, h')) : Step1 P o a ρ h w v h' := by
  simp only [opV, opK] at hv
  obtain ⟨h1, hu, hv⟩ := ob_some hv
  simp only [Option.some.injEq, Prod.mk.injEq] at hv
  obtain ⟨rfl, rfl⟩ := hv
  have hrm := ev_rel i r hm
  have hrs := ev_rel i r hs
  have hrx := ev_rel i r hx
  unfold oEntryStore at hu
  split at hu
  · rename_i ki n hse
    rw [hse] at hrs
    have hs' := hrs.int_inv
    obtain ⟨⟨r0, es, ck⟩, hmo, hu⟩ := ob_some hu
    obtain ⟨j, hf, hu⟩ := ob_some hu
    obtain ⟨_, hg, p, es', hp, hm', hxo, her⟩ := mapOf_rel i hrm hmo
    simp only [Option.some.injEq] at hu
    subst hu
    obtain ⟨k, rfl, hk⟩ := findBorn_spec es es'.toList n 0 j her hf
    rw [Nat.zero_add] at *
    have hset := map_set i hg hp hxo (.inl rfl) (es2 := esSet es k fun e => { e with val := ev t x }) (es2' := es'.modify k fun e => { e with val := a.eval x }) ck
      (her.set k fun e e' _ _ rr => ⟨rr.key, hrx, rr.born⟩) (topL [ev t x]) (fun a1 a2 a3 => set_ob a3 fun e he => ⟨(a3 e he).1, topL_in a1 a2 _ (by simp)⟩)
    refine ⟨ρ, undef, _, .inr ⟨rfl, ?_⟩, VR.undef, hset.2.1, hset.2.2⟩
    have hk' : es'.findIdx? (fun e => (e.born : Int) == n) = some k := by rw [← hk]; cases es'; simp
    unfold execOp; rw [ho]
    have e1 : (Instr.entryStore ty (a.eval m) (a.eval s) (a.eval x)).run P w = .ok () { w with heap := w.heap.setIfInBounds p.b (.map (es'.modify k fun e => { e with val := a.eval x }) ck) } := by
      rw [hm', hs']
      simp only [Instr.entryStore, asInt, asIntOf, Sem.run_bind, getObj_run hxo, Result.andThen_ok, Sem.run_pure, hk', hset.1]
    simp only [Sem.run_bind, e1, Result.andThen_ok, Sem.run_pure]
  · cases hu

theorem s_clearMap (i : Inv P ρ h w) (r : TR ρ t a.tmps) {x : Operand} {ty kt e : TypeId} (ho : o.op = .call { callee := .builtin .clear, args := #[x], argTypes := #[ty] })
    (hx : okOpd P x = true) (ht : P.underlying ty = some (.map kt e)) (hv : opV call t h (.clearMap x) = some (v, h')) : Step1 P o a ρ h w v h' := by
  simp only [opV, opK] at hv
  obtain ⟨h1, hc, hv⟩ := ob_some hv
  simp only [Option.some.injEq, Prod.mk.injEq] at hv
  obtain ⟨rfl, rfl⟩ := hv
  have hrx := ev_rel i r hx
  have hm : (#[x] : Array Operand).map a.eval = #[a.eval x] := by simp
  unfold oClearMap at hc
  split at hc
  · rename_i he
    rw [he] at hrx
    simp only [Option.some.injEq] at hc
    subst hc
    have hx' : a.eval x = .map none := by generalize a.eval x = q at hrx; cases hrx; rfl
    refine Step1.pure i (value_run ho (fun _ => by rw [hm]; rfl) (s := Builtin.clear_ #[ty] o.type #[a.eval x]) (u := .tuple #[]) ?_) VR.undef
    simp [Builtin.clear_, run_underlying ht, hx']
  · obtain ⟨⟨r0, es, ck⟩, hmo, hc⟩ := ob_some hc
    obtain ⟨_, hg, p, es', hp, hm', hxo, her⟩ := mapOf_rel i hrx hmo
    simp only [Option.some.injEq] at hc
    subst hc
    have hset := map_set i hg hp hxo (.inl rfl) (es2 := []) (es2' := #[]) ck ⟨rfl, fun i e e' h1 => by simp at h1⟩ 0 (fun _ _ _ e he => by cases he)
    refine ⟨ρ, .tuple #[], _, .inl (value_run ho (fun _ => by rw [hm]; rfl) (s := Builtin.clear_ #[ty] o.type #[a.eval x]) ?_), VR.undef, hset.2.1, hset.2.2⟩
    simp only [Builtin.clear_, List.getElem?_toArray, List.getElem?_cons_zero, Sem.run_bind, run_underlying ht, Result.andThen_ok, hm', getObj_run hxo, hset.1, Sem.run_pure]

theorem ESR.erase {es : List MapEntry} {es' : Array MapEntry} (he : ESR ρ es es'.toList) (n : Nat) : ESR ρ (es.eraseIdx n) (es'.eraseIdxIfInBounds n).toList := by
  have e1 : (es'.eraseIdxIfInBounds n).toList = es'.toList.eraseIdx n := by simp
  rw [e1]
  refine ⟨by simp [List.length_eraseIdx, he.1], fun i e e' h1 h2 => ?_⟩
  rw [List.getElem?_eraseIdx] at h1 h2
  split at h1
  · rename_i hlt; rw [if_pos hlt] at h2; exact he.2 i _ _ h1 h2
  · rename_i hlt; rw [if_neg hlt] at h2; exact he.2 (i + 1) _ _ h1 h2

theorem s_delete (i : Inv P ρ h w) (r : TR ρ t a.tmps) {m k : Operand} {ty kt e : TypeId} {ats : Array TypeId} {ks : KeyK} (ho : o.op = .call { callee := .builtin .delete, args := #[m, k], argTypes := ats }) (hat : ats[0]? = some ty)
    (hm : okOpd P m = true) (hk : okOpd P k = true) (ht : P.underlying ty = some (.map kt e)) (hks : keyKind P kt = some ks) (hv : opV call t h (.delete ks m k) = some (v, h')) : Step1 P o a ρ h w v h' := by
  simp only [opV, opK] at hv
  obtain ⟨h1, hc, hv⟩ := ob_some hv
  simp only [Option.some.injEq, Prod.mk.injEq] at hv
  obtain ⟨rfl, rfl⟩ := hv
  have hrm := ev_rel i r hm
  have hrk := ev_rel i r hk
  have hma : (#[m, k] : Array Operand).map a.eval = #[a.eval m, a.eval k] := by simp
  unfold oDelete at hc
  obtain ⟨hok, hc⟩ := chk_some hc
  have hck := fun b => key_checked (P := P) (w := w) hks hrk hok b
  split at hc
  · rename_i he
    rw [he] at hrm
    simp only [Option.some.injEq] at hc
    subst hc
    have hm' : a.eval m = .map none := by generalize a.eval m = q at hrm; cases hrm; rfl
    refine Step1.pure i (value_run ho (fun _ => by rw [hma]; rfl) (s := Builtin.delete_ ats o.type #[a.eval m, a.eval k]) (u := .tuple #[]) ?_) VR.undef
    simp [Builtin.delete_, hat, run_underlying ht, hm', hck]
  · obtain ⟨⟨r0, es, ck⟩, hmo, hc⟩ := ob_some hc
    obtain ⟨y, hf, hc⟩ := ob_some hc
    obtain ⟨_, hg, p, es', hp, hm', hxo, her⟩ := mapOf_rel i hrm hmo
    obtain ⟨y', g1, g2⟩ := key_found (P := P) (w := w) hks hrk her hf hok
    split at hc
    · rename_i j v0
      cases y' with
      | none => exact g2.elim
      | some q =>
        obtain ⟨j', v'⟩ := q
        obtain ⟨rfl, hvr⟩ := g2
        simp only [Option.some.injEq] at hc
        subst hc
        have hset := map_set i hg hp hxo (.inl rfl) (es2 := es.eraseIdx j) (es2' := es'.eraseIdxIfInBounds j) ck (her.erase j) 0 (fun _ _ a3 => erase_ob a3)
        refine ⟨ρ, .tuple #[], _, .inl (value_run ho (fun _ => by rw [hma]; rfl) (s := Builtin.delete_ ats o.type #[a.eval m, a.eval k]) ?_), VR.undef, hset.2.1, hset.2.2⟩
        simp only [Builtin.delete_, hat, List.getElem?_toArray, List.getElem?_cons_zero, List.getElem?_cons_succ, Sem.run_bind, run_underlying ht, Result.andThen_ok, hm', getObj_run hxo, hck, g1, hset.1, Sem.run_pure]
    · cases y' with
      | some _ => exact g2.elim
      | none =>
        simp only [Option.some.injEq] at hc
        subst hc
        have hset := map_set i hg hp hxo (.inl rfl) (es2 := es) (es2' := es') ck her 0 (fun _ _ a3 => a3)
        have hid : w.heap.setIfInBounds p.b (.map es' ck) = w.heap := by
          refine Array.ext_getElem? fun b => ?_
          rw [Array.getElem?_setIfInBounds]
          split
          · rename_i e; subst e
            split
            · exact hxo.symm
            · rename_i hn; rw [Array.getElem?_eq_none (by omega)] 
          · rfl
        refine Step1.pure i (value_run ho (fun _ => by rw [hma]; rfl) (s := Builtin.delete_ ats o.type #[a.eval m, a.eval k]) (u := .tuple #[]) ?_) VR.undef
        have h1' := hset.1
        rw [hid] at h1'
        simp only [Builtin.delete_, hat, List.getElem?_toArray, List.getElem?_cons_zero, List.getElem?_cons_succ, Sem.run_bind, run_underlying ht, Result.andThen_ok, hm', getObj_run hxo, hck, g1, h1', Sem.run_pure]
end
end Go.L1

/- ONE OPERATION, kind by kind: ranging over a map of which no more than one entry is left. -/
namespace Go.L1
open Go

section
variable {P : Program} {o : Oper} {a : Act} {ρ : Rho} {h h' : LHeap} {w : World} {t : Tm} {call : CallF} {v : Value}

theorem newObj_run (x : Obj) : (newObj x).run P w = .ok w.heap.size (w.alloc x) := rfl

theorem getIter_run {r : Nat} {m : Option Nat} {s : Nat} {seen : Array Nat} {l : Nat} (hx : w.heap[r]? = some (.mapIter m s seen l)) : (getObj r).run P w = .ok (.mapIter m s seen l) w := by simp [getObj, Sem.run, hx]

theorem s_rangeMap (i : Inv P ρ h w) (r : TR ρ t a.tmps) {ty kt e : TypeId} {x : Operand} (ho : o.op = .range ty x) (hx : okOpd P x = true) (ht : P.underlying ty = some (.map kt e))
    (hv : opV call t h (.rangeMap x) = some (v, h')) : Step1 P o a ρ h w v h' := by
  simp only [opV, opK] at hv
  obtain ⟨⟨v1, h1⟩, hu, hv⟩ := ob_some hv
  simp only [Option.some.injEq, Prod.mk.injEq] at hv
  obtain ⟨rfl, rfl⟩ := hv
  have hr := ev_rel i r hx
  have fin : ∀ (ob : LObj) (y : Obj), OR P (radd ρ h.nx ⟨w.heap.size, 0, none⟩) ⟨w.heap.size, 0, none⟩ ob y → (Instr.range ty (a.eval x)).run P w = .ok (.pointer (some ⟨w.heap.size, 0, none⟩)) (w.alloc y) → Step1 P o a ρ h w (newV h) (hnew h ob) := by
    intro ob y hor hrun
    obtain ⟨i', f'⟩ := i.alloc ob y none hor
    refine ⟨_, .pointer (some ⟨w.heap.size, 0, none⟩), _, .inl ?_, VR.ptr (p := ⟨w.heap.size, 0, none⟩) (radd_same _ _ _) 0, i', f'⟩
    unfold execOp; rw [ho]
    simp only [Sem.run_bind, hrun, Result.andThen_ok, Sem.run_pure]
  unfold oRangeMap at hu
  split at hu
  · rename_i he
    rw [he] at hr
    simp only [Option.some.injEq, Prod.mk.injEq] at hu
    obtain ⟨rfl, rfl⟩ := hu
    have hx' : a.eval x = .map none := by generalize a.eval x = q at hr; cases hr; rfl
    refine fin _ (.mapIter none 0 #[] 0) ⟨rfl, rfl, rfl, rfl, trivial⟩ ?_
    simp only [Instr.range, Sem.run_bind, run_underlying ht, Result.andThen_ok, hx', Sem.run_pure, newObj_run]
  · rename_i r0 he
    rw [he] at hr
    split at hu
    · rename_i es ck hg
      simp only [Option.some.injEq, Prod.mk.injEq] at hu
      obtain ⟨rfl, rfl⟩ := hu
      obtain ⟨_, _, p, es', hp, hm', hxo, _⟩ := mapOf_rel i hr (r := r0) (es := es) (ck := ck) (by simp [mapOf, hg])
      refine fin _ (.mapIter (some p.b) ck #[] ck) ⟨rfl, rfl, rfl, rfl, p, Rle.radd i _ _ _ hp, rfl⟩ ?_
      simp only [Instr.range, Sem.run_bind, run_underlying ht, Result.andThen_ok, hm', getObj_run hxo, Sem.run_pure, newObj_run]
    · cases hu
  · cases hu

/-- An iterator in both. -/
theorem iter_rel (i : Inv P ρ h w) {ad : Addr} {x' : Value} (hr : VR ρ (.pointer (some ad)) x') (h0 : Nat.beq ad.off 0 = true) {m : Option Nat} {since : Nat} {seen : List Nat} {last : Nat} (hg : hget h ad.block = some (.miter m since seen last)) :
    ∃ p m', ρ ad.block = some p ∧ x' = .pointer (some ⟨p.b, 0, none⟩) ∧ p.o = 0 ∧ w.heap[p.b]? = some (.mapIter m' since seen.toArray last) ∧ MR ρ m m' := by
  obtain ⟨p, hp, _, rfl⟩ := hr.ptr_inv
  obtain ⟨q, x, hq, hx, ro⟩ := i.obj _ _ hg rfl
  rw [hp] at hq
  obtain rfl := Option.some.inj hq
  cases x <;> try exact ro.elim
  obtain ⟨r1, r2, r3, r4, r5⟩ := ro
  subst r2
  subst r4
  refine ⟨p, _, hp, by rw [r1, Nat.eq_of_beq_eq_true h0], r1, ?_, r5⟩
  rw [hx, r3]

theorem filter_rel {es es' : List MapEntry} (he : ESR ρ es es') (f g : MapEntry → Bool) (hfg : ∀ x y, ER ρ x y → f x = g y) : ESR ρ (es.filter f) (es'.filter g) := by
  induction es generalizing es' with
  | nil =>
    have : es' = [] := List.eq_nil_of_length_eq_zero he.1.symm
    subst this
    exact ⟨rfl, fun i e e' h1 => by simp at h1⟩
  | cons x es ih =>
    obtain ⟨y, r', rfl, h1, h2⟩ := he.cons
    have h3 := ih h2
    rw [List.filter_cons, List.filter_cons, hfg x y h1]
    cases g y with
    | false => exact h3
    | true =>
      refine ⟨by simp [h3.1], fun j e e' a1 a2 => ?_⟩
      cases j with
      | zero => simp at a1 a2; subst a1; subst a2; exact h1
      | succ j => exact h3.2 j e e' (by simpa using a1) (by simpa using a2)

theorem all_rel {es es' : List MapEntry} (he : ESR ρ es es') (f g : MapEntry → Bool) (hfg : ∀ x y, ER ρ x y → f x = g y) : es.all f = es'.all g := by
  induction es generalizing es' with
  | nil =>
    have : es' = [] := List.eq_nil_of_length_eq_zero he.1.symm
    subst this
    rfl
  | cons x es ih =>
    obtain ⟨y, r', rfl, h1, h2⟩ := he.cons
    simp only [List.all_cons, hfg x y h1, ih h2]

theorem s_nextMap (i : Inv P ρ h w) (r : TR ρ t a.tmps) {x : Operand} (ho : o.op = .next x false) (hx : okOpd P x = true) (hv : opV call t h (.nextMap x) = some (v, h')) : Step1 P o a ρ h w v h' := by
  simp only [opV, opK] at hv
  obtain ⟨⟨v1, h1⟩, hu, hv⟩ := ob_some hv
  simp only [Option.some.injEq, Prod.mk.injEq] at hv
  obtain ⟨rfl, rfl⟩ := hv
  have hr := ev_rel i r hx
  have hover : VR ρ overV (.tuple #[.bool false]) := VR.tuple' (a := [.bool false]) (a' := [.bool false]) (.cons (.bool _) .nil)
  have fin : ∀ (u' : Value), (Instr.next (a.eval x) false o.type).run P w = .ok u' w → VR ρ v1 u' → h1 = h → Step1 P o a ρ h w v1 h1 := by
    rintro u' q1 q2 rfl
    refine Step1.pure i (v' := u') ?_ q2
    unfold execOp; rw [ho]
    simp only [Sem.run_bind, q1, Result.andThen_ok, Sem.run_pure]
  unfold oNextMap at hu
  split at hu
  · rename_i ad he
    rw [he] at hr
    obtain ⟨h0, hu⟩ := chk_some hu
    split at hu
    · rename_i s1 s2 s3 hg
      simp only [Option.some.injEq, Prod.mk.injEq] at hu
      obtain ⟨rfl, rfl⟩ := hu
      obtain ⟨p, m', hp, hx', _, hxo, hm⟩ := iter_rel i hr h0 hg
      cases m' with
      | some _ => exact hm.elim
      | none =>
        refine fin _ ?_ hover rfl
        simp only [Instr.next, hx', Sem.run_bind, getIter_run hxo, Result.andThen_ok, Sem.run_pure]
    · rename_i m since seen last hg
      obtain ⟨p, m', hp, hx', hpo, hxo, hm⟩ := iter_rel i hr h0 hg
      cases m' with
      | none => exact hm.elim
      | some mb =>
        obtain ⟨q, hq, hqb⟩ := hm
        split at hu
        · rename_i es ck hgm
          obtain ⟨hc, hu⟩ := chk_some hu
          obtain ⟨q', z, hq', hz, ro⟩ := i.obj _ _ hgm rfl
          rw [hq] at hq'
          obtain rfl := Option.some.inj hq'
          cases z <;> try exact ro.elim
          rename_i es' ck'
          obtain ⟨rfl, r1, r2⟩ := ro
          have her : ESR ρ es es'.toList := ⟨r1, r2⟩
          rw [hqb] at hz
          have hall : es'.all (fun e => decide (e.born ≥ last)) = es.all (fun e => Nat.ble last e.born) := by
            rw [← Array.all_toList]
            refine (all_rel her _ _ fun x y hxy => ?_).symm
            rw [hxy.born, Bool.eq_iff_iff]
            simp
          have hemp : es'.isEmpty = es.isEmpty := by
            rw [Bool.eq_iff_iff, Array.isEmpty_iff, List.isEmpty_iff]
            constructor
            · intro e; rw [e] at r1; exact List.eq_nil_of_length_eq_zero r1
            · intro e; rw [e] at r1; exact Array.toList_eq_nil_iff.1 (List.eq_nil_of_length_eq_zero r1.symm)
          have hguard : (!seen.toArray.isEmpty && !es'.isEmpty && es'.all (fun e => decide (e.born ≥ last))) = false := by
            rw [hall, hemp]
            have : seen.toArray.isEmpty = seen.isEmpty := by cases seen <;> rfl
            rw [this]
            cases h1 : seen.isEmpty <;> cases h2 : es.isEmpty <;> cases h3 : es.all (fun e => Nat.ble last e.born) <;> simp_all
          have hfil : ESR ρ (es.filter fun e => !seen.contains e.born) (es'.filter fun e => !seen.toArray.contains e.born).toList := by
            rw [Array.toList_filter]
            refine filter_rel her _ _ fun x y hxy => ?_
            rw [hxy.born]
            simp
          split at hu
          · rename_i hnil
            simp only [Option.some.injEq, Prod.mk.injEq] at hu
            obtain ⟨rfl, rfl⟩ := hu
            rw [hnil] at hfil
            have hl : es'.filter (fun e => !seen.toArray.contains e.born) = #[] := Array.toList_eq_nil_iff.1 (List.eq_nil_of_length_eq_zero hfil.1.symm)
            refine fin _ ?_ hover rfl
            simp only [Instr.next, hx', Sem.run_bind, getIter_run hxo, Result.andThen_ok, getObj_run hz, hguard, Bool.false_eq_true, if_false, hl]
            simp [choose, Sem.run, Question.forced]
          · rename_i e hone
            obtain ⟨hb, hu⟩ := chk_some hu
            simp only [Option.some.injEq, Prod.mk.injEq] at hu
            obtain ⟨rfl, rfl⟩ := hu
            rw [hone] at hfil
            obtain ⟨e', re, hre, hee, hrest⟩ := hfil.cons
            have hre' : re = [] := List.eq_nil_of_length_eq_zero hrest.1.symm
            subst hre'
            have hl : es'.filter (fun e => !seen.toArray.contains e.born) = #[e'] := by
              apply Array.toList_inj.1
              rw [hre]
            have hbl : e'.born < since := by
              rw [← hee.born]
              simpa [Nat.blt_eq] using hb
            have hlt : p.b < w.heap.size := (Array.getElem?_eq_some_iff.1 hxo).1
            obtain ⟨w', hw'⟩ : ∃ w' : World, w' = { w with heap := w.heap.setIfInBounds p.b (.mapIter (some mb) since (seen ++ [e'.born]).toArray ck) } := ⟨_, rfl⟩
            have hset : (setObj p.b (.mapIter (some mb) since (seen ++ [e'.born]).toArray ck)).run P w = .ok () w' := by rw [hw']; simp [setObj, Sem.run, hxo]
            obtain ⟨k1, k2⟩ := i.set hg rfl hp (m + 1) (w' := w') (x' := .mapIter (some mb) since (seen ++ [e'.born]).toArray ck) (o' := .miter (some m) since (seen ++ [e.born]) ck)
              (by rw [hw']; simp [Array.getElem?_setIfInBounds, hlt]) (fun b hb => by rw [hw']; simp only [Array.getElem?_setIfInBounds]; rw [if_neg (fun x => hb x.symm)]) (by rw [hw']; simp) (by rw [hw']) (by rw [hw']) (by rw [hw'])
              ⟨hpo, rfl, by rw [hee.born], rfl, q, hq, hqb⟩ (fun h1 _ _ id hid => by cases hid; exact h1)
            refine ⟨ρ, .tuple #[.bool true, e'.key, e'.val], w', .inl ?_, VR.tuple' (a := [.bool true, e.key, e.val]) (a' := [.bool true, e'.key, e'.val]) (.cons (.bool _) (.cons hee.key (.cons hee.val .nil))), k1, k2⟩
            unfold execOp; rw [ho]
            have hnl : ¬ since ≤ e'.born := by omega
            have hrun : (Instr.next (a.eval x) false o.type).run P w = .ok (.tuple #[.bool true, e'.key, e'.val]) w' := by
              simp only [Instr.next, hx', Sem.run_bind, getIter_run hxo, Result.andThen_ok, getObj_run hz, hguard, Bool.false_eq_true, if_false, hl]
              simp [choose, Sem.run, Question.forced, hbl, hnl, hset]
            simp only [Sem.run_bind, hrun, Result.andThen_ok, Sem.run_pure]
          · cases hu
        · cases hu
    · cases hu
  · cases hu

theorem find_rel {es es' : List MapEntry} (he : ESR ρ es es') (n : Nat) {e : MapEntry} (hf : es.find? (fun e => Nat.beq e.born n) = some e) : ∃ e', es'.find? (fun e => e.born == n) = some e' ∧ ER ρ e e' := by
  induction es generalizing es' with
  | nil => simp at hf
  | cons x es ih =>
    obtain ⟨y, r', rfl, h1, h2⟩ := he.cons
    rw [List.find?_cons] at hf
    rw [List.find?_cons, ← h1.born]
    cases hb : Nat.beq x.born n with
    | true =>
      rw [hb] at hf
      simp only [Option.some.injEq] at hf
      subst hf
      have : (x.born == n) = true := by rw [Nat.eq_of_beq_eq_true hb]; simp
      rw [this]
      exact ⟨y, rfl, h1⟩
    | false =>
      rw [hb] at hf
      have : (x.born == n) = false := by
        cases hq : (x.born == n) with
        | false => rfl
        | true => rw [eq_of_beq hq, beq_true] at hb; cases hb
      rw [this]
      exact ih h2 hf

theorem s_entryMap (i : Inv P ρ h w) (r : TR ρ t a.tmps) {x : Operand} (ho : o.op = .entry x) (hx : okOpd P x = true) (hv : opV call t h (.entryMap x) = some (v, h')) : Step1 P o a ρ h w v h' := by
  simp only [opV, opK] at hv
  obtain ⟨v1, hu, hv⟩ := ob_some hv
  simp only [Option.some.injEq, Prod.mk.injEq] at hv
  obtain ⟨rfl, rfl⟩ := hv
  have hr := ev_rel i r hx
  unfold oEntryMap at hu
  split at hu
  · rename_i ad he
    rw [he] at hr
    obtain ⟨h0, hu⟩ := chk_some hu
    split at hu
    · rename_i m since seen stepped hg
      obtain ⟨p, m', hp, hx', hpo, hxo, hm⟩ := iter_rel i hr h0 hg
      cases m' with
      | none => exact hm.elim
      | some mb =>
        obtain ⟨q, hq, hqb⟩ := hm
        split at hu
        · rename_i stamp es ck hlast hgm
          obtain ⟨hc, hu⟩ := chk_some hu
          obtain ⟨e, hfe, hu⟩ := ob_some hu
          simp only [Option.some.injEq] at hu
          subst hu
          obtain ⟨q', z, hq', hz, ro⟩ := i.obj _ _ hgm rfl
          rw [hq] at hq'
          obtain rfl := Option.some.inj hq'
          cases z <;> try exact ro.elim
          rename_i es' ck'
          obtain ⟨rfl, r1, r2⟩ := ro
          rw [hqb] at hz
          obtain ⟨e', hfe', hee⟩ := find_rel (ρ := ρ) ⟨r1, r2⟩ stamp hfe
          have hck := Nat.eq_of_beq_eq_true hc
          subst hck
          have hback : seen.toArray.back? = some stamp := by simpa using hlast
          have hfe2 : es'.find? (fun e => e.born == stamp) = some e' := by rw [← hfe']; simp
          refine Step1.pure i (v' := .tuple #[e'.key, e'.val]) ?_ (VR.tuple' (a := [e.key, e.val]) (a' := [e'.key, e'.val]) (.cons hee.key (.cons hee.val .nil)))
          unfold execOp; rw [ho]
          have hrun : (Instr.entry (a.eval x)).run P w = .ok (.tuple #[e'.key, e'.val]) w := by
            simp [Instr.entry, hx', Sem.run_bind, getIter_run hxo, Result.andThen_ok, hback, getObj_run hz, hfe2]
          simp only [Sem.run_bind, hrun, Result.andThen_ok, Sem.run_pure]
        · cases hu
    · cases hu
  · cases hu
end
end Go.L1

/- ONE OPERATION, whichever: what the compiled form answers, the model's machine answers. -/
namespace Go.L1
open Go

def LOp.isCall : LOp → Bool
  | .call .. => true
  | _ => false

inductive OK3 where
  | pure | read | alloc | eff
  deriving DecidableEq

/-- What an operation does: nothing with the memory; it reads of one block; it makes one block; whatever else. -/
def LOp.kind : LOp → OK3
  | .alloc .. | .box .. | .buildSlice .. | .mkMap | .mkSlice .. | .conv (.strBytes _) _ => .alloc
  | .store .. | .mapUpdate .. | .mapEntry .. | .entryStore .. | .call .. | .append .. | .copy .. | .clearSlice .. | .clearMap .. | .delete .. | .unsafeStr .. | .rangeStr .. | .nextStr .. | .rangeMap _ | .nextMap _ | .entryMap _ | .bad => .eff
  | .load1 .. | .loadN .. | .lookup .. | .lenMap .. | .conv .bytesStr _ | .slice .. | .sliceArr .. | .cap .. | .conv (.toUnsafe _ _) _ | .conv (.ofUnsafe _ _) _ => .read
  | _ => .pure

theorem kind_read (l : LOp) : l.kind = .read ↔ reads l = true := by
  cases l <;> try (simp [LOp.kind, reads]; done)
  rename_i c x
  cases c <;> simp [LOp.kind, reads]

def StepK (k : OK3) (P : Program) (o : Oper) (a : Act) (ρ : Rho) (h : LHeap) (w : World) (v : Value) (h' : LHeap) : Prop :=
  match k with
  | .pure | .read => StepP P o a ρ h w v h'
  | .alloc => StepA P o a ρ h w v h'
  | .eff => Step1 P o a ρ h w v h'

theorem StepK.step1 {k : OK3} {P : Program} {o : Oper} {a : Act} {ρ : Rho} {h : LHeap} {w : World} {v : Value} {h' : LHeap} (i : Inv P ρ h w) (s : StepK k P o a ρ h w v h') : Step1 P o a ρ h w v h' := by
  cases k
  · exact StepP.step1 i s
  · exact StepP.step1 i s
  · exact StepA.step1 i s
  · exact s

section
variable {P : Program} {o : Oper} {a : Act} {ρ : Rho} {h h' : LHeap} {w : World} {t : Tm} {call : CallF} {v : Value}

theorem all_mem {xs : Array Operand} (hok : xs.all (okOpd P) = true) : ∀ x ∈ xs.toList, okOpd P x = true := by
  intro x hx
  rw [Array.all_eq_true_iff_forall_mem] at hok
  exact hok x (by simpa using hx)

theorem bad_none (hv : opV call t h .bad = some (v, h')) : False := by simp [opV, opK] at hv

theorem slice_ops {x : Operand} {lo hi mx : Option Operand} (hok : ∀ y ∈ (#[x] ++ lo.toArray ++ hi.toArray ++ mx.toArray).toList, okOpd P y = true) :
    okOpd P x = true ∧ (∀ y, lo = some y → okOpd P y = true) ∧ (∀ y, hi = some y → okOpd P y = true) ∧ (∀ y, mx = some y → okOpd P y = true) := by
  refine ⟨hok x (by simp), fun y hy => hok y ?_, fun y hy => hok y ?_, fun y hy => hok y ?_⟩ <;> subst hy <;> simp

theorem builtin_step (i : Inv P ρ h w) (r : TR ρ t a.tmps) {b : Builtin} {args : Array Operand} {ats : Array TypeId} (ho : o.op = .call { callee := .builtin b, args, argTypes := ats })
    {l : LOp} (hc : compBuiltin P b ats.toList args.toList = some l) (hok : ∀ x ∈ args.toList, okOpd P x = true) (hv : opV call t h l = some (v, h')) : StepK l.kind P o a ρ h w v h' := by
  obtain ⟨args⟩ := args
  obtain ⟨ats⟩ := ats
  simp only at hc hok
  unfold compBuiltin at hc
  split at hc
  · -- len
    rename_i ty x
    have hx := hok x (by simp)
    split at hc
    · rename_i hu
      simp only [Option.some.injEq] at hc; subst hc
      exact s_len i r ho hx (.inl ⟨rfl, hu⟩) hv
    · rename_i e hu
      simp only [Option.some.injEq] at hc; subst hc
      exact s_len i r ho hx (.inr ⟨rfl, _, hu⟩) hv
    · rename_i n e hu
      simp only [Option.some.injEq] at hc; subst hc
      exact s_lenArr i ho (.inl hu) hv
    · rename_i ar hu
      split at hc
      · rename_i n e hu2
        simp only [Option.some.injEq] at hc; subst hc
        exact s_lenArr i ho (.inr ⟨_, hu, hu2⟩) hv
      · cases hc
    · rename_i kt e hu
      simp only [Option.some.injEq] at hc; subst hc
      exact s_lenMap i r ho hx hu hv
    · cases hc
  · -- cap
    rename_i ty x
    split at hc
    · rename_i e hu
      simp only [Option.some.injEq] at hc; subst hc
      exact s_cap i r ho (hok x (by simp)) hu hv
    · cases hc
  · -- append
    rename_i ty u s x
    split at hc
    · rename_i e d hu1 hu2
      split at hc
      · rename_i z hz
        split at hc
        · rename_i hcond
          simp only [Bool.and_eq_true, beq_iff_eq, bne_iff_ne, ne_eq, decide_eq_true_eq] at hcond
          simp only [Option.some.injEq] at hc; subst hc
          exact s_append i r ho (hok s (by simp)) (hok x (by simp)) hu1 hu2 hz hcond.1.1.1.2 hcond.1.1.2 hcond.1.2 hv
        · cases hc
      · cases hc
    · cases hc
  · -- copy
    rename_i ty ts d s
    split at hc
    · rename_i e hu
      split at hc
      · rename_i hi
        simp only [Option.some.injEq] at hc; subst hc
        exact s_copy i r ho rfl (hok d (by simp)) (hok s (by simp)) hu hi hv
      · cases hc
    · cases hc
  · simp only [Option.some.injEq] at hc; subst hc
    exact s_min i r ho hok hv
  · simp only [Option.some.injEq] at hc; subst hc
    exact s_max i r ho hok hv
  · -- clear
    rename_i ty x
    split at hc
    · rename_i e hu
      split at hc
      · rename_i z hz
        simp only [Option.some.injEq] at hc; subst hc
        exact s_clearSlice i r ho (hok x (by simp)) hu hz hv
      · cases hc
    · rename_i kt e hu
      simp only [Option.some.injEq] at hc; subst hc
      exact s_clearMap i r ho (hok x (by simp)) hu hv
    · cases hc
  · -- delete
    rename_i ty ts m k
    split at hc
    · rename_i kt e hu
      split at hc
      · rename_i q hq
        simp only [Option.some.injEq] at hc; subst hc
        exact s_delete i r ho rfl (hok m (by simp)) (hok k (by simp)) hu hq hv
      · cases hc
    · cases hc
  · rename_i x
    simp only [Option.some.injEq] at hc; subst hc
    exact s_unsafeData i r ho (hok x (by simp)) hv
  · rename_i ty ts p n
    split at hc
    · rename_i e hu
      split at hc
      · rename_i h1
        simp only [Option.some.injEq] at hc; subst hc
        exact s_unsafeStr i r ho (hok p (by simp)) (hok n (by simp)) hu h1 hv
      · cases hc
    · cases hc
  · cases hc

theorem op_step (i : Inv P ρ h w) (r : TR ρ t a.tmps) {l : LOp} (hc : compOp P o = some l) (hok0 : o.op.operands.all (okOpd P) = true) (hnc : l.isCall = false) (hv : opV call t h l = some (v, h')) : StepK l.kind P o a ρ h w v h' := by
  have hok := all_mem hok0
  clear hok0
  unfold compOp at hc
  split at hc
  · rename_i x ho; rw [ho] at hok
    simp only [Option.some.injEq] at hc; subst hc
    exact s_move i r (.inl ho) (hok x (by simp [Op.operands])) hv
  · rename_i x ho; rw [ho] at hok
    simp only [Option.some.injEq] at hc; subst hc
    exact s_move i r (.inr ho) (hok x (by simp [Op.operands])) hv
  · rename_i c x y ho; rw [ho] at hok
    simp only [Option.some.injEq] at hc; subst hc
    exact s_pick i r ho (hok c (by simp [Op.operands])) (hok x (by simp [Op.operands])) (hok y (by simp [Op.operands])) hv
  · rename_i e ho
    split at hc
    · rename_i z hz
      simp only [Option.some.injEq] at hc; subst hc
      obtain ⟨u, h1, rfl, h3⟩ := zeroC_some hz
      exact s_alloc i ho h1 h3 hv
    · cases hc
  · rename_i e x ho; rw [ho] at hok
    simp only [Option.some.injEq] at hc; subst hc
    exact s_box i r ho (hok x (by simp [Op.operands])) hv
  · rename_i ty ps ho; rw [ho] at hok
    split at hc
    · rename_i z q hz hq
      simp only [Option.some.injEq] at hc; subst hc
      exact s_build i r ho (fun p hp => hok p.2 (by simp only [Op.operands, List.mem_map]; exact ⟨p, hp, rfl⟩)) hz hq hv
    · cases hc
  · rename_i ty len ps ho; rw [ho] at hok
    split at hc
    · rename_i e hu
      split at hc
      · rename_i z hz
        split at hc
        · rename_i hcond
          simp only [Bool.and_eq_true, beq_iff_eq, decide_eq_true_eq] at hcond
          simp only [Option.some.injEq] at hc; subst hc
          exact s_buildSlice i r ho (fun p hp => hok p.2 (by simp only [Op.operands, List.mem_map]; exact ⟨p, hp, rfl⟩)) hu hz hcond.1.1 hcond.1.2 hv
        · cases hc
      · cases hc
    · cases hc
  · rename_i ty x ho; rw [ho] at hok
    split at hc
    · rename_i d hu
      split at hc
      · rename_i hag
        simp only [Option.some.injEq] at hc; subst hc
        exact s_loadN i r ho (hok x (by simp [Op.operands])) hu hag hv
      · rename_i hag
        simp only [Option.some.injEq] at hc; subst hc
        exact s_load1 i r ho (hok x (by simp [Op.operands])) hu (by simpa using hag) hv
    · cases hc
  · rename_i ty x y ho; rw [ho] at hok
    split at hc
    · rename_i d hu
      simp only [Option.some.injEq] at hc; subst hc
      exact s_store i r ho (hok x (by simp [Op.operands])) (hok y (by simp [Op.operands])) hu hv
    · cases hc
  · rename_i x ho; rw [ho] at hok
    simp only [Option.some.injEq] at hc; subst hc
    exact s_nilCheck i r ho (hok x (by simp [Op.operands])) hv
  · rename_i op ty x y kx ho; rw [ho] at hok
    have hx := hok x (by simp [Op.operands])
    have hy := hok y (by simp [Op.operands])
    split at hc
    · split at hc
      · simp only [Option.some.injEq] at hc; subst hc
        exact s_bin i r ho hx hy hv
      · simp only [Option.map_eq_some_iff] at hc
        obtain ⟨q, hq, rfl⟩ := hc
        exact s_eq i r ho (.inl ⟨rfl, rfl⟩) hx hy hq hv
    · split at hc
      · simp only [Option.some.injEq] at hc; subst hc
        exact s_bin i r ho hx hy hv
      · simp only [Option.map_eq_some_iff] at hc
        obtain ⟨q, hq, rfl⟩ := hc
        exact s_eq i r ho (.inr ⟨rfl, rfl⟩) hx hy hq hv
    · simp only [Option.some.injEq] at hc; subst hc
      exact s_bin i r ho hx hy hv
  · rename_i op ty x ho; rw [ho] at hok
    simp only [Option.some.injEq] at hc; subst hc
    exact s_un i r ho (hok x (by simp [Op.operands])) hv
  · rename_i s d x ho; rw [ho] at hok
    split at hc
    · rename_i c hcc
      simp only [Option.some.injEq] at hc; subst hc
      cases c with
      | strBytes e =>
        unfold compConv at hcc
        split at hcc
        all_goals try (first | cases hcc; done | (split at hcc <;> cases hcc; done))
        · split at hcc
          · cases hcc
            exact s_convBytes i r ho (hok x (by simp [Op.operands])) (by assumption) (by assumption) (by assumption) hv
          · cases hcc
      | int k => exact s_conv i r ho (hok x (by simp [Op.operands])) hcc (by simp) hv
      | str => exact s_conv i r ho (hok x (by simp [Op.operands])) hcc (by simp) hv
      | bytesStr => exact s_conv i r ho (hok x (by simp [Op.operands])) hcc (by simp) hv
      | ofInt => exact s_conv i r ho (hok x (by simp [Op.operands])) hcc (by simp) hv
      | toUnsafe e n => exact s_conv i r ho (hok x (by simp [Op.operands])) hcc (by simp) hv
      | ofUnsafe e n => exact s_conv i r ho (hok x (by simp [Op.operands])) hcc (by simp) hv
    · cases hc
  · rename_i ty x ho; rw [ho] at hok
    split at hc
    · cases hc
    · rename_i d hu hd
      simp only [Option.some.injEq] at hc; subst hc
      exact s_mkIface i r ho (hok x (by simp [Op.operands])) hd (fun ms e => hu ms e) hv
    · cases hc
  · rename_i f x y ho; rw [ho] at hok
    simp only [Option.some.injEq] at hc; subst hc
    exact s_mkFunc i r ho (fun z hz => hok z (by simp only [Op.operands, Array.toList_append, List.mem_append]; exact .inl hz)) (fun z hz => hok z (by simp only [Op.operands, Array.toList_append, List.mem_append]; exact .inr hz)) hv
  · rename_i ty ho
    simp only [Option.some.injEq] at hc; subst hc
    exact s_mkMap i ho hv
  · rename_i ty x y ho; rw [ho] at hok
    split at hc
    · rename_i e hu
      split at hc
      · rename_i z hz
        split at hc
        · simp only [Option.some.injEq] at hc; subst hc
          exact s_mkSlice i r ho (hok x (by simp [Op.operands])) (hok y (by simp [Op.operands])) hu hz hv
        · cases hc
      · cases hc
    · cases hc
  · rename_i ty x lo hi mx ho; rw [ho] at hok
    obtain ⟨hx, hlo, hhi, hmx⟩ := slice_ops (by simpa only [Op.operands] using hok)
    split at hc
    · rename_i hu
      split at hc
      · rename_i hm
        simp only [Option.some.injEq] at hc; subst hc
        exact s_sliceStr i r ho hx hlo hhi (by simpa using hm) hu hv
      · cases hc
    · rename_i e hu
      split at hc
      · rename_i hi'
        simp only [Option.some.injEq] at hc; subst hc
        exact s_slice i r ho hx hlo hhi hmx hu hi' hv
      · cases hc
    · rename_i n e hu
      split at hc
      · rename_i hi'
        simp only [Option.some.injEq] at hc; subst hc
        exact s_sliceArr i r ho hx hlo hhi hmx (.inl hu) hi' hv
      · cases hc
    · rename_i ar hu
      split at hc
      · rename_i n e hu2
        split at hc
        · rename_i hi'
          simp only [Option.some.injEq] at hc; subst hc
          exact s_sliceArr i r ho hx hlo hhi hmx (.inr ⟨_, hu, hu2⟩) hi' hv
        · cases hc
      · cases hc
    · cases hc
  · rename_i s x n ho; rw [ho] at hok
    split at hc
    · rename_i fs hu
      split at hc
      · rename_i f hf
        split at hc
        · cases hc
        · rename_i hz
          simp only [Option.some.injEq] at hc; subst hc
          exact s_fieldAddr i r ho (hok x (by simp [Op.operands])) hu hf hz hv
      · cases hc
    · cases hc
  · rename_i ty x n ho; rw [ho] at hok
    split at hc
    · rename_i fs hu
      split at hc
      · rename_i f hf
        split at hc
        · rename_i d hd
          split at hc
          · rename_i hag
            simp only [Option.some.injEq] at hc; subst hc
            exact s_fieldN i r ho (hok x (by simp [Op.operands])) hu hf hd hag hv
          · rename_i hag
            simp only [Option.some.injEq] at hc; subst hc
            exact s_field1 i r ho (hok x (by simp [Op.operands])) hu hf hd (by simpa using hag) hv
        · cases hc
      · cases hc
    · cases hc
  · rename_i ty x y ho; rw [ho] at hok
    have hx := hok x (by simp [Op.operands])
    have hy := hok y (by simp [Op.operands])
    split at hc
    · rename_i e hu
      split at hc
      · rename_i d hd
        simp only [Option.some.injEq] at hc; subst hc
        exact s_indexAddr i r ho hx hy hu hd hv
      · cases hc
    · rename_i n e hu
      split at hc
      · rename_i d hd
        simp only [Option.some.injEq] at hc; subst hc
        exact s_indexArr i r ho hx hy hu hd hv
      · cases hc
    · cases hc
  · rename_i ty x y ho; rw [ho] at hok
    have hx := hok x (by simp [Op.operands])
    have hy := hok y (by simp [Op.operands])
    split at hc
    · rename_i hu
      simp only [Option.some.injEq] at hc; subst hc
      exact s_indexStr i r ho hx hy hu hv
    · rename_i n e hu
      split at hc
      · rename_i d hd
        simp only [Option.some.injEq] at hc; subst hc
        exact s_indexAgg i r ho hx hy hu hd hv
      · cases hc
    · cases hc
  · rename_i ty m k ok ho; rw [ho] at hok
    split at hc
    · rename_i kt e hu
      split at hc
      · rename_i q z hq hz
        split at hc
        · rename_i hb
          simp only [Option.some.injEq] at hc; subst hc
          exact s_lookup i r ho (hok m (by simp [Op.operands])) (hok k (by simp [Op.operands])) hu hq hz hb hv
        · cases hc
      · cases hc
    · cases hc
  · rename_i ty m k x ho; rw [ho] at hok
    split at hc
    · rename_i kt e hu
      split at hc
      · rename_i q hq
        simp only [Option.some.injEq] at hc; subst hc
        exact s_mapUpdate i r ho (hok m (by simp [Op.operands])) (hok k (by simp [Op.operands])) (hok x (by simp [Op.operands])) hu hq hv
      · cases hc
    · cases hc
  · rename_i ty m k ho; rw [ho] at hok
    split at hc
    · rename_i kt e hu
      split at hc
      · rename_i q z hq hz
        split at hc
        · rename_i hb
          simp only [Option.some.injEq] at hc; subst hc
          exact s_mapEntry i r ho (hok m (by simp [Op.operands])) (hok k (by simp [Op.operands])) hu hq hz hb hv
        · cases hc
      · cases hc
    · cases hc
  · rename_i ty m s x ho; rw [ho] at hok
    simp only [Option.some.injEq] at hc; subst hc
    exact s_entryStore i r ho (hok m (by simp [Op.operands])) (hok s (by simp [Op.operands])) (hok x (by simp [Op.operands])) hv
  · rename_i ty x ho; rw [ho] at hok
    split at hc
    · rename_i kt e hu
      simp only [Option.some.injEq] at hc; subst hc
      exact s_rangeMap i r ho (hok x (by simp [Op.operands])) hu hv
    · simp only [Option.some.injEq] at hc; subst hc
      simp [opV, opK] at hv
    · cases hc
  · rename_i x s ho; rw [ho] at hok
    split at hc
    · simp only [Option.some.injEq] at hc; subst hc
      simp [opV, opK] at hv
    · rename_i hs
      simp only [Option.some.injEq] at hc; subst hc
      have hs : s = false := by simpa using hs
      subst hs
      exact s_nextMap i r ho (hok x (by simp [Op.operands])) hv
  · rename_i x ho; rw [ho] at hok
    simp only [Option.some.injEq] at hc; subst hc
    exact s_entryMap i r ho (hok x (by simp [Op.operands])) hv
  · rename_i x n ho; rw [ho] at hok
    simp only [Option.some.injEq] at hc; subst hc
    exact s_extract i r ho (hok x (by simp [Op.operands])) hv
  · rename_i c ho; rw [ho] at hok
    split at hc
    · simp only [Option.some.injEq] at hc; subst hc
      cases hnc
    · rename_i b hb
      obtain ⟨callee, args, ats⟩ := c
      simp only at hb; subst hb
      exact builtin_step i r ho hc (fun x hx => hok x (by simpa [Op.operands, Call.operands] using hx)) hv
    · cases hc
  · cases hc

theorem op_sound (i : Inv P ρ h w) (r : TR ρ t a.tmps) {l : LOp} (hc : compOp P o = some l) (hok0 : o.op.operands.all (okOpd P) = true) (hnc : l.isCall = false) (hv : opV call t h l = some (v, h')) : Step1 P o a ρ h w v h' :=
  (op_step i r hc hok0 hnc hv).step1 i
end
end Go.L1
