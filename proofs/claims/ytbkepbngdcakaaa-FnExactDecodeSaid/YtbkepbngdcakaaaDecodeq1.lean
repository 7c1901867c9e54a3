/- Part 2 of a proof of FnExactDecode: the machine of values and its rules, contracts of functions and plain laws. -/
import Derived.Test.YtbkepbngdcakaaaDecodeq0
import Derived.Tactics
import Derived.WalkKit
import Derived.ProofKit
import Derived.OpenShut
import Derived.ShutString
import Derived.ChangeOld
import Derived.Below
import Derived.SizedLaws
import Derived.ChangeArms
import Derived.DataReads
set_option linter.unusedSimpArgs false
set_option linter.unusedVariables false
/- The value-level machine, part 18: what comes back from a call, laid out over new tokens. -/
namespace Go.V
open Go Go.RowKit

structure Lay (w : World) (S : Nat → Prop) (k : Nat) (us : List (Nat × Ob)) (o : Nat → Ob) (hs : List Value) (ff : List (List Nat)) (Q : (Nat → Value) → Prop) : Prop where
  len : ff.length = hs.length
  keys : ∀ p ∈ us, k ≤ p.1 ∧ p.1 < k + hs.length
  rel : ∀ H, (∀ j v, hs[j]? = some v → H (k + j) = v) → Q H ∧ ∀ j f v, ff[j]? = some f → hs[j]? = some v → RelO w S H (laid us o (k + j)) f v

section
variable {w : World} {S : Nat → Prop} {k : Nat} {o : Nat → Ob}

theorem Lay.append {us vs : List (Nat × Ob)} {h1 h2 : List Value} {f1 f2 : List (List Nat)} {Q1 Q2 : (Nat → Value) → Prop} (a : Lay w S k us o h1 f1 Q1) (b : Lay w S (k + h1.length) vs o h2 f2 Q2) :
    Lay w S k (us ++ vs) o (h1 ++ h2) (f1 ++ f2) (fun H => Q1 H ∧ Q2 H) := by
  refine ⟨by simp [a.len, b.len], fun p hp => ?_, fun H hH => ?_⟩
  · rcases List.mem_append.1 hp with hp | hp
    · have := a.keys p hp; simp; omega
    · have := b.keys p hp; simp; omega
  · obtain ⟨q1, r1⟩ := a.rel H fun j v hj => hH j v (by rw [List.getElem?_append_left (lt_of_get hj)]; exact hj)
    obtain ⟨q2, r2⟩ := b.rel H fun j v hj => by
      have := hH (h1.length + j) v (by rw [List.getElem?_append_right (by omega), show h1.length + j - h1.length = j by omega]; exact hj)
      rw [← this]; congr 1; omega
    refine ⟨⟨q1, q2⟩, fun j f v hf hv => ?_⟩
    rw [laid_append]
    by_cases hj : j < h1.length
    · rw [List.getElem?_append_left (by rw [a.len]; exact hj)] at hf
      rw [List.getElem?_append_left hj] at hv
      rw [laid_other vs _ fun p hp => by have := b.keys p hp; omega]
      exact r1 j f v hf hv
    · rw [List.getElem?_append_right (by rw [a.len]; omega), a.len] at hf
      rw [List.getElem?_append_right (by omega)] at hv
      have := r2 (j - h1.length) f v hf hv
      rw [show k + h1.length + (j - h1.length) = k + j by omega] at this
      rw [laid_congr vs (o' := o)]
      · exact this
      · exact laid_other us o fun p hp => by have := a.keys p hp; omega

theorem lay_c {c : Cell} {v : Value} {f : List Nat} (h : RepO w S c v f) (ho : o k = .gone) : Lay w S k (unC k c).2 o [v] [f] (fun H => RelC w S H (unC k c).1 v) := by
  refine ⟨rfl, fun p hp => by have := unC_keys k c p hp; simp; omega, fun H hH => ?_⟩
  obtain ⟨r1, r2⟩ := unC_rel h k (hH 0 v rfl) o ho
  refine ⟨r1, fun j g u hg hu => ?_⟩
  cases j with
  | zero => simp at hg hu; subst hg; subst hu; exact r2
  | succ j => simp at hg

theorem lay_cs : ∀ {cs : List Cell} {vs : List Value} {fs : List Nat}, RepOs w S cs vs fs → ∀ k, (∀ j, j < cs.length → o (k + j) = .gone) →
    ∃ ff, fs = ff.flatten ∧ Lay w S k (unCs k cs).2 o vs ff (fun H => Rels (RelC w S H) (unCs k cs).1 vs)
  | _, _, _, .nil, k, _ => ⟨[], rfl, rfl, by simp [unCs], fun H _ => ⟨.nil, by simp⟩⟩
  | _, _, _, .cons c v f cs vs fs h hs, k, ho => by
    obtain ⟨ff, rfl, hl⟩ := lay_cs hs (k + 1) fun j hj => by have := ho (j + 1) (by simp; omega); rw [← this]; congr 1; omega
    have h1 := lay_c (k := k) (o := o) h (ho 0 (by simp))
    refine ⟨f :: ff, rfl, ?_⟩
    have := h1.append (Q2 := fun H => Rels (RelC w S H) (unCs (k + 1) cs).1 vs) hl
    exact ⟨this.len, this.keys, fun H hH => ⟨.cons (this.rel H hH).1.1 (this.rel H hH).1.2, (this.rel H hH).2⟩⟩

theorem lay_r {r : RT} {v : Value} {f : List Nat} (h : RTRep w S r v f) (k : Nat) (ho : ∀ j, j < r.width → o (k + j) = .gone) :
    ∃ hs ff, hs.length = r.width ∧ f = ff.flatten ∧ Lay w S k (unR k r).2 o hs ff (fun H => RelP w S H (unR k r).1 v) := by
  cases r with
  | c x => exact ⟨[v], [f], rfl, by simp, lay_c h (by have := ho 0 (by simp [RT.width]); simpa using this)⟩
  | a cs =>
    obtain ⟨vs, rfl, h⟩ := h
    obtain ⟨ff, rfl, hl⟩ := lay_cs (o := o) h k ho
    exact ⟨vs, ff, h.length, rfl, hl.len, hl.keys, fun H hH => ⟨⟨vs, rfl, (hl.rel H hH).1⟩, (hl.rel H hH).2⟩⟩
  | p cs =>
    obtain ⟨g, cur, e, fps, rfl, hg, hr, rfl⟩ := h
    obtain ⟨ff, rfl, hl⟩ := lay_cs (o := o) hr (k + 1) fun j hj => by have := ho (j + 1) (by simp [RT.width]; omega); rw [← this]; congr 1; omega
    refine ⟨.pointer (some ⟨g, 0, none⟩) :: cur.toList, [g] :: ff, by simp [RT.width, ← hr.length], by simp, by simp [hl.len], fun p hp => ?_, fun H hH => ?_⟩
    · simp only [unR, List.mem_cons] at hp
      rcases hp with rfl | hp
      · simp
      · have := hl.keys p hp; simp at this ⊢; omega
    · have hk : H k = .pointer (some ⟨g, 0, none⟩) := hH 0 _ rfl
      obtain ⟨q, r⟩ := hl.rel H fun j v hj => by
        have := hH (j + 1) v (by simpa using hj)
        rw [← this]; congr 1; omega
      refine ⟨⟨g, hk, rfl⟩, fun j f v hf hv => ?_⟩
      cases j with
      | zero =>
        simp at hf hv
        subst hf; subst hv
        simp only [unR, laid, Nat.add_zero]
        rw [laid_other _ _ fun p hp => by have := unCs_keys cs (k + 1) p hp; omega, upd_same]
        exact ⟨g, cur, e, rfl, rfl, hg, q⟩
      | succ j =>
        have := r j f v (by simpa using hf) (by simpa using hv)
        simp only [unR, laid]
        rw [show k + (j + 1) = k + 1 + j by omega, laid_congr _ (o' := o)]
        · exact this
        · exact upd_ne _ _ (by omega)

theorem lay_rs : ∀ {rs : List RT} {vs : List Value} {fs : List Nat}, RTsRep w S rs vs fs → ∀ k, (∀ j, j < widths rs → o (k + j) = .gone) →
    ∃ hs ff, hs.length = widths rs ∧ fs = ff.flatten ∧ Lay w S k (unRs k rs).2 o hs ff (fun H => Rels (RelP w S H) (unRs k rs).1 vs)
  | _, _, _, .nil, k, _ => ⟨[], [], rfl, rfl, rfl, by simp [unRs], fun H _ => ⟨.nil, by simp⟩⟩
  | _, _, _, .cons (r := r) (rs := rs) (vs := vs) h hs, k, ho => by
    have hw : widths (r :: rs) = r.width + widths rs := by simp [widths]
    obtain ⟨h1, f1, hl1, rfl, l1⟩ := lay_r (o := o) h k fun j hj => ho j (by omega)
    obtain ⟨h2, f2, hl2, rfl, l2⟩ := lay_rs hs (k + r.width) fun j hj => by have := ho (r.width + j) (by omega); rw [← this]; congr 1; omega
    rw [← hl1] at l2
    have := l1.append l2
    refine ⟨h1 ++ h2, f1 ++ f2, by simp [hl1, hl2, hw], by simp, this.len, ?_, fun H hH => ?_⟩
    · intro p hp
      have := this.keys p (by simpa [unRs, hl1] using hp)
      exact this
    · have := this.rel H hH
      refine ⟨?_, ?_⟩
      · have h3 := this.1
        rw [hl1] at h3
        exact .cons h3.1 h3.2
      · have h3 := this.2
        rw [hl1] at h3
        exact h3

theorem flat_get {ff : List (List Nat)} {j : Nat} {f : List Nat} (h : ff[j]? = some f) {b : Nat} (hb : b ∈ f) : b ∈ ff.flatten := List.mem_flatten.2 ⟨f, List.mem_of_getElem? h, hb⟩
theorem flat_one : ∀ {ff : List (List Nat)}, ff.flatten.Nodup → ∀ {i j : Nat} {f g : List Nat} {b : Nat}, ff[i]? = some f → ff[j]? = some g → b ∈ f → b ∈ g → i = j
  | [], _, i, j, f, g, b, hi, _, _, _ => by simp at hi
  | x :: ff, h, i, j, f, g, b, hi, hj, hf, hg => by
    simp only [List.flatten_cons, List.nodup_append] at h
    obtain ⟨h1, h2, h3⟩ := h
    cases i with
    | zero =>
      cases j with
      | zero => rfl
      | succ j => simp at hi hj; subst hi; exact absurd rfl (h3 b hf b (flat_get hj hg))
    | succ i =>
      cases j with
      | zero => simp at hi hj; subst hj; exact absurd rfl (h3 b hg b (flat_get hi hf))
      | succ j => simp at hi hj; rw [flat_one h2 hi hj hf hg]
theorem flat_nd : ∀ {ff : List (List Nat)}, ff.flatten.Nodup → ∀ {i : Nat} {f : List Nat}, ff[i]? = some f → f.Nodup
  | [], _, i, f, hi => by simp at hi
  | x :: ff, h, i, f, hi => by
    simp only [List.flatten_cons, List.nodup_append] at h
    cases i with
    | zero => simp at hi; subst hi; exact h.1
    | succ i => simp at hi; exact flat_nd h.2.1 hi
end
end Go.V
/- The value-level machine, part 19: calls by contract. -/
namespace Go.V
open Go Go.RowKit

def Ob.fz : Ob → Ob
  | .row _ _ xs => .frz xs
  | x => x
def frzs (σ : St) : List Nat → List (Nat × Ob)
  | [] => []
  | t :: ts => (t, (σ.o t).fz) :: frzs σ ts

/-- Can it be entered? -/
def callable (P : Program) (f : FuncId) : Bool :=
  match P.funcs[f]? with
  | some fn => !(fn.name == "runtime.NumGoroutine") && fn.body.isSome
  | none => false

/-- A call whose arguments are all read only. -/
def CallA (P : Program) (k : Nat) (σ : St) (op : Op) (E : Eff) : Prop :=
  ∃ f args tys ars res dep, op = .call ⟨.value (.func f), args, tys⟩ ∧ callable P f = true ∧ OkA P f ars res dep ∧ args.toList.mapM (fun x => σ.snap (σ.ev x)) = some ars ∧ widths res ≤ 32 ∧
    E = ⟨resPV (unRs k res).1, (if dep = true then frzs σ (args.toList.flatMap fun x => (σ.ev x).toks) else []) ++ (unRs k res).2, args.toList.flatMap fun x => (σ.ev x).toks⟩

/-- A call whose first argument is a pointer to a box of one's own. -/
def CallP (P : Program) (k : Nat) (σ : St) (op : Op) (E : Eff) : Prop :=
  ∃ f x0 args tys t xs pre ts ars post res, op = .call ⟨.value (.func f), (x0 :: args).toArray, tys⟩ ∧ callable P f = true ∧ OkP P f pre ars post res ∧ σ.ev x0 = .c (.ptr t 0) ∧ σ.o t = .box xs ∧ σ.puts xs = some (pre, ts) ∧
    ts.Nodup ∧ (∀ u ∈ ts, u ∉ args.flatMap fun x => (σ.ev x).toks) ∧ args.mapM (fun x => σ.snap (σ.ev x)) = some ars ∧ widths res + post.length ≤ 32 ∧
    E = ⟨resPV (unRs k res).1, frzs σ (args.flatMap fun x => (σ.ev x).toks) ++ ts.map (fun u => (u, .gone)) ++ (unRs k res).2 ++ (t, .box (unCs (k + widths res) post).1) :: (unCs (k + widths res) post).2, t :: ts ++ args.flatMap fun x => (σ.ev x).toks⟩

section
variable {P : Program} {w0 w w' : World} {F : Own} {A A' : Nat → Prop} {σ : St} {tmps : Nat → Value} {H : Nat → Value} {φ : Nat → List Nat} {S S' : Nat → Prop} {k : Nat} {a : Act} {o : Oper}

theorem laid_frzs (ts : List Nat) {o : Nat → Ob} {t : Nat} (h : o t = σ.o t ∨ o t = (σ.o t).fz) : laid (frzs σ ts) o t = if t ∈ ts then (σ.o t).fz else o t := by
  induction ts generalizing o with
  | nil => simp [frzs, laid]
  | cons u us ih =>
    simp only [frzs, laid]
    by_cases e : t = u
    · subst e
      rw [ih (.inr (upd_same _ _ _)), upd_same]
      simp
    · rw [ih (by rw [upd_ne _ _ e]; exact h), upd_ne _ _ e]
      simp [e]

/-- What is read is there: a row, or a frozen one. -/
theorem rows_there {x : PC} {xs : List (List Cell)} (h : σ.rows x = some xs) : ∀ t ∈ x.toks, ∃ ys, (σ.o t).rows = some ys := by
  intro t ht
  cases x <;> simp [PC.toks] at ht
  case own u => subst ht; simp only [St.rows] at h; exact ⟨xs, h⟩
  case sub u sz off len =>
    subst ht
    simp only [St.rows] at h
    split at h
    · rename_i e sz' ys hu; exact ⟨ys, by rw [hu]; rfl⟩
    · rename_i ys hu; exact ⟨ys, by rw [hu]; rfl⟩
    · cases h
  case ptr u off => simp [St.rows] at h
  case eptr u sz i off => simp [St.rows] at h
theorem snapC_there {x : PC} {c : Cell} (h : σ.snapC x = some c) : ∀ t ∈ x.toks, ∃ ys, (σ.o t).rows = some ys := by
  intro t ht
  unfold St.snapC at h
  split at h
  · simp [PC.toks] at ht
  · simp [PC.toks] at ht
  · simp [PC.toks] at ht
  · cases hr : σ.rows x with
    | none => simp [hr] at h
    | some xs => exact rows_there hr t ht
theorem mapM_mem {α β : Type} {f : α → Option β} : ∀ {xs : List α} {ys : List β}, xs.mapM f = some ys → ∀ x ∈ xs, ∃ y, f x = some y
  | [], _, _, x, hx => by simp at hx
  | z :: xs, ys, h, x, hx => by
    rw [List.mapM_cons] at h
    cases hz : f z with
    | none => simp [hz] at h
    | some y =>
      cases hxs : xs.mapM f with
      | none => simp [hz, hxs] at h
      | some zs =>
        rcases List.mem_cons.1 hx with rfl | hx
        · exact ⟨y, hz⟩
        · exact mapM_mem hxs x hx
theorem snap_there {x : PV} {r : AR} (h : σ.snap x = some r) : ∀ t ∈ x.toks, ∃ ys, (σ.o t).rows = some ys := by
  intro t ht
  unfold St.snap at h
  split at h
  · rename_i p
    cases hc : σ.snapC p with
    | none => simp [hc] at h
    | some c => exact snapC_there hc t ht
  · rename_i xs
    cases hc : xs.mapM σ.snapC with
    | none => simp [hc] at h
    | some cs =>
      simp only [PV.toks, P1.toks, List.mem_flatMap] at ht
      obtain ⟨y, hy, hty⟩ := ht
      obtain ⟨c, hyc⟩ := mapM_mem hc y hy
      exact snapC_there hyc t hty
  · cases h
theorem args_there {args : List Operand} {ars : List AR} (h : args.mapM (fun x => σ.snap (σ.ev x)) = some ars) : ∀ t ∈ args.flatMap (fun x => (σ.ev x).toks), ∃ ys, (σ.o t).rows = some ys := by
  intro t ht
  obtain ⟨x, hx, htx⟩ := List.mem_flatMap.1 ht
  obtain ⟨r, hr⟩ := mapM_mem h x hx
  exact snap_there hr t htx

theorem args_rel (hF : Facts w0 F A σ (fun i => a.tmps.getD i undef) w H φ S) {T : List Nat} : ∀ {args : List Operand} {ars : List AR}, args.mapM (fun x => σ.snap (σ.ev x)) = some ars → (∀ x ∈ args, ∀ t ∈ (σ.ev x).toks, t ∈ T) →
    Rels (ArgRep w (fun b => S b ∨ ∃ t ∈ T, b ∈ φ t)) ars (args.map a.eval)
  | [], ars, h, _ => by simp at h; subst h; exact .nil
  | x :: args, ars, h, hT => by
    rw [List.mapM_cons] at h
    cases hx : σ.snap (σ.ev x) with
    | none => simp [hx] at h
    | some r =>
      cases hxs : args.mapM (fun x => σ.snap (σ.ev x)) with
      | none => simp [hx, hxs] at h
      | some rs =>
        simp [hx, hxs] at h
        subst h
        refine .cons ?_ (args_rel hF hxs fun y hy => hT y (by simp [hy]))
        have := snap_rel hF hx
        have hm : ∀ b, (S b ∨ ∃ t ∈ (σ.ev x).toks, b ∈ φ t) → (S b ∨ ∃ t ∈ T, b ∈ φ t) := fun b hb => hb.imp id fun ⟨t, ht, hb⟩ => ⟨t, hT x (by simp) t ht, hb⟩
        cases r with
        | v c => exact RepR.mono this (fun _ _ => rfl) hm
        | s cs => obtain ⟨vs, e, hr⟩ := this; exact ⟨vs, e, hr.imp fun _ _ h => h.mono (fun _ _ => rfl) hm⟩

theorem run_enter {f : FuncId} (hf : callable P f = true) {args : Array Operand} {tys : Array TypeId} (hop : o.op = .call ⟨.value (.func f), args, tys⟩) : (execOp a.eval o).run P w = .ok (.enter f (args.map a.eval)) w := by
  unfold callable at hf
  split at hf
  · rename_i fn hfn
    simp at hf
    obtain ⟨h1, h2⟩ := hf
    have h2' : fn.body.isNone = false := by cases hb : fn.body <;> simp_all
    simp only [execOp, hop, resolve, Act.eval, Deferred.ofValue, Sem.run_bind, Sem.run_pure, Result.andThen_ok, invoke, callFunc, program, Sem.run]
    have h1' : (fn.name == "runtime.NumGoroutine") = false := by simpa using h1
    simp [hfn, h1', h2']
  · cases hf

theorem call_go {next : Act → World → Prop} {Q : Exit → Act → World → Prop} {f : FuncId} (hf : callable P f = true) {args : Array Operand} {tys : Array TypeId} (hop : o.op = .call ⟨.value (.func f), args, tys⟩) {R : Ending → World → Prop}
    (hc : Calls P f (args.map a.eval) w R) (hR : ∀ e w', R e w' → ∃ v, e = .returned v ∧ next (a.put o.dst v) w') : o.wp P a w next Q := by
  unfold Oper.wp
  rw [run_enter hf hop]
  simp only [Oper.upon]
  refine Calls.mono hc fun e w' h => ?_
  obtain ⟨v, rfl, hn⟩ := hR e w' h
  exact hn

theorem rows_phi (hF : Facts w0 F A σ tmps w H φ S) {t : Nat} {ys : List (List Cell)} (h : (σ.o t).rows = some ys) : (∃ e sz, σ.o t = .row e sz ys) ∨ σ.o t = .frz ys ∧ φ t = [] := by
  cases ht : σ.o t with
  | row e sz xs => rw [ht] at h; simp [Ob.rows] at h; subst h; exact .inl ⟨e, sz, rfl⟩
  | frz xs => rw [ht] at h; simp [Ob.rows] at h; subst h; have := hF.obj t; rw [ht] at this; exact .inr ⟨rfl, this.2⟩
  | box cs => rw [ht] at h; simp [Ob.rows] at h
  | gone => rw [ht] at h; simp [Ob.rows] at h

theorem resRel {xs : List P1} {vs : List Value} (h : Rels (RelP w S H) xs vs) : RelV w S H (resPV xs) (resVal vs) := by
  cases h with
  | nil => exact ⟨[], rfl, .nil⟩
  | cons h hs =>
    cases hs with
    | nil => exact h
    | cons h2 hs => exact ⟨_, rfl, .cons h (.cons h2 hs)⟩

theorem callA_go {next : Act → World → Prop} {Q : Exit → Act → World → Prop} {E : Eff} (h : CallA P k σ o.op E)
    (hF : Facts w0 F A σ (fun i => a.tmps.getD i undef) w H φ S) (hs : a.tmps.size = σ.n) (hdef : a.defers = []) (hd : ∀ d, o.dst = some d → d < σ.n) (hk : ∀ t, k ≤ t → t < k + 32 → ¬ A t) (hA' : ∀ t, A t ∨ k ≤ t ∧ t < k + 32 → A' t) (_ : ∀ t, A' t → A t ∨ k ≤ t ∧ t < k + 32)
    (hn : ∀ a' w', Inv w0 F A' (σ.with o.dst E) a' w' → next a' w') : o.wp P a w next Q := by
  obtain ⟨f, args, tys, ars, res, dep, hop, hf, hok, hars, hw, rfl⟩ := h
  let T := args.toList.flatMap fun x => (σ.ev x).toks
  have hT : ∀ t ∈ T, ∃ ys, (σ.o t).rows = some ys := args_there hars
  have hrel := args_rel hF (T := T) hars fun x hx t ht => List.mem_flatMap.2 ⟨x, hx, ht⟩
  have hAT : ∀ t ∈ T, A t := fun t ht => Classical.byContradiction fun hn => by
    obtain ⟨ys, hy⟩ := hT t ht
    rw [hF.fresh t hn] at hy; simp [Ob.rows] at hy
  have hcall := hok w _ (args.toList.map a.eval) hrel (fun b hb => hb.elim (hF.ro b) fun ⟨t, _, hb⟩ => (hF.apart t b hb).2.1)
  rw [show (args.toList.map a.eval).toArray = args.map a.eval by apply Array.ext'; simp] at hcall
  refine call_go hf hop hcall fun e w' ⟨rv, fr, S', he, hkeep, hres, hfn, hfr, hS'⟩ => ⟨resVal rv, he, ?_⟩
  have hgone : ∀ j, j < widths res → σ.o (k + j) = .gone := fun j hj => hF.fresh _ (hk _ (by omega) (by omega))
  obtain ⟨hs', ff, hsl, rfl, hlay⟩ := lay_rs (o := σ.o) hres k hgone
  let N := widths res
  let rg := fun t => k ≤ t ∧ t < k + N
  have hrgd : ∀ t, Decidable (rg t) := fun t => inferInstanceAs (Decidable (_ ∧ _))
  let fzd := fun t => dep = true ∧ t ∈ T
  let H1 : Nat → Value := fun t => if k ≤ t ∧ t < k + N then hs'.getD (t - k) undef else H t
  let φ' : Nat → List Nat := fun t => if k ≤ t ∧ t < k + N then ff.getD (t - k) [] else if dep = true ∧ t ∈ T then [] else φ t
  let S2 : Nat → Prop := fun b => S' b ∨ S b ∨ dep = true ∧ ∃ t ∈ T, b ∈ φ t
  have hk0 : Keeps (fun b => ∃ t, (fun _ : Nat => False) t ∧ b ∈ φ t) w w' := ⟨hkeep.os, hkeep.tape, hkeep.output, hkeep.size, fun k hk _ => hkeep.block k hk id⟩
  have hrgA : ∀ t, k ≤ t ∧ t < k + N → ¬ A t := fun t ht => hk t ht.1 (by have : N ≤ 32 := hw; omega)
  have hrgT : ∀ t, k ≤ t ∧ t < k + N → t ∉ T := fun t ht hm => hrgA t ht (hAT t hm)
  have hus : ∀ t, laid ((if dep = true then frzs σ T else []) ++ (unRs k res).2) σ.o t = if k ≤ t ∧ t < k + N then laid (unRs k res).2 σ.o t else if dep = true ∧ t ∈ T then (σ.o t).fz else σ.o t := by
    intro t
    rw [laid_append]
    have hbase : laid (if dep = true then frzs σ T else []) σ.o t = if dep = true ∧ t ∈ T then (σ.o t).fz else σ.o t := by
      by_cases hd : dep = true
      · simp only [hd, if_true, true_and]
        exact laid_frzs T (.inl rfl)
      · simp [hd, laid]
    by_cases hr : k ≤ t ∧ t < k + N
    · rw [if_pos hr]
      refine laid_congr _ ?_
      rw [hbase, if_neg fun h => hrgT t hr h.2]
    · rw [if_neg hr, laid_other _ _ fun p hp => by have := unRs_keys res k p hp; intro e; subst e; exact hr this]
      exact hbase
  have hfacts := hF.turns (w' := w') (A' := A') (S' := S2) (o' := laid ((if dep = true then frzs σ T else []) ++ (unRs k res).2) σ.o) (φ' := φ') (H1 := H1) (fun t => (k ≤ t ∧ t < k + N) ∨ dep = true ∧ t ∈ T) (fun _ => False) (fun _ h => h.elim)
    (fun t ht => if_neg fun hr => hrgA t hr ht) (fun t ht => hA' t (.inl ht)) (fun b hb => .inr (.inl hb)) hk0 ?hro ?hoth ?hfresh ?hfp ?hnd ?hS'
  case hro =>
    intro H' hH' t ht
    rw [hus t]
    by_cases hr : k ≤ t ∧ t < k + N
    · rw [if_pos hr]
      have hlt : t - k < hs'.length := by rw [hsl]; omega
      have hltf : t - k < ff.length := by rw [hlay.len]; exact hlt
      have hHr : ∀ j v, hs'[j]? = some v → H' (k + j) = v := fun j v hj => by
        have hjl := lt_of_get hj
        rw [hsl] at hjl
        rw [hH' (k + j) (hA' _ (.inr ⟨by omega, by omega⟩))]
        show (if k ≤ k + j ∧ k + j < k + N then hs'.getD (k + j - k) undef else H (k + j)) = v
        rw [if_pos ⟨by omega, by show k + j < k + widths res; omega⟩, show k + j - k = j by omega]
        simp [List.getD, hj]
      have h2 := (hlay.rel H' hHr).2 (t - k) ff[t - k] hs'[t - k] (by simp [hltf]) (by simp [hlt])
      rw [show k + (t - k) = t by omega] at h2
      have e1 : φ' t = ff[t - k] := by show (if k ≤ t ∧ t < k + N then _ else _) = _; rw [if_pos hr]; simp [List.getD, hltf]
      have e2 : H' t = hs'[t - k] := by have := hHr (t - k) hs'[t - k] (by simp [hlt]); rwa [show k + (t - k) = t by omega] at this
      rw [e1, e2]
      exact h2.mono (fun _ _ => rfl) (fun b hb => .inl hb) (fun _ _ => rfl)
    · have hfz := ht.resolve_left hr
      rw [if_neg hr, if_pos hfz]
      have e1 : φ' t = [] := by show (if k ≤ t ∧ t < k + N then _ else _) = _; rw [if_neg hr, if_pos hfz]
      have e2 : H' t = H t := by rw [hH' t (hA' t (.inl (hAT t hfz.2)))]; exact if_neg hr
      rw [e1, e2]
      obtain ⟨ys, hy⟩ := hT t hfz.2
      have hag : Agree (fun b => S b ∨ ∃ t ∈ T, b ∈ φ t) w w' := hkeep.agree fun b hb => ⟨hb.elim (hF.ro b) fun ⟨t, _, hb⟩ => (hF.apart t b hb).2.1, id⟩
      rcases rows_phi hF hy with ⟨e, sz, hrow⟩ | ⟨hfr', _⟩
      · rw [hrow]
        obtain ⟨_, hO, _⟩ := row_at hF hrow
        exact ⟨((hO.forget (S' := fun b => S b ∨ ∃ t ∈ T, b ∈ φ t) (fun b hb => .inl hb) (fun b hb => .inr ⟨t, hfz.2, hb⟩)).retag (o' := none)).mono hag (fun b hb => .inr (hb.imp id fun h => ⟨hfz.1, h⟩)), rfl⟩
      · rw [hfr']
        obtain ⟨_, hR⟩ := frz_at hF hfr'
        exact ⟨hR.mono (hkeep.agree fun b hb => ⟨hF.ro b hb, id⟩) (fun b hb => .inr (.inl hb)), rfl⟩
  case hoth =>
    intro t ht
    have h1 : ¬ (k ≤ t ∧ t < k + N) := fun h => ht (.inl h)
    have h2 : ¬ (dep = true ∧ t ∈ T) := fun h => ht (.inr h)
    refine ⟨by rw [hus t, if_neg h1, if_neg h2], ?_⟩
    show (if k ≤ t ∧ t < k + N then _ else if _ then _ else _) = _
    rw [if_neg h1, if_neg h2]
  case hfresh =>
    intro t ht
    have h1 : ¬ (k ≤ t ∧ t < k + N) := fun h => ht (hA' t (.inr ⟨h.1, by have : N ≤ 32 := hw; omega⟩))
    have h2 : ¬ (dep = true ∧ t ∈ T) := fun h => ht (hA' t (.inl (hAT t h.2)))
    rw [hus t, if_neg h1, if_neg h2]
    exact hF.fresh t fun h => ht (hA' t (.inl h))
  case hfp =>
    intro t ht b hb
    by_cases hr : k ≤ t ∧ t < k + N
    · have hltf : t - k < ff.length := by rw [hlay.len, hsl]; omega
      have e1 : φ' t = ff[t - k] := by show (if k ≤ t ∧ t < k + N then _ else _) = _; rw [if_pos hr]; simp [List.getD, hltf]
      rw [e1] at hb
      have hbf : b ∈ ff.flatten := flat_get (j := t - k) (by simp [hltf]) hb
      obtain ⟨b1, b2, b3⟩ := hfr b hbf
      refine ⟨?_, b2, .inr b1, fun t' ht' hb' => ?_⟩
      · rintro (h | h | ⟨_, t', _, h⟩)
        · exact b3 h
        · have := hF.ro b h; omega
        · have := (hF.apart t' b h).2.1; omega
      · by_cases hr' : k ≤ t' ∧ t' < k + N
        · have hltf' : t' - k < ff.length := by rw [hlay.len, hsl]; omega
          have e2 : φ' t' = ff[t' - k] := by show (if k ≤ t' ∧ t' < k + N then _ else _) = _; rw [if_pos hr']; simp [List.getD, hltf']
          rw [e2] at hb'
          have := flat_one hfn (i := t - k) (j := t' - k) (by simp [hltf]) (by simp [hltf']) hb hb'
          omega
        · have e2 : φ' t' = [] := by show (if k ≤ t' ∧ t' < k + N then _ else if _ then _ else _) = _; rw [if_neg hr', if_pos (ht'.resolve_left hr')]
          rw [e2] at hb'; simp at hb'
    · have e1 : φ' t = [] := by show (if k ≤ t ∧ t < k + N then _ else if _ then _ else _) = _; rw [if_neg hr, if_pos (ht.resolve_left hr)]
      rw [e1] at hb; simp at hb
  case hnd =>
    intro t ht
    by_cases hr : k ≤ t ∧ t < k + N
    · have hltf : t - k < ff.length := by rw [hlay.len, hsl]; omega
      have e1 : φ' t = ff[t - k] := by show (if k ≤ t ∧ t < k + N then _ else _) = _; rw [if_pos hr]; simp [List.getD, hltf]
      rw [e1]
      exact flat_nd hfn (i := t - k) (by simp [hltf])
    · have e1 : φ' t = [] := by show (if k ≤ t ∧ t < k + N then _ else if _ then _ else _) = _; rw [if_neg hr, if_pos (ht.resolve_left hr)]
      rw [e1]; exact List.nodup_nil
  case hS' =>
    rintro b (h | h | ⟨hd, t, ht, h⟩)
    · obtain ⟨h1, h2⟩ := hS' b h
      refine ⟨h1, ?_⟩
      rcases h2 with h2 | ⟨hd, h2 | ⟨t, ht, h2⟩⟩
      · exact .inr (.inr h2)
      · exact .inl h2
      · exact .inr (.inl ⟨t, .inr ⟨hd, ht⟩, h2⟩)
    · exact ⟨Nat.lt_of_lt_of_le (hF.ro b h) hkeep.size, .inl h⟩
    · exact ⟨Nat.lt_of_lt_of_le (hF.apart t b h).2.1 hkeep.size, .inr (.inl ⟨t, .inr ⟨hd, ht⟩, h⟩)⟩
  refine hn _ _ (Inv.mk (σ := σ) hs hdef hd hfacts (x := resPV (unRs k res).1) (fun H' hH' => ?_) rfl rfl)
  have hHr : ∀ j v, hs'[j]? = some v → H' (k + j) = v := fun j v hj => by
    have hjl := lt_of_get hj
    rw [hsl] at hjl
    rw [hH' (k + j) (hA' _ (.inr ⟨by omega, by omega⟩))]
    show (if k ≤ k + j ∧ k + j < k + N then hs'.getD (k + j - k) undef else H (k + j)) = v
    rw [if_pos ⟨by omega, by show k + j < k + widths res; omega⟩, show k + j - k = j by omega]
    simp [List.getD, hj]
  exact RelV.mono (fun _ _ => rfl) (fun b hb => .inl hb) (resRel (hlay.rel H' hHr).1)

end
end Go.V
/- The value-level machine, part 20: calls that turn the struct of their first argument. -/
namespace Go.V
open Go Go.RowKit

section
variable {P : Program} {w0 w w' : World} {F : Own} {A A' : Nat → Prop} {σ : St} {tmps : Nat → Value} {H : Nat → Value} {φ : Nat → List Nat} {S S' : Nat → Prop} {k : Nat} {a : Act} {o : Oper}

theorem puts_there : ∀ {xs : List PC} {cs : List Cell} {ts : List Nat}, σ.puts xs = some (cs, ts) → ∀ t ∈ ts, ∃ ys, (σ.o t).rows = some ys
  | [], cs, ts, h, t, ht => by simp [St.puts] at h; rw [h.2] at ht; simp at ht
  | x :: xs, cs, ts, h, t, ht => by
    simp only [St.puts] at h
    cases h1 : σ.put1 x with
    | none => simp [h1] at h
    | some r =>
      cases h2 : σ.puts xs with
      | none => simp [h1, h2] at h
      | some s =>
        simp [h1, h2] at h
        obtain ⟨_, rfl⟩ := h
        rcases List.mem_append.1 ht with ht | ht
        · cases x <;> simp [St.put1] at h1 <;> try (subst h1; simp at ht; done)
          split at h1
          · rename_i u e sz ys hu; cases h1; simp at ht; subst ht; exact ⟨ys, by rw [hu]; rfl⟩
          · cases h1; simp at ht
          · cases h1
        · exact puts_there h2 t ht

theorem callP_go {next : Act → World → Prop} {Q : Exit → Act → World → Prop} {E : Eff} (h : CallP P k σ o.op E)
    (hF : Facts w0 F A σ (fun i => a.tmps.getD i undef) w H φ S) (hs : a.tmps.size = σ.n) (hdef : a.defers = []) (hd : ∀ d, o.dst = some d → d < σ.n) (hk : ∀ t, k ≤ t → t < k + 32 → ¬ A t) (hA' : ∀ t, A t ∨ k ≤ t ∧ t < k + 32 → A' t)
    (hn : ∀ a' w', Inv w0 F A' (σ.with o.dst E) a' w' → next a' w') : o.wp P a w next Q := by
  obtain ⟨f, x0, args, tys, t0, xs, pre, ts, ars, post, res, hop, hf, hok, hx0, hbox, hputs, hnd, hdis, hars, hw, rfl⟩ := h
  let T := args.flatMap fun x => (σ.ev x).toks
  have hT : ∀ t ∈ T, ∃ ys, (σ.o t).rows = some ys := args_there hars
  have hrel := args_rel hF (T := T) hars fun x hx t ht => List.mem_flatMap.2 ⟨x, hx, ht⟩
  have hAT : ∀ t ∈ T, A t := fun t ht => Classical.byContradiction fun hn => by
    obtain ⟨ys, hy⟩ := hT t ht
    rw [hF.fresh t hn] at hy; simp [Ob.rows] at hy
  obtain ⟨g, cur, e, hAt0, hHt, hφt, hheap, hcells⟩ := box_at hF hbox
  obtain ⟨hpre, hAts, -, -⟩ := puts_rel hF hputs (hcells H fun _ _ => rfl)
  have ht0T : t0 ∉ T := fun hm => by obtain ⟨ys, hy⟩ := hT t0 hm; rw [hbox] at hy; simp [Ob.rows] at hy
  have hφts : ∀ b, b ∈ ts.flatMap φ ↔ ∃ t ∈ ts, b ∈ φ t := fun b => List.mem_flatMap
  have ht0ts : t0 ∉ ts := fun hm => by obtain ⟨ys, hy⟩ := puts_there hputs t0 hm; rw [hbox] at hy; simp [Ob.rows] at hy
  have hgfps : (g :: ts.flatMap φ).Nodup := by
    refine List.nodup_cons.2 ⟨fun hm => ?_, flat_nodup hF hnd⟩
    obtain ⟨t, ht, hb⟩ := (hφts g).1 hm
    exact ht0ts ((hF.apart t g hb).2.2.2 t0 (by rw [hφt]; simp) ▸ ht)
  have hblk : ∀ b, b ∈ g :: ts.flatMap φ ↔ ∃ t, (t = t0 ∨ t ∈ ts) ∧ b ∈ φ t := fun b => by
    rw [List.mem_cons, hφts]
    constructor
    · rintro (rfl | ⟨t, ht, hb⟩)
      · exact ⟨t0, .inl rfl, by rw [hφt]; simp⟩
      · exact ⟨t, .inr ht, hb⟩
    · rintro ⟨t, rfl | ht, hb⟩
      · rw [hφt] at hb; simp at hb; exact .inl hb
      · exact .inr ⟨t, ht, hb⟩
  have hcall := hok w _ (args.map a.eval) g cur e (ts.flatMap φ) hrel hheap (hpre.mono (fun _ _ => rfl) (fun _ _ => rfl) (fun b hb => .inl hb)) hgfps (fun b hb => by
      obtain ⟨t, ht, hb⟩ := (hblk b).1 hb
      refine ⟨?_, (hF.apart t b hb).2.1⟩
      rintro (hS | ⟨t', ht', hb'⟩)
      · exact (hF.apart t b hb).1 hS
      · have := (hF.apart t b hb).2.2.2 t' hb'
        subst this
        rcases ht with rfl | ht
        · exact ht0T ht'
        · exact hdis _ ht ht') (fun b hb => hb.elim (hF.ro b) fun ⟨t, _, hb⟩ => (hF.apart t b hb).2.1)
  have hev0 : a.eval x0 = .pointer (some ⟨g, 0, none⟩) := by
    have := known_ev hF hx0 H fun _ _ => rfl
    obtain ⟨g', h1, h2⟩ := this
    rw [hHt] at h1; cases h1; exact h2
  rw [show (Value.pointer (some ⟨g, 0, none⟩) :: args.map a.eval).toArray = (x0 :: args).toArray.map a.eval by rw [← hev0]; simp] at hcall
  refine call_go hf hop hcall fun en w' ⟨rv, fr, S', cur', e', fps', he, hkeep, hres, hheap', hpost, hfn, hfr, hS'⟩ => ⟨resVal rv, he, ?_⟩
  have hgone : ∀ j, j < widths res → σ.o (k + j) = .gone := fun j hj => hF.fresh _ (hk _ (by omega) (by omega))
  obtain ⟨hs1, ff1, hsl1, rfl, hlay1⟩ := lay_rs (o := σ.o) hres k hgone
  obtain ⟨ff2, rfl, hlay2⟩ := lay_cs (o := σ.o) hpost (k + hs1.length) (fun j hj => hF.fresh _ (hk _ (by omega) (by omega)))
  have hpl : cur'.toList.length = post.length := hpost.length
  have hlay := hlay1.append hlay2
  let N := hs1.length + cur'.toList.length
  let us := (unRs k res).2 ++ (unCs (k + hs1.length) post).2
  let hs' := hs1 ++ cur'.toList
  let ff := ff1 ++ ff2
  have hsl : hs'.length = N := by simp [hs', N]
  have hN : N ≤ 32 := by simp only [N]; omega
  have hff : (ff.flatten).Nodup := by
    have : ff.flatten = ff1.flatten ++ ff2.flatten := by simp [ff]
    rw [this]
    exact (List.Sublist.append_left (List.sublist_cons_self g _) _).nodup hfn
  have hgff : g ∉ ff.flatten := by
    have : ff.flatten = ff1.flatten ++ ff2.flatten := by simp [ff]
    rw [this]
    intro hm
    rw [List.nodup_append] at hfn
    obtain ⟨_, h2, h3⟩ := hfn
    rcases List.mem_append.1 hm with hm | hm
    · exact h3 g hm g (by simp) rfl
    · exact (List.nodup_cons.1 h2).1 hm
  have hfb : ∀ b ∈ ff.flatten, (b ∈ g :: ts.flatMap φ ∨ w.heap.size ≤ b) ∧ b < w'.heap.size ∧ ¬ S' b := fun b hb => hfr b (by
    have : ff.flatten = ff1.flatten ++ ff2.flatten := by simp [ff]
    rw [this] at hb
    rcases List.mem_append.1 hb with hb | hb
    · exact List.mem_append_left _ hb
    · exact List.mem_append_right _ (List.mem_cons_of_mem _ hb))
  have hgb := hfr g (by simp)
  let o' := laid (frzs σ T ++ ts.map (fun u => (u, Ob.gone)) ++ (unRs k res).2 ++ (t0, Ob.box (unCs (k + widths res) post).1) :: (unCs (k + widths res) post).2) σ.o
  let H1 : Nat → Value := fun t => if k ≤ t ∧ t < k + N then hs'.getD (t - k) undef else H t
  let φ' : Nat → List Nat := fun t => if k ≤ t ∧ t < k + N then ff.getD (t - k) [] else if t = t0 then [g] else if t ∈ ts ∨ t ∈ T then [] else φ t
  let S2 : Nat → Prop := fun b => S' b ∨ S b ∨ ∃ t ∈ T, b ∈ φ t
  have hrgA : ∀ t, k ≤ t ∧ t < k + N → ¬ A t := fun t ht => hk t ht.1 (by omega)
  have hr0 : ¬ (k ≤ t0 ∧ t0 < k + N) := fun h => hrgA _ h hAt0
  have hrT : ∀ t, t ∈ T → ¬ (k ≤ t ∧ t < k + N) := fun t ht h => hrgA _ h (hAT t ht)
  have hrts : ∀ t, t ∈ ts → ¬ (k ≤ t ∧ t < k + N) := fun t ht h => hrgA _ h (hAts t ht)
  have hkeys1 : ∀ p ∈ (unRs k res).2, k ≤ p.1 ∧ p.1 < k + N := fun p hp => by have := unRs_keys res k p hp; simp only [N]; omega
  have hkeys2 : ∀ p ∈ (unCs (k + widths res) post).2, k ≤ p.1 ∧ p.1 < k + N := fun p hp => by have := unCs_keys post (k + widths res) p hp; simp only [N]; omega
  have hbase : ∀ t, laid (frzs σ T ++ ts.map (fun u => (u, Ob.gone))) σ.o t = if t ∈ ts then .gone else if t ∈ T then (σ.o t).fz else σ.o t := by
    intro t
    rw [laid_append, laid_gone]
    show (if t ∈ ts then Ob.gone else laid (frzs σ T) σ.o t) = _
    rw [laid_frzs T (.inl rfl)]
  have ho' : ∀ t, o' t = if k ≤ t ∧ t < k + N then laid us σ.o t else if t = t0 then Ob.box (unCs (k + widths res) post).1 else if t ∈ ts then .gone else if t ∈ T then (σ.o t).fz else σ.o t := by
    intro t
    show laid _ σ.o t = _
    rw [laid_append, laid_append]
    simp only [laid]
    by_cases hr : k ≤ t ∧ t < k + N
    · rw [if_pos hr]
      show _ = laid ((unRs k res).2 ++ (unCs (k + hs1.length) post).2) σ.o t
      rw [laid_append (unRs k res).2, hsl1]
      refine laid_congr _ ?_
      rw [upd_ne _ _ (by intro e; subst e; exact hr0 hr)]
      refine laid_congr _ ?_
      rw [hbase, if_neg fun h => hrts t h hr, if_neg fun h => hrT t h hr]
    · rw [if_neg hr, laid_other _ _ fun p hp => by have := hkeys2 p hp; intro e; subst e; exact hr this]
      by_cases e : t = t0
      · subst e; rw [upd_same, if_pos rfl]
      · rw [upd_ne _ _ e, if_neg e, laid_other _ _ fun p hp => by have := hkeys1 p hp; intro e; subst e; exact hr this, hbase]
  have hHr : ∀ H' : Nat → Value, (∀ t, A' t → H' t = H1 t) → ∀ j v, hs'[j]? = some v → H' (k + j) = v := fun H' hH' j v hj => by
    have hjl := lt_of_get hj
    rw [hsl] at hjl
    rw [hH' (k + j) (hA' _ (.inr ⟨by omega, by omega⟩))]
    show (if k ≤ k + j ∧ k + j < k + N then hs'.getD (k + j - k) undef else H (k + j)) = v
    rw [if_pos ⟨by omega, by omega⟩, show k + j - k = j by omega]
    simp [List.getD, hj]
  have eR : ∀ t, k ≤ t ∧ t < k + N → φ' t = ff.getD (t - k) [] := fun t hr => if_pos hr
  have e0 : φ' t0 = [g] := by show (if _ then _ else if _ then _ else _) = _; rw [if_neg hr0, if_pos rfl]
  have eT : ∀ t, ¬ (k ≤ t ∧ t < k + N) → t ≠ t0 → t ∈ ts ∨ t ∈ T → φ' t = [] := fun t h1 h2 h3 => by show (if _ then _ else if _ then _ else if _ then _ else _) = _; rw [if_neg h1, if_neg h2, if_pos h3]
  have hlff : ∀ t, k ≤ t ∧ t < k + N → ∃ f, ff[t - k]? = some f ∧ φ' t = f := fun t hr => by
    have hltf : t - k < ff.length := by rw [hlay.len, hsl]; omega
    exact ⟨ff[t - k], by simp [hltf], by rw [eR t hr]; simp [List.getD, hltf]⟩
  have hfacts := hF.turns (w' := w') (A' := A') (S' := S2) (o' := o') (φ' := φ') (H1 := H1) (fun t => (k ≤ t ∧ t < k + N) ∨ t = t0 ∨ t ∈ ts ∨ t ∈ T) (fun t => t = t0 ∨ t ∈ ts) (fun t h => h.elim (fun h => .inr (.inl h)) fun h => .inr (.inr (.inl h)))
    (fun t ht => if_neg fun hr => hrgA t hr ht) (fun t ht => hA' t (.inl ht)) (fun b hb => .inr (.inl hb)) ⟨hkeep.os, hkeep.tape, hkeep.output, hkeep.size, fun b hb hc => hkeep.block b hb fun hm => hc ((hblk b).1 hm)⟩ ?hro ?hoth ?hfresh ?hfp ?hnd ?hS'
  case hro =>
    intro H' hH' t ht
    rw [ho' t]
    by_cases hr : k ≤ t ∧ t < k + N
    · rw [if_pos hr]
      have hlt : t - k < hs'.length := by rw [hsl]; omega
      obtain ⟨f, hf1, hf2⟩ := hlff t hr
      have h2 := (hlay.rel H' (hHr H' hH')).2 (t - k) f hs'[t - k] hf1 (by simp [hs'] at hlt ⊢)
      rw [show k + (t - k) = t by omega] at h2
      have e2 : H' t = hs'[t - k] := by have := hHr H' hH' (t - k) hs'[t - k] (by simp [hlt]); rwa [show k + (t - k) = t by omega] at this
      rw [hf2, e2]
      exact h2.mono (fun _ _ => rfl) (fun b hb => .inl hb) (fun _ _ => rfl)
    · rw [if_neg hr]
      by_cases e : t = t0
      · subst e
        rw [if_pos rfl, e0, hH' t (hA' t (.inl hAt0))]
        have hp := (hlay2.rel H' fun j v hj => by
          have := hHr H' hH' (hs1.length + j) v (by simp only [hs']; rw [List.getElem?_append_right (by omega), show hs1.length + j - hs1.length = j by omega]; exact hj)
          rw [← this]; congr 1; omega).1
        refine ⟨g, cur', e', by show (if _ then _ else _) = _; rw [if_neg hr0, hHt], rfl, hheap', ?_⟩
        rw [← hsl1]
        exact hp.imp fun _ _ h => RelC.mono (fun _ _ => rfl) (fun b hb => .inl hb) h
      · rw [if_neg e]
        have h3 : t ∈ ts ∨ t ∈ T := (ht.resolve_left hr).resolve_left e
        rw [eT t hr e h3]
        by_cases hts : t ∈ ts
        · rw [if_pos hts]; rfl
        · rw [if_neg hts]
          have hTt := h3.resolve_left hts
          rw [if_pos hTt]
          have e2 : H' t = H t := by rw [hH' t (hA' t (.inl (hAT t hTt)))]; exact if_neg hr
          rw [e2]
          obtain ⟨ys, hy⟩ := hT t hTt
          have hag : Agree (fun b => S b ∨ ∃ t ∈ T, b ∈ φ t) w w' := hkeep.agree fun b hb => ⟨hb.elim (hF.ro b) fun ⟨t, _, hb⟩ => (hF.apart t b hb).2.1, fun hm => by
            obtain ⟨u, hu, hbu⟩ := (hblk b).1 hm
            rcases hb with hb | ⟨t', ht', hb⟩
            · exact (hF.apart u b hbu).1 hb
            · have := (hF.apart u b hbu).2.2.2 t' hb
              subst this
              rcases hu with rfl | hu
              · exact ht0T ht'
              · exact hdis _ hu ht'⟩
          rcases rows_phi hF hy with ⟨e, sz, hrow⟩ | ⟨hfr', _⟩
          · rw [hrow]
            obtain ⟨_, hO, _⟩ := row_at hF hrow
            exact ⟨((hO.forget (S' := fun b => S b ∨ ∃ t ∈ T, b ∈ φ t) (fun b hb => .inl hb) (fun b hb => .inr ⟨t, hTt, hb⟩)).retag (o' := none)).mono hag (fun b hb => .inr hb), rfl⟩
          · rw [hfr']
            obtain ⟨_, hR⟩ := frz_at hF hfr'
            exact ⟨hR.mono (fun b hb => hag b (.inl hb)) (fun b hb => .inr (.inl hb)), rfl⟩
  case hoth =>
    intro t ht
    simp only [not_or] at ht
    obtain ⟨h1, h2, h3, h4⟩ := ht
    refine ⟨by rw [ho' t, if_neg h1, if_neg h2, if_neg h3, if_neg h4], ?_⟩
    show (if _ then _ else if _ then _ else if _ then _ else _) = _
    rw [if_neg h1, if_neg h2, if_neg fun h => h.elim h3 h4]
  case hfresh =>
    intro t ht
    have h1 : ¬ (k ≤ t ∧ t < k + N) := fun h => ht (hA' t (.inr ⟨h.1, by omega⟩))
    have h2 : t ≠ t0 := fun h => ht (hA' t (.inl (h ▸ hAt0)))
    have h3 : t ∉ ts := fun h => ht (hA' t (.inl (hAts t h)))
    have h4 : t ∉ T := fun h => ht (hA' t (.inl (hAT t h)))
    rw [ho' t, if_neg h1, if_neg h2, if_neg h3, if_neg h4]
    exact hF.fresh t fun h => ht (hA' t (.inl h))
  case hfp =>
    have hkey : ∀ b, (b ∈ g :: ts.flatMap φ ∨ w.heap.size ≤ b) → ¬ S' b → ¬ S2 b := fun b hb hns => by
      rintro (h | h | ⟨t', ht', h⟩)
      · exact hns h
      · rcases hb with hb | hb
        · obtain ⟨u, _, hbu⟩ := (hblk b).1 hb
          exact (hF.apart u b hbu).1 h
        · have := hF.ro b h; omega
      · rcases hb with hb | hb
        · obtain ⟨u, hu, hbu⟩ := (hblk b).1 hb
          have := (hF.apart u b hbu).2.2.2 t' h
          subst this
          rcases hu with rfl | hu
          · exact ht0T ht'
          · exact hdis _ hu ht'
        · have := (hF.apart t' b h).2.1; omega
    have hold : ∀ b, (b ∈ g :: ts.flatMap φ ∨ w.heap.size ≤ b) → (∃ t', ((k ≤ t' ∧ t' < k + N) ∨ t' = t0 ∨ t' ∈ ts ∨ t' ∈ T) ∧ b ∈ φ t') ∨ w.heap.size ≤ b := fun b hb => hb.imp (fun hb => by
      obtain ⟨u, hu, hbu⟩ := (hblk b).1 hb
      exact ⟨u, .inr (hu.imp id .inl), hbu⟩) id
    intro t ht b hb
    by_cases hr : k ≤ t ∧ t < k + N
    · obtain ⟨f, hf1, hf2⟩ := hlff t hr
      rw [hf2] at hb
      have hbf : b ∈ ff.flatten := flat_get hf1 hb
      obtain ⟨b1, b2, b3⟩ := hfb b hbf
      refine ⟨hkey b b1 b3, b2, hold b b1, fun t' ht' hb' => ?_⟩
      by_cases hr' : k ≤ t' ∧ t' < k + N
      · obtain ⟨f', hf1', hf2'⟩ := hlff t' hr'
        rw [hf2'] at hb'
        have := flat_one hff hf1 hf1' hb hb'
        omega
      · by_cases e : t' = t0
        · subst e; rw [e0] at hb'; simp at hb'; subst hb'; exact absurd hbf hgff
        · rw [eT t' hr' e ((ht'.resolve_left hr').resolve_left e)] at hb'; simp at hb'
    · by_cases e : t = t0
      · subst e
        rw [e0] at hb; simp at hb; subst hb
        obtain ⟨b1, b2, b3⟩ := hgb
        refine ⟨hkey b b1 b3, b2, hold b b1, fun t' ht' hb' => ?_⟩
        by_cases hr' : k ≤ t' ∧ t' < k + N
        · obtain ⟨f', hf1', hf2'⟩ := hlff t' hr'
          rw [hf2'] at hb'
          exact absurd (flat_get hf1' hb') hgff
        · by_cases e : t' = t
          · exact e
          · rw [eT t' hr' e ((ht'.resolve_left hr').resolve_left e)] at hb'; simp at hb'
      · rw [eT t hr e ((ht.resolve_left hr).resolve_left e)] at hb; simp at hb
  case hnd =>
    intro t ht
    by_cases hr : k ≤ t ∧ t < k + N
    · obtain ⟨f, hf1, hf2⟩ := hlff t hr
      rw [hf2]
      exact flat_nd hff hf1
    · by_cases e : t = t0
      · subst e; rw [e0]; simp
      · rw [eT t hr e ((ht.resolve_left hr).resolve_left e)]; exact List.nodup_nil
  case hS' =>
    rintro b (h | h | ⟨t, ht, h⟩)
    · obtain ⟨h1, h2⟩ := hS' b h
      refine ⟨h1, ?_⟩
      rcases h2 with h2 | (h2 | ⟨t, ht, h2⟩) | h2
      · exact .inr (.inr h2)
      · exact .inl h2
      · exact .inr (.inl ⟨t, .inr (.inr (.inr ht)), h2⟩)
      · obtain ⟨u, hu, hbu⟩ := (hblk b).1 h2
        exact .inr (.inl ⟨u, .inr (hu.imp id .inl), hbu⟩)
    · exact ⟨Nat.lt_of_lt_of_le (hF.ro b h) hkeep.size, .inl h⟩
    · exact ⟨Nat.lt_of_lt_of_le (hF.apart t b h).2.1 hkeep.size, .inr (.inl ⟨t, .inr (.inr (.inr ht)), h⟩)⟩
  refine hn _ _ (Inv.mk (σ := σ) hs hdef hd hfacts (x := resPV (unRs k res).1) (fun H' hH' => ?_) rfl rfl)
  exact RelV.mono (fun _ _ => rfl) (fun b hb => .inl hb) (resRel (hlay.rel H' (hHr H' hH')).1.1)

end
end Go.V
/- The value-level machine, part 20b: calls that write into slices handed over. -/
namespace Go.V
open Go Go.RowKit

/-- A contract: the first arguments' slices (of cells, or of structs' cells) are handed over as one's own; behind the call the same headers lead to other content. -/
def OkM (P : Program) (f : FuncId) (pre : List RT) (args : List AR) (post : List RT) (res : List RT) : Prop :=
  ∀ (w : World) (S : Nat → Prop) (us vs : List Value) (fp : List Nat), RTsRep w S pre us fp → Rels (ArgRep w S) args vs → fp.Nodup → (∀ b ∈ fp, ¬ S b ∧ b < w.heap.size) → (∀ b, S b → b < w.heap.size) →
    Calls P f (us ++ vs).toArray w fun en w' => ∃ rv fr S' fp', en = .returned (resVal rv) ∧ Keeps (· ∈ fp) w w' ∧ RTsRep w' S' res rv fr ∧ RTsRep w' S' post us fp' ∧ (fr ++ fp').Nodup ∧
      (∀ b ∈ fr ++ fp', (b ∈ fp ∨ w.heap.size ≤ b) ∧ b < w'.heap.size ∧ ¬ S' b) ∧ ∀ b, S' b → b < w'.heap.size ∧ (w.heap.size ≤ b ∨ S b ∨ b ∈ fp)

theorem RTRep.more {w : World} {S S2 : Nat → Prop} {r : RT} {v : Value} {f : List Nat} (h : RTRep w S r v f) (hS : ∀ b, S b → S2 b) : RTRep w S2 r v f := by
  cases r with
  | c x => exact RepO.mono h (fun _ _ => rfl) (fun _ _ => rfl) hS
  | a cs => obtain ⟨vs, e, h⟩ := h; exact ⟨vs, e, h.mono (fun _ _ => rfl) (fun _ _ => rfl) hS⟩
  | p cs => obtain ⟨g, cur, e, fps, h1, h2, h3, h4⟩ := h; exact ⟨g, cur, e, fps, h1, h2, h3.mono (fun _ _ => rfl) (fun _ _ => rfl) hS, h4⟩
theorem RTsRep.more {w : World} {S S2 : Nat → Prop} {rs : List RT} {vs : List Value} {fs : List Nat} (h : RTsRep w S rs vs fs) (hS : ∀ b, S b → S2 b) : RTsRep w S2 rs vs fs := by
  induction h with
  | nil => exact .nil
  | cons h _ ih => exact .cons (h.more hS) ih

def St.mputs (σ : St) : List PV → Option (List RT × List Nat)
  | [] => some ([], [])
  | .v (.c x) :: l => (σ.put1 x).bind fun (c, ts) => (σ.mputs l).bind fun (rs, us) => some (.c c :: rs, ts ++ us)
  | .v (.a xs) :: l => (σ.puts xs).bind fun (cs, ts) => (σ.mputs l).bind fun (rs, us) => some (.a cs :: rs, ts ++ us)
  | .t _ :: _ => none
def renewC (x : PC) (c : Cell) : Option (List (Nat × Ob)) :=
  match c with
  | .sl (some (e, sz)) ys => match x with
    | .own t => some [(t, .row e sz ys)]
    | _ => none
  | _ => some []
def renewCs : List PC → List Cell → Option (List (Nat × Ob))
  | [], [] => some []
  | x :: xs, c :: cs => (renewC x c).bind fun a => (renewCs xs cs).bind fun b => some (a ++ b)
  | _, _ => none
def renewRs : List PV → List RT → Option (List (Nat × Ob))
  | [], [] => some []
  | .v (.c x) :: l, .c c :: rs => (renewC x c).bind fun a => (renewRs l rs).bind fun b => some (a ++ b)
  | .v (.a xs) :: l, .a cs :: rs => (renewCs xs cs).bind fun a => (renewRs l rs).bind fun b => some (a ++ b)
  | _, _ => none

def Renew (w : World) (S : Nat → Prop) (H : Nat → Value) (nr : List (Nat × Ob)) (ft : List (List Nat)) : Prop :=
  ft.length = nr.length ∧ ∀ (i : Nat) (p : Nat × Ob) (f : List Nat), nr[i]? = some p → ft[i]? = some f → ∃ e sz ys, p.2 = .row e sz ys ∧ 0 < sz ∧ RepO w S (.sl (some (e, sz)) ys) (H p.1) f

section
variable {P : Program} {w0 w w' : World} {F : Own} {A A' : Nat → Prop} {σ : St} {tmps : Nat → Value} {H : Nat → Value} {φ : Nat → List Nat} {S S' : Nat → Prop} {k : Nat} {a : Act} {o : Oper}

theorem Renew.append {n1 n2 : List (Nat × Ob)} {f1 f2 : List (List Nat)} (h1 : Renew w S H n1 f1) (h2 : Renew w S H n2 f2) : Renew w S H (n1 ++ n2) (f1 ++ f2) := by
  refine ⟨by simp [h1.1, h2.1], fun i p f hp hf => ?_⟩
  by_cases hi : i < n1.length
  · rw [List.getElem?_append_left hi] at hp
    rw [List.getElem?_append_left (by rw [h1.1]; exact hi)] at hf
    exact h1.2 i p f hp hf
  · rw [List.getElem?_append_right (by omega)] at hp
    rw [List.getElem?_append_right (by rw [h1.1]; omega), h1.1] at hf
    exact h2.2 _ p f hp hf
theorem Renew.nil : Renew w S H [] [] := ⟨rfl, by simp⟩

theorem mputs_rel (hF : Facts w0 F A σ tmps w H φ S) : ∀ {xs : List PV} {rs : List RT} {ts : List Nat}, σ.mputs xs = some (rs, ts) → ∀ {vs : List Value}, Rels (RelV w S H) xs vs →
    RTsRep w S rs vs (ts.flatMap φ) ∧ (∀ t ∈ ts, A t) ∧ ∀ t ∈ ts, ∃ ys, (σ.o t).rows = some ys
  | [], rs, ts, h, vs, hv => by simp [St.mputs] at h; obtain ⟨rfl, rfl⟩ := h; cases hv; exact ⟨.nil, by simp, by simp⟩
  | .v (.c x) :: l, rs, ts, h, vs, hv => by
    cases hv with
    | cons hx hs =>
      simp only [St.mputs] at h
      cases h1 : σ.put1 x with
      | none => simp [h1] at h
      | some q =>
        cases h2 : σ.mputs l with
        | none => simp [h1, h2] at h
        | some r =>
          simp only [h1, h2, Option.bind_some, Option.some.injEq, Prod.mk.injEq] at h
          obtain ⟨rfl, rfl⟩ := h
          obtain ⟨a1, a2⟩ := put1_rel hF (c := q.1) (ts := q.2) h1 hx
          obtain ⟨b1, b2, b3⟩ := mputs_rel hF (rs := r.1) (ts := r.2) h2 hs
          rw [List.flatMap_append]
          refine ⟨.cons a1 b1, fun t ht => (List.mem_append.1 ht).elim (a2 t) (b2 t), fun t ht => (List.mem_append.1 ht).elim (fun ht => ?_) (b3 t)⟩
          exact puts_there (xs := [x]) (cs := [q.1]) (ts := q.2) (by simp [St.puts, h1]) t ht
  | .v (.a xs) :: l, rs, ts, h, vs, hv => by
    cases hv with
    | cons hx hs =>
      simp only [St.mputs] at h
      cases h1 : σ.puts xs with
      | none => simp [h1] at h
      | some q =>
        cases h2 : σ.mputs l with
        | none => simp [h1, h2] at h
        | some r =>
          simp only [h1, h2, Option.bind_some, Option.some.injEq, Prod.mk.injEq] at h
          obtain ⟨rfl, rfl⟩ := h
          obtain ⟨us, e, hx⟩ := hx
          obtain ⟨a1, a2, _, _⟩ := puts_rel hF (cs := q.1) (ts := q.2) h1 hx
          obtain ⟨b1, b2, b3⟩ := mputs_rel hF (rs := r.1) (ts := r.2) h2 hs
          rw [List.flatMap_append]
          exact ⟨.cons ⟨us, e, a1⟩ b1, fun t ht => (List.mem_append.1 ht).elim (a2 t) (b2 t), fun t ht => (List.mem_append.1 ht).elim (puts_there (cs := q.1) (ts := q.2) h1 t) (b3 t)⟩
  | .t xs :: l, rs, ts, h, vs, hv => by simp [St.mputs] at h

theorem renewC_lay {x : PC} {c : Cell} {nr : List (Nat × Ob)} (h : renewC x c = some nr) {v : Value} (hx : RelC w S H x v) {f : List Nat} (hc : RepO w' S' c v f) : ∃ ft, f = ft.flatten ∧ Renew w' S' H nr ft := by
  cases c with
  | int kd n => simp [renewC] at h; subst h; cases hc; exact ⟨[], rfl, .nil⟩
  | bool b => simp [renewC] at h; subst h; cases hc; exact ⟨[], rfl, .nil⟩
  | str s => simp [renewC] at h; subst h; cases hc; exact ⟨[], rfl, .nil⟩
  | sl t ys =>
    cases t with
    | none => simp [renewC] at h; subst h; cases hc; exact ⟨[], rfl, .nil⟩
    | some q =>
      obtain ⟨e, sz⟩ := q
      cases x <;> simp [renewC] at h
      rename_i t
      subst h
      refine ⟨[f], by simp, rfl, fun i p f' hp hf' => ?_⟩
      cases i with
      | succ i => simp at hp
      | zero =>
        simp at hp hf'
        subst hp; subst hf'
        obtain ⟨e1, _⟩ := hx
        rw [e1] at hc
        refine ⟨e, sz, ys, rfl, ?_, hc⟩
        generalize H t = hv at hc
        cases hc with
        | nil _ _ h => exact h
        | own _ _ _ _ _ _ _ _ _ _ _ h => exact h
theorem renewCs_lay : ∀ {xs : List PC} {cs : List Cell} {nr : List (Nat × Ob)}, renewCs xs cs = some nr → ∀ {vs : List Value}, Rels (RelC w S H) xs vs → ∀ {f : List Nat}, RepOs w' S' cs vs f → ∃ ft, f = ft.flatten ∧ Renew w' S' H nr ft
  | [], [], nr, h, vs, hv, f, hc => by simp [renewCs] at h; subst h; cases hc; exact ⟨[], rfl, .nil⟩
  | x :: xs, c :: cs, nr, h, vs, hv, f, hc => by
    simp only [renewCs] at h
    cases h1 : renewC x c with
    | none => simp [h1] at h
    | some n1 =>
      cases h2 : renewCs xs cs with
      | none => simp [h1, h2] at h
      | some n2 =>
        simp only [h1, h2, Option.bind_some, Option.some.injEq] at h
        subst h
        cases hv with
        | cons hx hs =>
          cases hc with
          | cons _ _ f1 _ _ f2 hc hcs =>
            obtain ⟨a, rfl, ha⟩ := renewC_lay h1 hx hc
            obtain ⟨b, rfl, hb⟩ := renewCs_lay h2 hs hcs
            exact ⟨a ++ b, by simp, ha.append hb⟩
  | [], c :: cs, nr, h, vs, hv, f, hc => by simp [renewCs] at h
  | x :: xs, [], nr, h, vs, hv, f, hc => by simp [renewCs] at h
theorem renewRs_lay : ∀ {xs : List PV} {rs : List RT} {nr : List (Nat × Ob)}, renewRs xs rs = some nr → ∀ {vs : List Value}, Rels (RelV w S H) xs vs → ∀ {f : List Nat}, RTsRep w' S' rs vs f → ∃ ft, f = ft.flatten ∧ Renew w' S' H nr ft
  | [], [], nr, h, vs, hv, f, hc => by simp [renewRs] at h; subst h; cases hc; exact ⟨[], rfl, .nil⟩
  | .v (.c x) :: xs, .c c :: cs, nr, h, vs, hv, f, hc => by
    simp only [renewRs] at h
    cases h1 : renewC x c with
    | none => simp [h1] at h
    | some n1 =>
      cases h2 : renewRs xs cs with
      | none => simp [h1, h2] at h
      | some n2 =>
        simp only [h1, h2, Option.bind_some, Option.some.injEq] at h
        subst h
        cases hv with
        | cons hx hs =>
          cases hc with
          | cons hc hcs =>
            obtain ⟨a, rfl, ha⟩ := renewC_lay h1 hx hc
            obtain ⟨b, rfl, hb⟩ := renewRs_lay h2 hs hcs
            exact ⟨a ++ b, by simp, ha.append hb⟩
  | .v (.a x) :: xs, .a c :: cs, nr, h, vs, hv, f, hc => by
    simp only [renewRs] at h
    cases h1 : renewCs x c with
    | none => simp [h1] at h
    | some n1 =>
      cases h2 : renewRs xs cs with
      | none => simp [h1, h2] at h
      | some n2 =>
        simp only [h1, h2, Option.bind_some, Option.some.injEq] at h
        subst h
        cases hv with
        | cons hx hs =>
          cases hc with
          | cons hc hcs =>
            obtain ⟨us, e, hx⟩ := hx
            obtain ⟨us', e', hc⟩ := hc
            have : us' = us := by rw [e] at e'; simpa using e'.symm
            subst this
            obtain ⟨a, rfl, ha⟩ := renewCs_lay h1 hx hc
            obtain ⟨b, rfl, hb⟩ := renewRs_lay h2 hs hcs
            exact ⟨a ++ b, by simp, ha.append hb⟩
  | [], c :: cs, nr, h, vs, hv, f, hc => by simp [renewRs] at h
  | .v (.c x) :: xs, [], nr, h, vs, hv, f, hc => by simp [renewRs] at h
  | .v (.a x) :: xs, [], nr, h, vs, hv, f, hc => by simp [renewRs] at h
  | .t x :: xs, cs, nr, h, vs, hv, f, hc => by simp [renewRs] at h
  | .v (.c x) :: xs, .a c :: cs, nr, h, vs, hv, f, hc => by simp [renewRs] at h
  | .v (.c x) :: xs, .p c :: cs, nr, h, vs, hv, f, hc => by simp [renewRs] at h
  | .v (.a x) :: xs, .c c :: cs, nr, h, vs, hv, f, hc => by simp [renewRs] at h
  | .v (.a x) :: xs, .p c :: cs, nr, h, vs, hv, f, hc => by simp [renewRs] at h

/-- A call of a function that writes into slices handed over (its first arguments). -/
def CallM (P : Program) (k : Nat) (σ : St) (op : Op) (E : Eff) : Prop :=
  ∃ (f : FuncId) (os args : List Operand) (tys : Array TypeId) (pre : List RT) (ts : List Nat) (ars : List AR) (post res : List RT) (nr : List (Nat × Ob)), op = .call ⟨.value (.func f), (os ++ args).toArray, tys⟩ ∧ callable P f = true ∧ OkM P f pre ars post res ∧ σ.mputs (os.map σ.ev) = some (pre, ts) ∧ ts.Nodup ∧
    (∀ u ∈ ts, u ∉ args.flatMap fun x => (σ.ev x).toks) ∧ args.mapM (fun x => σ.snap (σ.ev x)) = some ars ∧ widths res ≤ 32 ∧ renewRs (os.map σ.ev) post = some nr ∧ nr.map (·.1) = ts ∧
    E = ⟨resPV (unRs k res).1, frzs σ (args.flatMap fun x => (σ.ev x).toks) ++ (unRs k res).2 ++ nr, ts ++ args.flatMap fun x => (σ.ev x).toks⟩

theorem get_idxOf {ts : List Nat} {t : Nat} (h : t ∈ ts) : ts[ts.idxOf t]? = some t := by
  have h1 : ts.idxOf t < ts.length := List.idxOf_lt_length_iff.2 h
  rw [List.getElem?_eq_getElem h1, List.getElem_idxOf h1]
theorem laid_in {us : List (Nat × Ob)} (hnd : (us.map (·.1)).Nodup) {i : Nat} {p : Nat × Ob} (hi : us[i]? = some p) (o : Nat → Ob) : laid us o p.1 = p.2 := by
  induction us generalizing i o with
  | nil => simp at hi
  | cons u us ih =>
    obtain ⟨k, x⟩ := u
    simp only [List.map_cons, List.nodup_cons] at hnd
    simp only [laid]
    cases i with
    | zero =>
      simp at hi; subst hi
      rw [laid_other us _ fun q hq e => hnd.1 (List.mem_map.2 ⟨q, hq, e⟩), upd_same]
    | succ i => exact ih hnd.2 (by simpa using hi) _

theorem rels_map {x : Operand → PV} {os : List Operand} {a : Act} (h : ∀ o ∈ os, RelV w S H (x o) (a.eval o)) : Rels (RelV w S H) (os.map x) (os.map a.eval) := by
  induction os with
  | nil => exact .nil
  | cons o os ih => exact .cons (h o (by simp)) (ih fun p hp => h p (by simp [hp]))

theorem callM_go {next : Act → World → Prop} {Q : Exit → Act → World → Prop} {E : Eff} (h : CallM P k σ o.op E)
    (hF : Facts w0 F A σ (fun i => a.tmps.getD i undef) w H φ S) (hs : a.tmps.size = σ.n) (hdef : a.defers = []) (hd : ∀ d, o.dst = some d → d < σ.n) (hk : ∀ t, k ≤ t → t < k + 32 → ¬ A t) (hA' : ∀ t, A t ∨ k ≤ t ∧ t < k + 32 → A' t)
    (hn : ∀ a' w', Inv w0 F A' (σ.with o.dst E) a' w' → next a' w') : o.wp P a w next Q := by
  obtain ⟨f, os, args, tys, pre, ts, ars, post, res, nr, hop, hf, hok, hputs, hnd, hdis, hars, hw, hnr, hkeys, rfl⟩ := h
  let T := args.flatMap fun x => (σ.ev x).toks
  have hT : ∀ t ∈ T, ∃ ys, (σ.o t).rows = some ys := args_there hars
  have hrel := args_rel hF (T := T) hars fun x hx t ht => List.mem_flatMap.2 ⟨x, hx, ht⟩
  have hAT : ∀ t ∈ T, A t := fun t ht => Classical.byContradiction fun hn => by
    obtain ⟨ys, hy⟩ := hT t ht
    rw [hF.fresh t hn] at hy; simp [Ob.rows] at hy
  have hos : Rels (RelV w S H) (os.map σ.ev) (os.map a.eval) := rels_map fun x _ => ev_rel hF x H fun _ _ => rfl
  obtain ⟨hpre, hAts, _⟩ := mputs_rel hF hputs hos
  have hblk : ∀ b, b ∈ ts.flatMap φ ↔ ∃ t ∈ ts, b ∈ φ t := fun b => List.mem_flatMap
  have hpre' : RTsRep w (fun b => S b ∨ ∃ t ∈ T, b ∈ φ t) pre (os.map a.eval) (ts.flatMap φ) := hpre.more fun b hb => .inl hb
  have hcall := hok w _ (os.map a.eval) _ (ts.flatMap φ) hpre' hrel (flat_nodup hF hnd) (fun b hb => by
      obtain ⟨t, ht, hb⟩ := (hblk b).1 hb
      refine ⟨?_, (hF.apart t b hb).2.1⟩
      rintro (hS | ⟨t', ht', hb'⟩)
      · exact (hF.apart t b hb).1 hS
      · have := (hF.apart t b hb).2.2.2 t' hb'
        subst this
        exact hdis _ ht ht') (fun b hb => hb.elim (hF.ro b) fun ⟨t, _, hb⟩ => (hF.apart t b hb).2.1)
  rw [show (os.map a.eval ++ args.map a.eval).toArray = (os ++ args).toArray.map a.eval by simp] at hcall
  refine call_go hf hop hcall fun en w' ⟨rv, fr, S', fp', he, hkeep, hres, hpost, hfn, hfr, hS'⟩ => ⟨resVal rv, he, ?_⟩
  have hgone : ∀ j, j < widths res → σ.o (k + j) = .gone := fun j hj => hF.fresh _ (hk _ (by omega) (by omega))
  obtain ⟨hs', ff, hsl, rfl, hlay⟩ := lay_rs (o := σ.o) hres k hgone
  obtain ⟨ft, rfl, hftl, hft⟩ := renewRs_lay hnr hos hpost
  have hftl' : ft.length = ts.length := by rw [hftl, ← hkeys]; simp
  let N := widths res
  rw [List.nodup_append] at hfn
  obtain ⟨hff, hftn, hffd⟩ := hfn
  let o' := laid (frzs σ T ++ (unRs k res).2 ++ nr) σ.o
  let H1 : Nat → Value := fun t => if k ≤ t ∧ t < k + N then hs'.getD (t - k) undef else H t
  let φ' : Nat → List Nat := fun t => if k ≤ t ∧ t < k + N then ff.getD (t - k) [] else if t ∈ ts then ft.getD (ts.idxOf t) [] else if t ∈ T then [] else φ t
  let S2 : Nat → Prop := fun b => S' b ∨ S b ∨ ∃ t ∈ T, b ∈ φ t
  have hrgA : ∀ t, k ≤ t ∧ t < k + N → ¬ A t := fun t ht => hk t ht.1 (by have : N ≤ 32 := hw; omega)
  have hrT : ∀ t, t ∈ T → ¬ (k ≤ t ∧ t < k + N) := fun t ht h => hrgA _ h (hAT t ht)
  have hrts : ∀ t, t ∈ ts → ¬ (k ≤ t ∧ t < k + N) := fun t ht h => hrgA _ h (hAts t ht)
  have hkeys1 : ∀ p ∈ (unRs k res).2, k ≤ p.1 ∧ p.1 < k + N := fun p hp => unRs_keys res k p hp
  have hidx : ∀ t ∈ ts, ∃ p f, nr[ts.idxOf t]? = some p ∧ p.1 = t ∧ ft[ts.idxOf t]? = some f := fun t ht => by
    have h1 : ts.idxOf t < ts.length := List.idxOf_lt_length_iff.2 ht
    have h2 : ts.idxOf t < nr.length := by rw [← hftl, hftl']; exact h1
    have h3 : ts.idxOf t < ft.length := by rw [hftl']; exact h1
    refine ⟨nr[ts.idxOf t], ft[ts.idxOf t], by simp [h2], ?_, by simp [h3]⟩
    have h4 : (nr.map (·.1))[ts.idxOf t]? = some t := by rw [hkeys]; exact get_idxOf ht
    simpa [h2] using h4
  have ho' : ∀ t, o' t = if k ≤ t ∧ t < k + N then laid (unRs k res).2 σ.o t else if t ∈ ts then laid nr σ.o t else if t ∈ T then (σ.o t).fz else σ.o t := by
    intro t
    show laid _ σ.o t = _
    rw [laid_append, laid_append]
    have hfz : laid (frzs σ T) σ.o t = if t ∈ T then (σ.o t).fz else σ.o t := laid_frzs T (.inl rfl)
    by_cases hr : k ≤ t ∧ t < k + N
    · rw [if_pos hr, laid_other nr _ fun p hp e => hrts t (by rw [← hkeys, ← e]; exact List.mem_map.2 ⟨p, hp, rfl⟩) hr]
      exact laid_congr _ (by rw [hfz, if_neg fun h => hrT t h hr])
    · rw [if_neg hr]
      by_cases hts : t ∈ ts
      · rw [if_pos hts]
        obtain ⟨p, f, h1, rfl, h3⟩ := hidx t hts
        rw [laid_in (by rw [hkeys]; exact hnd) h1, laid_in (by rw [hkeys]; exact hnd) h1]
      · rw [if_neg hts, laid_other nr _ fun p hp e => hts (by rw [← hkeys, ← e]; exact List.mem_map.2 ⟨p, hp, rfl⟩), laid_other _ _ fun p hp => by have := hkeys1 p hp; intro e; subst e; exact hr this]
        exact hfz
  have hHr : ∀ H' : Nat → Value, (∀ t, A' t → H' t = H1 t) → ∀ j v, hs'[j]? = some v → H' (k + j) = v := fun H' hH' j v hj => by
    have hjl := lt_of_get hj
    rw [hsl] at hjl
    rw [hH' (k + j) (hA' _ (.inr ⟨by omega, by omega⟩))]
    show (if k ≤ k + j ∧ k + j < k + N then hs'.getD (k + j - k) undef else H (k + j)) = v
    rw [if_pos ⟨by omega, by show k + j < k + widths res; omega⟩, show k + j - k = j by omega]
    simp [List.getD, hj]
  have hlff : ∀ t, k ≤ t ∧ t < k + N → ∃ f, ff[t - k]? = some f ∧ φ' t = f := fun t hr => by
    have hltf : t - k < ff.length := by rw [hlay.len, hsl]; omega
    refine ⟨ff[t - k], by simp [hltf], ?_⟩
    show (if _ then _ else _) = _
    rw [if_pos hr]; simp [List.getD, hltf]
  have hlft : ∀ t, t ∈ ts → ∃ f, ft[ts.idxOf t]? = some f ∧ φ' t = f := fun t ht => by
    obtain ⟨p, f, _, _, h3⟩ := hidx t ht
    refine ⟨f, h3, ?_⟩
    show (if _ then _ else if _ then _ else _) = _
    rw [if_neg (hrts t ht), if_pos ht]; simp [List.getD, h3]
  have eT : ∀ t, ¬ (k ≤ t ∧ t < k + N) → t ∉ ts → t ∈ T → φ' t = [] := fun t h1 h2 h3 => by show (if _ then _ else if _ then _ else if _ then _ else _) = _; rw [if_neg h1, if_neg h2, if_pos h3]
  have hagT : Agree (fun b => S b ∨ ∃ t ∈ T, b ∈ φ t) w w' := hkeep.agree fun b hb => ⟨hb.elim (hF.ro b) fun ⟨t, _, hb⟩ => (hF.apart t b hb).2.1, fun hm => by
    obtain ⟨u, hu, hbu⟩ := (hblk b).1 hm
    rcases hb with hb | ⟨t', ht', hb⟩
    · exact (hF.apart u b hbu).1 hb
    · have := (hF.apart u b hbu).2.2.2 t' hb
      subst this
      exact hdis _ hu ht'⟩
  have hfacts := hF.turns (w' := w') (A' := A') (S' := S2) (o' := o') (φ' := φ') (H1 := H1) (fun t => (k ≤ t ∧ t < k + N) ∨ t ∈ ts ∨ t ∈ T) (fun t => t ∈ ts) (fun t h => .inr (.inl h))
    (fun t ht => if_neg fun hr => hrgA t hr ht) (fun t ht => hA' t (.inl ht)) (fun b hb => .inr (.inl hb)) ⟨hkeep.os, hkeep.tape, hkeep.output, hkeep.size, fun b hb hc => hkeep.block b hb fun hm => hc ((hblk b).1 hm)⟩ ?hro ?hoth ?hfresh ?hfp ?hnd ?hS'
  case hro =>
    intro H' hH' t ht
    rw [ho' t]
    by_cases hr : k ≤ t ∧ t < k + N
    · rw [if_pos hr]
      have hlt : t - k < hs'.length := by rw [hsl]; omega
      obtain ⟨f, hf1, hf2⟩ := hlff t hr
      have h2 := (hlay.rel H' (hHr H' hH')).2 (t - k) f hs'[t - k] hf1 (by simp [hlt])
      rw [show k + (t - k) = t by omega] at h2
      have e2 : H' t = hs'[t - k] := by have := hHr H' hH' (t - k) hs'[t - k] (by simp [hlt]); rwa [show k + (t - k) = t by omega] at this
      rw [hf2, e2]
      exact h2.mono (fun _ _ => rfl) (fun b hb => .inl hb) (fun _ _ => rfl)
    · rw [if_neg hr]
      by_cases hts : t ∈ ts
      · rw [if_pos hts]
        obtain ⟨p, f, h1, h2, h3⟩ := hidx t hts
        obtain ⟨f', h4, h5⟩ := hlft t hts
        rw [h3] at h4; cases h4
        obtain ⟨e, sz, ys, e1, e2, e3⟩ := hft _ p f h1 h3
        have e4 : H' t = H t := by rw [hH' t (hA' t (.inl (hAts t hts)))]; exact if_neg hr
        have e5 : laid nr σ.o t = p.2 := by rw [← h2]; exact laid_in (by rw [hkeys]; exact hnd) h1 _
        rw [e5, h5, e4, e1, ← h2]
        exact ⟨e3.mono (fun _ _ => rfl) (fun _ _ => rfl) (fun b hb => .inl hb), e2⟩
      · rw [if_neg hts]
        have hTt := (ht.resolve_left hr).resolve_left hts
        rw [if_pos hTt, eT t hr hts hTt]
        have e2 : H' t = H t := by rw [hH' t (hA' t (.inl (hAT t hTt)))]; exact if_neg hr
        rw [e2]
        obtain ⟨ys, hy⟩ := hT t hTt
        rcases rows_phi hF hy with ⟨e, sz, hrow⟩ | ⟨hfr', _⟩
        · rw [hrow]
          obtain ⟨_, hO, _⟩ := row_at hF hrow
          exact ⟨((hO.forget (S' := fun b => S b ∨ ∃ t ∈ T, b ∈ φ t) (fun b hb => .inl hb) (fun b hb => .inr ⟨t, hTt, hb⟩)).retag (o' := none)).mono hagT (fun b hb => .inr hb), rfl⟩
        · rw [hfr']
          obtain ⟨_, hR⟩ := frz_at hF hfr'
          exact ⟨hR.mono (fun b hb => hagT b (.inl hb)) (fun b hb => .inr (.inl hb)), rfl⟩
  case hoth =>
    intro t ht
    simp only [not_or] at ht
    obtain ⟨h1, h3, h4⟩ := ht
    refine ⟨by rw [ho' t, if_neg h1, if_neg h3, if_neg h4], ?_⟩
    show (if _ then _ else if _ then _ else if _ then _ else _) = _
    rw [if_neg h1, if_neg h3, if_neg h4]
  case hfresh =>
    intro t ht
    have h1 : ¬ (k ≤ t ∧ t < k + N) := fun h => ht (hA' t (.inr ⟨h.1, by have : N ≤ 32 := hw; omega⟩))
    have h3 : t ∉ ts := fun h => ht (hA' t (.inl (hAts t h)))
    have h4 : t ∉ T := fun h => ht (hA' t (.inl (hAT t h)))
    rw [ho' t, if_neg h1, if_neg h3, if_neg h4]
    exact hF.fresh t fun h => ht (hA' t (.inl h))
  case hfp =>
    have hkey : ∀ b, (b ∈ ts.flatMap φ ∨ w.heap.size ≤ b) → ¬ S' b → ¬ S2 b := fun b hb hns => by
      rintro (h | h | ⟨t', ht', h⟩)
      · exact hns h
      · rcases hb with hb | hb
        · obtain ⟨u, _, hbu⟩ := (hblk b).1 hb
          exact (hF.apart u b hbu).1 h
        · have := hF.ro b h; omega
      · rcases hb with hb | hb
        · obtain ⟨u, hu, hbu⟩ := (hblk b).1 hb
          have := (hF.apart u b hbu).2.2.2 t' h
          subst this
          exact hdis _ hu ht'
        · have := (hF.apart t' b h).2.1; omega
    have hold : ∀ b, (b ∈ ts.flatMap φ ∨ w.heap.size ≤ b) → (∃ t', ((k ≤ t' ∧ t' < k + N) ∨ t' ∈ ts ∨ t' ∈ T) ∧ b ∈ φ t') ∨ w.heap.size ≤ b := fun b hb => hb.imp (fun hb => by
      obtain ⟨u, hu, hbu⟩ := (hblk b).1 hb
      exact ⟨u, .inr (.inl hu), hbu⟩) id
    intro t ht b hb
    by_cases hr : k ≤ t ∧ t < k + N
    · obtain ⟨f, hf1, hf2⟩ := hlff t hr
      rw [hf2] at hb
      have hbf : b ∈ ff.flatten := flat_get hf1 hb
      obtain ⟨b1, b2, b3⟩ := hfr b (List.mem_append_left _ hbf)
      refine ⟨hkey b b1 b3, b2, hold b b1, fun t' ht' hb' => ?_⟩
      by_cases hr' : k ≤ t' ∧ t' < k + N
      · obtain ⟨f', hf1', hf2'⟩ := hlff t' hr'
        rw [hf2'] at hb'
        have := flat_one hff hf1 hf1' hb hb'
        omega
      · by_cases hts' : t' ∈ ts
        · obtain ⟨f', hf1', hf2'⟩ := hlft t' hts'
          rw [hf2'] at hb'
          exact absurd rfl (hffd b hbf b (flat_get hf1' hb'))
        · rw [eT t' hr' hts' ((ht'.resolve_left hr').resolve_left hts')] at hb'; simp at hb'
    · by_cases hts : t ∈ ts
      · obtain ⟨f, hf1, hf2⟩ := hlft t hts
        rw [hf2] at hb
        have hbf : b ∈ ft.flatten := flat_get hf1 hb
        obtain ⟨b1, b2, b3⟩ := hfr b (List.mem_append_right _ hbf)
        refine ⟨hkey b b1 b3, b2, hold b b1, fun t' ht' hb' => ?_⟩
        by_cases hr' : k ≤ t' ∧ t' < k + N
        · obtain ⟨f', hf1', hf2'⟩ := hlff t' hr'
          rw [hf2'] at hb'
          exact absurd rfl (hffd b (flat_get hf1' hb') b hbf)
        · by_cases hts' : t' ∈ ts
          · obtain ⟨f', hf1', hf2'⟩ := hlft t' hts'
            rw [hf2'] at hb'
            have he' := flat_one hftn hf1 hf1' hb hb'
            have h1 := get_idxOf hts
            have h2 := get_idxOf hts'
            rw [he', h2] at h1
            simpa using h1
          · rw [eT t' hr' hts' ((ht'.resolve_left hr').resolve_left hts')] at hb'; simp at hb'
      · rw [eT t hr hts ((ht.resolve_left hr).resolve_left hts)] at hb; simp at hb
  case hnd =>
    intro t ht
    by_cases hr : k ≤ t ∧ t < k + N
    · obtain ⟨f, hf1, hf2⟩ := hlff t hr
      rw [hf2]
      exact flat_nd hff hf1
    · by_cases hts : t ∈ ts
      · obtain ⟨f, hf1, hf2⟩ := hlft t hts
        rw [hf2]
        exact flat_nd hftn hf1
      · rw [eT t hr hts ((ht.resolve_left hr).resolve_left hts)]; exact List.nodup_nil
  case hS' =>
    rintro b (h | h | ⟨t, ht, h⟩)
    · obtain ⟨h1, h2⟩ := hS' b h
      refine ⟨h1, ?_⟩
      rcases h2 with h2 | (h2 | ⟨t, ht, h2⟩) | h2
      · exact .inr (.inr h2)
      · exact .inl h2
      · exact .inr (.inl ⟨t, .inr (.inr ht), h2⟩)
      · obtain ⟨u, hu, hbu⟩ := (hblk b).1 h2
        exact .inr (.inl ⟨u, .inr (.inl hu), hbu⟩)
    · exact ⟨Nat.lt_of_lt_of_le (hF.ro b h) hkeep.size, .inl h⟩
    · exact ⟨Nat.lt_of_lt_of_le (hF.apart t b h).2.1 hkeep.size, .inr (.inl ⟨t, .inr (.inr ht), h⟩)⟩
  refine hn _ _ (Inv.mk (σ := σ) hs hdef hd hfacts (x := resPV (unRs k res).1) (fun H' hH' => ?_) rfl rfl)
  exact RelV.mono (fun _ _ => rfl) (fun b hb => .inl hb) (resRel (hlay.rel H' (hHr H' hH')).1)

end
end Go.V
/- The value-level machine, part 21: every operation. -/
namespace Go.V
open Go Go.RowKit

section
variable {P : Program} {w0 w w' : World} {F : Own} {A A' : Nat → Prop} {σ : St} {k : Nat} {a : Act} {o : Oper}

/-- What an operation may do: by 'effF', or by a contract. -/
def Does (P : Program) (k : Nat) (σ : St) (op : Op) (E : Eff) : Prop :=
  effF P k σ op = some E ∨ CallA P k σ op E ∨ CallP P k σ op E ∨ CallM P k σ op E

theorem does_go {next : Act → World → Prop} {Q : Exit → Act → World → Prop} {E : Eff} (h : Does P k σ o.op E) (hi : Inv w0 F A σ a w) (hd : ∀ d, o.dst = some d → d < σ.n)
    (hk : ∀ t, k ≤ t → t < k + 32 → ¬ A t) (hA' : ∀ t, A' t ↔ A t ∨ k ≤ t ∧ t < k + 32) (hn : ∀ a' w', Inv w0 F A' (σ.with o.dst E) a' w' → next a' w') : o.wp P a w next Q := by
  obtain ⟨⟨H, φ, S, hF⟩, hs, hdef⟩ := hi
  have hkk : ¬ A k := hk k (Nat.le_refl _) (by omega)
  have hA1 : ∀ t, A t ∨ t = k → A' t := fun t ht => (hA' t).2 (ht.imp id fun e => by subst e; omega)
  rcases h with h | h | h | h
  · by_cases hq : quiet o.op = true
    · obtain ⟨hu, hg⟩ := effF_quiet hF hq h
      refine gives_go hF (fun t ht => (hA' t).2 (.inl ht)) hs hdef hd hg (rs := E.reads) fun a' w' hI => hn a' w' ?_
      have : E = ⟨E.val, [], E.reads⟩ := by cases E; simp at hu; simp [hu]
      rw [this]; exact hI
    · cases ho : o.op <;> simp only [ho, quiet] at hq h <;> first | (exact absurd trivial hq) | (simp [effF] at h; done) | skip
      case alloc t => exact alloc_go ho (by rw [ho]; exact h) hF hs hdef hd hkk hA1 hn
      case box t x => exact box_go' ho (by rw [ho]; exact h) hF hs hdef hd hkk hA1 hn
      case buildSlice t n ps => exact buildSlice_go ho (by rw [ho]; exact h) hF hs hdef hd hkk hA1 hn
      case makeSlice t l c => exact makeSlice_go ho (by rw [ho]; exact h) hF hs hdef hd hkk hA1 hn
      case store t p x => exact store_go ho (by rw [ho]; exact h) hF hs hdef hd (fun t ht => (hA' t).2 (.inl ht)) hn
      case call c =>
        obtain ⟨callee, args, tys⟩ := c
        cases callee with
        | value f => simp [effF] at h
        | invoke r m => simp [effF] at h
        | builtin b =>
          cases b <;> first | (simp at hq; done) | skip
          case append => exact append_go ho (by rw [ho]; exact h) hF hs hdef hd hkk hA1 hn
          all_goals (simp [effF, effBuiltin] at h)
  · exact callA_go h hF hs hdef hd hk (fun t ht => (hA' t).2 ht) (fun t ht => (hA' t).1 ht) hn
  · exact callP_go h hF hs hdef hd hk (fun t ht => (hA' t).2 ht) hn
  · exact callM_go h hF hs hdef hd hk (fun t ht => (hA' t).2 ht) hn
end
end Go.V
/- The value-level machine, part 29: what an operation looks at. -/
namespace Go.V
open Go Go.RowKit

def Ob.toks : Ob → List Nat
  | .box cs => cs.flatMap PC.toks
  | _ => []
def feetV (σ : St) (x : PV) : List Nat := x.toks ++ x.toks.flatMap fun t => (σ.o t).toks
def feet (σ : St) (op : Op) : List Nat := op.operands.toList.flatMap fun x => feetV σ (σ.ev x)

section
variable {P : Program} {σ τ : St} {k : Nat}

theorem rows_loc {x : PC} (h : ∀ t ∈ x.toks, τ.o t = σ.o t) : τ.rows x = σ.rows x := by
  cases x <;> first | rfl | (simp only [PC.toks, List.mem_singleton, forall_eq] at h; simp only [St.rows, h])
theorem len_loc {x : PC} (h : ∀ t ∈ x.toks, τ.o t = σ.o t) : τ.len x = σ.len x := by
  cases x <;> first | rfl | (simp only [PC.toks, List.mem_singleton, forall_eq] at h; simp only [St.len, h])
theorem put1_loc {x : PC} (h : ∀ t ∈ x.toks, τ.o t = σ.o t) : τ.put1 x = σ.put1 x := by
  cases x <;> first | rfl | (simp only [PC.toks, List.mem_singleton, forall_eq] at h; simp only [St.put1, h])
theorem puts_loc : ∀ {xs : List PC}, (∀ t ∈ xs.flatMap PC.toks, τ.o t = σ.o t) → τ.puts xs = σ.puts xs
  | [], _ => rfl
  | x :: xs, h => by
    simp only [List.flatMap_cons, List.mem_append] at h
    simp only [St.puts, put1_loc fun t ht => h t (.inl ht), puts_loc fun t ht => h t (.inr ht)]
theorem mputs_loc : ∀ {xs : List PV}, (∀ x ∈ xs, ∀ t ∈ x.toks, τ.o t = σ.o t) → τ.mputs xs = σ.mputs xs
  | [], _ => rfl
  | .v (.c x) :: xs, h => by
    simp only [St.mputs, put1_loc (h (.v (.c x)) (by simp)), mputs_loc (xs := xs) fun y hy => h y (List.mem_cons_of_mem _ hy)]
  | .v (.a x) :: xs, h => by
    simp only [St.mputs, puts_loc (h (.v (.a x)) (by simp)), mputs_loc (xs := xs) fun y hy => h y (List.mem_cons_of_mem _ hy)]
  | .t x :: xs, h => rfl
theorem snapC_loc {x : PC} (h : ∀ t ∈ x.toks, τ.o t = σ.o t) : τ.snapC x = σ.snapC x := by
  cases x <;> first | rfl | (simp only [St.snapC, rows_loc h])
theorem mapM_loc {α β : Type} {f g : α → Option β} : ∀ {xs : List α}, (∀ x ∈ xs, f x = g x) → xs.mapM f = xs.mapM g
  | [], _ => rfl
  | x :: xs, h => by rw [List.mapM_cons, List.mapM_cons, h x (by simp), mapM_loc fun y hy => h y (by simp [hy])]
theorem p1_toks (x : P1) : x.toks = x.cells.flatMap PC.toks := by cases x <;> simp [P1.toks, P1.cells]
theorem snap_loc {x : PV} (h : ∀ t ∈ x.toks, τ.o t = σ.o t) : τ.snap x = σ.snap x := by
  cases x with
  | v x => cases x with
    | c x => simp only [St.snap, snapC_loc h]
    | a xs =>
      simp only [St.snap]
      rw [mapM_loc fun x hx => snapC_loc fun t ht => h t (by simp only [PV.toks, P1.toks, List.mem_flatMap]; exact ⟨x, hx, ht⟩)]
  | t xs => rfl
theorem load_loc {t : TypeId} {x : PC} (h : ∀ t ∈ x.toks, τ.o t = σ.o t) : effLoad P τ t x = effLoad P σ t x := by
  cases x <;> first | rfl | (simp only [PC.toks, List.mem_singleton, forall_eq] at h; simp only [effLoad, h])
theorem store_loc {t : TypeId} {p : PC} {x : P1} (h : ∀ t ∈ p.toks, τ.o t = σ.o t) (hx : ∀ t ∈ x.toks, τ.o t = σ.o t) : effStore P τ t p x = effStore P σ t p x := by
  rw [p1_toks] at hx
  cases p <;> first | rfl | (simp only [PC.toks, List.mem_singleton, forall_eq] at h; simp only [effStore, h, puts_loc hx])
theorem indexAddr_loc {t : TypeId} {x : PC} {i : Int} (h : ∀ t ∈ x.toks, τ.o t = σ.o t) : effIndexAddr P τ t x i = effIndexAddr P σ t x i := by
  cases x <;> first | rfl | (simp only [PC.toks, List.mem_singleton, forall_eq] at h; simp only [effIndexAddr, h])
theorem slice_loc {t : TypeId} {x : PC} {lo hi : Option Int} (h : ∀ t ∈ x.toks, τ.o t = σ.o t) : effSlice P τ t x lo hi = effSlice P σ t x lo hi := by
  cases x <;> first | rfl | (simp only [PC.toks, List.mem_singleton, forall_eq] at h; simp only [effSlice, h])
theorem src_loc {x : PC} (h : ∀ t ∈ x.toks, τ.o t = σ.o t) : srcRows τ x = srcRows σ x := by
  cases x <;> first | rfl | (simp only [srcRows, rows_loc h])
theorem append_loc {t : TypeId} {x y : PC} (h : ∀ t ∈ x.toks, τ.o t = σ.o t) (hy : ∀ t ∈ y.toks, τ.o t = σ.o t) : effAppend P k τ t x y = effAppend P k σ t x y := by
  cases x <;> simp only [effAppend, src_loc hy] <;> (simp only [PC.toks, List.mem_singleton, forall_eq] at h; simp only [h])
theorem elems_loc {n : Nat} : ∀ {ps : List (Nat × P1)} {j : Nat}, (∀ p ∈ ps, ∀ t ∈ p.2.toks, τ.o t = σ.o t) → elems τ n ps j = elems σ n ps j
  | [], _, _ => rfl
  | (i, x) :: ps, j, h => by
    simp only [elems]
    rw [puts_loc (σ := σ) (τ := τ) (by rw [← p1_toks]; exact h (i, x) (by simp)), elems_loc fun p hp => h p (by simp [hp])]
theorem buildSlice_loc {t : TypeId} {n : Nat} {ps : List (Nat × P1)} (h : ∀ p ∈ ps, ∀ t ∈ p.2.toks, τ.o t = σ.o t) : effBuildSlice P k τ t n ps = effBuildSlice P k σ t n ps := by
  simp only [effBuildSlice, elems_loc h]
theorem convert_loc {s d : TypeId} {x : PC} (h : ∀ t ∈ x.toks, τ.o t = σ.o t) : effConvert P k τ s d x = effConvert P k σ s d x := by
  cases x <;> first | rfl | (simp only [effConvert, rows_loc h])
theorem builtin_loc {b : Builtin} {tys : Array TypeId} {args : List PV} (h : ∀ x ∈ args, ∀ t ∈ x.toks, τ.o t = σ.o t) : effBuiltin P k τ b tys args = effBuiltin P k σ b tys args := by
  unfold effBuiltin
  split <;> first | rfl | skip
  · rename_i x _; rw [len_loc (x := x) (h (.v (.c x)) (by simp))]
  · rename_i x y; split <;> first | rfl | skip
    rw [append_loc (h (.v (.c x)) (by simp)) (h (.v (.c y)) (by simp))]

theorem P1s_mem : ∀ {xs : List (Nat × PV)} {ys : List (Nat × P1)}, P1s xs = some ys → ∀ p ∈ ys, (p.1, PV.v p.2) ∈ xs
  | [], ys, h, p, hp => by simp [P1s] at h; subst h; simp at hp
  | (i, .v x) :: xs, ys, h, p, hp => by
    simp only [P1s] at h
    cases hx : P1s xs with
    | none => simp [hx] at h
    | some zs =>
      simp [hx] at h
      subst h
      rcases List.mem_cons.1 hp with rfl | hp
      · simp
      · exact List.mem_cons_of_mem _ (P1s_mem hx p hp)
  | (i, .t x) :: xs, ys, h, p, hp => by simp [P1s] at h

structure Near (σ τ : St) (op : Op) : Prop where
  ev : ∀ x ∈ op.operands.toList, τ.ev x = σ.ev x
  ob : ∀ t ∈ feet σ op, τ.o t = σ.o t

theorem Near.at {op : Op} (h : Near σ τ op) {x : Operand} (hx : x ∈ op.operands.toList) : ∀ t ∈ (σ.ev x).toks, τ.o t = σ.o t := fun t ht => h.ob t (by
  unfold feet feetV
  exact List.mem_flatMap.2 ⟨x, hx, List.mem_append_left _ ht⟩)
theorem Near.deep {op : Op} (h : Near σ τ op) {x : Operand} (hx : x ∈ op.operands.toList) {u : Nat} (hu : u ∈ (σ.ev x).toks) : ∀ t ∈ (σ.o u).toks, τ.o t = σ.o t := fun t ht => h.ob t (by
  unfold feet feetV
  exact List.mem_flatMap.2 ⟨x, hx, List.mem_append_right _ (List.mem_flatMap.2 ⟨u, hu, ht⟩)⟩)

theorem effF_loc {op : Op} (h : Near σ τ op) : effF P k τ op = effF P k σ op := by
  have ev := h.ev
  have hat : ∀ {x : Operand}, x ∈ op.operands.toList → ∀ {p : PC}, σ.ev x = .v (.c p) → ∀ t ∈ p.toks, τ.o t = σ.o t := fun {_} hx {_} hp t ht => h.at hx t (by rw [hp]; exact ht)
  cases op <;> first | rfl | skip
  case move x => simp only [effF]; rw [ev x (by simp [Op.operands])]
  case assign x => simp only [effF]; rw [ev x (by simp [Op.operands])]
  case pick c a b => simp only [effF]; rw [ev c (by simp [Op.operands]), ev a (by simp [Op.operands]), ev b (by simp [Op.operands])]
  case box t x => simp only [effF]; rw [ev x (by simp [Op.operands])]
  case build t ps =>
    simp only [effF]
    rw [List.map_congr_left (g := fun p : Nat × Operand => (p.1, σ.ev p.2)) fun p hp => by rw [ev p.2 (by simp only [Op.operands, List.mem_map]; exact ⟨p, hp, rfl⟩)]]
  case buildSlice t n ps =>
    simp only [effF]
    rw [List.map_congr_left (g := fun p : Nat × Operand => (p.1, σ.ev p.2)) fun p hp => by rw [ev p.2 (by simp only [Op.operands, List.mem_map]; exact ⟨p, hp, rfl⟩)]]
    cases hp : P1s (ps.toList.map fun p : Nat × Operand => (p.1, σ.ev p.2)) with
    | none => rfl
    | some qs =>
      simp only [Option.bind_some]
      refine buildSlice_loc fun q hq t ht => ?_
      have := P1s_mem hp q hq
      obtain ⟨p, hp1, hp2⟩ := List.mem_map.1 this
      simp only [Prod.mk.injEq] at hp2
      refine h.at (x := p.2) (by simp only [Op.operands, List.mem_map]; exact ⟨p, hp1, rfl⟩) t ?_
      rw [hp2.2]; exact ht
  case load t x =>
    simp only [effF]; rw [ev x (by simp [Op.operands])]
    split
    · rename_i p hp; exact load_loc (hat (by simp [Op.operands]) hp)
    · rfl
  case store t p x =>
    simp only [effF]; rw [ev p (by simp [Op.operands]), ev x (by simp [Op.operands])]
    split
    · rename_i q y hq hy; exact store_loc (hat (x := p) (by simp [Op.operands]) hq) fun t ht => h.at (x := x) (by simp [Op.operands]) t (by rw [hy]; exact ht)
    · rfl
  case nilCheck x => simp only [effF]; rw [ev x (by simp [Op.operands])]
  case binOp o t x y u => simp only [effF]; rw [ev x (by simp [Op.operands]), ev y (by simp [Op.operands])]
  case unOp o t x => simp only [effF]; rw [ev x (by simp [Op.operands])]
  case convert s d x =>
    simp only [effF]; rw [ev x (by simp [Op.operands])]
    split
    · rename_i p hp; exact convert_loc (hat (by simp [Op.operands]) hp)
    · rfl
  case makeSlice t l c => simp only [effF]; rw [ev l (by simp [Op.operands]), ev c (by simp [Op.operands])]
  case slice t x lo hi mx =>
    have e1 : optI τ lo = optI σ lo := by cases lo <;> simp only [optI]; rw [ev _ (by simp [Op.operands])]
    have e2 : optI τ hi = optI σ hi := by cases hi <;> simp only [optI]; rw [ev _ (by simp [Op.operands])]
    simp only [effF, e1, e2]; rw [ev x (by simp [Op.operands])]
    split
    · rename_i p hp
      have : ∀ a b, effSlice P τ t p a b = effSlice P σ t p a b := fun a b => slice_loc (hat (x := x) (by simp [Op.operands]) hp)
      simp only [this]
    · rfl
  case fieldAddr t x f => simp only [effF]; rw [ev x (by simp [Op.operands])]
  case field t x f => simp only [effF]; rw [ev x (by simp [Op.operands])]
  case indexAddr t x i =>
    simp only [effF]; rw [ev x (by simp [Op.operands]), ev i (by simp [Op.operands])]
    split
    · rename_i p hp
      have : ∀ j, effIndexAddr P τ t p j = effIndexAddr P σ t p j := fun j => indexAddr_loc (hat (x := x) (by simp [Op.operands]) hp)
      simp only [this]
    · rfl
  case index t x i => simp only [effF]; rw [ev x (by simp [Op.operands]), ev i (by simp [Op.operands])]
  case extract x i => simp only [effF]; rw [ev x (by simp [Op.operands])]
  case call c =>
    obtain ⟨callee, args, tys⟩ := c
    cases callee <;> first | rfl | skip
    rename_i b
    simp only [effF]
    rw [List.map_congr_left (g := σ.ev) fun x hx => ev x (by simp [Op.operands, Call.operands]; simpa using hx)]
    refine builtin_loc fun x hx t ht => ?_
    obtain ⟨y, hy, rfl⟩ := List.mem_map.1 hx
    exact h.at (x := y) (by simp [Op.operands, Call.operands]; simpa using hy) t ht

theorem does_loc {op : Op} (h : Near σ τ op) {E : Eff} (hd : Does P k σ op E) : Does P k τ op E := by
  rcases hd with hd | hd | hd | hd
  · exact .inl (by rw [effF_loc h]; exact hd)
  · obtain ⟨f, args, tys, ars, res, dep, rfl, hf, hok, hars, hw, rfl⟩ := hd
    have hmem : ∀ x ∈ args.toList, x ∈ (Op.call ⟨.value (.func f), args, tys⟩).operands.toList := fun x hx => by simp [Op.operands, Call.operands]; exact .inr (by simpa using hx)
    have hev : ∀ x ∈ args.toList, τ.ev x = σ.ev x := fun x hx => h.ev x (hmem x hx)
    have hT : (args.toList.flatMap fun x => (τ.ev x).toks) = args.toList.flatMap fun x => (σ.ev x).toks := by
      simp only [List.flatMap]; congr 1; exact List.map_congr_left fun x hx => by rw [hev x hx]
    refine .inr (.inl ⟨f, args, tys, ars, res, dep, rfl, hf, hok, ?_, hw, ?_⟩)
    · rw [mapM_loc (g := fun x => σ.snap (σ.ev x)) fun x hx => by rw [hev x hx]; exact snap_loc (h.at (hmem x hx))]
      exact hars
    · rw [hT]
      have hfz : ∀ T : List Nat, (∀ t ∈ T, τ.o t = σ.o t) → frzs τ T = frzs σ T := by
        intro T
        induction T with
        | nil => intro _; rfl
        | cons t T ih => intro ht; simp only [frzs]; rw [ht t (by simp), ih fun u hu => ht u (by simp [hu])]
      rw [hfz]
      intro t ht
      obtain ⟨x, hx, ht⟩ := List.mem_flatMap.1 ht
      exact h.at (hmem x hx) t ht
  · obtain ⟨f, x0, args, tys, t0, xs, pre, ts, ars, post, res, rfl, hf, hok, hx0, hbox, hputs, hnd, hdis, hars, hw, rfl⟩ := hd
    have hmem : ∀ x ∈ args, x ∈ (Op.call ⟨.value (.func f), (x0 :: args).toArray, tys⟩).operands.toList := fun x hx => by simp [Op.operands, Call.operands, hx]
    have hmem0 : x0 ∈ (Op.call ⟨.value (.func f), (x0 :: args).toArray, tys⟩).operands.toList := by simp [Op.operands, Call.operands]
    have hev : ∀ x ∈ args, τ.ev x = σ.ev x := fun x hx => h.ev x (hmem x hx)
    have hT : (args.flatMap fun x => (τ.ev x).toks) = args.flatMap fun x => (σ.ev x).toks := by
      simp only [List.flatMap]; congr 1; exact List.map_congr_left fun x hx => by rw [hev x hx]
    have ht0 : t0 ∈ (σ.ev x0).toks := by rw [hx0]; simp [PV.toks, P1.toks, PC.toks]
    have hb : τ.o t0 = .box xs := by rw [h.at hmem0 t0 ht0]; exact hbox
    refine .inr (.inr (.inl ⟨f, x0, args, tys, t0, xs, pre, ts, ars, post, res, rfl, hf, hok, by rw [h.ev x0 hmem0]; exact hx0, hb, ?_, hnd, by rw [hT]; exact hdis, ?_, hw, ?_⟩))
    · rw [puts_loc (σ := σ) fun t ht => h.deep hmem0 ht0 t (by rw [hbox]; exact ht)]
      exact hputs
    · rw [mapM_loc (g := fun x => σ.snap (σ.ev x)) fun x hx => by rw [hev x hx]; exact snap_loc (h.at (hmem x hx))]
      exact hars
    · rw [hT]
      have hfz : ∀ T : List Nat, (∀ t ∈ T, τ.o t = σ.o t) → frzs τ T = frzs σ T := by
        intro T
        induction T with
        | nil => intro _; rfl
        | cons t T ih => intro ht; simp only [frzs]; rw [ht t (by simp), ih fun u hu => ht u (by simp [hu])]
      rw [hfz]
      intro t ht
      obtain ⟨x, hx, ht⟩ := List.mem_flatMap.1 ht
      exact h.at (hmem x hx) t ht

  · obtain ⟨f, os, args, tys, pre, ts, ars, post, res, nr, rfl, hf, hok, hputs, hnd, hdis, hars, hw, hnr, hkeys, rfl⟩ := hd
    have hmem : ∀ x ∈ args, x ∈ (Op.call ⟨.value (.func f), (os ++ args).toArray, tys⟩).operands.toList := fun x hx => by simp [Op.operands, Call.operands, hx]
    have hmem0 : ∀ x ∈ os, x ∈ (Op.call ⟨.value (.func f), (os ++ args).toArray, tys⟩).operands.toList := fun x hx => by simp [Op.operands, Call.operands, hx]
    have hev : ∀ x ∈ args, τ.ev x = σ.ev x := fun x hx => h.ev x (hmem x hx)
    have hevo : os.map τ.ev = os.map σ.ev := List.map_congr_left fun x hx => h.ev x (hmem0 x hx)
    have hT : (args.flatMap fun x => (τ.ev x).toks) = args.flatMap fun x => (σ.ev x).toks := by
      simp only [List.flatMap]; congr 1; exact List.map_congr_left fun x hx => by rw [hev x hx]
    refine .inr (.inr (.inr ⟨f, os, args, tys, pre, ts, ars, post, res, nr, rfl, hf, hok, ?_, hnd, by rw [hT]; exact hdis, ?_, hw, by rw [hevo]; exact hnr, hkeys, ?_⟩))
    · rw [hevo, mputs_loc (σ := σ) fun x hx t ht => ?_]
      · exact hputs
      · obtain ⟨y, hy, rfl⟩ := List.mem_map.1 hx
        exact h.at (hmem0 y hy) t ht
    · rw [mapM_loc (g := fun x => σ.snap (σ.ev x)) fun x hx => by rw [hev x hx]; exact snap_loc (h.at (hmem x hx))]
      exact hars
    · rw [hT]
      have hfz : ∀ T : List Nat, (∀ t ∈ T, τ.o t = σ.o t) → frzs τ T = frzs σ T := by
        intro T
        induction T with
        | nil => intro _; rfl
        | cons t T ih => intro ht; simp only [frzs]; rw [ht t (by simp), ih fun u hu => ht u (by simp [hu])]
      rw [hfz]
      intro t ht
      obtain ⟨x, hx, ht⟩ := List.mem_flatMap.1 ht
      exact h.at (hmem x hx) t ht

end
end Go.V
/- The value-level machine, part 22: regions in the text's order. -/
namespace Go.V
open Go Go.RowKit

/-- The flag that a guard looks at. -/
def St.flag (σ : St) (ops : Array Oper) (j : Nat) (want : Bool) : Option (Nat × Bool) :=
  match (ops[j]?).bind (·.dst) with
  | some d => match σ.t d with
    | .v (.c (.bool b)) => some (d, b)
    | .t [] => some (d, !want)
    | _ => none
  | none => none
def St.lit (σ : St) (d : Nat) (b : Bool) : St :=
  match σ.t d with
  | .t _ => σ
  | .v _ => { σ with t := upd σ.t d (.c (.bool b)) }

/-- One operation under its guard: the state that it starts from (its guard's flag written out), and what it does. -/
def vop (P : Program) (ops : Array Oper) (k : Nat) (σ : St) (o : Oper) (K : St → Eff → Prop) : Prop :=
  (∀ d, o.dst = some d → d < σ.n) ∧
  match o.guard with
  | none => ∃ E, Does P k σ o.op E ∧ K σ E
  | some (j, want) => ∃ d b, σ.flag ops j want = some (d, b) ∧ d < σ.n ∧ (b = want → ∃ E, Does P k (σ.lit d want) o.op E ∧ K (σ.lit d want) E) ∧ (b = !want → K (σ.lit d (!want)) ⟨.t [], [], []⟩)

section
variable {P : Program} {w0 w w' : World} {F : Own} {A A' : Nat → Prop} {σ : St} {k : Nat} {a : Act} {o : Oper} {ops : Array Oper}

theorem Inv.tmp (h : Inv w0 F A σ a w) (i : Nat) : ∃ S H, RelV w S H (σ.t i) (a.tmps.getD i undef) := by
  obtain ⟨⟨H, φ, S, hF⟩, _⟩ := h
  exact ⟨S, H, (hF.rel H fun _ _ => rfl).1 i⟩

theorem lit_same {d : Nat} {b : Bool} (h : σ.t d = .c (.bool b) ∨ σ.t d = .t []) : σ.lit d b = σ := by
  unfold St.lit
  rcases h with h | h
  · have : upd σ.t d (.c (.bool b)) = σ.t := by
      funext i
      by_cases e : i = d
      · subst e; rw [upd_same, h]
      · exact upd_ne _ _ e
    rw [this, h]
  · rw [h]

theorem flag_some {j : Nat} {d : Nat} {want b : Bool} (h : σ.flag ops j want = some (d, b)) : (ops[j]?).bind (·.dst) = some d ∧ (σ.t d = .c (.bool b) ∨ σ.t d = .t [] ∧ b = !want) := by
  unfold St.flag at h
  split at h
  · rename_i d' hd
    split at h
    · rename_i b' hb
      cases h
      exact ⟨hd, .inl hb⟩
    · rename_i hb
      cases h
      exact ⟨hd, .inr ⟨hb, rfl⟩⟩
    · cases h
  · cases h

theorem flag_yields (hi : Inv w0 F A σ a w) {j : Nat} {d : Nat} {want b : Bool} (h : σ.flag ops j want = some (d, b)) (hd : d < σ.n) : (yielded ops a.tmps j == some want) = (b == want) := by
  obtain ⟨h1, h2⟩ := flag_some h
  obtain ⟨S, H, hr⟩ := hi.tmp d
  have hlt : d < a.tmps.size := by rw [hi.2.1]; exact hd
  rcases h2 with h2 | ⟨h2, h3⟩
  · rw [h2] at hr
    have hv : a.tmps[d]? = some (.bool b) := by
      have : a.tmps.getD d undef = .bool b := hr
      rw [Array.getD_eq_getD_getElem?] at this
      simp [hlt] at this ⊢
      exact this
    unfold yielded
    rw [h1]
    simp [hv]
  · rw [h2] at hr
    have hv : a.tmps[d]? = some (.tuple #[]) := by
      obtain ⟨vs, e, hvs⟩ := hr
      cases hvs
      rw [Array.getD_eq_getD_getElem?] at e
      simp [hlt] at e ⊢
      exact e
    unfold yielded
    rw [h1, h3]
    simp [hv]

theorem junk_put {d : Option Tmp} (hi : Inv w0 F A σ a w) (hd : ∀ e, d = some e → e < σ.n) (hA : ∀ t, A t → A' t) : Inv w0 F A' (σ.with d ⟨.t [], [], []⟩) (a.put d undef) w := by
  obtain ⟨⟨H, φ, S, hF⟩, hs, hdef⟩ := hi
  exact Inv.mk (σ := σ) (x := .t []) hs hdef hd (hF.more hA) (fun _ _ => ⟨[], rfl, .nil⟩) rfl rfl

theorem vop_go {K : St → Eff → Prop} {next : Act → World → Prop} {Q : Exit → Act → World → Prop} (h : vop P ops k σ o K) (hi : Inv w0 F A σ a w)
    (hk : ∀ t, k ≤ t → t < k + 32 → ¬ A t) (hA' : ∀ t, A' t ↔ A t ∨ k ≤ t ∧ t < k + 32) (hn : ∀ σ' E a' w', σ'.n = σ.n → K σ' E → Inv w0 F A' (σ'.with o.dst E) a' w' → next a' w') :
    if Region.wanted o (yielded ops a.tmps) then o.wp P a w next Q else next (a.put o.dst undef) w := by
  obtain ⟨hd, h⟩ := h
  unfold Region.wanted
  split at h
  · rename_i hg
    simp only [hg, if_true]
    obtain ⟨E, h1, h2⟩ := h
    exact does_go h1 hi hd hk hA' fun a' w' hI => hn σ E a' w' rfl h2 hI
  · rename_i j want hg
    obtain ⟨d, b, hf, hdn, h1, h2⟩ := h
    simp only [hg, flag_yields hi hf hdn]
    have hb := (flag_some hf).2.imp_right And.left
    by_cases e : b = want
    · subst e
      simp only [beq_self_eq_true, if_true]
      obtain ⟨E, h3, h4⟩ := h1 rfl
      rw [lit_same hb] at h3 h4
      exact does_go h3 hi hd hk hA' fun a' w' hI => hn σ E a' w' rfl h4 hI
    · have e' : b = !want := by cases b <;> cases want <;> first | rfl | exact absurd rfl e
      have : (b == want) = false := by rw [e']; cases want <;> rfl
      simp only [this, Bool.false_eq_true, if_false]
      have h3 := h2 e'
      rw [lit_same (by rw [← e']; exact hb)] at h3
      exact hn σ _ _ _ rfl h3 (junk_put hi hd (fun t ht => (hA' t).2 (.inl ht)))

/-- A region in the text's order. -/
def vops (P : Program) (ops : Array Oper) : List Oper → Nat → St → (Nat → St → Prop) → Prop
  | [], k, σ, K => K k σ
  | o :: rest, k, σ, K => vop P ops k σ o fun σ' E => vops P ops rest (k + 32) (σ'.with o.dst E) K

theorem vops_go {Q : Exit → Act → World → Prop} : ∀ {l : List Oper} {k : Nat} {σ : St} {K : Nat → St → Prop} {A : Nat → Prop} {a : Act} {w : World}, vops P ops l k σ K → Inv w0 F A σ a w → (∀ t, k ≤ t → ¬ A t) →
    (∀ A' k' σ' a' w', σ'.n = σ.n → K k' σ' → Inv w0 F A' σ' a' w' → (∀ t, k' ≤ t → ¬ A' t) → Q .normal a' w') → wpList P ops Q l a w
  | [], k, σ, K, A, a, w, h, hi, hk, hq => hq A k σ a w rfl h hi hk
  | o :: rest, k, σ, K, A, a, w, h, hi, hk, hq => by
    refine wpList_step fun K' hK' => ?_
    refine vop_go (A' := fun t => A t ∨ k ≤ t ∧ t < k + 32) h hi (fun t h1 _ => hk t h1) (fun _ => Iff.rfl) fun σ' E a' w' hn hv hI => hK' _ _ ?_
    refine vops_go hv hI (fun t ht => ?_) fun A' k' σ2 a' w' hn' => hq A' k' σ2 a' w' (hn'.trans hn)
    rintro (h1 | h1)
    · exact hk t (by omega) h1
    · omega

end
end Go.V
/- The value-level machine, part 23: code, by a stack of what is to be done. -/
namespace Go.V
open Go Go.RowKit

/-- What is known of a frame and a world, no token from k on being in use. -/
def Known' (w0 : World) (F : Own) (k : Nat) (σ : St) (a : Act) (w : World) : Prop := ∃ A, Inv w0 F A σ a w ∧ ∀ t, k ≤ t → ¬ A t

def V (P : Program) (c : Code) (k : Nat) (σ : St) (Q : Exit → Nat → St → Prop) : Prop :=
  ∀ w0 F a w, Known' w0 F k σ a w → c.wp P (fun e a' w' => ∃ k' σ', Known' w0 F k' σ' a' w' ∧ Q e k' σ') a w

inductive Fr where
  | cd (c : Code)
  | blk (id : Nat)
  | lp (J : Nat → St → Prop)

def go (P : Program) (R : Nat → St → Prop) : List Fr → Exit → Nat → St → Prop
  | [], e, k, σ => match e with
    | .normal | .ret => R k σ
    | _ => False
  | .cd c :: s, e, k, σ => match e with
    | .normal => V P c k σ (go P R s)
    | .exit id => go P R s (.exit id) k σ
    | .ret => go P R s .ret k σ
    | _ => False
  | .blk id :: s, e, k, σ => match e with
    | .normal => go P R s .normal k σ
    | .exit id' => if id' = id then go P R s .normal k σ else go P R s (.exit id') k σ
    | .ret => go P R s .ret k σ
    | _ => False
  | .lp J :: s, e, k, σ => match e with
    | .normal => J k σ
    | .exit id => go P R s (.exit id) k σ
    | .ret => go P R s .ret k σ
    | _ => False

/-- One state tells no less than another. -/
def Wk (k : Nat) (σ : St) (k' : Nat) (τ : St) : Prop := ∀ w0 F a w, Known' w0 F k σ a w → Known' w0 F k' τ a w

section
variable {P : Program} {R : Nat → St → Prop} {s : List Fr} {k : Nat} {σ : St}

theorem V.mono {c : Code} {Q Q' : Exit → Nat → St → Prop} (h : V P c k σ Q) (hq : ∀ e k σ, Q e k σ → Q' e k σ) : V P c k σ Q' :=
  fun w0 F a w hi => Code.wp_mono (fun _ _ _ ⟨k', σ', h1, h2⟩ => ⟨k', σ', h1, hq _ _ _ h2⟩) (h w0 F a w hi)

theorem go_skip (h : go P R s .normal k σ) : go P R (.cd .skip :: s) .normal k σ := fun _ _ _ _ hi => wp_skip ⟨k, σ, hi, h⟩
theorem go_exit {id : Nat} (h : go P R s (.exit id) k σ) : go P R (.cd (.exit id) :: s) .normal k σ := fun _ _ _ _ hi => wp_exit ⟨k, σ, hi, h⟩
theorem go_ret (h : go P R s .ret k σ) : go P R (.cd .ret :: s) .normal k σ := fun _ _ _ _ hi => wp_ret ⟨k, σ, hi, h⟩

theorem go_panic {s : List Fr} {ch : List PanicEntry} : ¬ go P R s (.panic ch) k σ := by
  intro h
  induction s with
  | nil => exact h
  | cons x s ih => cases x <;> exact h
theorem go_goto {s : List Fr} {l : Nat} : ¬ go P R s (.goto l) k σ := by
  intro h
  induction s with
  | nil => exact h
  | cons x s ih => cases x <;> exact h
theorem go_outgrown {s : List Fr} : ¬ go P R s .outgrown k σ := by
  intro h
  induction s with
  | nil => exact h
  | cons x s ih => cases x <;> exact h

theorem go_cd {c : Code} {e : Exit} {k : Nat} {σ : St} (h : go P R s e k σ) (he : e ≠ .normal) : go P R (.cd c :: s) e k σ := by
  cases e with
  | normal => exact absurd rfl he
  | exit id => exact h
  | ret => exact h
  | goto l => exact absurd h go_goto
  | panic ch => exact absurd h go_panic
  | outgrown => exact absurd h go_outgrown

theorem go_seq {x y : Code} (h : go P R (.cd x :: .cd y :: s) .normal k σ) : go P R (.cd (.seq x y) :: s) .normal k σ := by
  intro w0 F a w hi
  refine wp_seq (Code.wp_mono (fun e a' w' ⟨k', σ', h1, h2⟩ => ?_) (h w0 F a w hi))
  cases e with
  | normal => exact h2 w0 F a' w' h1
  | exit id => exact ⟨k', σ', h1, h2⟩
  | ret => exact ⟨k', σ', h1, h2⟩
  | goto l => exact h2.elim
  | panic ch => exact h2.elim
  | outgrown => exact h2.elim

theorem go_block {id : Nat} {c : Code} (h : go P R (.cd c :: .blk id :: s) .normal k σ) : go P R (.cd (.block id c) :: s) .normal k σ := by
  intro w0 F a w hi
  refine wp_block (Code.wp_mono (fun e a' w' ⟨k', σ', h1, h2⟩ => ?_) (h w0 F a w hi))
  cases e with
  | normal => exact ⟨k', σ', h1, h2⟩
  | exit id' =>
    simp only [go] at h2
    simp only [Exit.inBlock]
    by_cases e : id' = id
    · simp only [e, if_true] at h2 ⊢; exact ⟨k', σ', h1, h2⟩
    · simp only [e, if_false] at h2 ⊢; exact ⟨k', σ', h1, h2⟩
  | ret => exact ⟨k', σ', h1, h2⟩
  | goto l => exact h2.elim
  | panic ch => exact h2.elim
  | outgrown => exact h2.elim

theorem go_out {c : Code} {id : Nat} (h : go P R s (.exit id) k σ) : go P R (.cd c :: s) (.exit id) k σ := h
theorem go_out_ret {c : Code} (h : go P R s .ret k σ) : go P R (.cd c :: s) .ret k σ := h
theorem go_blk (id : Nat) (h : go P R s .normal k σ) : go P R (.blk id :: s) .normal k σ := h
theorem go_blk_at {id : Nat} (h : go P R s .normal k σ) : go P R (.blk id :: s) (.exit id) k σ := by simp only [go, if_true]; exact h
theorem go_blk_ne {id id' : Nat} (h : go P R s (.exit id') k σ) (hne : id' ≠ id) : go P R (.blk id :: s) (.exit id') k σ := by simp only [go, if_neg hne]; exact h
theorem go_blk_ret {id : Nat} (h : go P R s .ret k σ) : go P R (.blk id :: s) .ret k σ := h
theorem go_lp {J : Nat → St → Prop} (h : J k σ) : go P R (.lp J :: s) .normal k σ := h
theorem go_lp_out {J : Nat → St → Prop} {id : Nat} (h : go P R s (.exit id) k σ) : go P R (.lp J :: s) (.exit id) k σ := h
theorem go_lp_ret {J : Nat → St → Prop} (h : go P R s .ret k σ) : go P R (.lp J :: s) .ret k σ := h
theorem go_end (h : R k σ) : go P R [] .normal k σ := h
theorem go_end_ret (h : R k σ) : go P R [] .ret k σ := h

theorem go_cond {c : Operand} {x y : Code} (b : Bool) (hc : σ.ev c = .c (.bool b)) (ht : b = true → go P R (.cd x :: s) .normal k σ) (hf : b = false → go P R (.cd y :: s) .normal k σ) :
    go P R (.cd (.cond c x y) :: s) .normal k σ := by
  intro w0 F a w hi
  obtain ⟨A, ⟨⟨H, φ, S, hF⟩, hs, hdef⟩, hk⟩ := hi
  have he : a.eval c = .bool b := known_ev hF hc H fun _ _ => rfl
  refine wp_cond he ?_
  cases b with
  | true => exact ht rfl w0 F a w ⟨A, ⟨⟨H, φ, S, hF⟩, hs, hdef⟩, hk⟩
  | false => exact hf rfl w0 F a w ⟨A, ⟨⟨H, φ, S, hF⟩, hs, hdef⟩, hk⟩

theorem go_region {id : Nat} {ops : Array Oper} (h : ∀ K : Nat → St → Prop, (∀ k' σ', go P R s .normal k' σ' → K k' σ') → vops P ops ops.toList k σ K) : go P R (.cd (.region id ops false) :: s) .normal k σ := by
  intro w0 F a w ⟨A, hi, hk⟩
  refine wp_region_list (vops_go (h _ fun _ _ h => h) hi hk fun A' k' σ' a' w' _ hg hI hf => ⟨k', σ', ⟨A', hI, hf⟩, hg⟩)

/-- What is proved of a state serves for one that tells more. -/
theorem go_wk {k' : Nat} {τ : St} {c : Code} (hw : Wk k σ k' τ) (h : go P R (.cd c :: s) .normal k' τ) : go P R (.cd c :: s) .normal k σ :=
  fun w0 F a w hi => h w0 F a w (hw w0 F a w hi)

/-- A cut: code, then the rest from whatever J tells. -/
theorem go_cut (J : Nat → St → Prop) {c : Code} (h : go P R (.cd c :: .lp J :: s) .normal k σ) (hJ : ∀ k σ, J k σ → go P R s .normal k σ) : go P R (.cd c :: s) .normal k σ := by
  refine V.mono (P := P) (k := k) (σ := σ) h fun e k σ he => ?_
  cases e with
  | normal => exact hJ k σ he
  | exit id => exact he
  | ret => exact he
  | goto l => exact he.elim
  | panic ch => exact he.elim
  | outgrown => exact he.elim

theorem wk_refl {k' : Nat} (h : k ≤ k') : Wk k σ k' σ := fun _ _ _ _ ⟨A, hi, hk⟩ => ⟨A, hi, fun t ht => hk t (by omega)⟩

/-- A cut back to the state that stands: code that leaves it as it is, but for what is not looked at any more. -/
theorem go_back (p : Prop) (k' : Nat) {c y : Code} (h : go P R (.cd c :: .lp (fun k2 σ2 => p ∧ Wk k2 σ2 k' σ) :: .cd y :: s) .normal k σ) (hs : p → go P R (.cd y :: s) .normal k' σ) : go P R (.cd c :: .cd y :: s) .normal k σ :=
  go_cut _ h fun _ _ ⟨h1, h2⟩ => go_wk h2 (hs h1)

theorem exists_least {p : Nat → Prop} (h : ∃ n, p n) : ∃ n, p n ∧ ∀ m, p m → n ≤ m := by
  obtain ⟨n, hn⟩ := h
  induction n using Nat.strongRecOn with
  | _ n ih =>
    by_cases hm : ∃ m, m < n ∧ p m
    · obtain ⟨m, h1, h2⟩ := hm
      exact ih m h1 h2
    · exact ⟨n, hn, fun m hp => Nat.le_of_not_lt fun hlt => hm ⟨m, hlt, hp⟩⟩

/-- A loop: J tells of the states that a round begins with, at each value of the measure. -/
theorem go_loop (J : Nat → Nat → St → Prop) (n : Nat) {c : Code} (h0 : J n k σ)
    (hr : ∀ n k σ, J n k σ → go P R (.cd c :: .lp (fun k' σ' => ∃ m, m < n ∧ J m k' σ') :: s) .normal k σ) : go P R (.cd (.loop c) :: s) .normal k σ := by
  intro w0 F a w hi
  let p : Act → World → Nat → Prop := fun a w n => ∃ k σ, J n k σ ∧ Known' w0 F k σ a w
  have hμ : ∃ μ : Act → World → Nat, ∀ a w, (∃ n, p a w n) → p a w (μ a w) ∧ ∀ m, p a w m → μ a w ≤ m :=
    ⟨fun a w => @dite _ (∃ n, p a w n) (Classical.propDecidable _) (fun h => Classical.choose (exists_least h)) fun _ => 0, fun a w h => by
      simp only [dif_pos h]
      exact Classical.choose_spec (exists_least h)⟩
  obtain ⟨μ, hμ⟩ := hμ
  refine wp_loop (fun a w => ∃ n, p a w n) μ ⟨n, k, σ, h0, hi⟩ fun a w hI => ?_
  obtain ⟨⟨k, σ, hJ, hK⟩, hmin⟩ := hμ a w hI
  refine Code.wp_mono (fun e a' w' ⟨k', σ', h1, h2⟩ => ?_) (hr _ k σ hJ w0 F a w hK)
  cases e with
  | normal =>
    obtain ⟨m, hm, hJ'⟩ := h2
    have hp : p a' w' m := ⟨k', σ', hJ', h1⟩
    exact ⟨⟨m, hp⟩, Nat.lt_of_le_of_lt ((hμ a' w' ⟨m, hp⟩).2 m hp) hm⟩
  | exit id => exact ⟨k', σ', h1, h2⟩
  | ret => exact ⟨k', σ', h1, h2⟩
  | goto l => exact h2.elim
  | panic ch => exact h2.elim
  | outgrown => exact h2.elim

end
end Go.V
/- The value-level machine, part 30: regions whose order is drawn. -/
namespace Go.V
open Go Go.RowKit

/-- What operation i of a region did: its effect, what it looked at. -/
structure Did where
  i : Nat
  E : Eff
  ft : List Nat

def dwrites (d : Did) : List Nat := d.E.upd.map (·.1)

inductive StepV (P : Program) (ops : Array Oper) (b : Nat) (σ : St) (o : Oper) (d : Did) : Prop where
  | plain (hg : o.guard = none) (h : Does P (b + 32 * d.i) σ o.op d.E) (hf : d.ft = feet σ o.op)
  | yes (j : Nat) (w : Bool) (e : Nat) (hg : o.guard = some (j, w)) (hfl : σ.flag ops j w = some (e, w)) (hn : e < σ.n) (h : Does P (b + 32 * d.i) σ o.op d.E) (hf : d.ft = feet σ o.op)
  | no (j : Nat) (w : Bool) (e : Nat) (hg : o.guard = some (j, w)) (hfl : σ.flag ops j w = some (e, !w)) (hn : e < σ.n) (h : d.E = ⟨.t [], [], []⟩) (hf : d.ft = [])

inductive Tr (P : Program) (ops : Array Oper) (b : Nat) : List Did → St → St → Prop where
  | nil (σ : St) : Tr P ops b [] σ σ
  | cons {d : Did} {l : List Did} {σ τ : St} (o : Oper) (ho : ops[d.i]? = some o) (hd : ∀ e, o.dst = some e → e < σ.n) (h : StepV P ops b σ o d) (hs : Tr P ops b l (σ.with o.dst d.E) τ) : Tr P ops b (d :: l) σ τ

def dis (xs ys : List Nat) : Bool := xs.all fun x => !ys.contains x
/-- Two operations that may change places. -/
def indep (ops : Array Oper) (p q : Did) : Bool :=
  match ops[p.i]?, ops[q.i]? with
  | some x, some y => x.apart ops y && dis (dwrites p) (q.ft ++ dwrites q) && dis (dwrites q) p.ft
  | _, _ => false

section
variable {P : Program} {w0 w w' : World} {F : Own} {A A' : Nat → Prop} {σ τ : St} {b : Nat} {ops : Array Oper}

theorem dis_spec {xs ys : List Nat} (h : dis xs ys = true) : ∀ x ∈ xs, x ∉ ys := fun x hx hy => by
  unfold dis at h
  rw [List.all_eq_true] at h
  have := h x hx
  simp at this
  exact this hy

theorem laid_keys (us : List (Nat × Ob)) (o : Nat → Ob) {t : Nat} (h : t ∉ us.map (·.1)) : laid us o t = o t :=
  laid_other us o fun p hp e => h (by rw [← e]; exact List.mem_map.2 ⟨p, hp, rfl⟩)

theorem laid_at (us : List (Nat × Ob)) {o o' : Nat → Ob} {t : Nat} (h : t ∈ us.map (·.1)) : laid us o t = laid us o' t := by
  induction us generalizing o o' with
  | nil => simp at h
  | cons u us ih =>
    obtain ⟨k, x⟩ := u
    simp only [laid]
    by_cases e : t ∈ us.map (·.1)
    · exact ih e
    · simp only [List.map_cons, List.mem_cons] at h
      have hk : t = k := h.resolve_right e
      subst hk
      rw [laid_keys us _ e, laid_keys us _ e, upd_same, upd_same]

theorem laid_comm (us vs : List (Nat × Ob)) (o : Nat → Ob) (h : ∀ t ∈ us.map (·.1), t ∉ vs.map (·.1)) : laid vs (laid us o) = laid us (laid vs o) := by
  funext t
  by_cases h1 : t ∈ us.map (·.1)
  · rw [laid_keys vs _ (h t h1)]
    exact laid_at us h1
  · rw [laid_keys us _ h1]
    by_cases h2 : t ∈ vs.map (·.1)
    · exact laid_at vs h2
    · rw [laid_keys vs _ h2, laid_keys vs _ h2, laid_keys us _ h1]

theorem with_comm {d1 d2 : Option Nat} {E1 E2 : Eff} (hd : ∀ d, d1 = some d → d2 ≠ some d) (h : ∀ t ∈ E1.upd.map (·.1), t ∉ E2.upd.map (·.1)) : (σ.with d1 E1).with d2 E2 = (σ.with d2 E2).with d1 E1 := by
  unfold St.with
  simp only [laid_comm _ _ _ h, St.mk.injEq, true_and, and_true]
  cases d1 with
  | none => cases d2 <;> rfl
  | some a =>
    cases d2 with
    | none => rfl
    | some c =>
      funext i
      have hne : a ≠ c := fun e => hd a rfl (by rw [e])
      simp only [upd]
      by_cases h1 : i = c
      · subst h1; rw [if_pos rfl, if_neg (fun e => hne e.symm), if_pos rfl]
      · rw [if_neg h1]; by_cases h2 : i = a
        · rw [if_pos h2, if_pos h2]
        · rw [if_neg h2, if_neg h2, if_neg h1]

theorem ev_with {d : Option Nat} {E : Eff} {x : Operand} (h : ∀ t, x = .tmp t → d ≠ some t) : (σ.with d E).ev x = σ.ev x := by
  cases x with
  | tmp t =>
    cases d with
    | none => rfl
    | some e =>
      have : t ≠ e := fun he => h t rfl (by rw [he])
      exact upd_ne _ _ this
  | const v => rfl
  | func f => rfl
  | global g => rfl

theorem looks_op {o : Oper} {t : Nat} (h : Operand.tmp t ∈ o.op.operands.toList) : t ∈ o.looksAt ops := by
  unfold Oper.looksAt
  refine List.mem_append_left _ (List.mem_filterMap.2 ⟨_, h, rfl⟩)
theorem looks_guard {o : Oper} {j : Nat} {w : Bool} {d : Nat} (hg : o.guard = some (j, w)) (h : (ops[j]?).bind (·.dst) = some d) : d ∈ o.looksAt ops := by
  unfold Oper.looksAt
  refine List.mem_append_right _ ?_
  rw [hg]
  simp only [h]
  simp

/-- An operation looks at the same behind, and ahead of, one that it is apart from. -/
theorem near_with {o : Oper} {d : Option Nat} {E : Eff} (hd : ∀ e, d = some e → e ∉ o.looksAt ops) (hft : ∀ t ∈ E.upd.map (·.1), t ∉ feet (σ.with d E) o.op) : Near (σ.with d E) σ o.op ∧ feet σ o.op = feet (σ.with d E) o.op := by
  have hev : ∀ x ∈ o.op.operands.toList, (σ.with d E).ev x = σ.ev x := fun x hx => ev_with fun t ht he => by subst ht; exact hd t he (looks_op hx)
  have hob : ∀ t ∈ feet (σ.with d E) o.op, σ.o t = (σ.with d E).o t := fun t ht => (laid_keys E.upd σ.o fun h => hft t h ht).symm
  refine ⟨⟨fun x hx => (hev x hx).symm, hob⟩, ?_⟩
  unfold feet
  refine congrArg List.flatten (List.map_congr_left fun x hx => ?_)
  unfold feetV
  rw [hev x hx]
  congr 1
  refine congrArg List.flatten (List.map_congr_left fun t ht => ?_)
  rw [hob t]
  unfold feet feetV
  exact List.mem_flatMap.2 ⟨x, hx, List.mem_append_left _ (by rw [hev x hx]; exact ht)⟩

theorem near_with' {o : Oper} {d : Option Nat} {E : Eff} (hd : ∀ e, d = some e → e ∉ o.looksAt ops) (hft : ∀ t ∈ E.upd.map (·.1), t ∉ feet σ o.op) : Near σ (σ.with d E) o.op ∧ feet (σ.with d E) o.op = feet σ o.op := by
  have hev : ∀ x ∈ o.op.operands.toList, (σ.with d E).ev x = σ.ev x := fun x hx => ev_with fun t ht he => by subst ht; exact hd t he (looks_op hx)
  have hob : ∀ t ∈ feet σ o.op, (σ.with d E).o t = σ.o t := fun t ht => laid_keys E.upd σ.o fun h => hft t h ht
  refine ⟨⟨hev, hob⟩, ?_⟩
  unfold feet
  refine congrArg List.flatten (List.map_congr_left fun x hx => ?_)
  unfold feetV
  rw [hev x hx]
  congr 1
  refine congrArg List.flatten (List.map_congr_left fun t ht => ?_)
  rw [hob t]
  unfold feet feetV
  exact List.mem_flatMap.2 ⟨x, hx, List.mem_append_left _ ht⟩

theorem flag_with {o : Oper} {j : Nat} {w : Bool} {d : Option Nat} {E : Eff} (hg : o.guard = some (j, w)) (hd : ∀ e, d = some e → e ∉ o.looksAt ops) : (σ.with d E).flag ops j w = σ.flag ops j w := by
  unfold St.flag
  cases h : (ops[j]?).bind (·.dst) with
  | none => rfl
  | some e =>
    have : (σ.with d E).t e = σ.t e := ev_with (x := .tmp e) fun t ht he => by cases ht; exact hd e he (looks_guard hg h)
    simp only [this]

theorem step_back {o : Oper} {p q : Did} {d : Option Nat} (hd : ∀ e, d = some e → e ∉ o.looksAt ops) (hw : ∀ t ∈ dwrites q, t ∉ p.ft) (h : StepV P ops b (σ.with d q.E) o p) : StepV P ops b σ o p := by
  cases h with
  | plain hg h hf =>
    obtain ⟨h1, h2⟩ := near_with (σ := σ) (ops := ops) hd (E := q.E) (by rw [← hf]; exact hw)
    exact .plain hg (does_loc h1 h) (hf.trans h2.symm)
  | yes j w e hg hfl hn h hf =>
    obtain ⟨h1, h2⟩ := near_with (σ := σ) (ops := ops) hd (E := q.E) (by rw [← hf]; exact hw)
    exact .yes j w e hg (by rw [flag_with hg hd] at hfl; exact hfl) hn (does_loc h1 h) (hf.trans h2.symm)
  | no j w e hg hfl hn h hf => exact .no j w e hg (by rw [flag_with hg hd] at hfl; exact hfl) hn h hf

theorem step_on {o : Oper} {p q : Did} {d : Option Nat} (hd : ∀ e, d = some e → e ∉ o.looksAt ops) (hw : ∀ t ∈ dwrites q, t ∉ p.ft) (h : StepV P ops b σ o p) : StepV P ops b (σ.with d q.E) o p := by
  cases h with
  | plain hg h hf =>
    obtain ⟨h1, h2⟩ := near_with' (σ := σ) (ops := ops) hd (E := q.E) (by rw [← hf]; exact hw)
    exact .plain hg (does_loc h1 h) (hf.trans h2.symm)
  | yes j w e hg hfl hn h hf =>
    obtain ⟨h1, h2⟩ := near_with' (σ := σ) (ops := ops) hd (E := q.E) (by rw [← hf]; exact hw)
    exact .yes j w e hg (by rw [flag_with hg hd]; exact hfl) hn (does_loc h1 h) (hf.trans h2.symm)
  | no j w e hg hfl hn h hf => exact .no j w e hg (by rw [flag_with hg hd]; exact hfl) hn h hf

theorem tr_swap {p q : Did} {l : List Did} (hi : indep ops q p = true) (h : Tr P ops b (q :: p :: l) σ τ) : Tr P ops b (p :: q :: l) σ τ := by
  cases h with
  | cons x hx hdx h1 hs =>
    cases hs with
    | cons y hy hdy h2 hs =>
      unfold indep at hi
      rw [hx, hy] at hi
      simp only [Bool.and_eq_true] at hi
      obtain ⟨⟨hap, hw1⟩, hw2⟩ := hi
      obtain ⟨a1, a2, a3⟩ := Oper.apart_spec hap
      have d1 := dis_spec hw1
      have d2 := dis_spec hw2
      have s2 := step_back (σ := σ) (d := x.dst) (q := q) a1 (fun t ht hm => d1 t ht (List.mem_append_left _ hm)) h2
      have s1 := step_on (σ := σ) (d := y.dst) (q := p) a3 d2 h1
      refine .cons y hy hdy s2 (.cons x hx hdx s1 ?_)
      rw [← with_comm (fun d hd => a2 d hd) (fun t ht hm => d1 t ht (List.mem_append_right _ hm))]
      exact hs

theorem tr_front {p : Did} : ∀ {l1 l2 : List Did} {σ : St}, (∀ q ∈ l1, indep ops q p = true) → Tr P ops b (l1 ++ p :: l2) σ τ → Tr P ops b (p :: (l1 ++ l2)) σ τ
  | [], _, _, _, h => h
  | q :: l1, l2, σ, hi, h => by
    cases h with
    | cons x hx hdx h1 hs => exact tr_swap (hi q (by simp)) (.cons x hx hdx h1 (tr_front (fun r hr => hi r (by simp [hr])) hs))

def pred (ops : Array Oper) (i j : Nat) : Prop := ∃ o, ops[i]? = some o ∧ ∃ e ∈ o.after, Region.binds .any e = true ∧ e.on = j
inductive Must (ops : Array Oper) : Nat → Nat → Prop where
  | one (q p : Nat) (h : pred ops p q) : Must ops q p
  | more (q r p : Nat) (h : pred ops p r) (hs : Must ops q r) : Must ops q p

theorem ready_spec {listed : Array Bool} {p : Nat} (h : p ∈ Region.ready .any ops listed) : p < ops.size ∧ listed.getD p true = false ∧ ∀ j, pred ops p j → listed.getD j false = true := by
  unfold Region.ready at h
  rw [List.mem_filter] at h
  obtain ⟨h1, h2⟩ := h
  rw [Bool.and_eq_true] at h2
  obtain ⟨h2, h3⟩ := h2
  refine ⟨List.mem_range.1 h1, by simpa using h2, ?_⟩
  rintro j ⟨o, ho, e, he, hb, rfl⟩
  rw [ho] at h3
  simp only [Option.map_some, Option.getD_some] at h3
  rw [Array.all_eq_true'] at h3
  have := h3 e he
  rw [hb] at this
  simpa using this
theorem ready_of {listed : Array Bool} {p : Nat} {o : Oper} (ho : ops[p]? = some o) (hl : listed.getD p true = false) (h : ∀ j, pred ops p j → listed.getD j false = true) : p ∈ Region.ready .any ops listed := by
  unfold Region.ready
  rw [List.mem_filter]
  refine ⟨List.mem_range.2 (by rcases Nat.lt_or_ge p ops.size with h | h; exact h; rw [Array.getElem?_eq_none h] at ho; cases ho), ?_⟩
  rw [Bool.and_eq_true]
  refine ⟨by rw [hl]; rfl, ?_⟩
  rw [ho]
  simp only [Option.map_some, Option.getD_some]
  rw [Array.all_eq_true']
  intro e he
  by_cases hb : Region.binds .any e = true
  · rw [h e.on ⟨o, ho, e, he, hb, rfl⟩]; simp
  · simp [hb]

theorem must_listed {listed : Array Bool} (hc : ∀ i j, listed.getD i false = true → pred ops i j → listed.getD j false = true) {q p : Nat} (h : Must ops q p) (hp : ∀ j, pred ops p j → listed.getD j false = true) : listed.getD q false = true := by
  induction h with
  | one p h => exact hp q h
  | more r p h hs ih => exact ih fun j hj => hc r j (hp r h) hj

theorem getD_set {listed : Array Bool} {p i : Nat} {x : Bool} (hp : p < listed.size) : (listed.setIfInBounds p true).getD i x = if i = p then true else listed.getD i x := by
  simp only [Array.getD_eq_getD_getElem?]
  by_cases e : i = p
  · subst e; simp [hp]
  · rw [Array.getElem?_setIfInBounds_ne (fun h => e h.symm), if_neg e]

theorem stepV_go {Q : Exit → Act → World → Prop} {K : Act → World → Prop} {o : Oper} {d : Did} {a : Act} (ho : ops[d.i]? = some o) (hd : ∀ e, o.dst = some e → e < σ.n) (h : StepV P ops b σ o d) (hi : Inv w0 F A σ a w)
    (hk : ∀ t, b + 32 * d.i ≤ t → t < b + 32 * d.i + 32 → ¬ A t) (hn : ∀ a' w', Inv w0 F (fun t => A t ∨ b + 32 * d.i ≤ t ∧ t < b + 32 * d.i + 32) (σ.with o.dst d.E) a' w' → K a' w') : wpOp P ops Q d.i K a w := by
  unfold wpOp
  rw [ho]
  simp only
  cases h with
  | plain hg h hf =>
    have : Region.wanted o (yielded ops a.tmps) = true := by unfold Region.wanted; rw [hg]
    rw [if_pos this]
    exact .inl (does_go h hi hd hk (fun _ => Iff.rfl) hn)
  | yes j w' e hg hfl hen h hf =>
    have : Region.wanted o (yielded ops a.tmps) = true := by
      unfold Region.wanted; rw [hg]
      simp only [flag_yields hi hfl hen, beq_self_eq_true]
    rw [if_pos this]
    exact .inl (does_go h hi hd hk (fun _ => Iff.rfl) hn)
  | no j w' e hg hfl hen h hf =>
    have : ¬ Region.wanted o (yielded ops a.tmps) = true := by
      unfold Region.wanted; rw [hg]
      simp only [flag_yields hi hfl hen]
      cases w' <;> decide
    rw [if_neg this]
    exact hn _ _ (by rw [h]; exact junk_put hi hd (fun t ht => .inl ht))

theorem draw_go {Q : Exit → Act → World → Prop} (hback : ∀ i j, pred ops i j → j < i) (hQ : ∀ A' a' w', Inv w0 F A' τ a' w' → (∀ t, b + 32 * ops.size ≤ t → ¬ A' t) → Q .normal a' w') :
    ∀ (n : Nat) {l : List Did} {listed : Array Bool} {σ : St} {A : Nat → Prop} {a : Act} {w : World}, l.length = n → Tr P ops b l σ τ → Inv w0 F A σ a w → (∀ d ∈ l, ∀ t, b + 32 * d.i ≤ t → t < b + 32 * d.i + 32 → ¬ A t) → (∀ t, b + 32 * ops.size ≤ t → ¬ A t) →
      listed.size = ops.size → (∀ i, i < ops.size → (listed.getD i true = false ↔ ∃ d ∈ l, d.i = i)) → l.Pairwise (fun q p => q.i < p.i) → (∀ d ∈ l, d.i < ops.size) → (∀ i j, listed.getD i false = true → pred ops i j → listed.getD j false = true) →
      l.Pairwise (fun q p => indep ops q p = true ∨ Must ops q.i p.i) → wpAny P .any ops Q n listed a w
  | 0, l, listed, σ, A, a, w, hlen, htr, hi, hk, hA, hls, hun, hso, hin, hcl, hpw => by
    have : l = [] := List.eq_nil_of_length_eq_zero hlen
    subst this
    cases htr
    refine ⟨List.eq_nil_iff_forall_not_mem.2 fun p hp => ?_, hQ A a w hi hA⟩
    obtain ⟨h1, h2, _⟩ := ready_spec hp
    obtain ⟨d, hd, _⟩ := (hun p h1).1 h2
    simp at hd
  | n + 1, l, listed, σ, A, a, w, hlen, htr, hi, hk, hA, hls, hun, hso, hin, hcl, hpw => by
    have hset : ∀ i, i < ops.size → listed.getD i true = listed.getD i false := fun i hi' => by
      simp only [Array.getD_eq_getD_getElem?]
      rw [Array.getElem?_eq_getElem (by omega)]; rfl
    refine ⟨fun hr => ?_, fun p hp => ?_⟩
    · exfalso
      cases l with
      | nil => simp at hlen
      | cons d l =>
        have hd : d.i < ops.size := hin d (by simp)
        have hm : d.i ∈ Region.ready .any ops listed := by
          refine ready_of (o := ops[d.i]) (by simp [hd]) ((hun d.i hd).2 ⟨d, by simp, rfl⟩) fun j hj => ?_
          have hlt := hback _ _ hj
          have hj' : j < ops.size := by omega
          cases hc : listed.getD j false with
          | true => rfl
          | false =>
            exfalso
            obtain ⟨e, he, hej⟩ := (hun j hj').1 (by rw [hset j hj']; exact hc)
            rcases List.mem_cons.1 he with rfl | he
            · omega
            · have := (List.pairwise_cons.1 hso).1 e he
              omega
        rw [hr] at hm
        simp at hm
    · obtain ⟨h1, h2, h3⟩ := ready_spec hp
      obtain ⟨d, hd, rfl⟩ := (hun p h1).1 h2
      obtain ⟨l1, l2, rfl⟩ := List.append_of_mem hd
      have hind : ∀ q ∈ l1, indep ops q d = true := fun q hq => by
        have := (List.pairwise_append.1 hpw).2.2 q hq d (by simp)
        rcases this with h | h
        · exact h
        · exfalso
          have hq' := hin q (by simp [hq])
          have := must_listed hcl h h3
          rw [← hset _ hq', (hun q.i hq').2 ⟨q, by simp [hq], rfl⟩] at this
          cases this
      have htr' := tr_front hind htr
      cases htr' with
      | cons o ho hdo hst hs =>
        refine stepV_go ho hdo hst hi (hk d (by simp)) fun a' w' hI => ?_
        have hnd : ∀ e ∈ l1 ++ l2, e.i ≠ d.i := fun e he => by
          rcases List.mem_append.1 he with he | he
          · have := (List.pairwise_append.1 hso).2.2 e he d (by simp); omega
          · have := (List.pairwise_cons.1 (List.pairwise_append.1 hso).2.1).1 e he; omega
        have hsub : (l1 ++ l2).Sublist (l1 ++ d :: l2) := List.Sublist.append_left (List.sublist_cons_self _ _) _
        refine draw_go hback hQ n (by simp at hlen ⊢; omega) hs hI (fun e he t ht1 ht2 => ?_) (fun t ht => ?_) (by simpa using hls) (fun i hi' => ?_) (hso.sublist hsub) (fun e he => hin e (hsub.mem he)) (fun i j hi' hj => ?_) (hpw.sublist hsub)
        · rintro (h | h)
          · exact hk e (hsub.mem he) t ht1 ht2 h
          · have := hnd e he
            omega
        · rintro (h | h)
          · exact hA t ht h
          · omega
        · rw [getD_set (by omega)]
          by_cases e : i = d.i
          · subst e
            simp only [if_true, Bool.true_eq_false, false_iff]
            rintro ⟨e, he, hei⟩
            exact hnd e he hei
          · rw [if_neg e, hun i hi']
            constructor
            · rintro ⟨x, hx, rfl⟩
              refine ⟨x, ?_, rfl⟩
              rcases List.mem_append.1 hx with hx | hx
              · exact List.mem_append_left _ hx
              · rcases List.mem_cons.1 hx with rfl | hx
                · exact absurd rfl e
                · exact List.mem_append_right _ hx
            · rintro ⟨x, hx, rfl⟩
              exact ⟨x, hsub.mem hx, rfl⟩
        · rw [getD_set (by omega)] at hi' ⊢
          split
          · rfl
          · split at hi'
            · rename_i e; subst e; exact h3 j hj
            · exact hcl i j hi' hj

end
end Go.V
/- The value-level machine, part 24: forgetting. -/
namespace Go.V
open Go Go.RowKit

/-- olds: of each token of the new state, the old one, or none: a nil slice becomes an empty row of one's own. -/
inductive SubC (σ : St) (olds : List (Option Nat)) : PC → PC → Prop where
  | junk (x : PC) : SubC σ olds x .junk
  | int (k : IntKind) (n : Int) : SubC σ olds (.int k n) (.int k n)
  | bool (b : Bool) : SubC σ olds (.bool b) (.bool b)
  | str (s : List UInt8) : SubC σ olds (.str s) (.str s)
  | lst (xs : List (List Cell)) : SubC σ olds (.lst xs) (.lst xs)
  | rptr (cs : List Cell) : SubC σ olds (.rptr cs) (.rptr cs)
  | nil : SubC σ olds .nil .nil
  | fn (f : FuncId) : SubC σ olds (.fn f) (.fn f)
  | own (t j : Nat) (h : olds[j]? = some (some t)) : SubC σ olds (.own t) (.own j)
  | sub (t j sz off len : Nat) (h : olds[j]? = some (some t)) : SubC σ olds (.sub t sz off len) (.sub j sz off len)
  | ptr (t j off : Nat) (h : olds[j]? = some (some t)) : SubC σ olds (.ptr t off) (.ptr j off)
  | eptr (t j sz i off : Nat) (h : olds[j]? = some (some t)) : SubC σ olds (.eptr t sz i off) (.eptr j sz i off)
  | fresh (j : Nat) (h : olds[j]? = some none) : SubC σ olds .nil (.own j)
  | gave (x : PC) (xs : List (List Cell)) (h : σ.rows x = some xs) (hn : ∀ t ∈ x.toks, some t ∉ olds) : SubC σ olds x (.lst xs)

inductive SubP (σ : St) (olds : List (Option Nat)) : P1 → P1 → Prop where
  | c (x y : PC) (h : SubC σ olds x y) : SubP σ olds (.c x) (.c y)
  | a (xs ys : List PC) (h : Rels (SubC σ olds) xs ys) : SubP σ olds (.a xs) (.a ys)
inductive SubV (σ : St) (olds : List (Option Nat)) : PV → PV → Prop where
  | junk (x : PV) : SubV σ olds x (.c .junk)
  | v (x y : P1) (h : SubP σ olds x y) : SubV σ olds (.v x) (.v y)
  | t (xs ys : List P1) (h : Rels (SubP σ olds) xs ys) : SubV σ olds (.t xs) (.t ys)
inductive SubO (σ : St) (olds : List (Option Nat)) : Option Nat → Ob → Prop where
  | box (t : Nat) (cs ds : List PC) (h : σ.o t = .box cs) (hs : Rels (SubC σ olds) cs ds) : SubO σ olds (some t) (.box ds)
  | row (t : Nat) (e : TypeId) (sz : Nat) (xs : List (List Cell)) (h : σ.o t = .row e sz xs) : SubO σ olds (some t) (.row e sz xs)
  | frz (t : Nat) (xs : List (List Cell)) (h : σ.o t = .frz xs) : SubO σ olds (some t) (.frz xs)
  | gone (t : Nat) (h : σ.o t = .gone) : SubO σ olds (some t) .gone
  | fresh (e : TypeId) (sz : Nat) (h : 0 < sz) : SubO σ olds none (.row e sz [])

def look : List (Nat × PV) → Nat → PV
  | [], _ => .c .junk
  | (i, x) :: l, j => if j = i then x else look l j
def lookO : List (Nat × Ob) → Nat → Ob
  | [], _ => .gone
  | (i, x) :: l, j => if j = i then x else lookO l j
/-- A state by lists. -/
def mk (n r : Nat) (ts : List (Nat × PV)) (os : List (Nat × Ob)) : St := ⟨n, look ts, lookO os, r⟩

section
variable {P : Program} {w0 w : World} {F : Own} {A : Nat → Prop} {σ : St} {H : Nat → Value} {φ : Nat → List Nat} {S : Nat → Prop} {tmps : Nat → Value} {olds : List (Option Nat)}

def newH (H : Nat → Value) (olds : List (Option Nat)) (j : Nat) : Value :=
  match olds[j]? with
  | some (some t) => H t
  | some none => .slice none 0 0
  | none => undef
def newφ (φ : Nat → List Nat) (olds : List (Option Nat)) (j : Nat) : List Nat :=
  match olds[j]? with
  | some (some t) => φ t
  | _ => []
def newS (S : Nat → Prop) (φ : Nat → List Nat) (olds : List (Option Nat)) (b : Nat) : Prop := S b ∨ ∃ t, some t ∉ olds ∧ b ∈ φ t

theorem old_lt {j : Nat} {x : Option Nat} (h : olds[j]? = some x) : j < olds.length := lt_of_get h

theorem subC_rel (hF : Facts w0 F A σ tmps w H φ S) {x y : PC} (h : SubC σ olds x y) {H' : Nat → Value} (hH : ∀ j, j < olds.length → H' j = newH H olds j) {v : Value} (hk : Known A H S w x v) : RelC w (newS S φ olds) H' y v := by
  have hv : RelC w S H x v := hk H fun _ _ => rfl
  have hS : ∀ b, S b → newS S φ olds b := fun b hb => .inl hb
  have hHj : ∀ {j t : Nat}, olds[j]? = some (some t) → H' j = H t := fun {j t} h => by rw [hH j (old_lt h), newH, h]
  have hm := RelC.mono (H := H) (fun _ _ => rfl : Agree S w w) hS hv
  cases h with
  | junk => trivial
  | int k n => exact hm
  | bool b => exact hm
  | str s => exact hm
  | lst xs => exact hm
  | rptr cs => exact hm
  | nil => exact hm
  | fn f => exact hm
  | own t j h => obtain ⟨e, r⟩ := hv; exact ⟨by rw [hHj h]; exact e, r⟩
  | sub t j sz off len h => obtain ⟨a1, n, c, a2, c', h1, h2⟩ := hv; exact ⟨a1, n, c, a2, c', by rw [hHj h]; exact h1, h2⟩
  | ptr t j off h => obtain ⟨g, h1, h2⟩ := hv; exact ⟨g, by rw [hHj h]; exact h1, h2⟩
  | eptr t j sz i off h => obtain ⟨g, n, c, h1, h2⟩ := hv; exact ⟨g, n, c, by rw [hHj h]; exact h1, h2⟩
  | fresh j h => exact ⟨by rw [hH j (old_lt h), newH, h]; exact hv, none, 0, 0, hv⟩
  | gave x xs h hn => exact (rows_rep hF hk h).mono (fun _ _ => rfl) fun b hb => hb.imp id fun ⟨t, ht, hb⟩ => ⟨t, hn t ht, hb⟩

theorem subCs_rel (hF : Facts w0 F A σ tmps w H φ S) {H' : Nat → Value} (hH : ∀ j, j < olds.length → H' j = newH H olds j) : ∀ {xs ys : List PC} {vs : List Value}, Rels (SubC σ olds) xs ys → (∀ H', (∀ t, A t → H' t = H t) → Rels (RelC w S H') xs vs) →
    Rels (RelC w (newS S φ olds) H') ys vs
  | _, _, vs, .nil, hv => by have := hv H fun _ _ => rfl; cases this; exact .nil
  | _, _, vs, .cons h hs, hv => by
    cases vs with
    | nil => have := hv H fun _ _ => rfl; cases this
    | cons v vs =>
      refine .cons (subC_rel hF h hH fun H' hH' => ?_) (subCs_rel hF hH hs fun H' hH' => ?_)
      · cases hv H' hH' with | cons h _ => exact h
      · cases hv H' hH' with | cons _ h => exact h

theorem subP_rel (hF : Facts w0 F A σ tmps w H φ S) {H' : Nat → Value} (hH : ∀ j, j < olds.length → H' j = newH H olds j) {x y : P1} (h : SubP σ olds x y) {v : Value} (hv : ∀ H', (∀ t, A t → H' t = H t) → RelP w S H' x v) : RelP w (newS S φ olds) H' y v := by
  cases h with
  | c x y h => exact subC_rel hF h hH hv
  | a xs ys h =>
    obtain ⟨vs, e, hr⟩ := hv H fun _ _ => rfl
    refine ⟨vs, e, subCs_rel hF hH h fun H' hH' => ?_⟩
    obtain ⟨vs', e', hr'⟩ := hv H' hH'
    have : vs' = vs := by rw [e] at e'; simpa using e'.symm
    subst this; exact hr'

theorem subPs_rel (hF : Facts w0 F A σ tmps w H φ S) {H' : Nat → Value} (hH : ∀ j, j < olds.length → H' j = newH H olds j) : ∀ {xs ys : List P1} {vs : List Value}, Rels (SubP σ olds) xs ys → (∀ H', (∀ t, A t → H' t = H t) → Rels (RelP w S H') xs vs) →
    Rels (RelP w (newS S φ olds) H') ys vs
  | _, _, vs, .nil, hv => by have := hv H fun _ _ => rfl; cases this; exact .nil
  | _, _, vs, .cons h hs, hv => by
    cases vs with
    | nil => have := hv H fun _ _ => rfl; cases this
    | cons v vs =>
      refine .cons (subP_rel hF hH h fun H' hH' => ?_) (subPs_rel hF hH hs fun H' hH' => ?_)
      · cases hv H' hH' with | cons h _ => exact h
      · cases hv H' hH' with | cons _ h => exact h

theorem subV_rel (hF : Facts w0 F A σ tmps w H φ S) {H' : Nat → Value} (hH : ∀ j, j < olds.length → H' j = newH H olds j) {x y : PV} (h : SubV σ olds x y) {v : Value} (hv : ∀ H', (∀ t, A t → H' t = H t) → RelV w S H' x v) : RelV w (newS S φ olds) H' y v := by
  cases h with
  | junk => trivial
  | v x y h => exact subP_rel hF hH h hv
  | t xs ys h =>
    obtain ⟨vs, e, hr⟩ := hv H fun _ _ => rfl
    refine ⟨vs, e, subPs_rel hF hH h fun H' hH' => ?_⟩
    obtain ⟨vs', e', hr'⟩ := hv H' hH'
    have : vs' = vs := by rw [e] at e'; simpa using e'.symm
    subst this; exact hr'

theorem subO_rel (hF : Facts w0 F A σ tmps w H φ S) {H' : Nat → Value} (hH : ∀ j, j < olds.length → H' j = newH H olds j) {j : Nat} {x : Option Nat} (hj : olds[j]? = some x) {y : Ob} (h : SubO σ olds x y) : RelO w (newS S φ olds) H' y (newφ φ olds j) (H' j) := by
  have hS : ∀ b, S b → newS S φ olds b := fun b hb => .inl hb
  cases h with
  | box t cs ds h hs =>
    obtain ⟨g, cur, e, h1, h2, h3, h4, h5⟩ := box_at hF h
    refine ⟨g, cur, e, by rw [hH j (old_lt hj), newH, hj]; exact h2, by rw [newφ, hj]; exact h3, h4, subCs_rel hF hH hs h5⟩
  | row t e sz xs h =>
    have := hF.obj t
    rw [h] at this
    rw [hH j (old_lt hj), newH, hj, newφ, hj]
    exact RelO.mono (H := H) (x := .row e sz xs) (fun _ _ => rfl) hS (fun _ _ => rfl) this
  | frz t xs h =>
    have := hF.obj t
    rw [h] at this
    rw [hH j (old_lt hj), newH, hj, newφ, hj]
    exact RelO.mono (H := H) (x := .frz xs) (fun _ _ => rfl) hS (fun _ _ => rfl) this
  | gone t h =>
    have := hF.obj t
    rw [h] at this
    rw [newφ, hj]
    exact this
  | fresh e sz h =>
    rw [hH j (old_lt hj), newH, hj, newφ, hj]
    exact ⟨.nil e sz h, h⟩

/-- Forgetting: the states' slots and objects, one by one. -/
theorem wk_of {k k' : Nat} {τ : St} (olds : List (Option Nat)) (hn : τ.n = σ.n) (hr : ∀ i, i < τ.next → i < σ.next ∧ olds[i]? = some (some i)) (hnd : olds.Pairwise fun x y => x = none ∨ x ≠ y) (hk' : olds.length ≤ k') (hfr : ∀ j, olds.length ≤ j → τ.o j = .gone)
    (ht : ∀ i, SubV σ olds (σ.t i) (τ.t i)) (ho : ∀ j x, olds[j]? = some x → SubO σ olds x (τ.o j)) : Wk k σ k' τ := by
  intro w0 F a w ⟨A, ⟨⟨H, φ, S, hF⟩, hs, hdef⟩, hk⟩
  have hinj : ∀ (i j t : Nat), olds[i]? = some (some t) → olds[j]? = some (some t) → i = j := by
    intro i j t hi hj
    have key : ∀ (i j : Nat), i < j → olds[i]? = some (some t) → olds[j]? = some (some t) → False := fun i j hij hi hj => by
      rw [List.pairwise_iff_getElem] at hnd
      have h1 := old_lt hi
      have h2 := old_lt hj
      have := hnd i j h1 h2 hij
      simp [h1, h2] at hi hj
      rw [hi, hj] at this
      simp at this
    rcases Nat.lt_trichotomy i j with h | h | h
    · exact (key i j h hi hj).elim
    · exact h
    · exact (key j i h hj hi).elim
  refine ⟨fun j => j < olds.length, ⟨⟨newH H olds, newφ φ olds, newS S φ olds, ?_⟩, by rw [hs, hn], hdef⟩, fun t h1 h2 => by omega⟩
  refine ⟨fun H' hH' => ⟨fun i => subV_rel hF hH' (ht i) fun H' hH' => (hF.rel H' hH').1 i, fun j => ?_⟩, fun j hj => hfr j (by omega), fun j b hb => ?_, fun j => ?_, ?_, hF.keeps, ?_, fun i e => ?_⟩
  · cases hj : olds[j]? with
    | some x => exact subO_rel hF hH' hj (ho j x hj)
    | none =>
      rw [hfr j (by simpa using hj)]
      show newφ φ olds j = []
      rw [newφ, hj]
  · unfold newφ at hb
    cases hj : olds[j]? with
    | none => simp [hj] at hb
    | some x =>
      cases x with
      | none => simp [hj] at hb
      | some t =>
        simp only [hj] at hb
        obtain ⟨a1, a2, a3, a4⟩ := hF.apart t b hb
        refine ⟨?_, a2, a3, fun j' hb' => ?_⟩
        · rintro (h | ⟨t', h1, h2⟩)
          · exact a1 h
          · have := a4 t' h2
            subst this
            exact h1 (List.mem_of_getElem? hj)
        · unfold newφ at hb'
          cases hj' : olds[j']? with
          | none => simp [hj'] at hb'
          | some x' =>
            cases x' with
            | none => simp [hj'] at hb'
            | some t' =>
              simp only [hj'] at hb'
              have := a4 t' hb'
              subst this
              exact hinj _ _ _ hj' hj
  · unfold newφ
    split
    · exact hF.nodup _
    · exact List.nodup_nil
  · rintro b (h | ⟨t, _, h⟩)
    · exact hF.ro b h
    · exact (hF.apart t b h).2.1
  · rintro b (h | ⟨t, _, h⟩)
    · exact hF.orig b h
    · exact ((hF.apart t b h).2.2.1).imp id (F.sub b)
  · obtain ⟨h1, h2⟩ := hr i e
    exact ⟨old_lt h2, by rw [newH, h2]; exact (hF.anchor i h1).2⟩

/-! ### by lists -/
theorem look_cases {l : List (Nat × PV)} {p : PV → Prop} {i : Nat} (hj : p (.c .junk)) (hl : ∀ q ∈ l, q.1 = i → p q.2) : p (look l i) := by
  induction l with
  | nil => exact hj
  | cons q l ih =>
    obtain ⟨j, x⟩ := q
    simp only [look]
    split
    · rename_i e; exact hl (j, x) (by simp) e.symm
    · exact ih fun q hq => hl q (by simp [hq])

inductive All2 {α β : Type} (R : α → β → Prop) : List α → List β → Prop where
  | nil : All2 R [] []
  | cons {x : α} {y : β} {xs : List α} {ys : List β} (h : R x y) (hs : All2 R xs ys) : All2 R (x :: xs) (y :: ys)

/-- The objects of a new state, numbered from j on. -/
def nums : Nat → List Ob → List (Nat × Ob)
  | _, [] => []
  | j, x :: l => (j, x) :: nums (j + 1) l
theorem lookO_nums : ∀ (l : List Ob) (i j : Nat), lookO (nums i l) j = if i ≤ j then (l[j - i]?).getD .gone else .gone
  | [], i, j => by simp [nums, lookO]
  | x :: l, i, j => by
    simp only [nums, lookO]
    by_cases e : j = i
    · subst e; simp
    · rw [if_neg e, lookO_nums l (i + 1) j]
      by_cases h : i ≤ j
      · rw [if_pos h, if_pos (by omega), show j - i = j - (i + 1) + 1 by omega]; simp
      · rw [if_neg h, if_neg (by omega)]

inductive SubTs (σ : St) (olds : List (Option Nat)) : List (Nat × PV) → Prop where
  | nil : SubTs σ olds []
  | cons (i : Nat) (x : PV) (l : List (Nat × PV)) (h : SubV σ olds (σ.t i) x) (hs : SubTs σ olds l) : SubTs σ olds ((i, x) :: l)
theorem SubTs.at {l : List (Nat × PV)} (h : SubTs σ olds l) : ∀ q ∈ l, SubV σ olds (σ.t q.1) q.2 := by
  induction h with
  | nil => simp
  | cons i x l h hs ih =>
    intro q hq
    rcases List.mem_cons.1 hq with rfl | hq
    · exact h
    · exact ih q hq

/-- Forgetting, by lists. -/
theorem wk_mk {k k' n r : Nat} {ts : List (Nat × PV)} {os : List Ob} (olds : List (Option Nat)) (hn : n = σ.n) (hr : ∀ i, i < r → i < σ.next ∧ olds[i]? = some (some i)) (ht : SubTs σ olds ts) (ho : Rels (SubO σ olds) olds os) (hnd : olds.Pairwise fun x y => x = none ∨ x ≠ y) (hk' : olds.length ≤ k') :
    Wk k σ k' (mk n r ts (nums 0 os)) := by
  refine wk_of olds hn hr hnd hk' (fun j hj => ?_) (fun i => ?_) (fun j x hx => ?_)
  · show lookO (nums 0 os) j = .gone
    rw [lookO_nums]
    have := ho.length
    rw [if_pos (Nat.zero_le _), List.getElem?_eq_none (by omega)]
    rfl
  · show SubV σ olds (σ.t i) (look ts i)
    exact look_cases (.junk _) fun q hq e => e ▸ ht.at q hq
  · show SubO σ olds x (lookO (nums 0 os) j)
    rw [lookO_nums, if_pos (Nat.zero_le _)]
    obtain ⟨y, hy, hr⟩ := ho.get hx
    simp only [Nat.sub_zero, hy, Option.getD_some]
    exact hr

end
end Go.V
/- The value-level machine, part 25: a function's start and its end. -/
namespace Go.V
open Go Go.RowKit

/-- What a result variable holds at the end. -/
def resv (P : Program) (σ : St) : ResultVar → Option P1
  | .tmp t => match σ.t t with
    | .v x => some x
    | _ => none
  | .cell a t => match σ.t a with
    | .v (.c p) => (effLoad P σ t p).bind fun E => match E.val with
      | .v x => some x
      | _ => none
    | _ => none

/-- T: the tokens that go out with the results; ts: those that go out here. -/
inductive MatC (σ : St) (T : List Nat) : PC → Cell → List Nat → Prop where
  | int (k : IntKind) (n : Int) : MatC σ T (.int k n) (.int k n) []
  | bool (b : Bool) : MatC σ T (.bool b) (.bool b) []
  | str (s : List UInt8) : MatC σ T (.str s) (.str s) []
  | lst (xs : List (List Cell)) : MatC σ T (.lst xs) (.sl none xs) []
  | nil : MatC σ T .nil (.sl none []) []
  | nilOwn (e : TypeId) (sz : Nat) (h : 0 < sz) : MatC σ T .nil (.sl (some (e, sz)) []) []
  | own (t : Nat) (e : TypeId) (sz : Nat) (xs : List (List Cell)) (h : σ.o t = .row e sz xs) : MatC σ T (.own t) (.sl (some (e, sz)) xs) [t]
  | gave (x : PC) (xs : List (List Cell)) (h : σ.rows x = some xs) (hn : ∀ t ∈ x.toks, t ∉ T) : MatC σ T x (.sl none xs) []
inductive MatCs (σ : St) (T : List Nat) : List PC → List Cell → List Nat → Prop where
  | nil : MatCs σ T [] [] []
  | cons {x : PC} {c : Cell} {ts : List Nat} {xs : List PC} {cs : List Cell} {us : List Nat} (h : MatC σ T x c ts) (hs : MatCs σ T xs cs us) : MatCs σ T (x :: xs) (c :: cs) (ts ++ us)
inductive MatR (σ : St) (T : List Nat) : P1 → RT → List Nat → Prop where
  | c {x : PC} {c : Cell} {ts : List Nat} (h : MatC σ T x c ts) : MatR σ T (.c x) (.c c) ts
  | a {xs : List PC} {cs : List Cell} {ts : List Nat} (h : MatCs σ T xs cs ts) : MatR σ T (.a xs) (.a cs) ts
  | p (t : Nat) {xs : List PC} {cs : List Cell} {ts : List Nat} (ht : σ.o t = .box xs) (h : MatCs σ T xs cs ts) : MatR σ T (.c (.ptr t 0)) (.p cs) (t :: ts)
inductive MatRs (σ : St) (T : List Nat) : List P1 → List RT → List Nat → Prop where
  | nil : MatRs σ T [] [] []
  | cons {x : P1} {r : RT} {ts : List Nat} {xs : List P1} {rs : List RT} {us : List Nat} (h : MatR σ T x r ts) (hs : MatRs σ T xs rs us) : MatRs σ T (x :: xs) (r :: rs) (ts ++ us)

def RT.cells : RT → List Cell
  | .c x => [x]
  | .a cs => cs
  | .p cs => cs
def Fin (P : Program) (rvs : List ResultVar) (res : List RT) (dep : Bool) (σ : St) : Prop :=
  ∃ pvs T, rvs.mapM (resv P σ) = some pvs ∧ MatRs σ T pvs res T ∧ T.Nodup ∧ (dep = true ∨ ∀ r ∈ res, ∀ c ∈ r.cells, AllOwn c)
def FinP (P : Program) (rvs : List ResultVar) (post : List Cell) (res : List RT) (σ : St) : Prop :=
  ∃ pvs T us xs, rvs.mapM (resv P σ) = some pvs ∧ σ.next = 1 ∧ σ.o 0 = .box xs ∧ MatRs σ (T ++ 0 :: us) pvs res T ∧ MatCs σ (T ++ 0 :: us) xs post us ∧ (T ++ 0 :: us).Nodup

def slots : Nat → List AR → List (Nat × PV)
  | _, [] => []
  | i, .v c :: l => (i, .c c.ro) :: slots (i + 1) l
  | i, .s cs :: l => (i, .a (cs.map Cell.ro)) :: slots (i + 1) l

section
variable {P : Program} {w0 w : World} {F : Own} {A : Nat → Prop} {σ : St} {H : Nat → Value} {φ : Nat → List Nat} {S : Nat → Prop} {tmps : Nat → Value} {T : List Nat}

def outS (S : Nat → Prop) (φ : Nat → List Nat) (T : List Nat) (b : Nat) : Prop := S b ∨ ∃ t, t ∉ T ∧ b ∈ φ t

theorem matC_rep (hF : Facts w0 F A σ tmps w H φ S) {x : PC} {c : Cell} {ts : List Nat} (h : MatC σ T x c ts) {v : Value} (hk : Known A H S w x v) : RepO w (outS S φ T) c v (ts.flatMap φ) := by
  have hv : RelC w S H x v := hk H fun _ _ => rfl
  have hS : ∀ b, S b → outS S φ T b := fun b hb => .inl hb
  cases h with
  | int k n => cases hv; exact .int k n
  | bool b => cases hv; exact .bool b
  | str s => cases hv; exact .str s
  | lst xs => exact .ro xs v (RepR.mono hv (fun _ _ => rfl) hS)
  | nil => cases hv; exact .ro [] _ (.sl none [] none 0 1 (fun _ _ => undef) ⟨Nat.le_refl _, Nat.zero_le _⟩ (by simp) (by omega) (fun h => absurd rfl h) (by simp) (by simp [at2]))
  | nilOwn e sz h => cases hv; exact .nil e sz h
  | own t e sz xs h =>
    obtain ⟨e1, _⟩ := hv
    obtain ⟨_, hO, _⟩ := row_at hF h
    rw [e1]
    simpa using hO.mono (S' := outS S φ T) (fun _ _ => rfl) (fun _ _ => rfl) hS
  | gave x xs h hn => exact .ro xs v ((rows_rep hF hk h).mono (fun _ _ => rfl) fun b hb => hb.imp id fun ⟨t, ht, hb⟩ => ⟨t, hn t ht, hb⟩)

theorem matCs_rep (hF : Facts w0 F A σ tmps w H φ S) : ∀ {xs : List PC} {cs : List Cell} {ts : List Nat} {vs : List Value}, MatCs σ T xs cs ts → (∀ H', (∀ t, A t → H' t = H t) → Rels (RelC w S H') xs vs) → RepOs w (outS S φ T) cs vs (ts.flatMap φ)
  | _, _, _, vs, .nil, hv => by have := hv H fun _ _ => rfl; cases this; exact .nil
  | _, _, _, vs, .cons h hs, hv => by
    cases vs with
    | nil => have := hv H fun _ _ => rfl; cases this
    | cons v vs =>
      rw [List.flatMap_append]
      refine .cons _ _ _ _ _ _ (matC_rep hF h fun H' hH' => ?_) (matCs_rep hF hs fun H' hH' => ?_)
      · cases hv H' hH' with | cons h _ => exact h
      · cases hv H' hH' with | cons _ h => exact h

theorem matR_rep (hF : Facts w0 F A σ tmps w H φ S) {x : P1} {r : RT} {ts : List Nat} (h : MatR σ T x r ts) {v : Value} (hv : ∀ H', (∀ t, A t → H' t = H t) → RelP w S H' x v) : RTRep w (outS S φ T) r v (ts.flatMap φ) := by
  cases h with
  | c h => exact matC_rep hF h hv
  | a h =>
    obtain ⟨vs, e, hr⟩ := hv H fun _ _ => rfl
    refine ⟨vs, e, matCs_rep hF h fun H' hH' => ?_⟩
    obtain ⟨vs', e', hr'⟩ := hv H' hH'
    have : vs' = vs := by rw [e] at e'; simpa using e'.symm
    subst this; exact hr'
  | p t ht h =>
    obtain ⟨g, cur, e, h1, h2, h3, h4, h5⟩ := box_at hF ht
    obtain ⟨g', e1, e2⟩ := hv H fun _ _ => rfl
    rw [h2] at e1; cases e1
    exact ⟨g, cur, e, _, e2, h4, matCs_rep hF h h5, by simp [h3]⟩

theorem matRs_rep (hF : Facts w0 F A σ tmps w H φ S) : ∀ {xs : List P1} {rs : List RT} {ts : List Nat} {vs : List Value}, MatRs σ T xs rs ts → (∀ H', (∀ t, A t → H' t = H t) → Rels (RelP w S H') xs vs) → RTsRep w (outS S φ T) rs vs (ts.flatMap φ)
  | _, _, _, vs, .nil, hv => by have := hv H fun _ _ => rfl; cases this; exact .nil
  | _, _, _, vs, .cons h hs, hv => by
    cases vs with
    | nil => have := hv H fun _ _ => rfl; cases this
    | cons v vs =>
      rw [List.flatMap_append]
      refine .cons (matR_rep hF h fun H' hH' => ?_) (matRs_rep hF hs fun H' hH' => ?_)
      · cases hv H' hH' with | cons h _ => exact h
      · cases hv H' hH' with | cons _ h => exact h

/-- The end: the result variables' values. -/
theorem resv_run {a : Act} (hF : Facts w0 F A σ (fun i => a.tmps.getD i undef) w H φ S) {r : ResultVar} {x : P1} (h : resv P σ r = some x) :
    ∃ v, (match r with | .tmp t => pure (a.tmps.getD t undef) | .cell b t => do loadVar t (← asAddr (a.tmps.getD b undef)) : Sem Value).run P w = .ok v w ∧ ∀ H', (∀ t, A t → H' t = H t) → RelP w S H' x v := by
  cases r with
  | tmp t =>
    simp only [resv] at h
    split at h
    · rename_i y hy
      cases h
      refine ⟨_, rfl, fun H' hH' => ?_⟩
      have := (hF.rel H' hH').1 t
      rw [hy] at this
      exact this
    · cases h
  | cell b t =>
    simp only [resv] at h
    split at h
    · rename_i p hp
      cases hE : effLoad P σ t p with
      | none => simp [hE] at h
      | some E =>
        simp only [hE, Option.bind_some] at h
        have hk : Known A H S w p (a.tmps.getD b undef) := fun H' hH' => by
          have := (hF.rel H' hH').1 b
          rw [hp] at this
          exact this
        obtain ⟨_, v, hr, hrel⟩ := give_load hF hk hE
        split at h
        · rename_i y hy
          cases h
          refine ⟨v, ?_, fun H' hH' => ?_⟩
          · have hu : ∀ u : Value, (Instr.loadAt t u).run P w = .ok v w → (do loadVar t (← asAddr u) : Sem Value).run P w = .ok v w := fun u hu => by
              cases u with
              | pointer ad => cases ad with
                | some ad => exact hu
                | none => exact absurd hu (by simp [Instr.loadAt, Instr.sureAddr])
              | _ => exact absurd hu (by simp [Instr.loadAt, Instr.sureAddr])
            exact hu _ hr
          · have := hrel H' hH'
            rw [hy] at this
            exact this
        · cases h
    · cases h

theorem resvs_run {a : Act} (hF : Facts w0 F A σ (fun i => a.tmps.getD i undef) w H φ S) : ∀ {rs : List ResultVar} {xs : List P1}, rs.mapM (resv P σ) = some xs →
    ∃ vs, (rs.mapM fun r => (match r with | .tmp t => pure (a.tmps.getD t undef) | .cell b t => do loadVar t (← asAddr (a.tmps.getD b undef)) : Sem Value)).run P w = .ok vs w ∧ ∀ H', (∀ t, A t → H' t = H t) → Rels (RelP w S H') xs vs
  | [], xs, h => by simp at h; subst h; exact ⟨[], rfl, fun _ _ => .nil⟩
  | r :: rs, xs, h => by
    rw [List.mapM_cons] at h
    cases hr : resv P σ r with
    | none => simp [hr] at h
    | some y =>
      cases hrs : rs.mapM (resv P σ) with
      | none => simp [hr, hrs] at h
      | some ys =>
        simp [hr, hrs] at h
        subst h
        obtain ⟨v, h1, h2⟩ := resv_run hF hr
        obtain ⟨vs, h3, h4⟩ := resvs_run hF hrs
        refine ⟨v :: vs, ?_, fun H' hH' => .cons (h2 H' hH') (h4 H' hH')⟩
        rw [List.mapM_cons, Sem.run_bind, h1]
        simp only [Result.andThen_ok, Sem.run_bind]
        rw [h3]
        rfl

theorem results_run {a : Act} (hF : Facts w0 F A σ (fun i => a.tmps.getD i undef) w H φ S) {fn : Func} {xs : List P1} (h : fn.results.toList.mapM (resv P σ) = some xs) :
    ∃ vs, (results fn a.tmps).run P w = .ok (resVal vs) w ∧ ∀ H', (∀ t, A t → H' t = H t) → Rels (RelP w S H') xs vs := by
  obtain ⟨vs, h1, h2⟩ := resvs_run hF h
  refine ⟨vs, ?_, h2⟩
  unfold results
  rw [Array.mapM_eq_mapM_toList]
  simp only [map_eq_pure_bind, bind_assoc, pure_bind]
  rw [Sem.run_bind]
  refine (congrArg (fun r => Result.andThen r _) h1).trans ?_
  simp only [Result.andThen_ok]
  cases vs with
  | nil => rfl
  | cons v vs => cases vs with
    | nil => rfl
    | cons u vs => simp [resVal]

end
end Go.V
/- The value-level machine, part 26: contracts out of runs. -/
namespace Go.V
open Go Go.RowKit

section
variable {P : Program} {w0 w : World} {F : Own} {A : Nat → Prop} {σ : St} {H : Nat → Value} {φ : Nat → List Nat} {S : Nat → Prop} {T : List Nat} {k : Nat}

theorem ros_rel {cs : List Cell} {vs : List Value} (h : Rels (RepR w S) cs vs) (H : Nat → Value) : Rels (RelC w S H) (cs.map Cell.ro) vs := by
  induction h with
  | nil => exact .nil
  | cons h _ ih => exact .cons (ro_rel h H) ih

theorem slots_rel : ∀ {ars : List AR} {vs : List Value}, Rels (ArgRep w S) ars vs → ∀ (i : Nat), ∀ q ∈ slots i ars, ∃ j v, q.1 = i + j ∧ vs[j]? = some v ∧ ∀ H, RelV w S H q.2 v
  | _, _, .nil, i, q, hq => by simp [slots] at hq
  | .v c :: ars, _, .cons (y := v) h hs, i, q, hq => by
    simp only [slots, List.mem_cons] at hq
    rcases hq with rfl | hq
    · exact ⟨0, v, rfl, rfl, fun H => ro_rel h H⟩
    · obtain ⟨j, u, e, hj, hr⟩ := slots_rel hs (i + 1) q hq
      exact ⟨j + 1, u, by omega, by simpa using hj, hr⟩
  | .s cs :: ars, _, .cons (y := v) h hs, i, q, hq => by
    simp only [slots, List.mem_cons] at hq
    rcases hq with rfl | hq
    · obtain ⟨us, e, hr⟩ := h
      exact ⟨0, v, rfl, rfl, fun H => ⟨us, e, ros_rel hr H⟩⟩
    · obtain ⟨j, u, e, hj, hr⟩ := slots_rel hs (i + 1) q hq
      exact ⟨j + 1, u, by omega, by simpa using hj, hr⟩

theorem frame_at (vs : List Value) (n : Nat) {i : Nat} {v : Value} (h : vs[i]? = some v) : (vs.toArray ++ Array.replicate n undef).getD i undef = v := by
  have := lt_of_get h
  rw [Array.getD_eq_getD_getElem?, Array.getElem?_append_left (by simpa using this)]
  simp [h]

theorem RTRep.allOwn {S0 : Nat → Prop} {r : RT} {v : Value} {f : List Nat} (h : RTRep w S r v f) (ho : ∀ c ∈ r.cells, AllOwn c) : RTRep w S0 r v f := by
  have hs : ∀ {cs : List Cell} {vs : List Value} {fs : List Nat}, RepOs w S cs vs fs → (∀ c ∈ cs, AllOwn c) → RepOs w S0 cs vs fs := by
    intro cs
    induction cs with
    | nil => intro vs fs h _; cases h; exact .nil
    | cons c cs ih =>
      intro vs fs h ho
      cases h with
      | cons c v f cs vs fs h hs => exact .cons _ _ _ _ _ _ (RepO.allOwn h (ho c (by simp))) (ih hs fun d hd => ho d (by simp [hd]))
  cases r with
  | c x => exact RepO.allOwn h (ho x (by simp [RT.cells]))
  | a cs => obtain ⟨vs, e, h⟩ := h; exact ⟨vs, e, hs h ho⟩
  | p cs => obtain ⟨g, cur, e, fps, h1, h2, h3, h4⟩ := h; exact ⟨g, cur, e, fps, h1, h2, hs h3 ho, h4⟩
theorem RTsRep.allOwn {S0 : Nat → Prop} {rs : List RT} {vs : List Value} {fs : List Nat} (h : RTsRep w S rs vs fs) (ho : ∀ r ∈ rs, ∀ c ∈ r.cells, AllOwn c) : RTsRep w S0 rs vs fs := by
  induction h with
  | nil => exact .nil
  | cons h hs ih => exact .cons (h.allOwn (ho _ (by simp))) (ih fun r hr => ho r (by simp [hr]))

theorem out_apart {tmps : Nat → Value} (hF : Facts w0 F A σ tmps w H φ S) {b : Nat} (hb : b ∈ T.flatMap φ) : b < w.heap.size ∧ ¬ outS S φ T b ∧ (w0.heap.size ≤ b ∨ F b) := by
  obtain ⟨t, ht, hb⟩ := List.mem_flatMap.1 hb
  obtain ⟨a1, a2, a3, a4⟩ := hF.apart t b hb
  refine ⟨a2, ?_, a3⟩
  rintro (h | ⟨t', h1, h2⟩)
  · exact a1 h
  · exact h1 (a4 t' h2 ▸ ht)
theorem out_size {tmps : Nat → Value} (hF : Facts w0 F A σ tmps w H φ S) {b : Nat} (hb : outS S φ T b) : b < w.heap.size ∧ (w0.heap.size ≤ b ∨ F.G b) := by
  rcases hb with h | ⟨t, _, h⟩
  · exact ⟨hF.ro b h, hF.orig b h⟩
  · exact ⟨(hF.apart t b h).2.1, (hF.apart t b h).2.2.1.imp id (F.sub b)⟩

theorem okA_of {f : FuncId} {fn : Func} {c : Code} {ars : List AR} {res : List RT} {dep : Bool} {n : Nat} {rvs : List ResultVar} (hf : P.funcs[f]? = some fn) (hb : fn.body = some c) (hnn : fn.ntmps = n) (hrv : fn.results.toList = rvs) (hn : ars.length ≤ n)
    (h : go P (fun _ σ => Fin P rvs res dep σ) [.cd c] .normal 0 (mk n 0 (slots 0 ars) [])) : OkA P f ars res dep := by
  subst hnn; subst hrv
  intro w S vs hrel hS
  refine calls_of_wp hf hb ?_
  have hl := hrel.length
  have hk : Known' w ⟨fun _ => False, S, fun _ h => h.elim, fun _ => undef⟩ 0 (mk fn.ntmps 0 (slots 0 ars) []) { tmps := vs.toArray ++ Array.replicate (fn.ntmps - vs.toArray.size) undef, defers := [] } w := by
    refine ⟨fun _ => False, ⟨⟨fun _ => undef, fun _ => [], S, ?_⟩, ?_, rfl⟩, fun _ _ => id⟩
    · refine ⟨fun H' _ => ⟨fun i => ?_, fun t => ?_⟩, fun t _ => rfl, fun t b hb => by simp at hb, fun t => List.nodup_nil, hS, Keeps.refl _ _, fun b hb => .inr hb, fun i e => by simp [mk] at e⟩
      · show RelV w S H' (look (slots 0 ars) i) _
        refine look_cases (p := fun x => RelV w S H' x _) trivial fun q hq e => ?_
        obtain ⟨j, v, e1, e2, e3⟩ := slots_rel hrel 0 q hq
        have : i = j := by omega
        subst this
        rw [frame_at vs _ e2]
        exact e3 H'
      · rfl
    · simp [mk]; omega
  refine Code.wp_mono (fun e a' w' ⟨k', σ', ⟨A', ⟨⟨H, φ, S', hF⟩, _, hdef⟩, _⟩, hg⟩ => ?_) (h w _ _ w hk)
  have hfin : Fin P fn.results.toList res dep σ' → a'.defers = [] ∧ ∃ v, (results fn a'.tmps).run P w' = .ok v w' ∧ ∃ rv fr S', Ending.returned v = .returned (resVal rv) ∧ Keeps (fun _ => False) w w' ∧ RTsRep w' S' res rv fr ∧ fr.Nodup ∧ (∀ b ∈ fr, w.heap.size ≤ b ∧ b < w'.heap.size ∧ ¬ S' b) ∧
      ∀ b, S' b → b < w'.heap.size ∧ (w.heap.size ≤ b ∨ dep = true ∧ S b) := by
    rintro ⟨pvs, T, h1, h2, h3, h4⟩
    obtain ⟨rv, h5, h6⟩ := results_run hF h1
    have hrep := matRs_rep hF h2 h6
    refine ⟨hdef, _, h5, rv, T.flatMap φ, ?_⟩
    by_cases hd : dep = true
    · refine ⟨outS S' φ T, rfl, hF.keeps, hrep, flat_nodup hF h3, fun b hb => ?_, fun b hb => ?_⟩
      · obtain ⟨b1, b2, b3⟩ := out_apart hF hb
        exact ⟨b3.resolve_right id, b1, b2⟩
      · obtain ⟨b1, b2⟩ := out_size hF hb
        exact ⟨b1, b2.imp id fun h => ⟨hd, h⟩⟩
    · refine ⟨fun _ => False, rfl, hF.keeps, hrep.allOwn (h4.resolve_left hd), flat_nodup hF h3, fun b hb => ?_, fun b hb => hb.elim⟩
      obtain ⟨b1, b2, b3⟩ := out_apart hF hb
      exact ⟨b3.resolve_right id, b1, id⟩
  cases e with
  | normal => exact hfin hg
  | ret => exact hfin hg
  | exit id => exact hg
  | goto l => exact hg
  | panic ch => exact hg.elim
  | outgrown => exact hg.elim

end
end Go.V
/- The value-level machine, part 27: rewriting rules for runs by lists. -/
namespace Go.V
open Go Go.RowKit

def putL : List (Nat × PV) → Nat → PV → List (Nat × PV)
  | [], d, x => [(d, x)]
  | (i, y) :: l, d, x => if d = i then (d, x) :: l else (i, y) :: putL l d x
def putO : List (Nat × Ob) → Nat → Ob → List (Nat × Ob)
  | [], d, x => [(d, x)]
  | (i, y) :: l, d, x => if d = i then (d, x) :: l else (i, y) :: putO l d x
def putsO (l : List (Nat × Ob)) : List (Nat × Ob) → List (Nat × Ob)
  | [] => l
  | (k, x) :: us => putsO (putO l k x) us

theorem look_put : ∀ (l : List (Nat × PV)) (d : Nat) (x : PV), look (putL l d x) = upd (look l) d x
  | [], d, x => by funext j; simp [putL, look, upd]
  | (i, y) :: l, d, x => by
    funext j
    simp only [putL]
    split
    · rename_i e
      subst e
      simp only [look, upd]
      split <;> rfl
    · rename_i e
      simp only [look]
      rw [look_put l d x]
      simp only [upd]
      by_cases h1 : j = i
      · subst h1; rw [if_pos rfl, if_neg (fun h => e h.symm), if_pos rfl]
      · rw [if_neg h1]
        by_cases h2 : j = d
        · rw [if_pos h2, if_pos h2]
        · rw [if_neg h2, if_neg h2, if_neg h1]
theorem lookO_put : ∀ (l : List (Nat × Ob)) (d : Nat) (x : Ob), lookO (putO l d x) = upd (lookO l) d x
  | [], d, x => by funext j; simp [putO, lookO, upd]
  | (i, y) :: l, d, x => by
    funext j
    simp only [putO]
    split
    · rename_i e
      subst e
      simp only [lookO, upd]
      split <;> rfl
    · rename_i e
      simp only [lookO]
      rw [lookO_put l d x]
      simp only [upd]
      by_cases h1 : j = i
      · subst h1; rw [if_pos rfl, if_neg (fun h => e h.symm), if_pos rfl]
      · rw [if_neg h1]
        by_cases h2 : j = d
        · rw [if_pos h2, if_pos h2]
        · rw [if_neg h2, if_neg h2, if_neg h1]
theorem lookO_puts : ∀ (us : List (Nat × Ob)) (l : List (Nat × Ob)), lookO (putsO l us) = laid us (lookO l)
  | [], l => rfl
  | (k, x) :: us, l => by simp only [putsO, laid]; rw [lookO_puts us, lookO_put]

section
variable {P : Program} {n r k : Nat} {ts : List (Nat × PV)} {os : List (Nat × Ob)} {ops : Array Oper} {K : Nat → St → Prop}

theorem mk_t (i : Nat) : (mk n r ts os).t i = look ts i := rfl
theorem mk_o (i : Nat) : (mk n r ts os).o i = lookO os i := rfl
theorem mk_n : (mk n r ts os).n = n := rfl
theorem mk_next : (mk n r ts os).next = r := rfl
theorem ev_tmp (i : Nat) : (mk n r ts os).ev (.tmp i) = look ts i := rfl
theorem ev_int (kd : IntKind) (m : Int) : (mk n r ts os).ev (.const (.int kd m)) = .v (.c (.int kd m)) := rfl
theorem ev_bool (b : Bool) : (mk n r ts os).ev (.const (.bool b)) = .v (.c (.bool b)) := rfl
theorem ev_nil : (mk n r ts os).ev (.const (.slice none 0 0)) = .v (.c .nil) := rfl
theorem ev_str (s : ByteArray) : (mk n r ts os).ev (.const (.string s)) = .v (.c (.str s.data.toList)) := rfl
theorem ev_agg (cs : Array Value) : (mk n r ts os).ev (.const (.agg cs)) = .v (.a (cs.toList.map constPC)) := rfl
theorem ev_fn (f : FuncId) : (mk n r ts os).ev (.func f) = .v (.c (.fn f)) := rfl

theorem mk_with (d : Nat) (x : PV) (us : List (Nat × Ob)) (rs : List Nat) : (mk n r ts os).with (some d) ⟨x, us, rs⟩ = mk n r (putL ts d x) (putsO os us) := by
  unfold St.with mk
  simp only [look_put, lookO_puts]
theorem mk_with_none (x : PV) (us : List (Nat × Ob)) (rs : List Nat) : (mk n r ts os).with none ⟨x, us, rs⟩ = mk n r ts (putsO os us) := by
  unfold St.with mk
  simp only [lookO_puts]
def litM (n r : Nat) (ts : List (Nat × PV)) (os : List (Nat × Ob)) (d : Nat) (b : Bool) : PV → St
  | .t _ => mk n r ts os
  | .v _ => mk n r (putL ts d (.v (.c (.bool b)))) os
theorem mk_lit (d : Nat) (b : Bool) : (mk n r ts os).lit d b = litM n r ts os d b (look ts d) := by
  unfold St.lit
  show (match look ts d with | .t _ => mk n r ts os | .v _ => { mk n r ts os with t := upd (look ts) d (.c (.bool b)) }) = _
  cases look ts d with
  | t x => rfl
  | v x => simp only [litM]; unfold mk; simp only [look_put]

def sat' (d : Option Nat) (ts : List (Nat × PV)) (want : Bool) : Option (Nat × Bool) :=
  match d with
  | some d => match look ts d with
    | .v (.c (.bool b)) => some (d, b)
    | .t [] => some (d, !want)
    | _ => none
  | none => none
/-- Is it a call of a function of the program's? -/
def isFn : Op → Bool
  | .call ⟨.value _, _, _⟩ => true
  | _ => false
theorem does_plain {σ : St} {op : Op} (h : isFn op = false) (K : Eff → Prop) : (∃ E, Does P k σ op E ∧ K E) ↔ sat K (effF P k σ op) := by
  constructor
  · rintro ⟨E, h1 | h1 | h1 | h1, h2⟩
    · rw [h1]; exact h2
    · obtain ⟨f, args, tys, _, _, _, e, _⟩ := h1; rw [e] at h; cases h
    · obtain ⟨f, x0, args, tys, _, _, _, _, _, _, _, e, _⟩ := h1; rw [e] at h; cases h
    · obtain ⟨f, os, args, tys, _, _, _, _, _, _, e, _⟩ := h1; rw [e] at h; cases h
  · intro h1
    cases hE : effF P k σ op with
    | none => rw [hE] at h1; exact h1.elim
    | some E => rw [hE] at h1; exact ⟨E, .inl hE, h1⟩

theorem vops_nil {σ : St} : vops P ops [] k σ K = K k σ := rfl
theorem vops_one {σ : St} {d : Option Tmp} {op : Op} {ty : TypeId} {pos : String} {after : Array Edge} {rest : List Oper} (h : isFn op = false) :
    vops P ops (⟨d, op, ty, pos, after, none⟩ :: rest) k σ K = ((∀ e, d = some e → e < σ.n) ∧ sat (fun E => vops P ops rest (k + 32) (σ.with d E) K) (effF P k σ op)) := by
  simp only [vops, vop]
  rw [does_plain h]
/-- X, where b is what is wanted. -/
def Ifs (b want : Bool) (X : Prop) : Prop := b = want → X
@[congr] theorem ifs_congr {b b' want : Bool} {X : Prop} (h : b = b') : Ifs b want X = Ifs b' want X := by rw [h]
theorem ifs_tt (X : Prop) : Ifs true true X = X := by simp [Ifs]
theorem ifs_ff (X : Prop) : Ifs false false X = X := by simp [Ifs]
theorem ifs_tf (X : Prop) : Ifs true false X = True := by simp [Ifs]
theorem ifs_ft (X : Prop) : Ifs false true X = True := by simp [Ifs]
def Two (p q : Prop) : Prop := p ∧ q
theorem Two.mk {p q : Prop} (h : p) (h' : q) : Two p q := ⟨h, h'⟩
theorem two_l (p : Prop) : Two p True = p := by simp [Two]
theorem two_r (p : Prop) : Two True p = p := by simp [Two]
theorem vops_two {σ : St} {d : Option Tmp} {op : Op} {ty : TypeId} {pos : String} {after : Array Edge} {j : Nat} {want : Bool} {rest : List Oper} (h : isFn op = false) :
    vops P ops (⟨d, op, ty, pos, after, some (j, want)⟩ :: rest) k σ K = ((∀ e, d = some e → e < σ.n) ∧ sat (fun (q : Nat × Bool) => q.1 < σ.n ∧ Two (Ifs q.2 want (sat (fun E => vops P ops rest (k + 32) ((σ.lit q.1 want).with d E) K) (effF P k (σ.lit q.1 want) op)))
      (Ifs q.2 (!want) (vops P ops rest (k + 32) ((σ.lit q.1 (!want)).with d ⟨.t [], [], []⟩) K))) (σ.flag ops j want)) := by
  simp only [vops, vop]
  congr 1
  cases hf : σ.flag ops j want with
  | none => simp [sat]
  | some q =>
    obtain ⟨d, b⟩ := q
    simp only [Option.some.injEq, Prod.mk.injEq, sat, does_plain h]
    apply propext
    constructor
    · rintro ⟨_, _, ⟨rfl, rfl⟩, h⟩; exact h
    · intro h; exact ⟨_, _, ⟨rfl, rfl⟩, h⟩

theorem isFn_move : (∀ x, isFn (.move x) = false) := fun _ => rfl
theorem isFn_assign : (∀ x, isFn (.assign x) = false) := fun _ => rfl
theorem isFn_pick : (∀ a b c, isFn (.pick a b c) = false) := fun _ _ _ => rfl
theorem isFn_alloc : (∀ t, isFn (.alloc t) = false) := fun _ => rfl
theorem isFn_box : (∀ t x, isFn (.box t x) = false) := fun _ _ => rfl
theorem isFn_build : (∀ t x, isFn (.build t x) = false) := fun _ _ => rfl
theorem isFn_buildSlice : (∀ t n x, isFn (.buildSlice t n x) = false) := fun _ _ _ => rfl
theorem isFn_load : (∀ t x, isFn (.load t x) = false) := fun _ _ => rfl
theorem isFn_store : (∀ t x y, isFn (.store t x y) = false) := fun _ _ _ => rfl
theorem isFn_nilCheck : (∀ x, isFn (.nilCheck x) = false) := fun _ => rfl
theorem isFn_binOp : (∀ o t x y u, isFn (.binOp o t x y u) = false) := fun _ _ _ _ _ => rfl
theorem isFn_unOp : (∀ o t x, isFn (.unOp o t x) = false) := fun _ _ _ => rfl
theorem isFn_convert : (∀ t u x, isFn (.convert t u x) = false) := fun _ _ _ => rfl
theorem isFn_makeSlice : (∀ t l c, isFn (.makeSlice t l c) = false) := fun _ _ _ => rfl
theorem isFn_slice : (∀ t x l h m, isFn (.slice t x l h m) = false) := fun _ _ _ _ _ => rfl
theorem isFn_fieldAddr : (∀ t x f, isFn (.fieldAddr t x f) = false) := fun _ _ _ => rfl
theorem isFn_field : (∀ t x f, isFn (.field t x f) = false) := fun _ _ _ => rfl
theorem isFn_indexAddr : (∀ t x i, isFn (.indexAddr t x i) = false) := fun _ _ _ => rfl
theorem isFn_index : (∀ t x i, isFn (.index t x i) = false) := fun _ _ _ => rfl
theorem isFn_extract : (∀ x i, isFn (.extract x i) = false) := fun _ _ => rfl
theorem isFn_builtin (b : Builtin) (x : Array Operand) (t : Array TypeId) : isFn (.call ⟨.builtin b, x, t⟩) = false := by cases b <;> rfl
@[congr] theorem sat_congr {α : Type} {K : α → Prop} {x y : Option α} (h : x = y) : sat K x = sat K y := by rw [h]
@[congr] theorem vops_congr {l : List Oper} {k k' : Nat} {σ τ : St} (hk : k = k') (h : σ = τ) : vops P ops l k σ K = vops P ops l k' τ K := by rw [hk, h]
/-- The slot of the flag that a guard looks at. -/
theorem flag_mk {l : List Oper} {j : Nat} {o : Oper} {want : Bool} (h : l[j]? = some o) : (mk n r ts os).flag l.toArray j want = sat' o.dst ts want := by
  unfold St.flag
  simp only [List.getElem?_toArray, h, Option.bind_some]
  rfl
theorem info_of {t : TypeId} {i : TypeInfo} (h : P.types[t]? = some i) : P.info? t = some i := by
  have hl : t < P.types.size := by
    rcases Nat.lt_or_ge t P.types.size with h1 | h1
    · exact h1
    · rw [Array.getElem?_eq_none h1] at h; cases h
  unfold Tables.info?
  rw [if_pos hl, h]
section
variable {σ : St} {olds : List (Option Nat)}
theorem sv_junk {x : PV} : SubV σ olds x (.v (.c .junk)) := .junk _
theorem sv_int {kd : IntKind} {m n : Int} (h : m = n) : SubV σ olds (.v (.c (.int kd m))) (.v (.c (.int kd n))) := by subst h; exact .v _ _ (.c _ _ (.int _ _))
theorem sv_bool {m n : Bool} (h : m = n) : SubV σ olds (.v (.c (.bool m))) (.v (.c (.bool n))) := by subst h; exact .v _ _ (.c _ _ (.bool _))
theorem sv_str {m n : List UInt8} (h : m = n) : SubV σ olds (.v (.c (.str m))) (.v (.c (.str n))) := by subst h; exact .v _ _ (.c _ _ (.str _))
theorem sv_lst {m n : List (List Cell)} (h : m = n) : SubV σ olds (.v (.c (.lst m))) (.v (.c (.lst n))) := by subst h; exact .v _ _ (.c _ _ (.lst _))
theorem sv_rptr {m n : List Cell} (h : m = n) : SubV σ olds (.v (.c (.rptr m))) (.v (.c (.rptr n))) := by subst h; exact .v _ _ (.c _ _ (.rptr _))
theorem sv_nil : SubV σ olds (.v (.c .nil)) (.v (.c .nil)) := .v _ _ (.c _ _ .nil)
theorem sv_fn {f : FuncId} : SubV σ olds (.v (.c (.fn f))) (.v (.c (.fn f))) := .v _ _ (.c _ _ (.fn _))
theorem sv_own {t j : Nat} (h : olds[j]? = some (some t)) : SubV σ olds (.v (.c (.own t))) (.v (.c (.own j))) := .v _ _ (.c _ _ (.own _ _ h))
theorem sv_fresh {j : Nat} (h : olds[j]? = some none) : SubV σ olds (.v (.c .nil)) (.v (.c (.own j))) := .v _ _ (.c _ _ (.fresh _ h))
theorem sv_ptr {t j off : Nat} (h : olds[j]? = some (some t)) : SubV σ olds (.v (.c (.ptr t off))) (.v (.c (.ptr j off))) := .v _ _ (.c _ _ (.ptr _ _ _ h))
theorem sv_gave {x : PC} {xs : List (List Cell)} (h : σ.rows x = some xs) (hn : ∀ t ∈ x.toks, some t ∉ olds) : SubV σ olds (.v (.c x)) (.v (.c (.lst xs))) := .v _ _ (.c _ _ (.gave _ _ h hn))
theorem sv_agg {xs ys : List PC} (h : Rels (SubC σ olds) xs ys) : SubV σ olds (.v (.a xs)) (.v (.a ys)) := .v _ _ (.a _ _ h)
theorem sc_int {kd : IntKind} {m n : Int} (h : m = n) : SubC σ olds (.int kd m) (.int kd n) := by subst h; exact .int _ _
theorem sc_bool {m n : Bool} (h : m = n) : SubC σ olds (.bool m) (.bool n) := by subst h; exact .bool _
theorem sc_str {m n : List UInt8} (h : m = n) : SubC σ olds (.str m) (.str n) := by subst h; exact .str _
theorem sc_lst {m n : List (List Cell)} (h : m = n) : SubC σ olds (.lst m) (.lst n) := by subst h; exact .lst _
end
theorem lt_some (d m : Nat) : (∀ e, some d = some e → e < m) = (d < m) := by simp
theorem lt_none (m : Nat) : (∀ e, (none : Option Nat) = some e → e < m) = True := by simp
end
attribute [push_cast] vops_one vops_nil isFn_move isFn_assign isFn_pick isFn_alloc isFn_box isFn_build isFn_buildSlice isFn_load isFn_store isFn_nilCheck isFn_binOp isFn_unOp isFn_convert isFn_makeSlice isFn_slice isFn_fieldAddr isFn_field isFn_indexAddr isFn_index isFn_extract isFn_builtin mk_n mk_t mk_o mk_next lt_some lt_none effF sat_some sat_none sat_bind sat_if Eff.of mk_with mk_with_none mk_lit litM putL putO putsO ev_bool ev_tmp ev_int ev_nil ev_str ev_agg ev_fn look lookO sat' flag_mk ifs_tt ifs_ff ifs_tf ifs_ft Bool.not_true Bool.not_false if_true if_false Bool.false_eq_true true_and and_true effBin arith Option.bind_some Option.map_some St.flag List.getElem?_toArray List.getElem?_cons_succ List.getElem?_cons_zero effBuiltin List.map_cons List.map_nil St.len effIndexAddr effLoad asI Option.getD_some PC.toks Cell.ro
end Go.V
/- The value-level machine, part 31: drawn regions, by a check. -/
namespace Go.V
open Go Go.RowKit

def preds (o : Oper) : List Nat := (o.after.toList.filter fun e => Region.binds .any e).map (·.on)
def mask (tab : List Nat) (o : Oper) : Nat := (preds o).foldl (fun m j => m ||| 2 ^ j ||| (tab[j]?).getD 0) 0
def ancs : List Oper → List Nat → List Nat
  | [], tab => tab
  | o :: l, tab => ancs l (tab ++ [mask tab o])
def backs : List Oper → Nat → Bool
  | [], _ => true
  | o :: l, i => (preds o).all (fun j => decide (j < i)) && backs l (i + 1)
abbrev Info := Nat × List Nat × List Nat
def Did.info (d : Did) : Info := (d.i, d.ft, dwrites d)
def indepI (ops : Array Oper) (p q : Info) : Bool :=
  match ops[p.1]?, ops[q.1]? with
  | some x, some y => x.apart ops y && dis p.2.2 (q.2.1 ++ q.2.2) && dis q.2.2 p.2.1
  | _, _ => false
/-- ds: what was done, the last first. -/
def pairsOk (ops : Array Oper) (tab : List Nat) : List Info → Bool
  | [] => true
  | p :: ds => (ds.all fun q => indepI ops q p || ((tab[p.1]?).getD 0).testBit q.1) && pairsOk ops tab ds
def chk (ops : Array Oper) (ds : List Info) : Bool := backs ops.toList 0 && pairsOk ops (ancs ops.toList []) ds

def vopsD (P : Program) (ops : Array Oper) (b : Nat) : List Oper → Nat → St → List Info → (List Info → St → Prop) → Prop
  | [], _, σ, ds, K => K ds σ
  | o :: rest, i, σ, ds, K => (∀ d, o.dst = some d → d < σ.n) ∧
    match o.guard with
    | none => ∃ E, Does P (b + 32 * i) σ o.op E ∧ vopsD P ops b rest (i + 1) (σ.with o.dst E) ((i, feet σ o.op, E.upd.map (·.1)) :: ds) K
    | some (j, want) => ∃ d f, σ.flag ops j want = some (d, f) ∧ d < σ.n ∧
        Ifs f want (∃ E, Does P (b + 32 * i) (σ.lit d want) o.op E ∧ vopsD P ops b rest (i + 1) ((σ.lit d want).with o.dst E) ((i, feet (σ.lit d want) o.op, E.upd.map (·.1)) :: ds) K) ∧
        Ifs f (!want) (vopsD P ops b rest (i + 1) ((σ.lit d (!want)).with o.dst ⟨.t [], [], []⟩) ((i, [], []) :: ds) K)

section
variable {P : Program} {σ τ : St} {b : Nat} {ops : Array Oper}

theorem vopsD_tr {K : List Info → St → Prop} : ∀ {l : List Oper} {i : Nat} {σ : St} {ds : List Info}, vopsD P ops b l i σ ds K → (∀ j, l[j]? = ops[i + j]?) →
    ∃ tr τ, Tr P ops b tr σ τ ∧ K ((tr.map Did.info).reverse ++ ds) τ ∧ tr.map (·.i) = List.range' i l.length
  | [], i, σ, ds, h, _ => ⟨[], σ, .nil σ, h, rfl⟩
  | o :: rest, i, σ, ds, h, hops => by
    obtain ⟨hd, h⟩ := h
    have ho : ops[i]? = some o := by simpa using (hops 0).symm
    have hops' : ∀ j, rest[j]? = ops[i + 1 + j]? := fun j => by have := hops (j + 1); simpa [Nat.add_assoc, Nat.add_comm 1 j] using this
    have key : ∀ {d : Did} {σ' : St}, σ' = σ → d.i = i → StepV P ops b σ o d → vopsD P ops b rest (i + 1) (σ'.with o.dst d.E) (d.info :: ds) K → ∃ tr τ, Tr P ops b tr σ τ ∧ K ((tr.map Did.info).reverse ++ ds) τ ∧ tr.map (·.i) = List.range' i (o :: rest).length := by
      intro d σ' hσ hi hst hv
      subst hσ
      obtain ⟨tr, τ, h1, h2, h3⟩ := vopsD_tr hv hops'
      refine ⟨d :: tr, τ, .cons o (by rw [hi]; exact ho) hd hst h1, ?_, ?_⟩
      · simpa using h2
      · simp [hi, h3, List.range'_succ]
    split at h
    · rename_i hg
      obtain ⟨E, h1, h2⟩ := h
      exact key (d := ⟨i, E, feet σ o.op⟩) rfl rfl (.plain hg h1 rfl) h2
    · rename_i j want hg
      obtain ⟨d, f, hf, hdn, h1, h2⟩ := h
      have hb := (flag_some hf).2.imp_right And.left
      by_cases e : f = want
      · subst e
        obtain ⟨E, h3, h4⟩ := h1 rfl
        rw [lit_same hb] at h3 h4
        exact key (d := ⟨i, E, feet σ o.op⟩) rfl rfl (.yes j f d hg hf hdn h3 rfl) h4
      · have e' : f = !want := by cases f <;> cases want <;> first | rfl | exact absurd rfl e
        have h3 := h2 e'
        rw [lit_same (by rw [← e']; exact hb)] at h3
        exact key (d := ⟨i, ⟨.t [], [], []⟩, []⟩) rfl rfl (.no j want d hg (by rw [hf, e']) hdn rfl rfl) h3

theorem mem_preds {o : Oper} {j : Nat} (h : j ∈ preds o) : ∃ e ∈ o.after, Region.binds .any e = true ∧ e.on = j := by
  unfold preds at h
  obtain ⟨e, he, rfl⟩ := List.mem_map.1 h
  obtain ⟨h1, h2⟩ := List.mem_filter.1 he
  exact ⟨e, by simpa using h1, h2, rfl⟩
theorem preds_mem {o : Oper} {e : Edge} (h1 : e ∈ o.after) (h2 : Region.binds .any e = true) : e.on ∈ preds o := by
  unfold preds
  exact List.mem_map.2 ⟨e, List.mem_filter.2 ⟨by simpa using h1, h2⟩, rfl⟩

theorem backs_spec : ∀ {l : List Oper} {i : Nat}, backs l i = true → ∀ (j : Nat) (o : Oper), l[j]? = some o → ∀ q ∈ preds o, q < i + j
  | [], i, _, j, o, h, _, _ => by simp at h
  | x :: l, i, hb, j, o, h, q, hq => by
    simp only [backs, Bool.and_eq_true, List.all_eq_true, decide_eq_true_eq] at hb
    cases j with
    | zero => simp at h; subst h; exact hb.1 q hq
    | succ j => have := backs_spec hb.2 j o (by simpa using h) q hq; omega

theorem foldl_bit (tab : List Nat) (q : Nat) : ∀ (js : List Nat) (m : Nat), (js.foldl (fun m j => m ||| 2 ^ j ||| (tab[j]?).getD 0) m).testBit q = true → m.testBit q = true ∨ ∃ j ∈ js, q = j ∨ ((tab[j]?).getD 0).testBit q = true
  | [], m, h => .inl h
  | j :: js, m, h => by
    rcases foldl_bit tab q js _ h with h | ⟨j', h1, h2⟩
    · simp only [Nat.testBit_or, Bool.or_eq_true] at h
      rcases h with (h | h) | h
      · exact .inl h
      · rw [Nat.testBit_two_pow] at h
        exact .inr ⟨j, by simp, .inl (by simpa using h : j = q).symm⟩
      · exact .inr ⟨j, by simp, .inr h⟩
    · exact .inr ⟨j', by simp [h1], h2⟩

theorem ancs_spec : ∀ {l : List Oper} {tab : List Nat}, (∀ j, l[j]? = ops[tab.length + j]?) → (∀ p m, tab[p]? = some m → ∀ q, m.testBit q = true → Must ops q p) → ∀ p m, (ancs l tab)[p]? = some m → ∀ q, m.testBit q = true → Must ops q p
  | [], tab, _, h => h
  | o :: l, tab, hops, h => by
    have ho : ops[tab.length]? = some o := by simpa using (hops 0).symm
    refine ancs_spec (l := l) (tab := tab ++ [mask tab o]) (fun j => by have := hops (j + 1); simpa [Nat.add_assoc, Nat.add_comm 1 j] using this) fun p m hp q hq => ?_
    rcases Nat.lt_or_ge p tab.length with hlt | hge
    · rw [List.getElem?_append_left hlt] at hp
      exact h p m hp q hq
    · rw [List.getElem?_append_right hge] at hp
      have hp0 : p = tab.length := by
        rcases Nat.eq_or_lt_of_le hge with h | h
        · exact h.symm
        · rw [List.getElem?_eq_none (by simp; omega)] at hp; cases hp
      subst hp0
      simp at hp
      subst hp
      rcases foldl_bit tab q _ _ hq with h0 | ⟨j, h1, h2⟩
      · simp at h0
      · obtain ⟨e, he1, he2, rfl⟩ := mem_preds h1
        have hpr : pred ops tab.length e.on := ⟨o, ho, e, he1, he2, rfl⟩
        rcases h2 with rfl | h2
        · exact .one _ _ hpr
        · cases ht : tab[e.on]? with
          | none => rw [ht] at h2; simp at h2
          | some m => rw [ht] at h2; exact .more _ _ _ hpr (h _ m ht q h2)

theorem pairs_spec {tab : List Nat} : ∀ {ds : List Info}, pairsOk ops tab ds = true → ds.Pairwise fun p q => indepI ops q p = true ∨ ((tab[p.1]?).getD 0).testBit q.1 = true
  | [], _ => .nil
  | p :: ds, h => by
    simp only [pairsOk, Bool.and_eq_true, List.all_eq_true, Bool.or_eq_true] at h
    exact .cons (fun q hq => h.1 q hq) (pairs_spec h.2)

theorem drawn_inv {w0 w : World} {F : Own} {A : Nat → Prop} {a : Act} (h : Inv w0 F A σ a w) : Inv w0 F A σ a { w with drawn := w.drawn + 1 } := by
  obtain ⟨⟨H, φ, S, hF⟩, h1, h2⟩ := h
  exact ⟨⟨H, φ, S, hF.world (Keeps.drew _ _)⟩, h1, h2⟩

theorem go_draw {R : Nat → St → Prop} {s : List Fr} {k id : Nat} (hm : P.follows .mixedOrders = true)
    (h : ∀ K : Nat → St → Prop, (∀ k' σ', go P R s .normal k' σ' → K k' σ') → vopsD P ops k ops.toList 0 σ [] fun ds σ' => chk ops ds = true ∧ K (k + 32 * ops.size) σ') : go P R (.cd (.region id ops true) :: s) .normal k σ := by
  intro w0 F a w ⟨A, hi, hk⟩
  refine wp_region_any hm ?_
  obtain ⟨tr, τ, htr, ⟨hc, hg⟩, hix⟩ := vopsD_tr (h _ fun _ _ h => h) (by simp)
  unfold chk at hc
  rw [Bool.and_eq_true] at hc
  obtain ⟨hb, hp⟩ := hc
  simp only [List.append_nil] at hp
  have hpw := pairs_spec hp
  rw [List.pairwise_reverse, List.pairwise_map] at hpw
  have hlen : tr.length = ops.size := by have := congrArg List.length hix; simpa using this
  have hanc := ancs_spec (ops := ops) (l := ops.toList) (tab := []) (by simp) (by simp)
  have hin : ∀ d ∈ tr, d.i < ops.size := fun d hd => by
    have : d.i ∈ tr.map (·.i) := List.mem_map.2 ⟨d, hd, rfl⟩
    rw [hix, List.mem_range'] at this
    obtain ⟨j, h1, h2⟩ := this
    simp at h1
    omega
  have hback : ∀ i j, pred ops i j → j < i := fun i j ⟨o, ho, e, he, hbd, hej⟩ => by
    have := backs_spec hb i o (by simpa using ho) e.on (preds_mem he hbd)
    omega
  have hun : ∀ i, i < ops.size → ((Array.replicate ops.size false).getD i true = false ↔ ∃ d ∈ tr, d.i = i) := fun i hi' => by
    have : (Array.replicate ops.size false).getD i true = false := by
      rw [Array.getD_eq_getD_getElem?, Array.getElem?_replicate, if_pos hi']; rfl
    rw [this]
    refine ⟨fun _ => ?_, fun _ => rfl⟩
    have : i ∈ tr.map (·.i) := by
      rw [hix, List.mem_range']
      exact ⟨i, by simpa using hi', by omega⟩
    obtain ⟨d, hd, hdi⟩ := List.mem_map.1 this
    exact ⟨d, hd, hdi⟩
  have hso : tr.Pairwise (fun q p => q.i < p.i) := by
    have : (tr.map (·.i)).Pairwise (· < ·) := by rw [hix]; exact List.pairwise_lt_range'
    rwa [List.pairwise_map] at this
  have hcl : ∀ i j, (Array.replicate ops.size false).getD i false = true → pred ops i j → (Array.replicate ops.size false).getD j false = true := fun i j hi' => by
    rw [Array.getD_eq_getD_getElem?, Array.getElem?_replicate] at hi'
    split at hi' <;> cases hi'
  have hmust : tr.Pairwise (fun q p => indep ops q p = true ∨ Must ops q.i p.i) := hpw.imp fun {q p} hqp => by
    rcases hqp with hqp | hqp
    · exact .inl hqp
    · refine .inr ?_
      cases ht : (ancs ops.toList [])[p.info.1]? with
      | none => rw [ht] at hqp; simp at hqp
      | some m => rw [ht] at hqp; exact hanc _ m ht _ hqp
  exact draw_go (τ := τ) (b := k) hback (fun A' a' w' hI hA' => ⟨_, τ, ⟨A', hI, hA'⟩, hg⟩) ops.size hlen htr (drawn_inv hi) (fun d hd t h1 h2 => hk t (by omega)) (fun t ht => hk t (by omega)) (by simp) hun hso hin hcl hmust

end
end Go.V
/- The value-level machine, part 28: lengths. -/
namespace Go.V
open Go Go.RowKit

/-- Every slice of a tree is no longer than Go's slices get. -/
inductive Lens : Cell → Prop where
  | int (k : IntKind) (n : Int) : Lens (.int k n)
  | bool (b : Bool) : Lens (.bool b)
  | str (s : List UInt8) : Lens (.str s)
  | sl (o : Option (TypeId × Nat)) (xs : List (List Cell)) (hl : xs.length ≤ 9223372036854775807) (h : ∀ i j c, at2 xs i j = some c → Lens c) : Lens (.sl o xs)

theorem lens_sl {o : Option (TypeId × Nat)} {xs : List (List Cell)} (h : Lens (.sl o xs)) : xs.length ≤ 9223372036854775807 ∧ ∀ x ∈ xs, ∀ c ∈ x, Lens c := by
  cases h with
  | sl _ _ hl h =>
    refine ⟨hl, fun x hx c hc => ?_⟩
    obtain ⟨i, hi⟩ := List.getElem?_of_mem hx
    obtain ⟨j, hj⟩ := List.getElem?_of_mem hc
    exact h i j c (by simp [at2, hi, hj])

theorem lens_ro {w : World} {S : Nat → Prop} {c : Cell} {v : Value} (h : RepR w S c v) : Lens c := by
  induction h with
  | int k n => exact .int k n
  | bool b => exact .bool b
  | str s => exact .str s
  | sl o xs A c sz vs hc hsz hpos hA hv _ ih => exact .sl o xs hc.2 ih

section
variable {P : Program} {R : Nat → St → Prop} {s : List Fr} {k : Nat} {σ : St} {c : Code}
theorem go_lens {xs : List (List Cell)} (i : Nat) (hx : σ.t i = .v (.c (.lst xs))) (h : Lens (.sl none xs) → go P R (.cd c :: s) .normal k σ) : go P R (.cd c :: s) .normal k σ := by
  intro w0 F a w hi
  refine h ?_ w0 F a w hi
  obtain ⟨A, ⟨⟨H, φ, S, hF⟩, _⟩, _⟩ := hi
  have := (hF.rel H fun _ _ => rfl).1 i
  rw [hx] at this
  exact lens_ro this
theorem go_lens_row {e : TypeId} {sz : Nat} {xs : List (List Cell)} (t : Nat) (hx : σ.o t = .row e sz xs) (h : Lens (.sl none xs) → go P R (.cd c :: s) .normal k σ) : go P R (.cd c :: s) .normal k σ := by
  intro w0 F a w hi
  refine h ?_ w0 F a w hi
  obtain ⟨A, ⟨⟨H, φ, S, hF⟩, _⟩, _⟩ := hi
  obtain ⟨_, hO, _⟩ := row_at hF hx
  exact lens_ro ((hO.forget (S' := fun b => S b ∨ b ∈ φ t) (fun b hb => .inl hb) (fun b hb => .inr hb)).retag (o' := none))
end
end Go.V
/- The value-level machine, part 32: rewriting rules for drawn regions; calls by contract. -/
namespace Go.V
open Go Go.RowKit

section
variable {P : Program} {n r k b i : Nat} {ts : List (Nat × PV)} {os : List (Nat × Ob)} {ops : Array Oper} {K : Nat → St → Prop} {KD : List Info → St → Prop} {σ : St} {ds : List Info}

theorem vopsD_nil : vopsD P ops b [] i σ ds KD = KD ds σ := rfl
theorem vopsD_one {d : Option Tmp} {op : Op} {ty : TypeId} {pos : String} {after : Array Edge} {rest : List Oper} (h : isFn op = false) :
    vopsD P ops b (⟨d, op, ty, pos, after, none⟩ :: rest) i σ ds KD = ((∀ e, d = some e → e < σ.n) ∧ sat (fun E => vopsD P ops b rest (i + 1) (σ.with d E) ((i, feet σ op, E.upd.map (·.1)) :: ds) KD) (effF P (b + 32 * i) σ op)) := by
  simp only [vopsD]
  rw [does_plain h (fun E => vopsD P ops b rest (i + 1) (σ.with d E) ((i, feet σ op, E.upd.map (·.1)) :: ds) KD)]
theorem vopsD_two {d : Option Tmp} {op : Op} {ty : TypeId} {pos : String} {after : Array Edge} {j : Nat} {want : Bool} {rest : List Oper} (h : isFn op = false) :
    vopsD P ops b (⟨d, op, ty, pos, after, some (j, want)⟩ :: rest) i σ ds KD = ((∀ e, d = some e → e < σ.n) ∧ sat (fun (q : Nat × Bool) => q.1 < σ.n ∧
      Two (Ifs q.2 want (sat (fun E => vopsD P ops b rest (i + 1) ((σ.lit q.1 want).with d E) ((i, feet (σ.lit q.1 want) op, E.upd.map (·.1)) :: ds) KD) (effF P (b + 32 * i) (σ.lit q.1 want) op)))
      (Ifs q.2 (!want) (vopsD P ops b rest (i + 1) ((σ.lit q.1 (!want)).with d ⟨.t [], [], []⟩) ((i, [], []) :: ds) KD))) (σ.flag ops j want)) := by
  simp only [vopsD]
  congr 1
  cases hf : σ.flag ops j want with
  | none => simp [sat]
  | some q =>
    obtain ⟨e, f⟩ := q
    simp only [Option.some.injEq, Prod.mk.injEq, sat_some]
    apply propext
    constructor
    · rintro ⟨_, _, ⟨rfl, rfl⟩, h1, h2, h3⟩
      refine ⟨h1, fun hb => ?_, h3⟩
      exact (does_plain h _).1 (h2 hb)
    · rintro ⟨h1, h2, h3⟩
      exact ⟨_, _, ⟨rfl, rfl⟩, h1, fun hb => (does_plain (σ := σ.lit e want) h (fun E => vopsD P ops b rest (i + 1) ((σ.lit e want).with d E) ((i, feet (σ.lit e want) op, E.upd.map (·.1)) :: ds) KD)).2 (h2 hb), h3⟩
@[congr] theorem vopsD_congr {l : List Oper} {i' : Nat} {τ : St} {ds' : List Info} (hi : i = i') (h : σ = τ) (hd : ds = ds') : vopsD P ops b l i σ ds KD = vopsD P ops b l i' τ ds' KD := by rw [hi, h, hd]

/-- A call of a function that only reads. -/
theorem vops_callA {f : FuncId} {ars : List AR} {res : List RT} {dep : Bool} (hok : OkA P f ars res dep) {d : Option Tmp} {args : Array Operand} {tys : Array TypeId} {ty : TypeId} {pos : String} {after : Array Edge} {rest : List Oper} (hf : callable P f = true)
    (hd : ∀ e, d = some e → e < σ.n) (hars : args.toList.mapM (fun x => σ.snap (σ.ev x)) = some ars) (hw : widths res ≤ 32)
    (h : vops P ops rest (k + 32) (σ.with d ⟨resPV (unRs k res).1, (if dep = true then frzs σ (args.toList.flatMap fun x => (σ.ev x).toks) else []) ++ (unRs k res).2, args.toList.flatMap fun x => (σ.ev x).toks⟩) K) :
    vops P ops (⟨d, .call ⟨.value (.func f), args, tys⟩, ty, pos, after, none⟩ :: rest) k σ K :=
  ⟨hd, _, .inr (.inl ⟨f, args, tys, ars, res, dep, rfl, hf, hok, hars, hw, rfl⟩), h⟩
theorem vops_callA_if {f : FuncId} {ars : List AR} {res : List RT} {dep : Bool} {d : Option Tmp} {args : Array Operand} {tys : Array TypeId} {ty : TypeId} {pos : String} {after : Array Edge} {rest : List Oper} {j e : Nat} {want g : Bool} (hf : callable P f = true)
    (hd : ∀ e, d = some e → e < σ.n) (hfl : σ.flag ops j want = some (e, g)) (he : e < σ.n) 
    (h1 : Ifs g want (OkA P f ars res dep ∧ args.toList.mapM (fun x => (σ.lit e want).snap ((σ.lit e want).ev x)) = some ars ∧ widths res ≤ 32 ∧
      vops P ops rest (k + 32) ((σ.lit e want).with d ⟨resPV (unRs k res).1, (if dep = true then frzs (σ.lit e want) (args.toList.flatMap fun x => ((σ.lit e want).ev x).toks) else []) ++ (unRs k res).2, args.toList.flatMap fun x => ((σ.lit e want).ev x).toks⟩) K))
    (h2 : Ifs g (!want) (vops P ops rest (k + 32) ((σ.lit e (!want)).with d ⟨.t [], [], []⟩) K)) :
    vops P ops (⟨d, .call ⟨.value (.func f), args, tys⟩, ty, pos, after, some (j, want)⟩ :: rest) k σ K :=
  ⟨hd, e, g, hfl, he, fun hb => let ⟨hok, hars, hw, h⟩ := h1 hb; ⟨_, .inr (.inl ⟨f, args, tys, ars, res, dep, rfl, hf, hok, hars, hw, rfl⟩), h⟩, h2⟩
theorem vopsD_callA {f : FuncId} {ars : List AR} {res : List RT} {dep : Bool} (hok : OkA P f ars res dep) {d : Option Tmp} {args : Array Operand} {tys : Array TypeId} {ty : TypeId} {pos : String} {after : Array Edge} {rest : List Oper} (hf : callable P f = true)
    (hd : ∀ e, d = some e → e < σ.n) (hars : args.toList.mapM (fun x => σ.snap (σ.ev x)) = some ars) (hw : widths res ≤ 32)
    (h : vopsD P ops b rest (i + 1) (σ.with d ⟨resPV (unRs (b + 32 * i) res).1, (if dep = true then frzs σ (args.toList.flatMap fun x => (σ.ev x).toks) else []) ++ (unRs (b + 32 * i) res).2, args.toList.flatMap fun x => (σ.ev x).toks⟩)
      ((i, feet σ (.call ⟨.value (.func f), args, tys⟩), ((if dep = true then frzs σ (args.toList.flatMap fun x => (σ.ev x).toks) else []) ++ (unRs (b + 32 * i) res).2).map (·.1)) :: ds) KD) :
    vopsD P ops b (⟨d, .call ⟨.value (.func f), args, tys⟩, ty, pos, after, none⟩ :: rest) i σ ds KD :=
  ⟨hd, _, .inr (.inl ⟨f, args, tys, ars, res, dep, rfl, hf, hok, hars, hw, rfl⟩), h⟩
theorem vopsD_callA_if {f : FuncId} {ars : List AR} {res : List RT} {dep : Bool} {d : Option Tmp} {args : Array Operand} {tys : Array TypeId} {ty : TypeId} {pos : String} {after : Array Edge} {rest : List Oper} {j e : Nat} {want g : Bool} (hf : callable P f = true)
    (hd : ∀ e, d = some e → e < σ.n) (hfl : σ.flag ops j want = some (e, g)) (he : e < σ.n) 
    (h1 : Ifs g want (OkA P f ars res dep ∧ args.toList.mapM (fun x => (σ.lit e want).snap ((σ.lit e want).ev x)) = some ars ∧ widths res ≤ 32 ∧
      vopsD P ops b rest (i + 1) ((σ.lit e want).with d ⟨resPV (unRs (b + 32 * i) res).1, (if dep = true then frzs (σ.lit e want) (args.toList.flatMap fun x => ((σ.lit e want).ev x).toks) else []) ++ (unRs (b + 32 * i) res).2, args.toList.flatMap fun x => ((σ.lit e want).ev x).toks⟩)
      ((i, feet (σ.lit e want) (.call ⟨.value (.func f), args, tys⟩), ((if dep = true then frzs (σ.lit e want) (args.toList.flatMap fun x => ((σ.lit e want).ev x).toks) else []) ++ (unRs (b + 32 * i) res).2).map (·.1)) :: ds) KD))
    (h2 : Ifs g (!want) (vopsD P ops b rest (i + 1) ((σ.lit e (!want)).with d ⟨.t [], [], []⟩) ((i, [], []) :: ds) KD)) :
    vopsD P ops b (⟨d, .call ⟨.value (.func f), args, tys⟩, ty, pos, after, some (j, want)⟩ :: rest) i σ ds KD :=
  ⟨hd, e, g, hfl, he, fun hb => let ⟨hok, hars, hw, h⟩ := h1 hb; ⟨_, .inr (.inl ⟨f, args, tys, ars, res, dep, rfl, hf, hok, hars, hw, rfl⟩), h⟩, h2⟩

/-- A call of a function that writes into slices handed over: os are those arguments, args the rest. -/
theorem vops_callM {f : FuncId} {pre post res : List RT} {ars : List AR} (hok : OkM P f pre ars post res) (os args : List Operand) {u : List Nat} {nr : List (Nat × Ob)} {d : Option Tmp} {xs : Array Operand} {tys : Array TypeId} {ty : TypeId} {pos : String} {after : Array Edge} {rest : List Oper}
    (hxs : xs = (os ++ args).toArray) (hf : callable P f = true) (hd : ∀ e, d = some e → e < σ.n) (hputs : σ.mputs (os.map σ.ev) = some (pre, u)) (hnd : u.Nodup) (hdis : ∀ t ∈ u, t ∉ args.flatMap fun x => (σ.ev x).toks)
    (hars : args.mapM (fun x => σ.snap (σ.ev x)) = some ars) (hw : widths res ≤ 32) (hnr : renewRs (os.map σ.ev) post = some nr) (hkeys : nr.map (·.1) = u)
    (h : vops P ops rest (k + 32) (σ.with d ⟨resPV (unRs k res).1, frzs σ (args.flatMap fun x => (σ.ev x).toks) ++ (unRs k res).2 ++ nr, u ++ args.flatMap fun x => (σ.ev x).toks⟩) K) :
    vops P ops (⟨d, .call ⟨.value (.func f), xs, tys⟩, ty, pos, after, none⟩ :: rest) k σ K := by
  subst hxs
  exact ⟨hd, _, .inr (.inr (.inr ⟨f, os, args, tys, pre, u, ars, post, res, nr, rfl, hf, hok, hputs, hnd, hdis, hars, hw, hnr, hkeys, rfl⟩)), h⟩
theorem vops_does {op : Op} {E : Eff} (hE : Does P k σ op E) {d : Option Tmp} {ty : TypeId} {pos : String} {after : Array Edge} {rest : List Oper} (hd : ∀ e, d = some e → e < σ.n) (h : vops P ops rest (k + 32) (σ.with d E) K) :
    vops P ops (⟨d, op, ty, pos, after, none⟩ :: rest) k σ K := ⟨hd, _, hE, h⟩

theorem toArray_toList (l : List Operand) : l.toArray.toList = l := rfl
theorem ifs_true {g : Bool} {X : Prop} (h : g = true → X) : Ifs g true X := h
theorem ifs_false {g : Bool} {X : Prop} (h : g = false → X) : Ifs g false X := h

end
attribute [push_cast] vopsD_nil vopsD_one feet feetV Op.operands Call.operands List.flatMap_cons List.flatMap_nil List.append_nil List.nil_append List.cons_append PV.toks P1.toks Ob.toks
  effStore fldAddr effField effSlice effAppend srcRows effMake effBuild effBuildSlice elems fillPC P1s min2 max2 effConvert optI St.rows Ob.rows St.put1 St.puts splice shifts strOp constPC constPV constCell Value.plainZero PC.solid P1.cells Cell.mine Cell.roC Cell.plain
end Go.V
/- The value-level machine, part 36: what is handed to a law, as plain data. -/
namespace Go.V
open Go Go.RowKit

/-- Cells that can be read as a value of type t are those of some plain datum a, of which ok holds. -/
def Opn {α : Type} (P : Program) (W : World) (t : TypeId) (n : Nat) (f : α → List Cell) (ok : α → Prop) : Prop :=
  ∀ (H : Type) (enc : TypeId × Value → H) (base : Nat) (spare : Nat → Bool) (held : Bool) (fuel : Nat) (cs : List Value) (x : DataW H × List MemPlace), DataW.trod enc P W base spare held fuel t cs = some x →
    ∃ a, ok a ∧ (f a).length = n ∧ Rels (RepR W (· < W.heap.size)) (f a) cs

section
variable {P : Program} {W : World} {t : TypeId}
theorem opn_int {k : IntKind} (ht : P.underlying t = some (.int k)) : Opn P W t 1 (fun x => [.int k x]) (fun x => (Lit.int k x).wf = true) := by
  intro H enc base spare held fuel cs x h
  obtain ⟨n, rfl, _, hw⟩ := DataW.trod_int ht h
  exact ⟨n, hw, rfl, .cons (.int k n) .nil⟩
theorem opn_bool (ht : P.underlying t = some .bool) : Opn P W t 1 (fun x => [.bool x]) (fun _ => True) := by
  intro H enc base spare held fuel cs x h
  obtain ⟨n, rfl, _⟩ := DataW.trod_bool ht h
  exact ⟨n, trivial, rfl, .cons (.bool n) .nil⟩
theorem opn_str (ht : P.underlying t = some .string) : Opn P W t 1 (fun x => [.str x]) (fun x => x.length ≤ 9223372036854775807) := by
  intro H enc base spare held fuel cs x h
  obtain ⟨s, rfl, _, hl⟩ := DataW.trod_string ht h
  refine ⟨s.data.toList, by simpa [maxLen] using hl, rfl, .cons ?_ .nil⟩
  have : RepR W (· < W.heap.size) (.str s.data.toList) (.string ⟨s.data.toList.toArray⟩) := .str _
  simpa using this
theorem cell_there {a : Addr} {v : Value} (h : W.cell? a = some v) : a.spot = none ∧ a.block < W.heap.size := by
  unfold World.cell? at h
  split at h
  · rename_i c _ _ hb
    split at h
    · cases h
    · rename_i hs
      refine ⟨by simpa using hs, ?_⟩
      rcases Nat.lt_or_ge a.block W.heap.size with h1 | h1
      · exact h1
      · rw [Array.getElem?_eq_none h1] at hb; cases hb
  · cases h

theorem exists_list {α : Type} {p : Nat → α → Prop} : ∀ (n : Nat), (∀ i, i < n → ∃ a, p i a) → ∃ l : List α, l.length = n ∧ ∀ i a, l[i]? = some a → p i a
  | 0, _ => ⟨[], rfl, fun i a h => by simp at h⟩
  | n + 1, h => by
    obtain ⟨l, hl, hp⟩ := exists_list n fun i hi => h i (by omega)
    obtain ⟨a, ha⟩ := h n (by omega)
    refine ⟨l ++ [a], by simp [hl], fun i b hb => ?_⟩
    rcases Nat.lt_or_ge i n with h1 | h1
    · rw [List.getElem?_append_left (by omega)] at hb; exact hp i b hb
    · rw [List.getElem?_append_right (by omega)] at hb
      have : i = n := by
        have := lt_of_get hb
        simp at this; omega
      subst this
      simp [hl] at hb
      subst hb; exact ha

theorem opn_slice {α : Type} {e : TypeId} {n : Nat} {f : α → List Cell} {ok : α → Prop} (ht : P.underlying t = some (.slice e)) (hc : P.cellsOf e = n) (hn : 0 < n) (h : Opn P W e n f ok) :
    Opn P W t 1 (fun xs : List α => [.sl none (xs.map f)]) (fun xs => xs.length ≤ 9223372036854775807 ∧ ∀ x ∈ xs, ok x) := by
  intro H enc base spare held fuel cs x hx
  rcases DataW.trod_slice ht hx with ⟨rfl, _⟩ | ⟨a, len, cap, elems, rest, m, _, rfl, _, hb, hl, hm, hlen, hel, _, _⟩
  · exact ⟨[], ⟨by simp, by simp⟩, rfl, .cons (.sl none [] none 0 1 (fun _ _ => undef) ⟨Nat.le_refl _, Nat.zero_le _⟩ (by simp) (by omega) (fun h => absurd rfl h) (by simp) (by simp [at2])) .nil⟩
  · have each : ∀ i, i < len → ∃ y : α × List Value, ok y.1 ∧ (f y.1).length = n ∧ Rels (RepR W (· < W.heap.size)) (f y.1) y.2 ∧ ∀ j, j < n → W.cell? ((a.add (i * n)).add j) = y.2[j]? := by
      intro i hi
      have h1 := hel i hi
      rw [hc] at h1
      have h2 : elems[i]? = some elems[i] := by simp [hlen, hi]
      rw [h2, Option.bind_eq_some_iff] at h1
      obtain ⟨vs, h3, h4⟩ := h1
      obtain ⟨y, h5, h6, h7⟩ := h H enc base spare held m vs _ h4
      exact ⟨(y, vs), h5, h6, h7, (World.cells?_some h3).2.2⟩
    obtain ⟨l, hll, hp⟩ := exists_list len each
    have hcell : ∀ i j c, at2 ((l.map Prod.fst).map f) i j = some c → ∃ y, l[i]? = some y ∧ j < n ∧ ∃ v, y.2[j]? = some v ∧ W.cell? ((a.add (i * n)).add j) = some v ∧ RepR W (· < W.heap.size) c v := by
      intro i j c hcij
      unfold at2 at hcij
      simp only [List.map_map, List.getElem?_map] at hcij
      cases hy : l[i]? with
      | none => rw [hy] at hcij; simp at hcij
      | some y =>
        rw [hy] at hcij
        simp at hcij
        obtain ⟨_, h6, h7, h8⟩ := hp i y hy
        have hj := lt_of_get hcij
        obtain ⟨v, hv, hr⟩ := h7.get hcij
        exact ⟨y, rfl, by omega, v, hv, by rw [h8 j (by omega)]; exact hv, hr⟩
    have hadd : ∀ i j, (⟨(a.add (i * n)).block, (a.add (i * n)).off, none⟩ : Addr).add j = ⟨a.block, a.off + (i * n + j), none⟩ := by
      intro i j
      unfold Addr.add
      by_cases h1 : i * n = 0
      · rw [if_pos h1]
        by_cases h2 : j = 0
        · rw [if_pos h2, h1, h2]; rfl
        · rw [if_neg h2, h1]; simp
      · rw [if_neg h1]
        by_cases h2 : j = 0
        · rw [if_pos h2, h2]; rfl
        · rw [if_neg h2]; simp [Nat.add_assoc]
    have hspot : len ≠ 0 → a.spot = none ∧ a.block < W.heap.size := by
      intro h0
      have : l[0]? = some l[0] := by simp
      obtain ⟨_, h6, h7, h8⟩ := hp 0 _ this
      have h9 := h8 0 hn
      have hlv : l[0].2.length = n := by rw [h7.length, h6]
      rw [List.getElem?_eq_getElem (by omega)] at h9
      have := cell_there h9
      simpa [Addr.add] using this
    refine ⟨l.map Prod.fst, ⟨?_, ?_⟩, rfl, .cons ?_ .nil⟩
    · simp [maxLen] at hm ⊢; omega
    · intro x hx
      obtain ⟨y, hy, rfl⟩ := List.mem_map.1 hx
      obtain ⟨i, hi⟩ := List.getElem?_of_mem hy
      exact (hp i y hi).1
    · have hlm : ((l.map Prod.fst).map f).length = len := by simp [hll]
      rw [← hlm]
      refine .sl none _ (some a) cap n (fun i j => (W.cell? ((a.add (i * n)).add j)).getD undef) ⟨by rw [hlm]; exact hl, by rw [hlm]; exact Nat.le_trans hl hm⟩ ?_ hn (fun hne => ⟨a, rfl, ?_⟩) ?_ ?_
      · intro x hx
        obtain ⟨y, hy, rfl⟩ := List.mem_map.1 hx
        obtain ⟨z, hz, rfl⟩ := List.mem_map.1 hy
        obtain ⟨i, hi⟩ := List.getElem?_of_mem hz
        exact (hp i z hi).2.1
      · exact hspot (by intro h0; apply hne; have : l = [] := by simpa [h0] using hll
                        simp [this])
      · intro ad had i j c hcij
        cases had
        obtain ⟨y, hy, hj, v, hv, hcv, hr⟩ := hcell i j c hcij
        have hlen0 : len ≠ 0 := by have := lt_of_get hy; omega
        have hsp := (hspot hlen0).1
        have e1 : (a.add (i * n)).add j = ⟨a.block, a.off + (i * n + j), none⟩ := by
          have := hadd i j
          have e2 : (⟨(a.add (i * n)).block, (a.add (i * n)).off, none⟩ : Addr) = a.add (i * n) := by
            unfold Addr.add
            by_cases h1 : i * n = 0
            · rw [if_pos h1]; cases a; simp at hsp; simp [hsp]
            · rw [if_neg h1]
          rw [e2] at this
          exact this
        rw [← e1, hcv]; rfl
      · intro i j c hcij
        obtain ⟨y, hy, hj, v, hv, hcv, hr⟩ := hcell i j c hcij
        rw [hcv]; exact hr

theorem rels_cut {R : Cell → Value → Prop} {xs ys : List Cell} {cs : List Value} {o n : Nat} (h : Rels R xs ((cs.drop o).take n)) (k : Rels R ys (cs.drop (o + n))) : Rels R (xs ++ ys) (cs.drop o) := by
  have := Rels.append k h
  rwa [← List.drop_drop, List.take_append_drop] at this
theorem rels_end {R : Cell → Value → Prop} {cs : List Value} {o : Nat} (h : cs.length = o) : Rels R [] (cs.drop o) := by
  rw [List.drop_of_length_le (by omega)]; exact .nil
end
end Go.V
