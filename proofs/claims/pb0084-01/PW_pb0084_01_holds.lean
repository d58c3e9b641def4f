import PyProof.Rows.All
import Wide.All
import OpenK.AllK
import Wide.FinOn
import PySem.Challenge.RW_pb0084_01
set_option Elab.async false
section PartG
open PySem PySem.W PyProof.Rows PySem.Calls PySem.Spec
set_option Elab.async false
set_option maxRecDepth 100000
set_option linter.unusedVariables false
namespace Mine

/-- the codes at whose sight a bytearray is taken for exported -/
noncomputable def badIds : List String := ["bytearray.__contains__", "bytearray.__mod__", "bytearray.__rmod__", "_struct.pack_into.held", "bytearray.find.held"] ++ Builtin.Bytes.decodersThatHold
noncomputable def badCode : Code → Bool
  | .builtin id _ => badIds.contains id
  | _ => false
noncomputable def Calm (Γ : PySem.Ctx) : Prop := ∀ x ∈ Γ.below, badCode x.1 = false

/-- wpAny over the calm contexts alone -/
noncomputable def wpG {α : Type} (M : Model) (A : Around) (t : Sem α) (Q : α → Shared → Prop) (E : Value → Shared → Prop) (s : Shared) : Prop :=
  ∀ Γ p, Γ.In A → badCode Γ.code = false → Calm Γ → Sem.wp M Γ t (fun a _ s' => Q a s') (fun e _ s' => E e s') p s
noncomputable def codeG (M : Model) (A : Around) (c : Code) (R : Result → Shared → Prop) (s : Shared) : Prop :=
  ∀ Γ p, Γ.code = c → Γ.Below A → Calm Γ → wpCode M Γ R p s

section
variable {α β : Type} {M : Model} {A : Around} {E : Value → Shared → Prop} {s : Shared} {env : Env}
theorem wpG_any {t : Sem α} {Q : α → Shared → Prop} (h : wpAny M A t Q E s) : wpG M A t Q E s := fun Γ p hΓ _ _ => h Γ p hΓ
theorem codeG_any {c : Code} {R : Result → Shared → Prop} (h : codeAny M A c R s) : codeG M A c R s := fun Γ p hc hΓ _ => h Γ p hc hΓ
theorem wpG_pure {a : α} {Q : α → Shared → Prop} (h : Q a s) : wpG M A (pure a) Q E s := fun _ _ _ _ _ => h
theorem wpG_mono {t : Sem α} {Q Q' : α → Shared → Prop} {E' : Value → Shared → Prop} (h : wpG M A t Q E s)
    (hQ : ∀ a s, Q a s → Q' a s) (hE : ∀ e s, E e s → E' e s) : wpG M A t Q' E' s :=
  fun Γ p hΓ hb hc => Sem.wp_mono M Γ t (fun a _ s => hQ a s) (fun e _ s => hE e s) p s (h Γ p hΓ hb hc)
theorem wpG_bind {m : Sem α} {f : α → Sem β} {Q : β → Shared → Prop} (h : wpG M A m (fun a s' => wpG M A (f a) Q E s') E s) :
    wpG M A (m >>= f) Q E s := fun Γ p hΓ hb hc => by
  rw [Sem.wp_bind']
  exact Sem.wp_mono M Γ m (fun a p' s' h' => h' Γ p' hΓ hb hc) (fun _ _ _ h' => h') p s (h Γ p hΓ hb hc)
theorem wpG_onRaise {m : Sem α} {k : Value → Sem Unit} {Q : α → Shared → Prop}
    (h : wpG M A m Q (fun e s' => wpG M A (k e) (fun _ s'' => E e s'') E s') s) : wpG M A (m.onRaise k) Q E s := fun Γ p hΓ hb hc => by
  rw [Sem.wp_onRaise]
  exact Sem.wp_mono M Γ m (fun _ _ _ h' => h') (fun e p' s' h' => h' Γ p' hΓ hb hc) p s (h Γ p hΓ hb hc)
theorem wpG_attempt {m : Sem α} {Q : Except Value α → Shared → Prop} (h : wpG M A m (fun a => Q (.ok a)) (fun e => Q (.error e)) s) :
    wpG M A m.attempt Q E s := fun Γ p hΓ hb hc => by rw [Sem.wp_attempt]; exact h Γ p hΓ hb hc
theorem wpG_holding {vs : List Value} {m : Sem α} {Q : α → Shared → Prop} (h : wpG M A m Q E s) : wpG M A (holding vs m) Q E s :=
  fun Γ p hΓ hb hc => by rw [Sem.wp_holding]; exact h Γ p hΓ hb hc
theorem wpG_keep {vs : List Value} {m : Sem α} {Q : α → Shared → Prop} (h : wpG M A m Q E s) : wpG M A (m.keep vs) Q E s :=
  fun Γ p hΓ hb hc => by rw [Sem.wp_keep]; exact h Γ p hΓ hb hc
theorem wpG_of_eq {t : Sem α} {a : α} {Q : α → Shared → Prop} (e : t = pure a) (h : Q a s) : wpG M A t Q E s := e ▸ wpG_pure h

theorem codeG_mono {c : Code} {R R' : Result → Shared → Prop} (h : codeG M A c R s) (hR : ∀ r s, R r s → R' r s) : codeG M A c R' s :=
  fun Γ p hc hΓ hk => wpCode_mono hR (h Γ p hc hΓ hk)
theorem calm_enter {Γ : PySem.Ctx} (hb : badCode Γ.code = false) (hc : Calm Γ) (c : Code) (h : Option Value) (p : Pos) : Calm (Γ.enter c h p) := fun x hx => by
  rcases List.mem_cons.mp hx with rfl | hx
  · exact hb
  · exact hc x hx
theorem wpG_run {c : Code} {h : Option Value} {Q : Flow → Shared → Prop}
    (hc : codeG M (A.mark h) c (fun r s' => match r with | .ok f => Q f s' | .error e => E e s') s) (hnb : h ≠ some byPass := by intro x; cases x) :
    wpG M A (run c h) Q E s :=
  fun Γ p hΓ hb hk => by rw [Sem.wp_run]; exact hc _ p rfl (hΓ.enter c h p hnb) (calm_enter hb hk c h p)
theorem wpG_runOwn {c : Code} {h : Option Value} {Q : Flow → Shared → Prop}
    (hc : codeG M (A.mark h) c (fun r s' => match r with | .ok f => Q f s' | .error e => cameBackBy M A env E e s') s) (hnb : h ≠ some byPass := by intro x; cases x) :
    wpG M A (runOwn c env h) Q E s := by
  unfold runOwn
  refine wpG_onRaise (wpG_run (codeG_mono hc fun r s' hr => ?_) hnb)
  cases r with
  | ok f => exact hr
  | error e => exact wpG_any hr
theorem wpG_call {f : Value} {pos : List Value} {kw : List (Str × Value)} {Q : Value → Shared → Prop}
    (hc : codeG M A (.call f ⟨pos, kw⟩) (fun r s' => match r with | .ok (.ret v) => Q v s' | .ok _ => False | .error e => E e s') s) :
    wpG M A (call f pos kw) Q E s := fun Γ p hΓ hb hk => by
  show Sem.wp M Γ (runValue (.call f ⟨pos, kw⟩)) _ _ p s
  rw [Sem.wp_runValue]
  exact hc _ p rfl (hΓ.enter _ none p (by intro x; cases x)) (calm_enter hb hk _ none p)
theorem codeG_of_tree {c : Code} {R : Result → Shared → Prop} (hb : badCode c = false)
    (h : wpG M (A.under c) (M.den c) (fun fin s' => match fin with | .done f => R (.ok f) s' | .again c' => c'.quiet = true ∧ codeG M A c' R s')
      (fun e s' => R (.error e) s') s) : codeG M A c R s := fun Γ p hc hΓ hk => by
  rw [wpCode_iff_wp, hc]
  refine Sem.wp_mono M Γ _ (fun fin p' s' h' => ?_) (fun _ _ _ h' => h') p s (h Γ p (hc ▸ hΓ.in) (hc ▸ hb) hk)
  cases fin with
  | done f => exact h'
  | again c' => exact ⟨h'.1, h'.2 (Γ.goto c') p' rfl (hΓ.goto c') hk⟩
theorem codeG_loop {c : Code} {R : Result → Shared → Prop} (hq : c.quiet = true) (hb : badCode c = false) (I : Nat → Shared → Prop)
    (turn : ∀ n s, I n s → wpG M (A.under c) (M.den c)
      (fun fin s' => match fin with | .done f => R (.ok f) s' | .again c' => (c' = c ∧ ∃ m, m < n ∧ I m s') ∨ (c'.quiet = true ∧ codeG M A c' R s')) (fun e s' => R (.error e) s') s)
    (n : Nat) (h : I n s) : codeG M A c R s := by
  induction n using Nat.strongRecOn generalizing s with
  | ind n ih =>
    refine codeG_of_tree hb (wpG_mono (turn n s h) (fun fin s' hf => ?_) fun _ _ h' => h')
    cases fin with
    | done f => exact hf
    | again c' =>
      rcases hf with ⟨rfl, m, hm, hI⟩ | hf
      · exact ⟨hq, ih m hm hI⟩
      · exact hf

/-! statements and expressions -/
theorem execsG_nil {Q : Flow → Shared → Prop} (h : Q .next s) : wpG M A (execs [] env) Q E s := wpG_any (wpAny_execs_nil h)
theorem execsG_cons {st rest} {Q : Flow → Shared → Prop}
    (h : wpG M A (exec st env) (fun f s' => match f with | .next => wpG M A (execs rest env) Q E s' | f => Q f s') E s) :
    wpG M A (execs (st :: rest) env) Q E s := by
  rw [execs_cons]
  refine wpG_bind (wpG_mono h (fun f s' h' => ?_) fun _ _ x => x)
  cases f <;> first | exact h' | exact wpG_pure h'
theorem execsG_any {st rest} {Q : Flow → Shared → Prop}
    (h : wpAny M A (exec st env) (fun f s' => match f with | .next => wpG M A (execs rest env) Q E s' | f => Q f s') E s) :
    wpG M A (execs (st :: rest) env) Q E s := execsG_cons (wpG_any h)
theorem IfG {test body orelse pos} {Q : Flow → Shared → Prop}
    (h : wpG M A (isTrue test env (eval test env))
      (fun b s₂ => if b then wpG M A (execs body env) Q E s₂ else wpG M A (execs orelse env) Q E s₂) E s) :
    wpG M A (exec (.If test body orelse pos) env) Q E s := by
  rw [exec_If]
  refine wpG_bind (wpG_any (wpAny_standAt ?_))
  refine wpG_bind (wpG_mono h (fun b s₂ h₂ => ?_) fun _ _ x => x)
  cases b <;> exact h₂
theorem Return_someG {e pos} {Q : Flow → Shared → Prop} (h : wpG M A (eval e env) (fun v => Q (.ret v)) E s) :
    wpG M A (exec (.Return (some e) pos) env) Q E s := by
  rw [exec_Return_some]
  exact wpG_bind (wpG_any (wpAny_standAt (wpG_bind (wpG_mono h (fun v s' h' => wpG_pure h') fun _ _ x => x))))
theorem Assign_NameG {x pos' value pos} {Q : Flow → Shared → Prop}
    (h : wpG M A (eval value env) (fun v s₁ => wpAny M A (storeName env x v) (fun _ => Q .next) E s₁) E s)
    (hs : swapsWith value (some (.Name x pos')) pos.line env = pure false := by rfl) :
    wpG M A (exec (.Assign [.Name x pos'] value pos) env) Q E s := by
  rw [exec_Assign_Name env x pos' value pos hs]
  refine wpG_bind (wpG_any (wpAny_standAt ?_))
  refine wpG_bind (wpG_mono h (fun v s₁ h₁ => ?_) fun _ _ x => x)
  refine wpG_bind (wpG_any (wpAny_standAt ?_))
  exact wpG_bind (wpG_any (wpAny_bindName (wpAny_mono h₁ (fun _ _ q => wpG_pure q) fun _ _ x => x)))
theorem Assign_TupleG {elts k tpos value pos} {names : List Str} {Q : Flow → Shared → Prop}
    (h : wpG M A (eval value env) (fun v s₁ => wpAny M A (unpackItems v names.length none) (fun items s₂ =>
      wpAny M A (assignInOrder (names.reverse.map fun n => bindName env n) items.reverse) (fun _ => Q .next) E s₂) E s₁) E s)
    (hs : swapsWithSole [.Tuple elts k tpos] value pos.line env = pure false := by rfl)
    (hw : swappedStores [.Tuple elts k tpos] value env = pure (some names) := by rfl) :
    wpG M A (exec (.Assign [.Tuple elts k tpos] value pos) env) Q E s := by
  rw [exec_Assign]
  refine wpG_bind (wpG_any (wpAny_standAt ?_))
  rw [hs]
  refine wpG_bind (wpG_pure ?_)
  rw [if_neg (by decide)]
  refine wpG_bind (wpG_mono h (fun v s₁ h₁ => ?_) fun _ _ x => x)
  rw [hw]
  refine wpG_bind (wpG_pure ?_)
  refine wpG_any ?_
  show wpAny M A (do rule "assign.swapped-stores"; let items ← unpackItems v names.length none; assignInOrder (names.reverse.map fun n => bindName env n) items.reverse; pure .next) Q E s₁
  exact wpAny_bind (wpAny_rule (wpAny_bind (wpAny_mono h₁ (fun items s₂ h₂ => wpAny_bind (wpAny_mono h₂ (fun _ _ x => wpAny_pure x) fun _ _ x => x)) fun _ _ x => x)))
theorem Compare1G {l op r pos} {Q : Value → Shared → Prop}
    (h : wpG M A (eval l env) (fun a s₁ => wpAny M A (eval r env) (fun b s₂ => wpAny M A (compareOp op a b) Q E s₂) E s₁) E s)
    (hm : behindInMarks op r = false := by with_unfolding_all rfl) :
    wpG M A (eval (.Compare l [op] [r] pos) env) Q E s := fun Γ p hΓ hb hk => by
  simp only [eval_Compare1, markedBehindIn_of_false hm, Sem.wp_bind', Sem.wp_holding, Sem.wp_cmd_standAt, Sem.wp_operate]
  exact Sem.wp_mono M Γ _ (fun a p₁ s₁ h₁ => Sem.wp_mono M Γ _ (fun b _ s₂ h₂ => h₂ Γ _ hΓ) (fun _ _ _ h' => h') _ _ (h₁ Γ p₁ hΓ))
    (fun _ _ _ h' => h') _ _ (h Γ p hΓ hb hk)
theorem isTrue_Compare1G {l op r pos whole} {Q : Bool → Shared → Prop}
    (h : wpG M A (eval l env) (fun a s₁ => wpAny M A (eval r env) (fun b s₂ => wpAny M A (compareOp op a b)
      (fun c s₃ => wpAny M A (truthy c) Q E s₃) E s₂) E s₁) E s)
    (hm : behindInMarks op r = false := by with_unfolding_all rfl) : wpG M A (isTrue (.Compare l [op] [r] pos) env whole) Q E s := fun Γ p hΓ hb hk => by
  simp only [isTrue_Compare1, markedBehindIn_of_false hm, Sem.wp_bind', Sem.wp_holding, Sem.wp_cmd_standAt, Sem.wp_operate]
  exact Sem.wp_mono M Γ _ (fun a p₁ s₁ h₁ => Sem.wp_mono M Γ _ (fun b _ s₂ h₂ => Sem.wp_mono M Γ _ (fun c p₃ s₃ h₃ => h₃ Γ p₃ hΓ)
    (fun _ _ _ h' => h') _ _ (h₂ Γ _ hΓ)) (fun _ _ _ h' => h') _ _ (h₁ Γ p₁ hΓ)) (fun _ _ _ h' => h') _ _ (h Γ p hΓ hb hk)
theorem isTrue_orG {x rest pos whole} {Q : Bool → Shared → Prop}
    (h : wpG M A (isTrue x env (eval x env)) (fun c s' => if c then Q true s' else wpG M A (isTrue (.BoolOp .Or rest pos) env whole) Q E s') E s) :
    wpG M A (isTrue (.BoolOp .Or (x :: rest) pos) env whole) Q E s := by
  show wpG M A (do
    match BoolOp.Or, ← isTrue x env (eval x env) with
    | .And, false => pure false
    | .Or, true => pure true
    | _, _ => allTrue .Or rest env) Q E s
  refine wpG_bind (wpG_mono h (fun c s' h' => ?_) fun _ _ x => x)
  cases c with
  | false => exact h'
  | true => exact wpG_pure h'
theorem isTrue_andG {x rest pos whole} {Q : Bool → Shared → Prop}
    (h : wpG M A (isTrue x env (eval x env)) (fun c s' => if c then wpG M A (isTrue (.BoolOp .And rest pos) env whole) Q E s' else Q false s') E s) :
    wpG M A (isTrue (.BoolOp .And (x :: rest) pos) env whole) Q E s := by
  show wpG M A (do
    match BoolOp.And, ← isTrue x env (eval x env) with
    | .And, false => pure false
    | .Or, true => pure true
    | _, _ => allTrue .And rest env) Q E s
  refine wpG_bind (wpG_mono h (fun c s' h' => ?_) fun _ _ x => x)
  cases c with
  | false => exact wpG_pure h'
  | true => exact h'
theorem BoolOp_oneG {op e pos} {Q : Value → Shared → Prop} (h : wpG M A (eval e env) Q E s) : wpG M A (eval (.BoolOp op [e] pos) env) Q E s := h
theorem BoolOp_andG {e₁ e₂ rest pos} {Q : Value → Shared → Prop}
    (h : wpG M A (eval e₁ env) (fun v s₁ => wpAny M A (truthy v) (fun c s₂ => if c then wpG M A (eval (.BoolOp .And (e₂ :: rest) pos) env) Q E s₂ else Q v s₂) E s₁) E s) :
    wpG M A (eval (.BoolOp .And (e₁ :: e₂ :: rest) pos) env) Q E s := by
  show wpG M A (do
    let v ← eval e₁ env
    standAt pos
    let c ← holding [v] (truthy v)
    match BoolOp.And, c with
    | .And, false | .Or, true => pure v
    | _, _ => boolOp pos .And (eval e₂ env :: evalEach rest env)) Q E s
  refine wpG_bind (wpG_mono h (fun v s₁ h₁ => wpG_bind (wpG_any (wpAny_standAt (wpG_bind (wpG_holding (wpG_any (wpAny_mono h₁ (fun c s₂ h₂ => ?_) fun _ _ x => x))))))) fun _ _ x => x)
  cases c with
  | false => exact wpG_pure h₂
  | true => exact h₂
theorem isTrue_plainG {e : Expr} {whole : Sem Value} {Q : Bool → Shared → Prop} (h : wpG M A whole (fun v s₁ => wpAny M A (truthy v) Q E s₁) E s)
    (he : isTrue e env whole = (do let v ← whole; standAt e.pos; holding [v] (truthy v)) := by rfl) : wpG M A (isTrue e env whole) Q E s := by
  rw [he]
  exact wpG_bind (wpG_mono h (fun v s₁ h₁ => wpG_bind (wpG_any (wpAny_standAt (wpG_holding (wpG_any h₁))))) fun _ _ x => x)
theorem Call_NameG {id : Str} {p pos : Pos} {args : List Expr} {keywords : List Keyword} {Q : Value → Shared → Prop}
    (h : wpAny M A (eval (.Name id p) env) (fun f s₁ => wpG M A (callWith pos f [] (backTo pos (starEach args env)) (backToKw pos (keywordEach keywords env))) Q E s₁) E s) :
    wpG M A (eval (.Call (.Name id p) args keywords pos) env) Q E s := by
  rw [arm_eval_Call_Name']
  exact wpG_bind (wpG_any h)
theorem callWithG_of {P : Heap → Prop} {pos : Pos} {f : Value} {first : List Value} {args : List (Bool × Sem Value)} {keywords : List (Option Str × Sem Value)} {Q : Value → Shared → Prop} (hplain : (args.any (·.1) || keywords.any (·.1.isNone)) = false)
    (hk : ∀ h, P h → ∃ k, (k = Keeper.frame ∨ k = Keeper.machine ∨ k = Keeper.boundFrame) ∧ Looks M h (keeperOf f) k)
    (h : wpG M A (evalArgs f true args keywords) (fun a s₁ => P s₁.heap ∧ wpG M A (call f (first ++ a.pos) a.kw) Q E s₁) E s) : wpG M A (callWith pos f first args keywords) Q E s := by
  unfold callWith
  refine wpG_bind (wpG_holding (wpG_mono h (fun a s₁ h₁ => wpG_bind (wpG_any (wpAny_standAt ?_))) fun _ _ x => x))
  obtain ⟨k, hk', L⟩ := hk _ h₁.1
  simp only [hplain]
  refine wpG_bind (wpG_any (L.here ?_))
  have tail : ∀ {t : Sem Value}, wpG M A t Q E s₁ → wpG M A (t >>= fun r => holding [r] point >>= fun _ => pure r) Q E s₁ :=
    fun ht => wpG_bind (wpG_mono ht (fun r s₂ hr => wpG_bind (wpG_holding (wpG_any (wpAny_point (wpG_pure hr))))) fun _ _ x => x)
  have marked (mk : Value) : wpG M A (callMarked mk f (first ++ a.pos) a.kw) Q E s₁ := by unfold callMarked; exact wpG_keep h₁.2
  rcases hk' with rfl | rfl | rfl <;> dsimp only <;> first | exact tail h₁.2 | (split <;> first | exact tail h₁.2 | exact tail (marked _))
end
end Mine
end PartG
section PartG2
open PySem PySem.W PyProof.Rows PySem.Calls PySem.Spec
set_option Elab.async false
set_option maxRecDepth 100000
set_option linter.unusedVariables false
namespace Mine

/-! the caller's context is calm; from there to the thread -/
theorem caller_calm : badCode (Code.builtin "claim.caller" {}) = false := by decide +kernel
theorem thread_endsG {prog : Program} {w : World} {t : Sem Fin} {s : Shared} {R : Result → Shared → Prop} (hreg : s.asleep)
    (h : wpG (model prog w) callerA t (fun fin s' => ∃ f, fin = .done f ∧ (R (.ok f) s' ∧ leftWithCleanup s'.gens = false)) (fun e s' => R (.error e) s' ∧ leftWithCleanup s'.gens = false) s) :
    ∃ n r s' s'', runN (denote table) prog w n s ⟨t, .builtin "claim.caller" {}, default, []⟩ = .halted (outcomeOf r) s' ∧
      schedN (denote table) prog w n (.single s ⟨t, .builtin "claim.caller" {}, default, []⟩) = .halted (outcomeOf r) s' ∧ s'.forget = s''.forget ∧ R r s'' := by
  obtain ⟨n, r, s₁, s₂, hs, hn, hfo, hR⟩ := wp_halts_full (M := model prog w) (R := R) hreg
    (Sem.wp_mono _ _ _ (fun fin p' s' h' => by obtain ⟨f, rfl, hf⟩ := h'; exact hf) (fun _ _ _ h' => h') default s (h ⟨.builtin "claim.caller" {}, none, none, [], none⟩ default caller_in caller_calm (fun _ hx => nomatch hx)))
  exact ⟨n, r, s₂, s₁, hn, hs, hfo, hR⟩

theorem callFromG {c : ClaimW} {tree : List Value → Sem Fin} {w : World} {s : Shared} {free : Addr → Prop} {gens : Prop} {kept : Heap → Prop} (hz : s.asleep) (hgens : s.gens = #[])
    (hspec : ∀ args, c.pre args = true → WData.layableAll args = true →
      ∀ ord : List DictEntry → List DictEntry, (∀ l, (ord l).Perm l) →
      ∃ vs s₁, layAllW c.records (classAt s.heap) w.params ord args s = some (vs, s₁) ∧
        wpG (model c.prog w) callerA (tree vs) (fun fin s' => ∃ f, fin = .done f ∧ (c.Ends s args vs s₁ (.ok f) s' ∧ s'.os = s.os ∧ AllBare s'.gens ∧ kept s'.heap))
          (fun e s' => c.Ends s args vs s₁ (.error e) s' ∧ s'.os = s.os ∧ AllBare s'.gens ∧ kept s'.heap) s₁) :
    c.CallFrom (fun vs => ⟨tree vs, .builtin "claim.caller" {}, default, []⟩) w free gens kept s := by
  intro args hpre hlay ord hord
  obtain ⟨vs, s₁, hlaid, hcode⟩ := hspec args hpre hlay ord hord
  have hal := layAllW_rest _ _ _ hlaid
  obtain ⟨k, r, s', s'', hrun, hsched, hfo, hcase, hos, hkp⟩ := thread_endsG (prog := c.prog) (w := w) (t := tree vs) (s := s₁)
    (R := fun r s' => c.Ends s args vs s₁ r s' ∧ s'.os = s.os ∧ kept s'.heap) (Shared.asleep_of_life hal.2.2.2 hz)
    (wpG_mono hcode (fun fin s' ⟨f, e, h1, h2, h3, h4⟩ => ⟨f, e, ⟨h1, h2, h4⟩, leftWithCleanup_false_of_bare h3⟩) fun e s' ⟨h1, h2, h3, h4⟩ => ⟨⟨h1, h2, h4⟩, leftWithCleanup_false_of_bare h3⟩)
  obtain ⟨eh, _, _, eo, _⟩ := Shared.forget_eq hfo
  have hcase := hcase.congr eh
  have hkp : kept s'.heap := eh ▸ hkp
  have hos' : s'.os = s.os := by rw [eo]; exact hos
  have hlife : s'.heap.life = s.heap.life := (runN_life _ _ _ hrun).trans hal.2.2.2
  refine ⟨vs, s₁, hlaid, k, _, s', hsched, ?_, (fun _ i x hx => by rw [hgens] at hx; simp at hx), hkp, by rw [hlife], Shared.rest_eq hos'⟩
  rcases hcase with ⟨v, rfl, d1, d2, d3, d4, d5⟩ | ⟨e, ob, cls, rfl, d1, d2, d3, d4, d5⟩
  · exact .inl ⟨v, rfl, d1, d2, d3, fun b o y _ => d4 b o y, d5⟩
  · exact .inr ⟨e, ob, cls, rfl, d1, d2, d3, d4, fun b o y _ => d5 b o y⟩

/-- what is asked of the call, in calm contexts alone -/
abbrev WalkCalm (q : Program) (loose : List Str) (XP : (Str → Option Value) → Heap → Prop) (YP : World → Heap → Prop) (r : RowW) (d : DefRec) (kwd : List (Str × Expr)) : Prop :=
  ∀ (w : World) (s₀ s₁ : Shared) (mg mb : Str → Option Value), Ground q loose r.records XP w s₀ mg mb s₁.heap → YP w s₁.heap → ∀ (a : Addr) (o : Obj) (pm cd doc dV kV : Value), s₁.heap.get? a = some o →
    o.data = .func { docDef d.name d.params d.body d.scope pm cd doc with defaults := dV, kwdefaults := kV } → s₁.heap.CodeRec cd d.name → Dflts mg s₁.heap d.params kwd dV kV → mg d.name = some (.ref a) → s₁.gens = #[] →
    ∀ (args : List WData) (vals : List Value) (as : List Addr), r.claim.pre args = true → WData.layableAll args = true → ReadsAllW r.records (classAt s₀.heap) s₁.heap vals args as → WellAll w.params s₁.heap vals args → (∀ a ∈ as, (a == sysModules) = false) →
      codeG (model r.prog w) callerA (.call (.ref a) ⟨vals, []⟩) (GoodWG r.claim (classAt s₀.heap) (ExcName.means s₀.heap) args s₁) s₁

/-- a small look that the head's line can close at once (the look at the program itself is asked beside the walk) -/
noncomputable def progJ : Program := { PySem.Challenge.rw_pb0084_01.row.toRowW.1 with main := { PySem.Challenge.rw_pb0084_01.row.toRowW.1.main with body := [] } }
noncomputable def LookJ : Prop := LeftO progJ progJ [] (fun _ => true) (fun _ => true) (fun _ => true) 700
end Mine

/-- the head of an open row, its call asked in calm contexts alone (the kit's holds_open asks it in all) -/
theorem Mine.PySem.W.holds_open {r : OpenRow} {q : Program} {loose : List Str} {Xt : Shared → Bool} {XP : (Str → Option Value) → Heap → Prop} {α : Type} {Yf : Shared → α} {Ya : World → α} {YP : World → Heap → Prop} {d : DefRec} {kwd : List (Str × PySem.Expr)} {N : Nat}
    (_look : LookJ) (hY : ∀ w s, Yf s = Ya w → YP w s.heap) (hYk : ∀ w h h', YP w h → (∀ b o, h.get? b = some o → h'.get? b = some o) → YP w h')
    (hX : ∀ s, Xt s = true → XP (s.heap.nsMap mainGlobals) s.heap) (hXk : ∀ mg h h', XP mg h → (∀ b o, h.get? b = some o → h'.get? b = some o) → XP mg h')
    (hdef : defOf q r.name = some (d, kwd)) (hp : r.prog.theDef r.name = some (d.params, d.body, d.scope)) (hk : kwWritten? d.params.kwonlyargs d.params.kw_defaults = some kwd) (hRf : ∀ s, Xt s = true → RecFacts r.records s.heap) (hwr : (!r.writes || r.records.isEmpty) = true)
    (k1 : r.wellSaid = true) (ok : (chainsOk q && opensWell r.prog && (frees r.toRowW && r.within.isEmpty)) = true) (hb : r.prog.bare) (hw : r.toRowW.promised)
    (both : LeftO r.prog q loose Xt Yf Ya N ∧ Mine.WalkCalm q loose XP YP r.toRowW d kwd) : r.Holds := by
  obtain ⟨left, call⟩ := both
  obtain ⟨ok, k5⟩ := Bool.and_eq_true_iff.mp ok
  obtain ⟨hch, o1⟩ := Bool.and_eq_true_iff.mp ok
  obtain ⟨k5, k6⟩ := Bool.and_eq_true_iff.mp k5
  obtain ⟨hsame, hu, ha, hap, hm⟩ := frees_parts k5
  have hi := ident_freeW hu ha hap
  have hwi : r.toRowW.claim.within = [] := List.isEmpty_iff.mp k6
  refine ⟨k1, hw, ⟨hb, o1, by show r.makers.map _ = []; rw [hm]; rfl⟩, hw.witness, fun w => ⟨(left.behind hX hch w).1, fun s' hs' => ?_⟩⟩
  obtain ⟨s₀, hf, hg0, s, hT, hz, hgens, hg, G00, y⟩ := (left.behind (XP := fun mg h => XP mg h ∧ RecFacts r.records h) (fun s hs => ⟨hX s hs, hRf s hs⟩) hch w).2 s' hs'
  have G0 : Ground q loose [] XP w s (s.heap.nsMap mainGlobals) (s.heap.nsMap builtinsNs) s.heap := ⟨G00.T, G00.B, G00.D, G00.TE, G00.TD, G00.W, G00.X.1, G00.cls, G00.has, G00.apart, G00.once, G00.K⟩
  have RF := G00.X.2
  have hT' := hT
  refine ⟨s₀, hf, hg0, s, hT, fun n hn => ?_, RF.1, RF.2.1, ?_⟩
  · obtain rfl : n = r.name := by split at hn <;> simp_all
    exact pinned_of_view hg G0 hdef hp hk
  have hgens : s.gens = #[] := Array.eq_empty_of_size_eq_zero (beq_iff_eq.mp hgens)
  have GG : Ground q loose r.records XP w s _ _ s.heap := RF.ground G0
  refine Mine.callFromG (c := r.toRowW.claim) hz hgens fun args hpre hlay ord hord => ?_
  obtain ⟨⟨vs, s₁⟩, hlaid⟩ := Option.isSome_iff_exists.mp (layAllW_isSome (P := w.params) (ord := ord) GG.has args r.args s (pre_splitW hpre).1)
  have keeps := layAllW_keeps _ _ _ hlaid
  have hal := layAllW_rest _ _ _ hlaid
  obtain ⟨as, hrd, hin, hold⟩ := reads_layAllW hord _ _ _ hlaid hlay s₁.heap (fun _ _ e => e)
  have L : Laid r.records w s s₁ args vs as := ⟨⟨ord, hord, hlaid⟩, hrd, hin, hold, keeps, hal.1.trans hgens, hal.2.2.1⟩
  have G₁ := GG.keeps hXk keeps
  obtain ⟨a, o, pm, cd, doc, dV, kV, h1, h2, h3, h4, h5⟩ := G₁.fn hdef
  have hn := defOf_name hdef
  have h := call w s s₁ _ _ G₁ (hYk _ _ _ (hY w s y) keeps) a o pm cd doc dV kV h2 h3 h4 h5 (hn ▸ h1) L.gens args vs as hpre hlay L.reads L.well (L.low GG.low)
  refine ⟨vs, s₁, hlaid, Mine.wpG_bind (Mine.wpG_any (wpAny_nsGet G₁.T.g ?_))⟩
  rw [h1]
  refine Mine.wpG_bind (Mine.wpG_mono (Mine.wpG_call (Q := fun v s' => GoodWG r.toRowW.claim (classAt s.heap) (ExcName.means s.heap) args s₁ (.ok (.ret v)) s') (E := fun e s' => GoodWG r.toRowW.claim (classAt s.heap) (ExcName.means s.heap) args s₁ (.error e) s')
    (Mine.codeG_mono h fun res s' g => by rcases g.1 with ⟨v, _, _, rfl, _⟩ | ⟨e, _, _, rfl, _⟩ <;> exact g)) (fun v s' g => Mine.wpG_pure ?_) fun e s' g => ?_)
  · have z := g.laid (c := r.toRowW.claim) hsame hwi hi L
    exact ⟨_, rfl, z.1, z.2.1, z.2.2, fun q => ⟨namesKept_of hT' hg _ keeps g.2.1.old, noTable hwr q⟩⟩
  · have z := g.laid (c := r.toRowW.claim) hsame hwi hi L
    exact ⟨z.1, z.2.1, z.2.2, fun q => ⟨namesKept_of hT' hg _ keeps g.2.1.old, noTable hwr q⟩⟩
end PartG2
section PartHd
open PySem PySem.W PyProof.Rows
set_option Elab.async false
set_option maxRecDepth 100000
set_option maxHeartbeats 8000000
namespace Mine
open_top hd for PySem.Challenge.rw_pb0084_01
end Mine
end PartHd
section PartLw
open PySem PySem.W PyProof.Rows PySem.Calls
set_option Elab.async false
set_option maxRecDepth 100000
set_option maxHeartbeats 8000000
namespace Mine
/-- the look at the text's top: the run of the top from the opening's heap (as the library tells it) and the looks behind it, in one equation -/
abbrev LookB (p q : Program) (loose : List Str) (Xt : Shared → Bool) {α : Type} (Yf : Shared → α) (Ya : World → α) (N : Nat) (g0 : Bool) (m₀ : Nat) (ann : Option Value) (w : World) : Prop :=
  (fun os : OsState => ((PySem.W.Fast.tw14082659384304107361 PySem.W.Fast.tw14364793385576792824 p w m₀ ann N ⟨boot_heap w.params, #[], boot_drawn, boot_toks, os⟩ (topStub p)).bind fun s₁ => match staticsOk (importedModules p.main.body) (boot_heap w.params) s₁.heap && namesBound p s₁.heap && gensDone s₁ && laidKept (boot_heap w.params) s₁.heap with | true => some s₁ | false => none).map (fun s => (PySem.W.Fast.tw4187177175401517315 q loose (importedModules p.main.body) Xt g0 s, Yf s))) = fun _ => some (openGood q loose, Ya w)
theorem left_of_boot {p q : Program} {loose : List Str} {Xt : Shared → Bool} {α : Type} {Yf : Shared → α} {Ya : World → α} {N : Nat} {g0 : Bool} (m₀ : Nat) (ann : Option Value) (row : String)
    (e : opening p = plainProg p.main.scope.names) (hN : Nat.ble 600 N = true) (f : ∀ s, fenceModules? p s = some s)
    (size : ∀ w : World, ((boot_heap w.params).isNs mainGlobals, (boot_heap w.params).objs.size, (boot_heap w.params).nsMap mainGlobals "__annotations__") = (true, m₀, ann))
    (hf : ∀ w : World, LookB p q loose Xt Yf Ya N g0 m₀ ann (w.withFollow row false)) (ht : ∀ w : World, LookB p q loose Xt Yf Ya N g0 m₀ ann (w.withFollow row true)) :
    LeftO p q loose Xt Yf Ya N g0 := fun w => by
  have h : LookB p q loose Xt Yf Ya N g0 m₀ ann w := byRow2 (P := LookB p q loose Xt Yf Ya N g0 m₀ ann) row hf ht w
  obtain ⟨⟨h', gs, d, k, os⟩, e, e'⟩ := Option.map_eq_some_iff.mp (boot_open e hN f w)
  obtain ⟨rfl, rfl, rfl, rfl⟩ : h' = boot_heap w.params ∧ gs = #[] ∧ d = boot_drawn ∧ k = boot_toks := by simpa using e'
  obtain ⟨z1, z2, z3⟩ : _ ∧ _ ∧ _ := by simpa only [Prod.mk.injEq] using size w
  unfold openEnds
  rw [e, PySem.W.Fast.te4187177175401517315]
  show Option.map _ (topFrom treeTable p w N _) = _
  unfold topFrom
  dsimp only
  rw [z1, z2, z3, PySem.W.Fast.te14082659384304107361, PySem.W.Fast.te14364793385576792824]
  exact congrFun h os

theorem boot_size (w : World) : ((boot_heap w.params).isNs mainGlobals, (boot_heap w.params).objs.size, (boot_heap w.params).nsMap mainGlobals "__annotations__") = (true, 11, some (Value.ref 6)) := by
  have e : Str.ofString "__annotations__" = Str.mk ⟨[95, 95, 97, 110, 110, 111, 116, 97, 116, 105, 111, 110, 115, 95, 95]⟩ := Fast.ofString_ofList ['_', '_', 'a', 'n', 'n', 'o', 't', 'a', 't', 'i', 'o', 'n', 's', '_', '_']
  rw [Fast.te8920871248978507458, e]
  as_aux_lemma => kernel_rfl

noncomputable abbrev hook : Hook := kHook hd.heap_39 [2,3,15,22,23,25,26,28,29,30,31,32,33,36,43,44,45,48,50,51,53,54,55,57,58,60,61,62,63,65,66,68,69,70,73,74,75,78,79,80,82,83,85,86,87,90,91,92,94,95,97,98,99,101,102,104,105,106,108,109,111,112,113,115,116,118,119,120,122,123,125,126,127,129,130,132,133,134,137,138,139,141,142,144,145,146,148,149,151,152,153,156,157,158,161,162,163,166,167] (fun _ => by kernel_rfl)
theorem look_f (w : World) : LookB PySem.Challenge.rw_pb0084_01.row.prog hd.view_39 [PySem.Str.ofString "GitError", PySem.Str.ofString "ESCAPES"]
    (fun s => xlAt hd.view_39 [] s && recOk PySem.Challenge.rw_pb0084_01.row.records s) hook.obs hook.val 2422 true 11 (some (Value.ref 6)) (w.withFollow "special-get-raises" false) := by kernel_rfl
theorem look_t (w : World) : LookB PySem.Challenge.rw_pb0084_01.row.prog hd.view_39 [PySem.Str.ofString "GitError", PySem.Str.ofString "ESCAPES"]
    (fun s => xlAt hd.view_39 [] s && recOk PySem.Challenge.rw_pb0084_01.row.records s) hook.obs hook.val 2422 true 11 (some (Value.ref 6)) (w.withFollow "special-get-raises" true) := by kernel_rfl
theorem open_p : opening PySem.Challenge.rw_pb0084_01.row.prog = plainProg PySem.Challenge.rw_pb0084_01.row.prog.main.scope.names := by kernel_rfl
theorem fence_p (s : Shared) : fenceModules? PySem.Challenge.rw_pb0084_01.row.prog s = some s := by kernel_rfl
theorem left_w : LeftO PySem.Challenge.rw_pb0084_01.row.prog hd.view_39 [PySem.Str.ofString "GitError", PySem.Str.ofString "ESCAPES"]
    (fun s => xlAt hd.view_39 [] s && recOk PySem.Challenge.rw_pb0084_01.row.records s) hook.obs hook.val 2422 :=
  left_of_boot 11 (some (Value.ref 6)) "special-get-raises" open_p rfl fence_p boot_size look_f look_t
end Mine
end PartLw
section PartBase
open PySem PySem.W PyProof.Rows PySem.Calls PySem.Spec
set_option Elab.async false
set_option maxRecDepth 100000
namespace Mine

noncomputable abbrev PR : Program := PySem.Challenge.rw_pb0084_01.row.prog
noncomputable abbrev LS : List Str := looseW hd.view_39 [Str.ofString "GitError", Str.ofString "ESCAPES"]

/-- all but the named addresses stays -/
noncomputable def KeepBut (h h' : Heap) (T : List Addr) : Prop := ∀ b o, h.get? b = some o → b ∉ T → h'.get? b = some o
theorem KeepBut.fr {h₀ h h' : Heap} {L : Addr} {m : Str → Option Value} {T : List Addr} (k : KeepBut h h' T) (F : Fr h₀ L h m) (hL : L ∉ T) (h0 : ∀ b ∈ T, h₀.get? b = none) : Fr h₀ L h' m :=
  ⟨F.ns.at' fun o e => k L o e hL, fun b o e => k b o (F.keep b o e) fun hb => (by rw [h0 b hb] at e; cases e), F.above⟩
theorem KeepBut.news0 {h₀ h h' : Heap} {L : Addr} {news : List (Addr × Obj)} (k : KeepBut h h' []) (N : News h₀ L h news) : News h₀ L h' news :=
  fun p hp => ⟨k _ _ (N p hp).1 (List.not_mem_nil), (N p hp).2⟩
theorem KeepBut.news2 {h₀ h h' : Heap} {L d c : Addr} {o oc o' oc' : Obj} {news : List (Addr × Obj)} {g : Obj → List (Addr × Obj)} {g2 : Obj → Obj → List (Addr × Obj)}
    (k : KeepBut h h' [d, c]) (N : News h₀ L h news) (U : UpdF d o news g) (U2 : ∀ x, UpdF c oc (g x) (g2 x)) (N' : News h₀ L h' [(d, o'), (c, oc')]) : News h₀ L h' (g2 o' oc') := by
  obtain ⟨pre, post, rfl, hg, a1, a2⟩ := U.split
  obtain ⟨pre2, post2, e2, hg2, b1, b2⟩ := (U2 o').split
  obtain ⟨pre3, post3, e3, _, _, _⟩ := (U2 o).split
  rw [hg2]
  have hd' : (d, o') ∈ g o' := by rw [hg]; simp
  have Nd := N' (d, o') (by simp)
  have Nc := N' (c, oc') (by simp)
  intro p hp
  have key : ∀ q ∈ pre2 ++ post2, News h₀ L h' [q] := by
    intro q hq
    have hq' : q ∈ g o' := by rw [e2]; rcases List.mem_append.mp hq with h1 | h1 <;> simp [h1]
    have hqc : q.1 ≠ c := by rcases List.mem_append.mp hq with h1 | h1; exact b1 q h1; exact b2 q h1
    rw [hg] at hq'
    intro r hr
    rw [List.mem_singleton.mp hr]
    rcases List.mem_append.mp hq' with h1 | h1
    · have z := N q (List.mem_append_left _ h1)
      exact ⟨k _ _ z.1 (by simp [a1 q h1, hqc]), z.2⟩
    · rcases List.mem_cons.mp h1 with rfl | h1
      · exact Nd
      · have z := N q (List.mem_append_right _ (.tail _ h1))
        exact ⟨k _ _ z.1 (by simp [a2 q h1, hqc]), z.2⟩
  rcases List.mem_append.mp hp with h1 | h1
  · exact key p (List.mem_append_left _ h1) p (List.mem_singleton.mpr rfl)
  · rcases List.mem_cons.mp h1 with rfl | h1
    · exact Nc
    · exact key p (List.mem_append_right _ h1) p (List.mem_singleton.mpr rfl)

theorem leaveS {H g h₀ : Heap} {L L' : Addr} {m m' : Str → Option Value} {adr : List Addr} {R : Result → Shared → Prop} {v : Value} {s' : Shared} (F : Fr g L' s'.heap m') (G : GSub H g adr)
    (k : KeepBut H s'.heap adr → LeaveK h₀ L m g R v s') : LeaveK h₀ L m g R v s' := k fun b o e n => F.keep b o (G b o e n)
end Mine
end PartBase
section PartG3
open PySem PySem.W PyProof.Rows PySem.Calls PySem.Spec
set_option Elab.async false
set_option maxRecDepth 100000
set_option linter.unusedVariables false
namespace Mine
section
variable {α : Type} {prog : Program} {w : World} {A A₀ : Around} {E : Value → Shared → Prop} {R : Result → Shared → Prop} {s : Shared} {env : Env}

theorem codeG_func {body : List Stmt}
    (h : wpG (model prog w) (A.deeper env) (execs body env) (fun f s' => R (.ok (.ret (match f with | .ret v => v | _ => .none))) s')
      (fun e s' => wpAny (model prog w) (A.deeper env) (leaving env e) (fun _ s'' => R (.error e) s'') (fun e' s'' => R (.error e') s'') s') s) :
    codeG (model prog w) A (.func body env) R s := by
  refine codeG_of_tree rfl ?_
  show wpG _ (A.deeper env) (do point; match ← (execs body env).onRaise (leaving env) with | .ret v => ret v | _ => ret .none) _ _ s
  refine wpG_bind (wpG_any (wpAny_point (wpG_bind (wpG_onRaise (wpG_mono h (fun f s' h' => ?_) fun e s' h' => wpG_any h')))))
  cases f <;> exact wpG_pure h'
theorem codeG_call_function {a : Addr} {args : Args} {o : Obj} {fd : FuncData} {body : List Stmt} (hroom : A.depth < recursionLimit)
    (ho : s.heap.get? a = some o)
    (hd' : o.data = .func fd) (hco : fd.scope.isCoroutine = false) (hgen : fd.scope.isGenerator = false) (hbody : fd.body = .stmts body) (hcd : s.heap.CodeRec fd.code fd.qualname)
    (h : wpAny (model prog w) A.in1 (bindArgs fd args) (fun binds s₁ =>
      wpAny (model prog w) A.in1 (newFunctionEnv fd.scope fd.globals fd.closure binds (fd.qualname ++ ".<locals>.") (some a) fd.code none fd.builtins)
        (fun env s₂ => s₂.heap.NoLimit ∧ codeG (model prog w) A (.func body env) R s₂) (fun e s' => R (.error e) s') s₁) (fun e s' => R (.error e) s') s) :
    codeG (model prog w) A (.call (.ref a) args) R s := by
  refine codeG_of_tree rfl ?_
  show wpG _ A.in1 (callAny (.ref a) args) _ _ s
  simp only [callAny]
  refine wpG_bind (wpG_any (wpAny_load ho ?_))
  obtain ⟨c, oc, vs, tq, hc, hoc, hdc, hq⟩ := hcd
  simp only [hd', callFunction, hco, hgen, hbody, hc]
  rw [hc] at h
  refine wpG_bind (m := field (.ref c) 1) (wpG_any (wpAny_field hoc hdc hq (wpG_bind (wpG_pure ?_))))
  exact wpG_bind (wpG_any (wpAny_mono h (fun binds s₁ h₁ => wpG_bind (wpG_any (wpAny_mono h₁ (fun env s₂ h₂ => wpG_bind (wpG_any (wpAny_enterFrame h₂.1 hroom
    (wpG_pure (And.intro rfl h₂.2))))) fun _ _ h' => h'))) fun _ _ h' => h'))
theorem wpG_noted {M : Model} {m : Sem α} {Q : α → Shared → Prop} (h : wpG M A m Q (notedBy M A env E) s) : wpG M A (m.onRaise fun x => do noteFrame x env; theTreesLotGoes x) Q E s :=
  wpG_onRaise (wpG_mono h (fun _ _ q => q) fun _ _ hx => wpG_any (wpAny_bind (wpAny_mono hx (fun _ _ e => wpAny_theTreesLotGoes e) fun _ _ e => e)))

theorem codeG_whileLoop {test : PySem.Expr} {body orelse : List Stmt} (I : Nat → Shared → Prop)
    (turn : ∀ n s, I n s →
      wpAny (model prog w) A (isTrue test env (eval test env)) (fun b s₂ =>
        if b then wpG (model prog w) A (execs body env) (fun f s₃ => match f with
            | .next | .cont => ∃ m, m < n ∧ I m s₃
            | .brk => R (.ok .next) s₃
            | .ret v => R (.ok (.ret v)) s₃) (notedBy (model prog w) A env fun e s' => R (.error e) s') s₂
        else wpAny (model prog w) A (execs orelse env) (fun f s₃ => R (.ok f) s₃) (notedBy (model prog w) A env fun e s' => R (.error e) s') s₂)
        (notedBy (model prog w) A env fun e s' => R (.error e) s') s)
    (n : Nat) (h : I n s) : codeG (model prog w) A (.whileLoop test body orelse env) R s := by
  refine codeG_loop rfl rfl I (fun n s hI => ?_) n h
  show wpG _ A ((whileTurn test body orelse env).onRaise (fun x => do noteFrame x env; theTreesLotGoes x)) _ _ s
  refine wpG_noted ?_
  simp only [whileTurn]
  refine wpG_bind (wpG_any (wpAny_mono (turn n s hI) (fun b s₂ h₂ => ?_) fun _ _ h' => h'))
  cases b with
  | false =>
    simp only [Bool.false_eq_true, if_false] at h₂ ⊢
    exact wpG_bind (wpG_any (wpAny_mono h₂ (fun f s₃ h₃ => wpG_pure h₃) fun _ _ h' => h'))
  | true =>
    simp only [if_true] at h₂ ⊢
    refine wpG_bind (wpG_mono h₂ (fun f s₃ h₃ => ?_) fun _ _ h' => h')
    cases f with
    | next => exact wpG_pure (.inl ⟨rfl, h₃⟩)
    | cont => exact wpG_pure (.inl ⟨rfl, h₃⟩)
    | brk => exact wpG_pure h₃
    | ret v => exact wpG_pure h₃
theorem WhileG {test : PySem.Expr} {body orelse : List Stmt} {pos : Pos} {Q : Flow → Shared → Prop}
    (h : codeG (model prog w) A (.whileLoop test body orelse env) (fun r s' => match r with | .ok f => Q f s' | .error e => cameBackBy (model prog w) A env E e s') s) :
    wpG (model prog w) A (exec (.While test body orelse pos) env) Q E s := by
  rw [exec_While]; exact wpG_bind (wpG_any (wpAny_standAt (wpG_runOwn h)))

theorem codeG_forLoop {target : PySem.Expr} {it : Value} {body : List Stmt} (I : Nat → Shared → Prop)
    (turn : ∀ n s, I n s → wpAny (model prog w) A (pyNext it) (fun r s₁ => match r with
      | none => R (.ok .next) s₁
      | some v => wpAny (model prog w) A (assign target env v) (fun _ s₂ => wpG (model prog w) A (execs body env) (fun f s₃ => match f with
          | .next | .cont => ∃ m, m < n ∧ I m s₃
          | .brk => R (.ok .next) s₃
          | .ret v => R (.ok (.ret v)) s₃) (notedBy (model prog w) A env fun e s' => R (.error e) s') s₂) (notedBy (model prog w) A env fun e s' => R (.error e) s') s₁) (notedBy (model prog w) A env fun e s' => R (.error e) s') s)
    (n : Nat) (h : I n s) (ht : ∀ v, letOwnedTupleGo target it v = pure () := by intro _; rfl) : codeG (model prog w) A (.forLoop target it body [] env) R s := by
  refine codeG_loop rfl rfl I (fun n s hI => ?_) n h
  show wpG _ A ((forTurn target it body [] env).onRaise (fun x => do noteFrame x env; theTreesLotGoes x)) _ _ s
  refine wpG_noted ?_
  simp only [forTurn]
  refine wpG_bind (wpG_any (wpAny_standAt (wpG_bind (wpG_onRaise (wpG_any (wpAny_mono (turn n s hI) (fun r s₁ h₁ => ?_) fun _ _ h' => wpG_any (wpAny_standAt h')))))))
  cases r with
  | none => exact wpG_pure (.inr ⟨rfl, codeG_any (codeAny_block (wpAny_execs_nil h₁))⟩)
  | some v =>
    refine wpG_bind (wpG_of_eq (ht v) ?_)
    refine wpG_bind (wpG_any (wpAny_mono h₁ (fun _ s₂ h₂ => wpG_bind (wpG_mono h₂ (fun f s₃ h₃ => ?_) fun _ _ h' => h')) fun _ _ h' => h'))
    cases f with
    | next => exact wpG_pure (.inl ⟨rfl, h₃⟩)
    | cont => exact wpG_pure (.inl ⟨rfl, h₃⟩)
    | brk => exact wpG_pure h₃
    | ret v => exact wpG_pure h₃
theorem ForG {target iter : PySem.Expr} {body orelse : List Stmt} {pos : Pos} {Q : Flow → Shared → Prop}
    (h : wpAny (model prog w) A (eval iter env) (fun x s₁ => wpAny (model prog w) A (pyIter x) (fun it s₂ =>
      codeG (model prog w) A (.forLoop target it body orelse env) (fun r s' => match r with | .ok f => Q f s' | .error e => cameBackBy (model prog w) A env E e s') s₂) E s₁) E s)
    (hs : ∀ x, foldedSetIterable iter env x = pure x := by intro _; rfl) :
    wpG (model prog w) A (exec (.For target iter body orelse pos) env) Q E s := by
  rw [exec_For]
  exact wpG_bind (wpG_any (wpAny_standAt (wpG_bind (wpG_any (wpAny_mono h (fun x s₁ h₁ => wpG_bind (wpG_of_eq (hs x) (wpG_bind (wpG_any (wpAny_standAt (wpG_bind (wpG_holding
    (wpG_any (wpAny_mono h₁ (fun it s₂ h₂ => wpG_runOwn h₂) fun _ _ h' => h'))))))))) fun _ _ h' => h')))))

theorem TryG {body orelse : List Stmt} {h₀ : ExceptHandler} {hs : List ExceptHandler} {pos : Pos} {Q : Flow → Shared → Prop}
    (h : wpG (model prog w) A (execs body env) (fun f s₁ => match f with | .next => wpAny (model prog w) A (execs orelse env) Q E s₁ | f => Q f s₁)
      (fun e s₁ => wpAny (model prog w) A (noteFrame e env) (fun _ s₂ => wpAny (model prog w) A (setFlight e none) (fun _ s₃ => wpAny (model prog w) A (handleBy e env (h₀ :: hs)) Q E s₃) E s₂) E s₁) s) :
    wpG (model prog w) A (exec (.Try body (h₀ :: hs) orelse [] pos) env) Q E s := by
  rw [arm_exec_Try]
  refine wpG_bind (wpG_any (wpAny_standAt ?_))
  unfold tryStmt
  simp only [List.isEmpty_nil, if_true, List.isEmpty_cons, Bool.false_and, Bool.false_eq_true, if_false]
  refine wpG_bind (wpG_attempt (wpG_mono h (fun f s₁ h₁ => ?_) fun e s₁ h₁ => ?_))
  · cases f <;> first | exact wpG_any h₁ | exact wpG_pure h₁
  · exact wpG_any (wpAny_bind (wpAny_mono h₁ (fun _ _ h₂ => wpAny_bind h₂) fun _ _ x => x))
theorem ExprG {e : PySem.Expr} {pos : Pos} {Q : Flow → Shared → Prop} (h : wpG (model prog w) A (eval e env) (fun _ => Q .next) E s)
    (hi : interactive env = false := by rfl) (hs : swapsWith e none pos.line env = pure false := by rfl) :
    wpG (model prog w) A (exec (.Expr e pos) env) Q E s := by
  rw [exec_Expr env e pos hi hs]
  exact wpG_bind (wpG_any (wpAny_standAt (wpG_bind (wpG_mono h (fun v s' h' => wpG_any (wpAny_dropValue h')) fun _ _ x => x))))
theorem AugAssign_NameG {x : Str} {pos' : Pos} {op : Operator} {value : PySem.Expr} {pos : Pos} {Q : Flow → Shared → Prop}
    (h : wpAny (model prog w) A (loadName env x) (fun old s₁ => wpAny (model prog w) A (eval value env) (fun v s₂ => wpG (model prog w) A (inplaceOp op old v)
      (fun r s₃ => wpAny (model prog w) A (storeName env x r) (fun _ => Q .next) E s₃) E s₂) E s₁) E s) :
    wpG (model prog w) A (exec (.AugAssign (.Name x pos') op value pos) env) Q E s := fun Γ p hΓ hb hk => by
  simp only [exec_AugAssign_Name, Sem.wp_bind', Sem.wp_holding, Sem.wp_cmd_standAt, Sem.wp_operate, Sem.wp_bindName, Sem.wp_pure']
  exact Sem.wp_mono _ Γ _ (fun old p₁ s₁ h₁ => Sem.wp_mono _ Γ _ (fun v _ s₂ h₂ => Sem.wp_mono _ Γ _ (fun r _ s₃ h₃ => h₃ Γ _ hΓ)
    (fun _ _ _ h' => h') _ _ (h₂ Γ _ hΓ hb hk)) (fun _ _ _ h' => h') _ _ (h₁ Γ p₁ hΓ)) (fun _ _ _ h' => h') _ _ (h Γ _ hΓ)

/-! calls -/
theorem codeG_call_builtin {id : String} {args : Args} {b : Builtin} (hq : plainId id = true) (hbad : badIds.contains id = false) (hb : entryFor table id = some b)
    (h : wpAny (model prog w) A.in1 (checkBuiltinCall id args) (fun _ s₁ => wpG (model prog w) A.in1 (b args)
      (fun fin s' => match fin with | .done f => R (.ok f) s' | .again c' => c'.quiet = true ∧ codeG (model prog w) A c' R s') (fun e s' => R (.error e) s') s₁)
      (fun e s' => R (.error e) s') s) : codeG (model prog w) A (.call (.builtin id) args) R s := by
  refine codeG_of_tree rfl ?_
  show wpG _ A.in1 (do checkBuiltinCall id args; again (.builtin id args)) _ _ s
  refine wpG_bind (wpG_any (wpAny_mono h (fun _ s₁ h₁ => wpG_pure (And.intro (plainId_quiet hq args) (codeG_of_tree hbad ?_))) fun _ _ h' => h'))
  rw [Around.under_plainId hq args]
  show wpG _ _ (match entryFor table id with | some b => b args | none => unsupported ((withoutEnding? id "#data").getD id)) _ _ s₁
  rw [hb]; exact h₁

variable {base h₀ : Heap} {outer : List Env} {L : Addr} {m mg mb : Str → Option Value} {news : List (Addr × Obj)} {K : Frag} {p : Program} {loose : List Str} {mean : ExcName → Option Value}
  {name qual : Str} {params : Arguments} {body : List Stmt} {scope : Scope} {dV kV doc pm cdv ct oc : Value} {an od : Option Addr} {osl : Array (Option Value)} {f : Addr} {args : Args} {binds : List (Str × Value)}
theorem enterG
    (B : Below A₀ base outer h₀) (F : Fr h₀ L s.heap m) (X₀ : K.In h₀) (N : News h₀ L s.heap news) (T : Top p loose mean mg mb h₀) (hA : A.frames = some (env :: outer)) (hf : env.frame = some L) (hke : env.scope.kind = .function)
    (ho : K.lookup f = some ⟨oc, od, .func (fnOf name qual params body scope dV kV doc pm an cdv ct), osl⟩) (hcd : codeIn K cdv qual = true) (hroom : A.depth < recursionLimit)
    (hbind : BindsTo s (fnOf name qual params body scope dV kV doc pm an cdv ct) args binds) (hloc : ∀ y ∈ binds, scope.names.lookup y.1 = some .local)
    (h : ∀ g L' h₁, Fr h₀ L g m → Fr g L' h₁ (fun y => binds.reverse.lookup y) → News g L' h₁ news → Below A base (env :: outer) g → K.In g → Top p loose mean mg mb g → GSub s.heap g (news.map (·.1)) →
      wpG (model prog w) (A.deeper (envOf qual scope L' f cdv)) (execs body (envOf qual scope L' f cdv))
        (fun fl s' => LeaveK h₀ L m g R (match fl with | .ret v => v | _ => .none) s')
        (fun e s' => wpAny (model prog w) (A.deeper (envOf qual scope L' f cdv)) (leaving (envOf qual scope L' f cdv) e) (fun _ s'' => R (.error e) s'') (fun e' s'' => R (.error e') s'') s')
        { s with heap := h₁, toks := s.toks + binds.length })
    (hco : scope.isCoroutine = false) (hgen : scope.isGenerator = false) (hk : scope.kind = .function)
    (hcell : ∀ x ∈ scope.names, x.2 ≠ .cell) : codeG (model prog w) A (.call (.ref f) args) R s := by
  obtain ⟨FG, BG, st, lv⟩ := groundX (R := R) B F N hA hf hke
  refine codeG_call_function hroom ((X₀.keeps F.keep) _ _ ho) rfl hco hgen rfl (codeRec_of (X₀.keeps F.keep) hcd) (hbind _ _ _ _ ?_)
  refine wpAny_newFunctionEnv hcell hloc (fun h₁ hns hsb => ⟨(T.nolimit.keeps F.keep).fresh _ hsb, codeG_func ?_⟩) hk
  have hk₁ : ∀ b o, s.heap.get? b = some o → h₁.get? b = some o := fun b o e => hsb.extBut b o (Nat.ne_of_lt (Heap.lt_size e)) (Heap.get?_push_of_some _ e)
  exact wpG_mono (h _ s.heap.objs.size h₁ FG ⟨hns, fun b o e => hk₁ b o (of_hideAll _ e), Nat.le_of_eq (hideAll_size _ _)⟩
    (fun p hp => ⟨hk₁ _ _ (N p hp).1, Nat.ne_of_lt (Heap.lt_size (N p hp).1), hideAll_none _ (List.mem_map_of_mem hp)⟩) BG (X₀.keeps st) (T.keeps st) (fun b o e n => hideAll_get _ e n)) (fun fl s' hl => lv _ _ hl) fun _ _ y => y

theorem cells_mem {a b : Heap} {L : Addr} {cells news : List (Addr × Obj)} {g : Heap} (NC : News a L b cells) (h1 : ∀ x o, g.get? x = some o → a.get? x = some o) (N : News g L b news) : News g L b (cells ++ news) := fun p hp => by
  rcases List.mem_append.mp hp with hp | hp
  · refine ⟨(NC p hp).1, (NC p hp).2.1, ?_⟩
    cases q : g.get? p.1 with
    | none => rfl
    | some o => have := h1 _ _ q; rw [(NC p hp).2.2] at this; cases this
  · exact N p hp

/-- a def with captured names, entered in any context; what it does not touch stays -/
theorem enterC
    (B : Below A₀ base outer h₀) (F : Fr h₀ L s.heap m) (X₀ : K.In h₀) (N : News h₀ L s.heap news) (T : Top p loose mean mg mb h₀) (hA : A.frames = some (env :: outer)) (hf : env.frame = some L) (hke : env.scope.kind = .function)
    (ho : K.lookup f = some ⟨oc, od, .func (fnOf name qual params body scope dV kV doc pm an cdv ct), osl⟩) (hcd : codeIn K cdv qual = true) (hroom : A.depth < recursionLimit)
    (hbind : BindsTo s (fnOf name qual params body scope dV kV doc pm an cdv ct) args binds) (hkind : (binds.all fun y => scope.names.lookup y.1 == some .local || scope.names.lookup y.1 == some .cell) = true)
    (hnd : ((cellsFrom 0 scope.names []).map (·.1)).Nodup)
    (h : ∀ g L' h₁ tk cells, Fr h₀ L g m → Fr g L' h₁ (bindL (envOfC qual scope L' f cdv).kindOf binds fun _ => none) → News g L' h₁ (cells ++ news) →
      CellsAre (bindC (envOfC qual scope L' f cdv).kindOf binds fun _ => none) (cellsFrom (L' + 1) scope.names []) cells → Below A base (env :: outer) g → K.In g → Top p loose mean mg mb g → (∀ p ∈ news, p.1 < L') → GSub s.heap g (news.map (·.1)) →
      wpAny (model prog w) (A.deeper (envOfC qual scope L' f cdv)) (execs body (envOfC qual scope L' f cdv))
        (fun fl s' => LeaveK h₀ L m g R (match fl with | .ret v => v | _ => .none) s')
        (fun e s' => wpAny (model prog w) (A.deeper (envOfC qual scope L' f cdv)) (leaving (envOfC qual scope L' f cdv) e) (fun _ s'' => R (.error e) s'') (fun e' s'' => R (.error e') s'') s')
        { s with heap := h₁, toks := tk })
    (hco : scope.isCoroutine = false) (hgen : scope.isGenerator = false) (hk : scope.kind = .function) : codeAny (model prog w) A (.call (.ref f) args) R s := by
  obtain ⟨FG, BG, st, lv⟩ := groundX (R := R) B F N hA hf hke
  refine codeAny_call_function hroom ((X₀.keeps F.keep) _ _ ho) rfl hco hgen rfl (codeRec_of (X₀.keeps F.keep) hcd) (hbind _ _ _ _ ?_)
  refine wpAny_newFunctionEnv_cells hk (kindsX hkind _) fun env' he s' x => ?_
  subst he
  refine ⟨(T.nolimit.keeps F.keep).keeps x.toInCall.keep, codeAny_func ?_⟩
  obtain ⟨h₁, tk, rfl, _⟩ := x.done
  have hk₁ := x.toInCall.keep
  obtain ⟨cells, NC, Y⟩ := Cl.news (h₀ := s.heap) (Nat.le_refl _) fun n c hm => ⟨x.cell n c (lookup_of_mem_nodup (cellsFrom_names scope.names 0 (s.heap.objs.size + 1) [] [] rfl ▸ hnd) hm), x.above n c hm⟩
  exact wpAny_mono (h _ s.heap.objs.size h₁ tk cells FG ⟨x.toInCall.ns, fun b o e => hk₁ b o (of_hideAll _ e), Nat.le_of_eq (hideAll_size _ _)⟩
    (cells_mem NC (fun _ _ e => of_hideAll _ e) fun p hp => ⟨hk₁ _ _ (N p hp).1, Nat.ne_of_lt (Heap.lt_size (N p hp).1), hideAll_none _ (List.mem_map_of_mem hp)⟩) Y BG (X₀.keeps st) (T.keeps st)
    (fun p hp => Heap.lt_size (N p hp).1) (fun b o e n => hideAll_get _ e n)) (fun fl s' hl => lv _ _ hl) fun _ _ y => y
/-- the same in calm contexts -/
theorem enterGC
    (B : Below A₀ base outer h₀) (F : Fr h₀ L s.heap m) (X₀ : K.In h₀) (N : News h₀ L s.heap news) (T : Top p loose mean mg mb h₀) (hA : A.frames = some (env :: outer)) (hf : env.frame = some L) (hke : env.scope.kind = .function)
    (ho : K.lookup f = some ⟨oc, od, .func (fnOf name qual params body scope dV kV doc pm an cdv ct), osl⟩) (hcd : codeIn K cdv qual = true) (hroom : A.depth < recursionLimit)
    (hbind : BindsTo s (fnOf name qual params body scope dV kV doc pm an cdv ct) args binds) (hkind : (binds.all fun y => scope.names.lookup y.1 == some .local || scope.names.lookup y.1 == some .cell) = true)
    (hnd : ((cellsFrom 0 scope.names []).map (·.1)).Nodup)
    (h : ∀ g L' h₁ tk cells, Fr h₀ L g m → Fr g L' h₁ (bindL (envOfC qual scope L' f cdv).kindOf binds fun _ => none) → News g L' h₁ (cells ++ news) →
      CellsAre (bindC (envOfC qual scope L' f cdv).kindOf binds fun _ => none) (cellsFrom (L' + 1) scope.names []) cells → Below A base (env :: outer) g → K.In g → Top p loose mean mg mb g → (∀ p ∈ news, p.1 < L') → GSub s.heap g (news.map (·.1)) →
      wpG (model prog w) (A.deeper (envOfC qual scope L' f cdv)) (execs body (envOfC qual scope L' f cdv))
        (fun fl s' => LeaveK h₀ L m g R (match fl with | .ret v => v | _ => .none) s')
        (fun e s' => wpAny (model prog w) (A.deeper (envOfC qual scope L' f cdv)) (leaving (envOfC qual scope L' f cdv) e) (fun _ s'' => R (.error e) s'') (fun e' s'' => R (.error e') s'') s')
        { s with heap := h₁, toks := tk })
    (hco : scope.isCoroutine = false) (hgen : scope.isGenerator = false) (hk : scope.kind = .function) : codeG (model prog w) A (.call (.ref f) args) R s := by
  obtain ⟨FG, BG, st, lv⟩ := groundX (R := R) B F N hA hf hke
  refine codeG_call_function hroom ((X₀.keeps F.keep) _ _ ho) rfl hco hgen rfl (codeRec_of (X₀.keeps F.keep) hcd) (hbind _ _ _ _ ?_)
  refine wpAny_newFunctionEnv_cells hk (kindsX hkind _) fun env' he s' x => ?_
  subst he
  refine ⟨(T.nolimit.keeps F.keep).keeps x.toInCall.keep, codeG_func ?_⟩
  obtain ⟨h₁, tk, rfl, _⟩ := x.done
  have hk₁ := x.toInCall.keep
  obtain ⟨cells, NC, Y⟩ := Cl.news (h₀ := s.heap) (Nat.le_refl _) fun n c hm => ⟨x.cell n c (lookup_of_mem_nodup (cellsFrom_names scope.names 0 (s.heap.objs.size + 1) [] [] rfl ▸ hnd) hm), x.above n c hm⟩
  exact wpG_mono (h _ s.heap.objs.size h₁ tk cells FG ⟨x.toInCall.ns, fun b o e => hk₁ b o (of_hideAll _ e), Nat.le_of_eq (hideAll_size _ _)⟩
    (cells_mem NC (fun _ _ e => of_hideAll _ e) fun p hp => ⟨hk₁ _ _ (N p hp).1, Nat.ne_of_lt (Heap.lt_size (N p hp).1), hideAll_none _ (List.mem_map_of_mem hp)⟩) Y BG (X₀.keeps st) (T.keeps st)
    (fun p hp => Heap.lt_size (N p hp).1) (fun b o e n => hideAll_get _ e n)) (fun fl s' hl => lv _ _ hl) fun _ _ y => y
/-- the law's own entry, with captured names, from the caller -/
theorem enterTop {pm cd doc : Value} {a : Addr} {o : Obj} {args : List Value}
    (hroom : A.depth < recursionLimit) (ho : s.heap.get? a = some o) (hdata : o.data = .func (Calls.docDef name params body scope pm cd doc)) (hlim : s.heap.NoLimit) (hcd : s.heap.CodeRec cd name)
    (hbind : bindArgs (Calls.docDef name params body scope pm cd doc) ⟨args, []⟩ = pure binds)
    (hkind : (binds.all fun y => scope.names.lookup y.1 == some .local || scope.names.lookup y.1 == some .cell) = true)
    (hnd : ((cellsFrom 0 scope.names []).map (·.1)).Nodup)
    (h : ∀ h₁ tk cells, Fr s.heap s.heap.objs.size h₁ (bindL (envOfC name scope s.heap.objs.size a cd).kindOf binds fun _ => none) → News s.heap s.heap.objs.size h₁ cells →
      CellsAre (bindC (envOfC name scope s.heap.objs.size a cd).kindOf binds fun _ => none) (cellsFrom (s.heap.objs.size + 1) scope.names []) cells →
      wpG (model prog w) (A.deeper (envOfC name scope s.heap.objs.size a cd)) (execs body (envOfC name scope s.heap.objs.size a cd))
        (fun f s' => R (.ok (.ret (match f with | .ret v => v | _ => .none))) s')
        (fun e s' => wpAny (model prog w) (A.deeper (envOfC name scope s.heap.objs.size a cd)) (leaving (envOfC name scope s.heap.objs.size a cd) e)
          (fun _ s'' => R (.error e) s'') (fun e' s'' => R (.error e') s'') s')
        { s with heap := h₁, toks := tk })
    (hco : scope.isCoroutine = false := by rfl) (hgen : scope.isGenerator = false := by rfl) (hk : scope.kind = .function := by rfl) :
    codeG (model prog w) A (.call (.ref a) ⟨args, []⟩) R s := by
  refine codeG_call_function hroom ho hdata hco hgen rfl hcd ?_
  rw [hbind]
  refine wpAny_pure (wpAny_newFunctionEnv_cells hk (kindsX hkind _) fun env' he s' x => ?_)
  subst he
  refine ⟨hlim.keeps x.toInCall.keep, codeG_func ?_⟩
  obtain ⟨h₁, tk, rfl, _⟩ := x.done
  obtain ⟨cells, NC, Y⟩ := Cl.news (h₀ := s.heap) (Nat.le_refl _) fun n c hm => ⟨x.cell n c (lookup_of_mem_nodup (cellsFrom_names scope.names 0 (s.heap.objs.size + 1) [] [] rfl ▸ hnd) hm), x.above n c hm⟩
  exact h h₁ tk cells ⟨x.toInCall.ns, x.toInCall.keep, Nat.le_refl _⟩ NC Y
end
end Mine
namespace Mine
theorem wpG_name {α : Type} {M : Model} {A : Around} {t : Sem α} {Q : α → Shared → Prop} {E : Value → Shared → Prop} {s : Shared}
    (h : ∀ (Q' : α → Shared → Prop) (E' : Value → Shared → Prop), (∀ a s', Q a s' → Q' a s') → (∀ e s', E e s' → E' e s') → wpG M A t Q' E' s) : wpG M A t Q E s :=
  h Q E (fun _ _ x => x) (fun _ _ x => x)
theorem wpAny_name {α : Type} {M : Model} {A : Around} {t : Sem α} {Q : α → Shared → Prop} {E : Value → Shared → Prop} {s : Shared}
    (h : ∀ (Q' : α → Shared → Prop) (E' : Value → Shared → Prop), (∀ a s', Q a s' → Q' a s') → (∀ e s', E e s' → E' e s') → wpAny M A t Q' E' s) : wpAny M A t Q E s :=
  h Q E (fun _ _ x => x) (fun _ _ x => x)
end Mine
end PartG3
section PartComp
open PySem PySem.W PyProof.Rows PySem.Calls PySem.Spec
set_option Elab.async false
set_option maxRecDepth 100000
set_option maxHeartbeats 1000000
set_option linter.unusedVariables false
namespace Mine
section
open PyProof.Rows.LCg PyProof.Rows.LCt
noncomputable def Each (R : Int → Value → Prop) : List Int → List Value → Prop
  | [], [] => True
  | k :: ks, y :: ys => R k y ∧ Each R ks ys
  | _, _ => False
theorem Each.snoc {R : Int → Value → Prop} {k : Int} {y : Value} : ∀ {ks : List Int} {ys : List Value}, Each R ks ys → R k y → Each R (ks ++ [k]) (ys ++ [y])
  | [], [], _, h => ⟨h, trivial⟩
  | _ :: _, _ :: _, a, h => ⟨a.1, Each.snoc a.2 h⟩
  | [], _ :: _, a, _ => False.elim a
  | _ :: _, [], a, _ => False.elim a
variable {prog : Program} {w : World} {A : Around} {E : Value → Shared → Prop} {s : Shared} {h₀ : Heap} {L : Addr} {m : Str → Option Value} {env : Env}
theorem comp_each {elt : PySem.Expr} {x : Str} {scope : Scope} {cl : List (Str × Addr)} {P : Nat → Value → Prop} {Fin : List Value → List (Addr × Obj) → Prop} {n : Nat} (ks : List Int) (hlen : ks.length = n)
    (hP : ∀ i v, i < n → P i v → ∃ k t, ks[i]? = some k ∧ v = .int k t) (J : Nat → List (Addr × Obj) → Prop) (R : Int → Value → Prop)
    (turn : ∀ (i : Nat) (k : Int) (t : Tok) I oI C oC D ys nw m₂ h tk (E' : Value → Shared → Prop) (Qv : Value → Shared → Prop), J i nw → i < n → k ∈ ks → NsObj oC m₂ → m₂ x = some (.int k t) → Fr h₀ L h m → News h₀ L h ((I, oI) :: (C, oC) :: (D, lst ys) :: nw) → Off3 I C D nw → ((@Ne Nat I C) ∧ (@Ne Nat I D) ∧ (@Ne Nat C D)) →
      (∀ y h' tk' nw', R k y → J (i + 1) nw' → Fr h₀ L h' m → News h₀ L h' ((I, oI) :: (C, oC) :: (D, lst ys) :: nw') → Off3 I C D nw' → Qv y { s with heap := h', toks := tk' }) →
      wpAny (model prog w) A (eval elt (compEnvC scope cl C env)) Qv E' { s with heap := h, toks := tk })
    (fin : ∀ ys nw, Each R ks ys → J n nw → Fin ys nw) :
    ∀ (j i : Nat) (ys : List Value) (nw : List (Addr × Obj)), i + j = n → J i nw → Each R (ks.take i) ys → CompRest prog w A h₀ L m env elt x scope cl s (fun _ => True) P Fin j i ys nw
  | 0, i, ys, nw, hi, hJ, he => by
    obtain rfl : i = n := by omega
    refine CompRest.zero (fin ys nw ?_ hJ)
    rwa [List.take_of_length_le (by omega)] at he
  | j + 1, i, ys, nw, hi, hJ, he => by
    refine CompRest.succ fun v I oI C oC D m₂ h tk E' hv hC hx F N off ne => ?_
    obtain ⟨k, t, hk, rfl⟩ := hP i v (by omega) hv
    refine turn i k t I oI C oC D ys nw m₂ h tk E' _ hJ (by omega) (List.mem_of_getElem? hk) hC hx F N off ne fun y h' tk' nw' hR hJ' F' N' off' => ?_
    refine ⟨h', tk', nw', rfl, F', N', off', trivial, comp_each ks hlen hP J R turn fin j (i + 1) _ nw' (by omega) hJ' ?_⟩
    rw [List.take_add_one, hk]
    exact he.snoc hR
theorem comp_kept {ct elt : PySem.Expr} {x : Str} {scope : Scope} {cl : List (Str × Addr)} {P : Nat → Value → Prop} {Fin : List Value → List (Addr × Obj) → Prop} {n : Nat} {nw : List (Addr × Obj)} (ks : List Int) (hlen : ks.length = n)
    (hP : ∀ i v, i < n → P i v → ∃ k t, ks[i]? = some k ∧ v = .int k t) (q : Int → Bool)
    (turn : ∀ (k : Int) (t : Tok) I oI C oC D ys m₂ h tk (E' : Value → Shared → Prop) (Qv : Value → Shared → Prop) (Z : Shared → Prop), k ∈ ks → NsObj oC m₂ → m₂ x = some (.int k t) → Fr h₀ L h m → News h₀ L h ((I, oI) :: (C, oC) :: (D, lst ys) :: nw) → Off3 I C D nw → ((@Ne Nat I C) ∧ (@Ne Nat I D) ∧ (@Ne Nat C D)) →
      (∀ t' h' tk', q k = true → Fr h₀ L h' m → News h₀ L h' ((I, oI) :: (C, oC) :: (D, lst ys) :: nw) → Qv (.int k t') { s with heap := h', toks := tk' }) →
      (∀ h' tk', q k = false → Fr h₀ L h' m → News h₀ L h' ((I, oI) :: (C, oC) :: (D, lst ys) :: nw) → Z { s with heap := h', toks := tk' }) →
      wpAny (model prog w) A (isTrue ct (compEnvC scope cl C env) (eval ct (compEnvC scope cl C env))) (fun okb s₃ => if okb = true then wpAny (model prog w) A (eval elt (compEnvC scope cl C env)) Qv E' s₃ else Z s₃) E' { s with heap := h, toks := tk })
    (fin : ∀ ys, IntsAre ys (ks.filter q) → Fin ys nw) :
    ∀ (j i : Nat) (ys : List Value), i + j = n → IntsAre ys ((ks.take i).filter q) → CompRestT prog w A h₀ L m env ct elt x scope cl s (fun _ => True) P Fin j i ys nw
  | 0, i, ys, hi, he => by
    obtain rfl : i = n := by omega
    refine CompRestT.zero (fin ys ?_)
    rwa [List.take_of_length_le (by omega)] at he
  | j + 1, i, ys, hi, he => by
    refine CompRestT.succ fun v I oI C oC D m₂ h tk E' hv hC hx F N off ne => ?_
    obtain ⟨k, t, hk, rfl⟩ := hP i v (by omega) hv
    have hs : (ks.take (i + 1)).filter q = (ks.take i).filter q ++ [k].filter q := by rw [List.take_add_one, hk, List.filter_append]; rfl
    refine turn k t I oI C oC D ys m₂ h tk E' _ _ (List.mem_of_getElem? hk) hC hx F N off ne (fun t' h' tk' hq F' N' => ?_) (fun h' tk' hq F' N' => ?_)
    · exact ⟨h', tk', nw, rfl, F', N', off, trivial, comp_kept ks hlen hP q turn fin j (i + 1) _ (by omega) (by rw [hs]; simpa [List.filter_cons, hq] using he.append (.cons k t' .nil))⟩
    · exact ⟨h', tk', nw, rfl, F', N', off, trivial, comp_kept ks hlen hP q turn fin j (i + 1) _ (by omega) (by rw [hs]; simpa [List.filter_cons, hq] using he)⟩

abbrev PB (b : Array UInt8) (i : Nat) (v : Value) : Prop := ∃ c u, b[i]? = some c ∧ v = .int (c.toNat : Int) u
theorem PB.ks {b : Array UInt8} {ks : List Int} (hk : KBw.bInts b = ks) : ∀ i v, i < b.size → PB b i v → ∃ k t, ks[i]? = some k ∧ v = .int k t := by
  rintro i v _ ⟨c, u, hc, rfl⟩
  exact ⟨_, u, hk ▸ KBw.ints_get hc, rfl⟩
theorem bytes_st {b : Array UInt8} {t : Tok} {I : Addr} : ∀ i (h h' : Heap) (o : Obj) (nw : List (Addr × Obj)), KBw.IsBytesIter h I b t i → h.get? I = some o → h'.get? I = some o → (∀ b o, h₀.get? b = some o → h'.get? b = some o) → News h₀ L h' nw → True → KBw.IsBytesIter h' I b t i :=
  fun i h h' o nw st e e' _ _ _ => by obtain ⟨o', q, r⟩ := st; rw [e] at q; cases q; exact ⟨o, e', r⟩
noncomputable def SrcB (prog : Program) (w : World) (A : Around) (h₀ : Heap) (L : Addr) (m : Str → Option Value) (env : Env) (elt : PySem.Expr) (x : Str) (scope : Scope) (cl : List (Str × Addr)) (Fin : Shared → List Value → List (Addr × Obj) → Prop) (xv : Value) (s₁ : Shared) : Prop :=
  ∃ b tb nw, xv = .bytes b tb ∧ A.handled = none ∧ Fr h₀ L s₁.heap m ∧ News h₀ L s₁.heap nw ∧ b.size ≤ sizeLine ∧ ∀ g : Heap, CompRest prog w A h₀ L m env elt x scope cl { s₁ with heap := g } (fun _ => True) (PB b) (Fin { s₁ with heap := g }) b.size 0 [] nw
theorem SrcB.intro {elt : PySem.Expr} {x : Str} {scope : Scope} {cl : List (Str × Addr)} {Fin : Shared → List Value → List (Addr × Obj) → Prop} {b : Array UInt8} {tb : Tok} {nw : List (Addr × Obj)} {s₁ : Shared}
    (hh : A.handled = none) (F : Fr h₀ L s₁.heap m) (N : News h₀ L s₁.heap nw) (hz : b.size ≤ sizeLine) (h : ∀ g : Heap, CompRest prog w A h₀ L m env elt x scope cl { s₁ with heap := g } (fun _ => True) (PB b) (Fin { s₁ with heap := g }) b.size 0 [] nw) :
    SrcB prog w A h₀ L m env elt x scope cl Fin (.bytes b tb) s₁ := ⟨b, tb, nw, rfl, hh, F, N, hz, h⟩
theorem ListComp_B {elt iter : PySem.Expr} {x : Str} {px : Pos} {scope : Scope} {cl : List (Str × Addr)} {pos : Pos} {Q : Value → Shared → Prop} (F₀ : Fr h₀ L s.heap m)
    (hclos : closureFor scope env = pure cl) (hcell : ∀ y ∈ scope.names, y.2 ≠ .cell) (hkind : scope.kind = .function)
    (hnames : ∀ y ∈ scope.names, y.2 = .local → scope.names.lookup y.1 = some .local) (hx : scope.names.lookup x = some .local)
    (h : wpAny (model prog w) A (eval iter env) (SrcB prog w A h₀ L m env elt x scope cl (fun s₂ => FinE h₀ L m s₂ Q)) E s)
    (hs : ∀ x, foldedSetIterable iter env x = pure x := by intro _; rfl) :
    wpAny (model prog w) A (eval (.ListComp elt [⟨.Name x px, iter, [], 0⟩] scope pos) env) Q E s := by
  rw [eval_ListComp]
  refine wpAny_comprehension_free (use := none) rfl hs hclos hkind hnames (wpAny_mono h (fun xv s₁ h₁ => ?_) fun _ _ e => e)
  obtain ⟨b, tb, nw, rfl, hh, F, N, hz, R⟩ := h₁
  refine KBw.pyIter_bytes ?_
  refine block_U (KBw.walks hh s₁.heap.objs.size b tb) hz (fun i h st => by obtain ⟨o, e, _⟩ := st; exact ⟨o, e⟩) bytes_st hcell hkind hx ⟨_, Heap.get?_push_size _ rfl, rfl, rfl⟩ (fun b hb => ?_)
    (F.keeps fun _ _ e => Heap.get?_push_of_some _ e) (N.grown fun _ _ e => Heap.get?_push_of_some _ e) (Nat.ne_of_lt F.ns.lt) (next_is_new F) (fun p hp => Nat.ne_of_lt (Heap.lt_size (N p hp).1)) trivial (R _) ?_
  · rw [List.mem_singleton.mp hb]
    show s₁.heap.objs.size < (s₁.heap.push _).objs.size
    rw [Heap.size_push]; exact Nat.lt_succ_self _
  · intro D C h' tk m' ys news' F' N' o1 hn hC₀ hD₀ hCL hDL hCD offC fin
    refine ⟨m', hn, fun h'' hs'' => fin D h'' tk (F'.change hs'' hCL hC₀) (fun p hp => ?_) o1⟩
    refine ⟨hs''.extBut _ _ ?_ (N' p hp).1, (N' p hp).2⟩
    rcases List.mem_cons.mp hp with rfl | hp
    · exact Ne.symm hCD
    · exact offC p hp
noncomputable def SrcBT (prog : Program) (w : World) (A : Around) (h₀ : Heap) (L : Addr) (m : Str → Option Value) (env : Env) (ct elt : PySem.Expr) (x : Str) (scope : Scope) (cl : List (Str × Addr)) (Fin : Shared → List Value → List (Addr × Obj) → Prop) (xv : Value) (s₁ : Shared) : Prop :=
  ∃ b tb nw, xv = .bytes b tb ∧ A.handled = none ∧ Fr h₀ L s₁.heap m ∧ News h₀ L s₁.heap nw ∧ b.size ≤ sizeLine ∧ ∀ g : Heap, CompRestT prog w A h₀ L m env ct elt x scope cl { s₁ with heap := g } (fun _ => True) (PB b) (Fin { s₁ with heap := g }) b.size 0 [] nw
theorem SrcBT.intro {ct elt : PySem.Expr} {x : Str} {scope : Scope} {cl : List (Str × Addr)} {Fin : Shared → List Value → List (Addr × Obj) → Prop} {b : Array UInt8} {tb : Tok} {nw : List (Addr × Obj)} {s₁ : Shared}
    (hh : A.handled = none) (F : Fr h₀ L s₁.heap m) (N : News h₀ L s₁.heap nw) (hz : b.size ≤ sizeLine) (h : ∀ g : Heap, CompRestT prog w A h₀ L m env ct elt x scope cl { s₁ with heap := g } (fun _ => True) (PB b) (Fin { s₁ with heap := g }) b.size 0 [] nw) :
    SrcBT prog w A h₀ L m env ct elt x scope cl Fin (.bytes b tb) s₁ := ⟨b, tb, nw, rfl, hh, F, N, hz, h⟩
theorem ListComp_BT {ct elt iter : PySem.Expr} {x : Str} {px : Pos} {scope : Scope} {cl : List (Str × Addr)} {pos : Pos} {Q : Value → Shared → Prop} (F₀ : Fr h₀ L s.heap m)
    (hclos : closureFor scope env = pure cl) (hcell : ∀ y ∈ scope.names, y.2 ≠ .cell) (hkind : scope.kind = .function)
    (hnames : ∀ y ∈ scope.names, y.2 = .local → scope.names.lookup y.1 = some .local) (hx : scope.names.lookup x = some .local)
    (h : wpAny (model prog w) A (eval iter env) (SrcBT prog w A h₀ L m env ct elt x scope cl (fun s₂ => FinE h₀ L m s₂ Q)) E s)
    (hs : ∀ x, foldedSetIterable iter env x = pure x := by intro _; rfl) :
    wpAny (model prog w) A (eval (.ListComp elt [⟨.Name x px, iter, [ct], 0⟩] scope pos) env) Q E s := by
  rw [eval_ListComp]
  refine wpAny_comprehension_free (use := none) rfl hs hclos hkind hnames (wpAny_mono h (fun xv s₁ h₁ => ?_) fun _ _ e => e)
  obtain ⟨b, tb, nw, rfl, hh, F, N, hz, R⟩ := h₁
  refine KBw.pyIter_bytes ?_
  refine block_T (KBw.walks hh s₁.heap.objs.size b tb) hz (fun i h st => by obtain ⟨o, e, _⟩ := st; exact ⟨o, e⟩) bytes_st hcell hkind hx ⟨_, Heap.get?_push_size _ rfl, rfl, rfl⟩ (fun b hb => ?_)
    (F.keeps fun _ _ e => Heap.get?_push_of_some _ e) (N.grown fun _ _ e => Heap.get?_push_of_some _ e) (Nat.ne_of_lt F.ns.lt) (next_is_new F) (fun p hp => Nat.ne_of_lt (Heap.lt_size (N p hp).1)) trivial (R _) ?_
  · rw [List.mem_singleton.mp hb]
    show s₁.heap.objs.size < (s₁.heap.push _).objs.size
    rw [Heap.size_push]; exact Nat.lt_succ_self _
  · intro D C h' tk m' ys news' F' N' o1 hn hC₀ hD₀ hCL hDL hCD offC fin
    refine ⟨m', hn, fun h'' hs'' => fin D h'' tk (F'.change hs'' hCL hC₀) (fun p hp => ?_) o1⟩
    refine ⟨hs''.extBut _ _ ?_ (N' p hp).1, (N' p hp).2⟩
    rcases List.mem_cons.mp hp with rfl | hp
    · exact Ne.symm hCD
    · exact offC p hp
end
end Mine
end PartComp
section PartJoin
open PySem PySem.W PyProof.Rows PySem.Calls PySem.Spec
set_option Elab.async false
set_option maxRecDepth 100000
set_option maxHeartbeats 1000000
set_option linter.unusedVariables false
namespace Mine
section
open Builtin
inductive AreB : List Value → List (Array UInt8) → Prop
  | nil : AreB [] []
  | cons {b : Array UInt8} {t : Tok} {vs : List Value} {bs : List (Array UInt8)} : AreB vs bs → AreB (.bytes b t :: vs) (b :: bs)
theorem AreB.length : ∀ {vs : List Value} {bs : List (Array UInt8)}, AreB vs bs → vs.length = bs.length
  | _, _, .nil => rfl
  | _, _, .cons h => by simp [AreB.length h]
theorem AreB.get : ∀ {vs : List Value} {bs : List (Array UInt8)}, AreB vs bs → ∀ i, i < bs.length → ∃ b t, vs[i]? = some (.bytes b t) ∧ bs[i]? = some b
  | _, _, .cons (b := b) (t := t) h, 0, _ => ⟨b, t, rfl, rfl⟩
  | _, _, .cons h, i + 1, hi => by simpa using AreB.get h i (by simpa using hi)
theorem slot_join : Slot "bytes" "join" "bytes.join" :=
  .of (owner := "bytes") (n := "join") (by rw [typeLookup_type, builtinLookup_eq_fast]; kernel_rfl) (by decide +kernel) (by decide +kernel) (by decide +kernel)
    (by first | exact .inl (by decide +kernel) | exact .inr (by decide +kernel)) (by rw [isSubtype_type]; kernel_rfl)
theorem entry_join : entryFor table "bytes.join" = some Builtin.«bytes.join» := by first | exact entryFor_of_fast (by kernel_rfl) | exact entryFor_of_tree (by kernel_rfl)
theorem args_join (a b : Value) : argsOk "bytes.join" ⟨[a, b], []⟩ := by unfold argsOk; kernel_rfl
theorem type_join : typeOf (.builtin "bytes.join") = pure (.type "method_descriptor") := by show builtinType _ = _; rw [builtinType_eq_fast]; kernel_rfl
theorem bm_if_true' {α : Type} {M : Model} {A : Around} {E : Value → Shared → Prop} {s : Shared} {c : Bool} {a b : Sem α} {Q : α → Shared → Prop} (hc : c = true) (h : wpAny M A a Q E s) : wpAny M A (if c = true then a else b) Q E s := by
  rw [if_pos hc]; exact h
theorem bm_if_false' {α : Type} {M : Model} {A : Around} {E : Value → Shared → Prop} {s : Shared} {c : Bool} {a b : Sem α} {Q : α → Shared → Prop} (hc : c = false) (h : wpAny M A b Q E s) : wpAny M A (if c = true then a else b) Q E s := by
  rw [if_neg (by rw [hc]; exact Bool.false_ne_true)]; exact h
theorem take_eq {id : String} {b : Array UInt8} {t : Tok} : Bytes.takeBufferQuiet? id (.bytes b t) 0 = pure (some (b, none)) := by
  unfold Bytes.takeBufferQuiet? Bytes.takeBuffer?
  rw [KBy.special_eq KBy.look_buffer, KBy.own_buffer]
  show Sem.bind _ _ = _
  have e : Bytes.buffer? id (.bytes b t) ((0 : Int) == Bytes.fullReadOnly) = pure (some b) := by
    unfold Bytes.buffer?
    rw [KBy.special_eq KBy.look_buffer, KBy.own_buffer, KBy.own_release]
    kernel_rfl
  simp only [pure_bind, Bool.not_true, Bool.false_eq_true, if_false, e]
  rfl
theorem fold_size : ∀ (W : List (Array UInt8)) (a : Nat), W.foldl (fun x1 x2 => x1 + x2.size) a = a + ((W.map KBw.bInts).flatten).length
  | [], a => by simp
  | b :: r, a => by rw [List.foldl_cons, fold_size r]; simp [KBw.bInts]; omega
theorem joined_nil : ∀ (bs : List (Array UInt8)), KBw.bInts (Bytes.joined #[] bs) = (bs.map KBw.bInts).flatten := by
  intro bs
  unfold Bytes.joined
  have key : ∀ (bs : List (Array UInt8)) (k : Nat) (a : Array UInt8), KBw.bInts ((bs.zipIdx k).foldl (fun out (x : Array UInt8 × Nat) => (if x.2 > 0 then out ++ #[] else out) ++ x.1) a) = KBw.bInts a ++ (bs.map KBw.bInts).flatten := by
    intro bs
    induction bs with
    | nil => intro k a; simp
    | cons b r ih =>
      intro k a
      rw [List.zipIdx_cons, List.foldl_cons, ih]
      simp [KBw.bInts]
  have h := key bs 0 #[]
  simp only [KBw.bInts] at h ⊢
  simpa using h
variable {prog : Program} {w : World} {A : Around} {E : Value → Shared → Prop} {s : Shared}
theorem join_K {D : Addr} {vs : List Value} {bs : List (Array UInt8)} {t : Tok} {Q : Value → Shared → Prop} (hl : s.heap.IsList D vs.toArray) (hb : AreB vs bs) (hsz : ((bs.map KBw.bInts).flatten).length ≤ 16777216)
    (h : ∀ b t k, KBw.bInts b = (bs.map KBw.bInts).flatten → Q (.bytes b t) { s with toks := k }) : wpAny (model prog w) A (call (.builtin "bytes.join") [.bytes #[] t, .ref D]) Q E s := by
  have hT : s.TypeIs (.ref D) "list" := hl.typeIs
  obtain ⟨ol, hol, hoc, nl, hod⟩ := id hl
  refine wpAny_call_entry slot_join (typeIs_bytes s #[] t) entry_join ?_ (args_join _ _)
  show wpAny _ _ (Bytes.joinM .bytes ⟨[.bytes #[] t, .ref D], []⟩) _ _ _
  unfold Bytes.joinM
  refine wpAny_bind (wpAny_of_eq (a := (Value.bytes #[] t, Value.ref D)) rfl ?_)
  dsimp only
  refine wpAny_bind ?_
  show wpAny _ _ (Bytes.joinItems (Value.ref D)) _ _ _
  unfold Bytes.joinItems
  refine wpAny_bind (wpAny_typeOf hT ?_)
  refine bm_if_true' (by decide) ?_
  refine wpAny_pure ?_
  refine wpAny_bind (wpAny_seqItems hol hod ?_)
  dsimp only
  refine bm_if_true' (by decide) ?_
  have hone : ∀ b0 t0, vs = [.bytes b0 t0] → bs = [b0] → Q (.bytes b0 t0) s := fun b0 t0 _ e2 => h b0 t0 s.toks (by rw [e2]; simp)
  obtain ⟨V, hV⟩ : ∃ V, V = vs := ⟨vs, rfl⟩
  obtain ⟨W, hW⟩ : ∃ W, W = bs := ⟨bs, rfl⟩
  have hod' : ol.data = .seq V.toArray nl := by rw [hV]; exact hod
  have hb' : AreB V W := by rw [hV, hW]; exact hb
  have hsz' : ((W.map KBw.bInts).flatten).length ≤ 16777216 := by rw [hW]; exact hsz
  have h' : ∀ b t k, KBw.bInts b = (W.map KBw.bInts).flatten → Q (.bytes b t) { s with toks := k } := by rw [hW]; exact h
  have hlen := hb'.length
  have hget := hb'.get
  have hlet : ∀ (tk : List (Value × Option Value)) (kp : List Value) (E' : Value → Shared → Prop) (R : Unit → Shared → Prop) (s₁ : Shared), (∀ p ∈ tk, p.1.onHeap = false ∧ p.2 = none) → R () s₁ → wpAny (model prog w) A.in1 (Bytes.joinLetGo tk kp) R E' s₁ := by
    intro tk kp E' R s₁ ht hR
    induction tk with
    | nil => unfold Bytes.joinLetGo; exact wpAny_pure hR
    | cons p r ih =>
      obtain ⟨x, w'⟩ := p
      have hw := (ht (x, w') (.head _)).2
      dsimp only at hw
      subst hw
      unfold Bytes.joinLetGo
      dsimp only
      refine wpAny_bind (wpAny_letGo ?_)
      exact ih fun p hp => ht p (.tail _ hp)
  cases hb with
  | nil =>
    refine wpAny_bind ?_
    rw [← hV]
    clear hone h hsz
    rw [Std.Legacy.Range.forIn_eq_forIn_range']
    refine wpAny_forIn_list _ (fun rest st s' => s' = s ∧ ∃ i, rest = List.range' i (W.length - i) ∧ i ≤ W.length ∧ st.1.toList = W.take i ∧ (∀ p ∈ st.2, p.1.onHeap = false ∧ p.2 = none)) _ ?_ ?_ _ _ ⟨rfl, 0, by simp [hlen], Nat.zero_le _, rfl, fun _ hp => nomatch hp⟩
    · rintro x rest ⟨parts, taken⟩ s' ⟨rfl, i, hr, hi, hp, ht⟩
      obtain ⟨j, hj⟩ : ∃ j, W.length - i = j + 1 := by
        cases hc : W.length - i with
        | zero => rw [hc] at hr; cases hr
        | succ j => exact ⟨j, rfl⟩
      rw [hj, List.range'_succ] at hr
      injection hr with hx hr
      subst hx
      obtain ⟨b, t, hv, hbb⟩ := hget x (by omega)
      refine wpAny_bind (wpAny_seqItems hol hod' ?_)
      dsimp only
      have hgd : V.toArray.getD x .none = .bytes b t := by rw [Array.getD_eq_getD_getElem?]; simp [hv]
      rw [hgd]
      refine bm_if_false' (by rw [Bool.or_eq_false_iff]; exact ⟨by decide, List.any_eq_false.mpr fun p hp => by rw [(ht p hp).1]; exact Bool.false_ne_true⟩) ?_
      refine wpAny_bind (wpAny_holding (wpAny_of_eq take_eq ?_))
      dsimp only
      refine wpAny_bind (wpAny_seqItems hol hod' ?_)
      dsimp only
      refine bm_if_false' (by simp) ?_
      refine wpAny_pure ⟨rfl, x + 1, by rw [hr, show W.length - (x + 1) = j by omega], by omega, by rw [Array.toList_push, hp, List.take_add_one, hbb]; rfl, fun p hp => ?_⟩
      rcases List.mem_append.mp hp with hp | hp
      · exact ht p hp
      · rw [List.mem_singleton.mp hp]; exact ⟨rfl, rfl⟩
    · rintro ⟨parts, taken⟩ s' ⟨rfl, i, hr, hi, hp, ht⟩
      have hi2 : i = W.length := by
        cases hc : W.length - i with
        | zero => omega
        | succ j => rw [hc] at hr; cases hr
      dsimp only at hp ht ⊢
      rw [hi2, List.take_length] at hp
      refine wpAny_bind (wpAny_of_eq (a := #[]) rfl ?_)
      have htl : Bytes.tooLong (Array.foldl (fun x1 x2 => x1 + x2.size) ((#[] : Array UInt8).size * (parts.size - 1)) parts) = false := by
        refine KBy.tooLong_not ?_
        rw [← Array.foldl_toList, hp, fold_size]
        simpa using hsz'
      refine bm_if_false' htl ?_
      have hb2 : KBw.bInts (Bytes.joined #[] parts.toList) = (W.map KBw.bInts).flatten := by rw [hp]; exact joined_nil W
      refine wpAny_bind ?_
      show wpAny _ _ (mkBytes _) _ _ _
      refine wpAny_mkBytes ?_ (by rw [← KBw.ints_length, hb2, sizeLine_eq]; exact hsz')
      refine wpAny_bind (wpAny_holding (wpAny_point ?_))
      refine wpAny_bind (hlet _ _ _ _ _ ht ?_)
      exact wpAny_pure ⟨_, rfl, h' _ _ _ hb2⟩
  | cons hb' =>
    rename_i b0 t0 vs0 bs0
    cases hb' with
    | nil =>
      refine wpAny_bind (wpAny_typeOf (typeIs_bytes s b0 t0) ?_)
      refine bm_if_true' (by decide) ?_
      refine wpAny_bind (wpAny_rule ?_)
      exact wpAny_pure ⟨_, rfl, hone b0 t0 rfl rfl⟩
    | cons hb2 =>
      refine wpAny_bind ?_
      rw [← hV]
      clear hone h hsz
      rw [Std.Legacy.Range.forIn_eq_forIn_range']
      refine wpAny_forIn_list _ (fun rest st s' => s' = s ∧ ∃ i, rest = List.range' i (W.length - i) ∧ i ≤ W.length ∧ st.1.toList = W.take i ∧ (∀ p ∈ st.2, p.1.onHeap = false ∧ p.2 = none)) _ ?_ ?_ _ _ ⟨rfl, 0, by simp [hlen], Nat.zero_le _, rfl, fun _ hp => nomatch hp⟩
      · rintro x rest ⟨parts, taken⟩ s' ⟨rfl, i, hr, hi, hp, ht⟩
        obtain ⟨j, hj⟩ : ∃ j, W.length - i = j + 1 := by
          cases hc : W.length - i with
          | zero => rw [hc] at hr; cases hr
          | succ j => exact ⟨j, rfl⟩
        rw [hj, List.range'_succ] at hr
        injection hr with hx hr
        subst hx
        obtain ⟨b, t, hv, hbb⟩ := hget x (by omega)
        refine wpAny_bind (wpAny_seqItems hol hod' ?_)
        dsimp only
        have hgd : V.toArray.getD x .none = .bytes b t := by rw [Array.getD_eq_getD_getElem?]; simp [hv]
        rw [hgd]
        refine bm_if_false' (by rw [Bool.or_eq_false_iff]; exact ⟨by decide, List.any_eq_false.mpr fun p hp => by rw [(ht p hp).1]; exact Bool.false_ne_true⟩) ?_
        refine wpAny_bind (wpAny_holding (wpAny_of_eq take_eq ?_))
        dsimp only
        refine wpAny_bind (wpAny_seqItems hol hod' ?_)
        dsimp only
        refine bm_if_false' (by simp) ?_
        refine wpAny_pure ⟨rfl, x + 1, by rw [hr, show W.length - (x + 1) = j by omega], by omega, by rw [Array.toList_push, hp, List.take_add_one, hbb]; rfl, fun p hp => ?_⟩
        rcases List.mem_append.mp hp with hp | hp
        · exact ht p hp
        · rw [List.mem_singleton.mp hp]; exact ⟨rfl, rfl⟩
      · rintro ⟨parts, taken⟩ s' ⟨rfl, i, hr, hi, hp, ht⟩
        have hi2 : i = W.length := by
          cases hc : W.length - i with
          | zero => omega
          | succ j => rw [hc] at hr; cases hr
        dsimp only at hp ht ⊢
        rw [hi2, List.take_length] at hp
        refine wpAny_bind (wpAny_of_eq (a := #[]) rfl ?_)
        have htl : Bytes.tooLong (Array.foldl (fun x1 x2 => x1 + x2.size) ((#[] : Array UInt8).size * (parts.size - 1)) parts) = false := by
          refine KBy.tooLong_not ?_
          rw [← Array.foldl_toList, hp, fold_size]
          simpa using hsz'
        refine bm_if_false' htl ?_
        have hb2 : KBw.bInts (Bytes.joined #[] parts.toList) = (W.map KBw.bInts).flatten := by rw [hp]; exact joined_nil W
        refine wpAny_bind ?_
        show wpAny _ _ (mkBytes _) _ _ _
        refine wpAny_mkBytes ?_ (by rw [← KBw.ints_length, hb2, sizeLine_eq]; exact hsz')
        refine wpAny_bind (wpAny_holding (wpAny_point ?_))
        refine wpAny_bind (hlet _ _ _ _ _ ht ?_)
        exact wpAny_pure ⟨_, rfl, h' _ _ _ hb2⟩
end
end Mine
namespace Mine
open PySem PySem.W PyProof.Rows PySem.Calls PySem.Spec
noncomputable def Parts (R : Int → List Int → Prop) : List Int → List (List Int) → Prop
  | [], [] => True
  | k :: ks, p :: ps => R k p ∧ Parts R ks ps
  | _, _ => False
theorem joinAll {R : Int → List Int → Prop} : ∀ {ks : List Int} {ys : List Value}, Each (fun k y => ∃ b t, y = Value.bytes b t ∧ R k (KBw.bInts b)) ks ys →
    ∃ bs : List (Array UInt8), AreB ys bs ∧ Parts R ks (bs.map KBw.bInts)
  | [], [], _ => ⟨[], .nil, trivial⟩
  | k :: ks, y :: ys, h => by
    obtain ⟨⟨b, t, rfl, hr⟩, h2⟩ := h
    obtain ⟨bs, ha, hb⟩ := joinAll h2
    exact ⟨b :: bs, .cons ha, hr, hb⟩
  | [], _ :: _, h => False.elim h
  | _ :: _, [], h => False.elim h
theorem joinMap {f : Int → List Int} : ∀ {ks : List Int} {ys : List Value}, Each (fun k y => ∃ b t, y = Value.bytes b t ∧ KBw.bInts b = f k) ks ys →
    ∃ bs : List (Array UInt8), AreB ys bs ∧ bs.map KBw.bInts = ks.map f
  | [], [], _ => ⟨[], .nil, rfl⟩
  | k :: ks, y :: ys, h => by
    obtain ⟨⟨b, t, rfl, hr⟩, h2⟩ := h
    obtain ⟨bs, ha, hb⟩ := joinMap h2
    exact ⟨b :: bs, .cons ha, by simp [hr, hb]⟩
  | [], _ :: _, h => False.elim h
  | _ :: _, [], h => False.elim h
theorem method_join {M : Model} {A : Around} {E : Value → Shared → Prop} {s : Shared} {b : Array UInt8} {t : Tok} {pl : Sem Bool} {Q : Value × List Value → Shared → Prop} (h : Q (.builtin "bytes.join", [.bytes b t]) s) : wpAny M A (getMethod (.bytes b t) "join" pl) Q E s := by
  with_reducible exact KBd.method_of (.bytes b t) (typeIs_bytes _ _ _) slot_join type_join KBd.noRef h
end Mine
end PartJoin
section PartBa
open PySem PySem.W PyProof.Rows PySem.Calls PySem.Spec
set_option Elab.async false
set_option maxRecDepth 100000
set_option maxHeartbeats 1000000
set_option linter.unusedVariables false
namespace Mine
section
open Builtin
abbrev baOf (b : Array UInt8) : Obj := { cls := .type "bytearray", data := .bytearray b }
theorem ba_mro : mroOf (.type "bytearray") = pure [.type "bytearray", .type "object"] := by rw [mroOf_type]; kernel_rfl
theorem ba_lookup_new : typeLookup (.type "bytearray") "__new__" = pure (some (.builtin "bytearray.__new__")) := by rw [typeLookup_type, builtinLookup_eq_fast]; kernel_rfl
theorem ba_slot_init : Slot "bytearray" "__init__" "bytearray.__init__" :=
  .of (owner := "bytearray") (n := "__init__") (by rw [typeLookup_type, builtinLookup_eq_fast]; kernel_rfl) (by decide +kernel) (by decide +kernel) (by decide +kernel)
    (by first | exact .inl (by decide +kernel) | exact .inr (by decide +kernel)) (by rw [isSubtype_type]; kernel_rfl)
theorem ba_sub : isSubtype (.type "bytearray") (.type "bytearray") = pure true := by rw [isSubtype_type]; kernel_rfl
theorem ba_called : TypeCalled "bytearray" "bytearray.__new__" "bytearray.__init__" :=
  ⟨by decide +kernel, by decide +kernel, ⟨_, _, ba_mro⟩, madeBy_type ba_mro ba_lookup_new (by decide +kernel), by decide +kernel, ba_sub, ba_slot_init⟩
theorem ba_typeCall0 : checkTypeCall "bytearray" ⟨[], []⟩ = pure () := by kernel_rfl
theorem ba_typeCall1 (a : Value) : checkTypeCall "bytearray" ⟨[a], []⟩ = pure () := by kernel_rfl
theorem ba_newCall0 : checkBuiltinCall "bytearray.__new__" ⟨[.type "bytearray"], []⟩ = pure () := by kernel_rfl
theorem ba_newCall1 (a : Value) : checkBuiltinCall "bytearray.__new__" ⟨[.type "bytearray", a], []⟩ = pure () := by kernel_rfl
theorem ba_entry_new : entryFor table "bytearray.__new__" = some Builtin.«list.__new__» := entryFor_alias (id' := "list.__new__") (by kernel_rfl) rfl (by decide +kernel) (by kernel_rfl)
theorem ba_plain_new : plainId "bytearray.__new__" = true := by decide +kernel
theorem ba_entry_init : entryFor table "bytearray.__init__" = some Builtin.«bytearray.__init__» := by first | exact entryFor_of_fast (by kernel_rfl) | exact entryFor_of_tree (by kernel_rfl)
theorem ba_entry_append : entryFor table "bytearray.append" = some Builtin.«bytearray.append» := by first | exact entryFor_of_fast (by kernel_rfl) | exact entryFor_of_tree (by kernel_rfl)
theorem ba_entry_iadd : entryFor table "bytearray.__iadd__" = some Builtin.«bytearray.__iadd__» := by first | exact entryFor_of_fast (by kernel_rfl) | exact entryFor_of_tree (by kernel_rfl)
theorem ba_slot_append : Slot "bytearray" "append" "bytearray.append" :=
  .of (owner := "bytearray") (n := "append") (by rw [typeLookup_type, builtinLookup_eq_fast]; kernel_rfl) (by decide +kernel) (by decide +kernel) (by decide +kernel)
    (by first | exact .inl (by decide +kernel) | exact .inr (by decide +kernel)) (by rw [isSubtype_type]; kernel_rfl)
theorem ba_type_append : typeOf (.builtin "bytearray.append") = pure (.type "method_descriptor") := by show builtinType _ = _; rw [builtinType_eq_fast]; kernel_rfl
theorem ba_slot_iadd : Slot "bytearray" "__iadd__" "bytearray.__iadd__" :=
  .of (owner := "bytearray") (n := "__iadd__") (by rw [typeLookup_type, builtinLookup_eq_fast]; kernel_rfl) (by decide +kernel) (by decide +kernel) (by decide +kernel)
    (by first | exact .inl (by decide +kernel) | exact .inr (by decide +kernel)) (by rw [isSubtype_type]; kernel_rfl)
theorem ba_no_release : typeLookup (.type "bytearray") "__release_buffer__" = pure (some (.builtin "bytearray.__release_buffer__")) := by rw [typeLookup_type, builtinLookup_eq_fast]; kernel_rfl
set_option maxRecDepth 1000000 in
set_option maxHeartbeats 4000000 in
theorem owner_ba_new : ("bytearray.__new__".splitOn ".__new__").headD "" = "bytearray" := by simp +decide [String.splitOn, String.splitOnAux]
theorem any_no {α : Type} {l : List α} {f : α → Bool} {P : Bool → Prop} (h : P false) (hf : ∀ x ∈ l, f x = false) : P (l.any f) := by
  have e : l.any f = false := List.any_eq_false.mpr fun x hx => by rw [hf x hx]; exact Bool.false_ne_true
  rw [e]; exact h
theorem bad_builtin {id : String} {args : Args} {c : Code} {p q : Pos} (h : badCode c = false) (e : (c, p) = (Code.builtin id args, q)) (hm : badIds.contains id = true) : False := by
  injection e with e1 e2
  subst e1
  have h' : badIds.contains id = false := h
  rw [hm] at h'; cases h'
theorem wpG_exported {M : Model} {A : Around} {E : Value → Shared → Prop} {s : Shared} {v : Value} {Q : Bool → Shared → Prop} (h : Q false s) : wpG M A (Bytes.exported v) Q E s := by
  intro Γ p hΓ hb hk
  unfold Bytes.exported
  show Sem.wp M Γ (Sem.bind stack _) _ _ p s
  unfold stack
  rw [Sem.wp_bind, Sem.wp_stack]
  show Q (List.any ((Γ.code, p) :: Γ.below) _) s
  refine any_no (P := fun b => Q b s) h ?_
  rintro ⟨c, q⟩ hx
  have hbad : badCode c = false := by
    rcases List.mem_cons.mp hx with hx | hx
    · injection hx with h1 h2; rw [h1]; exact hb
    · exact hk _ hx
  cases c with
  | builtin id args =>
    have h' : badIds.contains id = false := hbad
    have n1 : ¬ id = "bytearray.__contains__" := fun e => by rw [e] at h'; exact absurd h' (by decide +kernel)
    have n2 : ¬ id = "bytearray.__mod__" := fun e => by rw [e] at h'; exact absurd h' (by decide +kernel)
    have n3 : ¬ id = "bytearray.__rmod__" := fun e => by rw [e] at h'; exact absurd h' (by decide +kernel)
    have n4 : ¬ id = "_struct.pack_into.held" := fun e => by rw [e] at h'; exact absurd h' (by decide +kernel)
    have n5 : ¬ id = "bytearray.find.held" := fun e => by rw [e] at h'; exact absurd h' (by decide +kernel)
    have hd : Bytes.decodersThatHold.contains id = false := by
      cases hc : Bytes.decodersThatHold.contains id with
      | false => rfl
      | true =>
        have : badIds.contains id = true := by unfold badIds; rw [List.contains_eq_mem, decide_eq_true_eq, List.mem_append]; exact .inr (by simpa using hc)
        rw [h'] at this; cases this
    obtain ⟨pos, kw⟩ := args
    delta Bytes.exported.match_1
    refine (dif_neg n1).trans ?_
    refine (dif_neg n2).trans ?_
    refine (dif_neg n3).trans ?_
    refine (dif_neg n4).trans ?_
    refine (dif_neg n5).trans ?_
    cases pos with
    | nil => rfl
    | cons x r =>
      show (_ && Bytes.decodersThatHold.contains id) = false
      rw [hd, Bool.and_false]
  | _ => rfl
section
variable {M : Model} {A : Around} {E : Value → Shared → Prop} {s : Shared} {D : Addr} {b : Array UInt8}
theorem wpG_exp2 {Q : Bool → Shared → Prop} (ho : s.heap.get? D = some (baOf b)) (h : Q false s) : wpG M A (Bytes.exported (.ref D) <||> do return (← Bytes.exportsOf (.ref D)) > 0) Q E s := by
  refine wpG_bind (m := Bytes.exported _) (wpG_exported ?_)
  refine wpG_any ?_
  show wpAny _ _ (Bytes.exportsOf (.ref D) >>= fun n => pure (decide (n > 0))) _ _ _
  refine wpAny_bind ?_
  show wpAny _ _ (load D >>= _) _ _ _
  exact wpAny_bind (wpAny_load ho (wpAny_pure (wpAny_pure h)))
theorem wpG_if_false {α : Type} {c : Bool} {a b : Sem α} {Q : α → Shared → Prop} (hc : c = false) (h : wpG M A b Q E s) : wpG M A (if c = true then a else b) Q E s := by
  rw [if_neg (by rw [hc]; exact Bool.false_ne_true)]; exact h
theorem wpG_if_true {α : Type} {c : Bool} {a b : Sem α} {Q : α → Shared → Prop} (hc : c = true) (h : wpG M A a Q E s) : wpG M A (if c = true then a else b) Q E s := by
  rw [if_pos hc]; exact h
theorem wpG_checkResize {Q : Unit → Shared → Prop} (ho : s.heap.get? D = some (baOf b)) (h : Q () s) : wpG M A (Bytes.checkResize (.ref D)) Q E s := by
  unfold Bytes.checkResize
  exact wpG_bind (wpG_exp2 ho (wpG_if_false rfl (wpG_pure h)))
theorem wpAny_write {f : Array UInt8 → Array UInt8} {Q : Unit → Shared → Prop} (ho : s.heap.get? D = some (baOf b)) (hz : (f b).size ≤ sizeLine)
    (h : ∀ h', Heap.SameBut D s.heap h' → h'.get? D = some (baOf (f b)) → Q () { s with heap := h' }) : wpAny M A (Bytes.write (.ref D) f) Q E s := by
  show wpAny M A (updateBytearray D f) _ _ _
  unfold updateBytearray
  refine wpAny_bind (wpAny_load ho ?_)
  show wpAny _ _ (update D (Obj.mapBytearray f) >>= fun _ => lookBehind D) _ _ _
  refine wpAny_bind (wpAny_update ho ?_)
  have hS₂ : (s.heap.update D (Obj.mapBytearray f)).get? D = some (baOf (f b)) := Heap.get?_update_self (Obj.mapBytearray f) ho rfl
  refine wpAny_lookBehind hS₂ ?_ ?_
  · show (if (f b).size > sizeLine then some "bytearray:memory" else none) = none
    rw [if_neg (by omega)]
  · exact h _ (Heap.SameBut.update ..) hS₂
theorem ba_typeIs (ho : s.heap.get? D = some (baOf b)) : s.TypeIs (.ref D) "bytearray" := ⟨_, ho, rfl⟩
theorem wpAny_ownRelease {Q : Bool → Shared → Prop} (ho : s.heap.get? D = some (baOf b)) (h : Q false s) : wpAny M A (Bytes.ownRelease (.ref D)) Q E s := by
  unfold Bytes.ownRelease Bytes.slotIsOwn
  refine wpAny_bind (wpAny_bind (wpAny_specialOf (ba_typeIs ho) ba_no_release ?_))
  dsimp only
  refine bm_if_false' (by decide +kernel) ?_
  refine wpAny_isInstance (T := "bytearray") (b := true) (ba_typeIs ho) ?_ (wpAny_pure h)
  have e : String.dropRight "bytearray.__release_buffer__" ("__release_buffer__".length + 1) = "bytearray" := by decide +kernel
  first | exact ba_sub | (rw [e]; exact ba_sub)
theorem ba_look_index : typeLookup (.type "bytes") "__index__" = pure none := by rw [typeLookup_type, builtinLookup_eq_fast]; kernel_rfl
theorem buffer_full {id : String} {c : Array UInt8} {t : Tok} : Bytes.buffer? id (.bytes c t) true = pure (some c) := by
  unfold Bytes.buffer?
  rw [KBy.special_eq KBy.look_buffer, KBy.own_buffer, KBy.own_release]
  kernel_rfl
theorem ba_bind0 : Bytes.bindOptional "bytearray.__init__" "bytearray" ["source", "encoding", "errors"] [] [] = pure [none, none, none] := by kernel_rfl
theorem ba_bind1 (v : Value) : Bytes.bindOptional "bytearray.__init__" "bytearray" ["source", "encoding", "errors"] [v] [] = pure [some v, none, none] := by kernel_rfl
theorem init_ba0 {Q : PySem.Fin → Shared → Prop} (ho : s.heap.get? D = some (baOf b)) (h : ∀ h', Heap.SameBut D s.heap h' → h'.get? D = some (baOf #[]) → Q (.done (.ret .none)) { s with heap := h' }) :
    wpG M A (Builtin.«bytearray.__init__» ⟨[.ref D], []⟩) Q E s := by
  unfold Builtin.«bytearray.__init__»
  dsimp only
  refine wpG_bind (wpG_any (wpAny_ownRelease ho ?_))
  refine wpG_if_false rfl ?_
  refine wpG_bind (wpG_of_eq ba_bind0 ?_)
  dsimp only
  refine wpG_bind (wpG_of_eq (a := ()) rfl ?_)
  refine wpG_bind (wpG_of_eq (a := ()) rfl ?_)
  refine wpG_bind (wpG_exp2 ho ?_)
  refine wpG_if_false rfl ?_
  refine wpG_bind (wpG_any (wpAny_write ho (Nat.zero_le _) fun h' hs hD => ?_))
  exact wpG_bind (wpG_of_eq (a := ()) rfl (wpG_pure (h h' hs hD)))
theorem init_ba1 {Q : PySem.Fin → Shared → Prop} {c : Array UInt8} {t : Tok} (ho : s.heap.get? D = some (baOf b)) (hc : c.size ≤ sizeLine) (h : ∀ h', Heap.SameBut D s.heap h' → h'.get? D = some (baOf c) → Q (.done (.ret .none)) { s with heap := h' }) :
    wpG M A (Builtin.«bytearray.__init__» ⟨[.ref D, .bytes c t], []⟩) Q E s := by
  unfold Builtin.«bytearray.__init__»
  dsimp only
  refine wpG_bind (wpG_any (wpAny_ownRelease ho ?_))
  refine wpG_if_false rfl ?_
  refine wpG_bind (wpG_of_eq (ba_bind1 _) ?_)
  dsimp only
  refine wpG_bind (wpG_of_eq (a := ()) rfl ?_)
  refine wpG_bind (wpG_of_eq (a := ()) rfl ?_)
  refine wpG_bind (wpG_exp2 ho ?_)
  refine wpG_if_false rfl ?_
  refine wpG_bind (wpG_any (wpAny_write ho (Nat.zero_le _) fun h' hs hD => ?_))
  refine wpG_bind (wpG_of_eq (a := none) rfl ?_)
  refine wpG_if_false rfl ?_
  refine wpG_bind (wpG_of_eq (a := ()) rfl ?_)
  refine wpG_bind (wpG_of_eq (KBy.special_eq ba_look_index) ?_)
  refine wpG_if_false rfl ?_
  refine wpG_bind (wpG_of_eq buffer_full ?_)
  dsimp only
  refine wpG_bind (wpG_any (wpAny_rule ?_))
  refine wpG_bind (wpG_any (wpAny_write (s := { s with heap := h' }) hD hc fun h2 hs2 hD2 => ?_))
  first | exact wpG_pure (h h2 (hs.trans hs2) hD2) | exact wpG_bind (wpG_pure (wpG_pure (h h2 (hs.trans hs2) hD2)))
end
end
end Mine
end PartBa
section PartBb
open PySem PySem.W PyProof.Rows PySem.Calls PySem.Spec
set_option Elab.async false
set_option maxRecDepth 100000
set_option maxHeartbeats 1000000
set_option linter.unusedVariables false
namespace Mine
section
open Builtin
variable {prog : Program} {w : World} {A : Around} {E : Value → Shared → Prop} {s : Shared} {D : Addr} {b : Array UInt8}
theorem code_ba_new0 {Q₁ : Value → Shared → Prop} (h : Q₁ (.ref s.heap.objs.size) { s with heap := s.heap.push (baOf #[]) }) :
    codeAny (model prog w) A (.call (.builtin "bytearray.__new__") ⟨[.type "bytearray"], []⟩) (wants Q₁ E) s := by
  refine codeAny_of_tree ?_
  show wpAny _ A.in1 (do checkBuiltinCall "bytearray.__new__" ⟨[.type "bytearray"], []⟩; again (.builtin "bytearray.__new__" ⟨[.type "bytearray"], []⟩)) _ _ s
  refine wpAny_bind (wpAny_of_eq ba_newCall0 (wpAny_pure ⟨plainId_quiet ba_plain_new _, codeAny_builtin_stack ba_entry_new rfl fun p st => ?_⟩))
  rw [Around.under_plainId ba_plain_new _]
  have hsub := ba_sub
  have hown := owner_ba_new
  obtain ⟨hp, g, d, tk, os⟩ := s
  simp only [hown]
  wp_walk
  exact h
theorem code_ba_new1 (a : Value) {Q₁ : Value → Shared → Prop} (h : Q₁ (.ref s.heap.objs.size) { s with heap := s.heap.push (baOf #[]) }) :
    codeAny (model prog w) A (.call (.builtin "bytearray.__new__") ⟨[.type "bytearray", a], []⟩) (wants Q₁ E) s := by
  refine codeAny_of_tree ?_
  show wpAny _ A.in1 (do checkBuiltinCall "bytearray.__new__" ⟨[.type "bytearray", a], []⟩; again (.builtin "bytearray.__new__" ⟨[.type "bytearray", a], []⟩)) _ _ s
  refine wpAny_bind (wpAny_of_eq (ba_newCall1 a) (wpAny_pure ⟨plainId_quiet ba_plain_new _, codeAny_builtin_stack ba_entry_new rfl fun p st => ?_⟩))
  rw [Around.under_plainId ba_plain_new _]
  have hsub := ba_sub
  have hown := owner_ba_new
  obtain ⟨hp, g, d, tk, os⟩ := s
  simp only [hown]
  wp_walk
  exact h
theorem codeG_builtin {id : String} {args : Args} {bi : Builtin} {R : Result → Shared → Prop} (hbad : badIds.contains id = false) (hb : entryFor table id = some bi)
    (h : wpG (model prog w) (A.under (.builtin id args)) (bi args)
      (fun fin s' => match fin with | .done f => R (.ok f) s' | .again c' => c'.quiet = true ∧ codeG (model prog w) A c' R s') (fun e s' => R (.error e) s') s) :
    codeG (model prog w) A (.builtin id args) R s := by
  refine codeG_of_tree hbad ?_
  show wpG _ _ (match entryFor table id with | some b => b args | none => unsupported ((withoutEnding? id "#data").getD id)) _ _ s
  rw [hb]; exact h
theorem wpG_callSpecialSlot {M : Model} {T : String} {name : Str} {id : String} {v : Value} {args : List Value} {Q : Option Value → Shared → Prop} (slot : Slot T name id) (hT : s.TypeIs v T)
    (h : wpG M A (call (.builtin id) (v :: args)) (fun r s' => Q (some r) s') E s) : wpG M A (callSpecial? v name args) Q E s := by
  unfold callSpecial?
  refine wpG_bind (wpG_any (wpAny_specialOf hT slot.lookup ?_))
  dsimp only
  refine wpG_holding ?_
  refine wpG_bind (wpG_of_eq (slot.bind v) ?_)
  dsimp only
  refine wpG_bind (wpG_mono h (fun r s' h' => ?_) fun _ _ x => x)
  exact wpG_pure h'
theorem call_ba {args : List Value} {Q : Value → Shared → Prop} (c : Array UInt8) (hct : checkTypeCall "bytearray" ⟨args, []⟩ = pure ())
    (hnew : ∀ (A : Around) (Q₁ : Value → Shared → Prop), Q₁ (.ref s.heap.objs.size) { s with heap := s.heap.push (baOf #[]) } → codeAny (model prog w) A (.call (.builtin "bytearray.__new__") ⟨.type "bytearray" :: args, []⟩) (wants Q₁ E) s)
    (hok : ∀ a, argsOk "bytearray.__init__" ⟨a :: args, []⟩)
    (hinit : ∀ (M : Model) (A : Around) (s : Shared) (D : Addr) (Q : PySem.Fin → Shared → Prop) (E : Value → Shared → Prop), s.heap.get? D = some (baOf #[]) → (∀ h', Heap.SameBut D s.heap h' → h'.get? D = some (baOf c) → Q (.done (.ret .none)) { s with heap := h' }) → wpG M A (Builtin.«bytearray.__init__» ⟨.ref D :: args, []⟩) Q E s)
    (hQ : ∀ h', (∀ a o, s.heap.get? a = some o → h'.get? a = some o) → h'.get? s.heap.objs.size = some (baOf c) → Q (.ref s.heap.objs.size) { s with heap := h' }) :
    wpG (model prog w) A (call (.type "bytearray") args) Q E s := by
  refine wpG_call (codeG_of_tree rfl ?_)
  show wpG _ _ (callAny (.type "bytearray") _) _ _ _
  refine wpG_pure ⟨Code.quiet_builtin _ (by decide +kernel), codeG_builtin (by decide +kernel) F.entry_type_call ?_⟩
  unfold Builtin.«type.__call__»
  dsimp only
  refine wpG_if_false ba_called.notType ?_
  refine wpG_if_false ba_called.canCreate ?_
  refine wpG_bind (wpG_of_eq hct ?_)
  refine wpG_bind (wpG_of_eq ba_mro ?_)
  refine wpG_if_false rfl ?_
  refine wpG_bind (wpG_of_eq ba_called.made ?_)
  dsimp only
  refine wpG_bind (wpG_pure ?_)
  refine wpG_bind (wpG_holding (wpG_call (codeG_any (codeAny_mono (hnew _ (fun r s' => r = .ref s.heap.objs.size ∧ s' = { s with heap := s.heap.push (baOf #[]) }) ⟨rfl, rfl⟩) fun r s' hr => ?_))))
  cases r with
  | error e => exact hr
  | ok f =>
    cases f with
    | ret v =>
      obtain ⟨rfl, rfl⟩ := hr
      have hD : (s.heap.push (baOf #[])).get? s.heap.objs.size = some (baOf #[]) := Heap.get?_push_size _ rfl
      have hT : ({ s with heap := s.heap.push (baOf #[]) } : Shared).TypeIs (.ref s.heap.objs.size) "bytearray" := ⟨_, hD, rfl⟩
      refine wpG_bind (wpG_any (wpAny_isInstance (b := true) hT ba_sub ?_))
      refine wpG_if_false rfl ?_
      refine wpG_bind (wpG_holding (wpG_callSpecialSlot ba_slot_init hT ?_))
      refine wpG_call (codeG_call_builtin ba_slot_init.plain (by decide +kernel) ba_entry_init ?_)
      refine ba_slot_init.check _ _ _ _ _ _ _ _ hT (hok _) ?_
      refine hinit _ _ _ _ _ _ hD fun h' hs hD' => ?_
      dsimp only
      refine wpG_if_false rfl ?_
      refine wpG_pure ?_
      exact hQ h' (fun a o e => hs.extBut _ _ (Nat.ne_of_lt (Heap.lt_size e)) (Heap.get?_push_of_some _ e)) hD'
    | _ => exact hr.elim
theorem call_ba0 {h₀ : Heap} {L : Addr} {m : Str → Option Value} {news : List (Addr × Obj)} {Q : Value → Shared → Prop} (F : Fr h₀ L s.heap m) (N : News h₀ L s.heap news)
    (h : ∀ D h', Fr h₀ L h' m → News h₀ L h' ((D, baOf #[]) :: news) → (∀ p ∈ news, p.1 < D) → Q (.ref D) { s with heap := h' }) : wpG (model prog w) A (call (.type "bytearray") []) Q E s := by
  refine call_ba #[] ba_typeCall0 (fun A Q₁ h => code_ba_new0 h) (fun a => by unfold argsOk; kernel_rfl) (fun M A s D Q E ho h => init_ba0 ho h) fun h' hk hD => ?_
  refine h _ h' (F.keeps hk) (fun p hp => ?_) fun p hp => Heap.lt_size (N p hp).1
  rcases List.mem_cons.mp hp with rfl | hp
  · exact ⟨hD, fun e => Nat.lt_irrefl _ (e ▸ F.ns.lt), next_is_new F⟩
  · exact ⟨hk _ _ (N p hp).1, (N p hp).2⟩
theorem call_ba1 {h₀ : Heap} {L : Addr} {m : Str → Option Value} {news : List (Addr × Obj)} {c : Array UInt8} {t : Tok} {Q : Value → Shared → Prop} (F : Fr h₀ L s.heap m) (N : News h₀ L s.heap news) (hc : c.size ≤ sizeLine)
    (h : ∀ D h', Fr h₀ L h' m → News h₀ L h' ((D, baOf c) :: news) → (∀ p ∈ news, p.1 < D) → Q (.ref D) { s with heap := h' }) : wpG (model prog w) A (call (.type "bytearray") [.bytes c t]) Q E s := by
  refine call_ba c (ba_typeCall1 _) (fun A Q₁ h => code_ba_new1 _ h) (fun a => by unfold argsOk; kernel_rfl) (fun M A s D Q E ho h => init_ba1 ho hc h) fun h' hk hD => ?_
  refine h _ h' (F.keeps hk) (fun p hp => ?_) fun p hp => Heap.lt_size (N p hp).1
  rcases List.mem_cons.mp hp with rfl | hp
  · exact ⟨hD, fun e => Nat.lt_irrefl _ (e ▸ F.ns.lt), next_is_new F⟩
  · exact ⟨hk _ _ (N p hp).1, (N p hp).2⟩
theorem push_fits {n : Int} (h0 : 0 ≤ n) (h1 : n < 256) : (decide (n < 0) || decide (n ≥ 256)) = false := by
  simp only [Bool.or_eq_false_iff, decide_eq_false_iff_not]; omega
theorem append_ba {h₀ : Heap} {L : Addr} {m : Str → Option Value} {news news' : List (Addr × Obj)} {n : Int} {t : Tok} {Q : Value → Shared → Prop} (F : Fr h₀ L s.heap m) (N : News h₀ L s.heap news)
    (U : Upd D (baOf b) (baOf (b.push n.toNat.toUInt8)) news news') (h0 : 0 ≤ n) (h1 : n < 256) (hz : b.size < 16777216)
    (h : ∀ h', Fr h₀ L h' m → News h₀ L h' news' → Q .none { s with heap := h' }) : wpG (model prog w) A (call (.builtin "bytearray.append") [.ref D, .int n t]) Q E s := by
  obtain ⟨pre, post, rfl, rfl, a1, a2⟩ := U.split
  have z := N (D, baOf b) (List.mem_append.mpr (.inr (.head _)))
  refine wpG_call (codeG_call_builtin ba_slot_append.plain (by decide +kernel) ba_entry_append ?_)
  refine ba_slot_append.check _ _ _ _ _ _ _ _ (ba_typeIs z.1) (by unfold argsOk; kernel_rfl) ?_
  unfold Builtin.«bytearray.append»
  refine wpG_bind (wpG_of_eq (a := (Value.ref D, Value.int n t)) rfl ?_)
  dsimp only
  refine wpG_bind ?_
  unfold Bytes.byteValue
  refine wpG_bind (wpG_of_eq (rfl : asIndex (.int n t) = pure n) ?_)
  refine wpG_if_false (push_fits h0 h1) ?_
  refine wpG_pure ?_
  refine wpG_bind (wpG_checkResize z.1 ?_)
  refine wpG_bind (wpG_any (wpAny_write (f := (·.push n.toNat.toUInt8)) z.1 (by rw [Array.size_push, sizeLine_eq]; exact hz) fun h' hs hD => ?_))
  exact wpG_pure (h h' (F.change hs z.2.1 z.2.2) (news_set N a1 a2 hs hD))
theorem ba_noR_add : typeLookup (.type "bytearray") (dunderR "add") = pure none := by rw [typeLookup_type, builtinLookup_eq_fast]; kernel_rfl
theorem ba_slot_add : typeLookup (.type "bytearray") (dunder "add") = pure (some (.builtin "bytearray.__add__")) := by rw [typeLookup_type, builtinLookup_eq_fast]; kernel_rfl
theorem ba_noFill : fillsNumberSlot (.type "bytearray") "add" = pure false := PySem.fillsNumberSlot_seq (id := "bytearray.__add__") (r := none) ba_slot_add (by decide +kernel) ba_noR_add rfl
theorem iadd_ba {h₀ : Heap} {L : Addr} {m : Str → Option Value} {news news' : List (Addr × Obj)} {c : Array UInt8} {t : Tok} {Q : Value → Shared → Prop} (F : Fr h₀ L s.heap m) (N : News h₀ L s.heap news)
    (U : Upd D (baOf b) (baOf (b ++ c)) news news') (hz : b.size + c.size ≤ 16777216)
    (h : ∀ h', Fr h₀ L h' m → News h₀ L h' news' → Q (.ref D) { s with heap := h' }) : wpG (model prog w) A (inplaceOp .Add (.ref D) (.bytes c t)) Q E s := by
  obtain ⟨pre, post, rfl, rfl, a1, a2⟩ := U.split
  have z := N (D, baOf b) (List.mem_append.mpr (.inr (.head _)))
  have hT : s.TypeIs (.ref D) "bytearray" := ba_typeIs z.1
  have hTb : s.TypeIs (.bytes c t) "bytes" := typeIs_bytes s c t
  unfold inplaceOp
  refine wpG_holding ?_
  have hfi : fillsInplaceSlot (.type "bytearray") "add" (Operator.Add == .Add) = pure false := by
    unfold fillsInplaceSlot
    show (typeLookup (.type "bytearray") (dunderI "add") >>= fun fi => pure (fi.isSome && !isSeqSlot fi)) = pure false
    rw [show typeLookup (.type "bytearray") (dunderI "add") = pure (some (.builtin "bytearray.__iadd__")) from ba_slot_iadd.lookup]
    kernel_rfl
  have hsi : seqSlot? (.type "bytearray") (dunderI "add") = pure (some (.builtin "bytearray.__iadd__")) := PySem.seqSlot_of ba_slot_iadd.lookup (by decide +kernel)
  refine wpG_bind (wpG_any (wpAny_typeOf hT ?_))
  refine wpG_bind (wpG_of_eq hfi ?_)
  show wpG _ A (if false = true then _ else _) Q E s
  refine wpG_if_false rfl ?_
  refine wpG_bind (wpG_any ?_)
  have hb1 : wpAny (model prog w) A (binaryOp1 "add" (.ref D) (.bytes c t)) (fun r s' => r = none ∧ s' = s) E s := by
    unfold binaryOp1
    refine wpAny_bind (wpAny_typeOf hT (wpAny_bind (wpAny_typeOf hTb (wpAny_bind (wpAny_of_eq ba_noFill ?_)))))
    rw [if_neg (by decide)]
    refine wpAny_bind (wpAny_of_eq KBy.noFill_bytes_add ?_)
    show wpAny _ _ (pure none) _ _ _
    exact wpAny_pure ⟨rfl, rfl⟩
  refine wpAny_mono hb1 (fun r s' hr => ?_) fun _ _ e => e
  obtain ⟨rfl, rfl⟩ := hr
  dsimp only
  refine wpG_bind (wpG_of_eq hsi ?_)
  dsimp only
  refine wpG_bind (wpG_any (wpAny_rule ?_))
  refine wpG_call (codeG_call_builtin ba_slot_iadd.plain (by decide +kernel) ba_entry_iadd ?_)
  refine ba_slot_iadd.check _ _ _ _ _ _ _ _ hT (by unfold argsOk; kernel_rfl) ?_
  unfold Builtin.«bytearray.__iadd__»
  refine wpG_bind (wpG_of_eq (a := (Value.ref D, [Value.bytes c t])) rfl ?_)
  dsimp only
  refine wpG_bind (wpG_of_eq take_eq ?_)
  dsimp only
  unfold Bytes.thenGiveBack
  dsimp only
  have tail : wpG (model prog w) A.in1 (do
      let x ← Bytes.payload (.ref D)
      if Bytes.tooLong (x.size + c.size) = true then unsupported "bytearray.__iadd__:memory"
      Bytes.write (.ref D) fun x => x ++ c
      ret (.ref D) : Sem PySem.Fin) (fun fin s' => match fin with | .done f => (match (Except.ok f : Result) with | .ok (.ret v) => Q v s' | .ok _ => False | .error e => E e s') | .again c' => c'.quiet = true ∧ codeG (model prog w) A c' (fun r s' => match r with | .ok (.ret v) => Q v s' | .ok _ => False | .error e => E e s') s') (fun e s' => match (Except.error e : Result) with | .ok (.ret v) => Q v s' | .ok _ => False | .error e => E e s') s' := by
    refine wpG_bind (wpG_any ?_)
    refine wpAny_bind ?_
    show wpAny _ _ (load D >>= _) _ _ _
    refine wpAny_bind (wpAny_load z.1 (wpAny_pure (wpAny_pure ?_)))
    refine wpG_if_false (KBy.tooLong_not hz) ?_
    refine wpG_bind (wpG_any (wpAny_write (f := (· ++ c)) z.1 (by rw [Array.size_append, sizeLine_eq]; exact hz) fun h' hs hD => ?_))
    exact wpG_pure (h h' (F.change hs z.2.1 z.2.2) (news_set N a1 a2 hs hD))
  by_cases hc : (!c.isEmpty) = true
  · rw [if_pos hc]
    refine wpG_if_false rfl ?_
    exact wpG_bind (wpG_checkResize z.1 tail)
  · rw [if_neg hc]
    exact tail
end
end Mine
end PartBb
section PartBc
open PySem PySem.W PyProof.Rows PySem.Calls PySem.Spec
set_option Elab.async false
set_option maxRecDepth 100000
set_option maxHeartbeats 1000000
set_option linter.unusedVariables false
namespace Mine
section
open Builtin
theorem ba_no_bytes : typeLookup (.type "bytearray") "__bytes__" = pure none := by rw [typeLookup_type, builtinLookup_eq_fast]; kernel_rfl
theorem ba_no_index : typeLookup (.type "bytearray") "__index__" = pure none := by rw [typeLookup_type, builtinLookup_eq_fast]; kernel_rfl
theorem ba_look_buffer : typeLookup (.type "bytearray") "__buffer__" = pure (some (.builtin "bytearray.__buffer__")) := by rw [typeLookup_type, builtinLookup_eq_fast]; kernel_rfl
section
variable {M : Model} {A : Around} {E : Value → Shared → Prop} {s : Shared} {D : Addr} {b : Array UInt8}
theorem wpAny_ownBuffer {Q : Bool → Shared → Prop} (ho : s.heap.get? D = some (baOf b)) (h : Q true s) : wpAny M A (Bytes.slotIsOwn (.ref D) "__buffer__") Q E s := by
  unfold Bytes.slotIsOwn
  refine wpAny_bind (wpAny_specialOf (ba_typeIs ho) ba_look_buffer ?_)
  dsimp only
  refine bm_if_false' (by decide +kernel) ?_
  refine wpAny_isInstance (T := "bytearray") (b := true) (ba_typeIs ho) ?_ h
  have e : String.dropRight "bytearray.__buffer__" ("__buffer__".length + 1) = "bytearray" := by decide +kernel
  rw [e]; exact ba_sub
theorem buffer_ba {id : String} {Q : Option (Array UInt8) → Shared → Prop} (ho : s.heap.get? D = some (baOf b)) (h : Q (some b) s) : wpAny M A (Bytes.buffer? id (.ref D) true) Q E s := by
  unfold Bytes.buffer?
  refine wpAny_bind (wpAny_specialOf (ba_typeIs ho) ba_look_buffer ?_)
  refine wpAny_bind (wpAny_ownBuffer ho ?_)
  refine bm_if_false' rfl ?_
  refine wpAny_bind (wpAny_specialOf (ba_typeIs ho) ba_look_buffer ?_)
  dsimp only
  refine wpAny_bind (wpAny_ownRelease ho ?_)
  refine bm_if_false' rfl ?_
  refine wpAny_bind ?_
  refine wpAny_bind ?_
  show wpAny _ _ (load D >>= _) _ _ _
  exact wpAny_bind (wpAny_load ho (wpAny_pure (wpAny_pure (wpAny_pure h))))
end
variable {prog : Program} {w : World} {A : Around} {E : Value → Shared → Prop} {s : Shared} {D : Addr} {b : Array UInt8}
theorem bytes_ba {Q : Value → Shared → Prop} (ho : s.heap.get? D = some (baOf b)) (hz : b.size ≤ 16777216) (h : ∀ t k, Q (.bytes b t) { s with toks := k }) : wpAny (model prog w) A (call (.type "bytes") [.ref D]) Q E s := by
  have hT := ba_typeIs ho
  refine callType_codes (Q₁ := fun obj s₁ => s₁.TypeIs obj "bytes" ∧ Q obj s₁) F.bm_called (F.bm_typeCall _) F.entry_object_init
    ?_ fun obj s₁ h₁ => ⟨h₁.1, F.args_object_init_2 obj _, object_init_meets F.bm_called.init.lookup F.bm_called.made (by decide) prog w A.in1 _ s₁ ⟨h₁.1, rfl, h₁.2⟩⟩
  refine codeAny_of_tree ?_
  show wpAny _ A.in1.in1 (do checkBuiltinCall "bytes.__new__" ⟨[.type "bytes", .ref D], []⟩; again (.builtin "bytes.__new__" ⟨[.type "bytes", .ref D], []⟩)) _ _ s
  refine wpAny_bind (wpAny_of_eq (F.bm_newCall _) (wpAny_pure ⟨plainId_quiet F.bm_plain _, codeAny_builtin F.bm_entry ?_⟩))
  rw [Around.under_plainId F.bm_plain _]
  unfold Builtin.«bytes.__new__»
  refine wpAny_bind (wpAny_of_eq (a := true) rfl ?_)
  refine bm_if_false' rfl ?_
  refine wpAny_bind (wpAny_of_eq F.bm_sub ?_)
  refine bm_if_false' rfl ?_
  refine wpAny_bind (wpAny_of_eq (F.bm_bind _) ?_)
  refine wpAny_bind (wpAny_of_eq (a := ()) rfl ?_)
  refine wpAny_bind (wpAny_of_eq (a := ()) rfl ?_)
  refine bm_if_false' rfl ?_
  refine wpAny_bind (wpAny_specialOf hT ba_no_bytes ?_)
  refine wpAny_bind (wpAny_bind ?_)
  show wpAny _ _ (load D >>= _) _ _ _
  refine wpAny_bind (wpAny_load ho ?_)
  refine wpAny_pure (wpAny_pure ?_)
  refine bm_if_false' rfl ?_
  refine wpAny_bind (wpAny_specialOf hT ba_no_index ?_)
  refine bm_if_true' rfl ?_
  first
    | show wpAny _ _ (Bytes.buffer? "bytes.__new__" (.ref D) true >>= _) _ _ _
    | (refine wpAny_bind ?_; show wpAny _ _ (Bytes.buffer? "bytes.__new__" (.ref D) true >>= _) _ _ _)
  refine wpAny_bind (buffer_ba ho ?_)
  refine wpAny_bind (wpAny_rule ?_)
  refine wpAny_bind (wpAny_mkBytes ?_ (by rw [sizeLine_eq]; exact hz))
  show wpAny _ _ (if (Value.type "bytes" == Value.type "bytes") = true then _ else _) _ _ _
  refine bm_if_true' (by decide) ?_
  exact wpAny_pure ⟨typeIs_bytes _ _ _, h _ _⟩
end
end Mine
end PartBc
section PartLoop
open PySem PySem.W PyProof.Rows PySem.Calls PySem.Spec
set_option Elab.async false
set_option maxRecDepth 100000
set_option maxHeartbeats 1000000
set_option linter.unusedVariables false
namespace Mine
section
variable {prog : Program} {w : World} {A : Around} {E : Value → Shared → Prop} {s : Shared} {env : Env} {h₀ : Heap} {L : Addr} {m0 : Str → Option Value} {nw0 : List (Addr × Obj)}
theorem forBytesG {x : Str} {px : Pos} {body : List Stmt} {pb : Array UInt8} {t : Tok} {ks : List Int} {Q : Flow → Shared → Prop} (J : Nat → List (Addr × Obj) → Prop)
    (hh : A.handled = none) (hks : KBw.bInts pb = ks) (hloc : env.locals = L) (hkx : env.kindOf x = some .local) (hcls : (env.scope.kind == .class || (env.scope.kind == .module && env.locals != env.globals)) = false)
    (F : Fr h₀ L s.heap m0) (N : News h₀ L s.heap nw0) (J0 : J 0 nw0)
    (turn : ∀ (i : Nat) (k : Int) (u : Tok) (I : Addr) (oI : Obj) nw h tk (E' : Value → Shared → Prop) (Qn : Shared → Prop) (Qb : Shared → Prop) (Qr : Value → Shared → Prop), ks[i]? = some k → J i nw → Fr h₀ L h (fun y => if y = x then some (.int k u) else m0 y) → News h₀ L h ((I, oI) :: nw) → (∀ p ∈ nw, @Ne Nat p.1 I) →
      (∀ h' tk' nw' ov m', m' = (fun y => if y = x then ov else m0 y) → J (i + 1) nw' → Fr h₀ L h' m' → News h₀ L h' ((I, oI) :: nw') → (∀ p ∈ nw', @Ne Nat p.1 I) → Qn { s with heap := h', toks := tk' }) →
      wpG (model prog w) A (execs body env) (fun f s' => match f with | .next | .cont => Qn s' | .brk => Qb s' | .ret v => Qr v s') E' { s with heap := h, toks := tk })
    (done : ∀ h tk nw ov, J ks.length nw → Fr h₀ L h (fun y => if y = x then ov else m0 y) → News h₀ L h nw → Q .next { s with heap := h, toks := tk }) :
    wpAny (model prog w) A (pyIter (.bytes pb t)) (fun it s₂ => codeG (model prog w) A (.forLoop (.Name x px) it body [] env) (fun r s' => match r with | .ok f => Q f s' | .error e => cameBackBy (model prog w) A env E e s') s₂) E s := by
  subst hloc
  have hlen : ks.length = pb.size := by rw [← hks]; exact KBw.ints_length pb
  refine KBw.pyIter_bytes ?_
  have hIL : @Ne Nat s.heap.objs.size env.locals := fun e => Nat.lt_irrefl _ (e ▸ F.ns.lt)
  have hI0 := next_is_new F
  have key : ∀ b o, s.heap.get? b = some o → (s.heap.push { cls := .type "bytes_iterator", data := .fields #[.bytes pb t, .int 0 0] }).get? b = some o := fun b o e => Heap.get?_push_of_some _ e
  have hm0 : (fun y => if y = x then m0 x else m0 y) = m0 := by funext y; by_cases hy : y = x <;> simp [hy]
  refine codeG_forLoop (fun k s' => ∃ h' tk i oI nw ov, s' = { s with heap := h', toks := tk } ∧ i ≤ ks.length ∧ k = ks.length + 1 - i ∧ KBw.IsBytesIter h' s.heap.objs.size pb t i ∧ h'.get? s.heap.objs.size = some oI ∧ Fr h₀ env.locals h' (fun y => if y = x then ov else m0 y) ∧
    News h₀ env.locals h' nw ∧ (∀ p ∈ nw, @Ne Nat p.1 s.heap.objs.size) ∧ J i nw) ?_ (ks.length + 1) ⟨_, _, 0, _, nw0, m0 x, rfl, Nat.zero_le _, rfl, ⟨_, Heap.get?_push_size _ rfl, rfl, rfl⟩, Heap.get?_push_size _ rfl, by rw [hm0]; exact F.keeps key, fun p hp => ⟨key _ _ (N p hp).1, (N p hp).2⟩, fun p hp => Nat.ne_of_lt (Heap.lt_size (N p hp).1), J0⟩
  rintro k s' ⟨h', tk, i, oI, nw, ov, rfl, hi, rfl, hit, hoI, F', N', off, hJ⟩
  by_cases hlt : i < ks.length
  · obtain ⟨c, hc⟩ : ∃ c, pb[i]? = some c := ⟨_, Array.getElem?_eq_getElem (by omega)⟩
    refine KBw.next_item hit hc fun h1 hit1 hs1 => ?_
    have F1 := F'.change hs1 hIL hI0
    refine wpAny_assign_Name (wpAny_storeName_local hkx F1.ns (fun h2 hn2 hs2 => ?_) hcls)
    have hL0 : h₀.get? env.locals = none := Heap.get?_none_of_le F1.above
    have F2 : Fr h₀ env.locals h2 (fun z => if z = x then some (Value.int (c.toNat : Int) tk) else if z = x then ov else m0 z) :=
      ⟨hn2, fun b o e => hs2.extBut b o (fun q => by rw [q, hL0] at e; cases e) (F1.keep b o e), F1.above⟩
    have F3 : Fr h₀ env.locals h2 (fun z => if z = x then some (Value.int (c.toNat : Int) tk) else m0 z) := by
      have e : (fun z => if z = x then some (Value.int (c.toNat : Int) tk) else if z = x then ov else m0 z) = (fun z => if z = x then some (Value.int (c.toNat : Int) tk) else m0 z) := by
        funext z; by_cases hz : z = x <;> simp [hz]
      rw [← e]; exact F2
    obtain ⟨oI1, heI1, hcI1, hdI1⟩ := hit1
    have heI2 : h2.get? s.heap.objs.size = some oI1 := hs2.extBut _ _ hIL heI1
    have N2 : News h₀ env.locals h2 ((s.heap.objs.size, oI1) :: nw) := fun p hp => by
      rcases List.mem_cons.mp hp with rfl | hp
      · exact ⟨heI2, hIL, hI0⟩
      · have z := N' p hp
        exact ⟨hs2.extBut _ _ z.2.1 (hs1.extBut _ _ (off p hp) z.1), z.2⟩
    have hk : ks[i]? = some (c.toNat : Int) := hks ▸ KBw.ints_get hc
    refine wpG_mono (turn i _ tk s.heap.objs.size oI1 nw h2 _ _ (fun s' => ∃ m, m < ks.length + 1 - i ∧ ∃ h' tk i oI nw ov, s' = { s with heap := h', toks := tk } ∧ i ≤ ks.length ∧ m = ks.length + 1 - i ∧ KBw.IsBytesIter h' s.heap.objs.size pb t i ∧ h'.get? s.heap.objs.size = some oI ∧ Fr h₀ env.locals h' (fun y => if y = x then ov else m0 y) ∧
      News h₀ env.locals h' nw ∧ (∀ p ∈ nw, @Ne Nat p.1 s.heap.objs.size) ∧ J i nw) (fun s' => Q .next s') (fun v s' => Q (.ret v) s') hk hJ F3 N2 off ?_) (fun f s' hf => ?_) (fun e s' he => he)
    · intro h' tk' nw' ov' m' hm' hJ' F' N' off'
      subst hm'
      exact ⟨ks.length + 1 - (i + 1), by omega, h', tk', i + 1, oI1, nw', ov', rfl, by omega, rfl, ⟨oI1, (N' _ (.head _)).1, hcI1, hdI1⟩, (N' _ (.head _)).1, F', fun p hp => N' p (.tail _ hp), off', hJ'⟩
    · cases f <;> exact hf
  · obtain rfl : i = ks.length := by omega
    refine KBw.next_end hh hit (by simp; omega) fun h1 he1 => ?_
    refine done h1 tk nw ov hJ ⟨F'.ns.at' fun o e => he1 _ _ (Ne.symm hIL) e, fun b o e => he1 _ _ (fun q => by rw [q, hI0] at e; cases e) (F'.keep b o e), F'.above⟩ fun p hp => ⟨he1 _ _ (off p hp) (N' p hp).1, (N' p hp).2⟩
theorem plainAttrs_ba : PlainAttrs "bytearray" :=
  ⟨⟨"bytearray.__getattribute__", by rw [typeLookup_type, builtinLookup_eq_fast]; kernel_rfl, by decide +kernel⟩, by rw [typeLookup_type, builtinLookup_eq_fast]; kernel_rfl⟩
theorem method_append {M : Model} {D : Addr} {b : Array UInt8} {pl : Sem Bool} {Q : Value × List Value → Shared → Prop} (ho : s.heap.get? D = some (baOf b)) (h : Q (.builtin "bytearray.append", [.ref D]) s) :
    wpAny M A (getMethod (.ref D) "append" pl) Q E s := by
  refine getMethod_builtin (T := "bytearray") (ba_typeIs ho) plainAttrs_ba ba_slot_append ba_type_append ?_ h
  intro a e
  injection e with e
  subst e
  exact ⟨_, ho, rfl⟩
end
end Mine
end PartLoop
section PartPairs
open PySem PySem.W PyProof.Rows PySem.Calls PySem.Spec
set_option Elab.async false
set_option maxRecDepth 100000
set_option maxHeartbeats 1000000
set_option linter.unusedVariables false
namespace Mine
section
variable {prog : Program} {w : World} {A : Around} {E : Value → Shared → Prop} {s : Shared}
theorem keys_miss : typeLookup (.type "list") "keys" = pure none := am_miss_of_fast (by kernel_rfl)
theorem list_no_keys {a : Addr} {xs : Array Value} {k : Nat} {Q : Option Value → Shared → Prop} (hx : s.heap.get? a = some { cls := .type "list", data := .seq xs k }) (hA : A.handled = none)
    (h : ∀ h' tk, (∀ b o, s.heap.get? b = some o → h'.get? b = some o) → Q none { s with heap := h', toks := tk }) : wpAny (model prog w) A (getAttr? (.ref a) "keys") Q E s := by
  obtain ⟨hp, g, d, tk, os⟩ := s
  have hT : ∀ tk', (⟨hp, g, d, tk', os⟩ : Shared).TypeIs (.ref a) "list" := fun _ => ⟨_, hx, rfl⟩
  have f1 := sub_AttributeError
  have f3 := F.slot_list_getattribute.lookup
  have f4 := F.slot_list_getattribute.bind (.ref a)
  have f5 := am_list_getattr_none
  unfold getAttr? getAttrBy? getAttrBy
  repeat (any_goals (first | assumption | exact hT _ | ((with_reducible show wpAny _ _ (call (Value.builtin "list.__getattribute__") _ _) _ _ _); refine call_meets F.slot_list_getattribute (hT _) am_entry_list_getattribute (F.args_list_getattribute_2 _ _) (meets_getattribute_miss_list a xs k #[] "keys" _ keys_miss (by decide +kernel) (by decide +kernel)) ⟨hx, hA, fun h' tk' e hx' => ?_⟩) | wp_step))
  obtain ⟨t', u', he⟩ := hx'.there
  have hq := hx'.keeps
  show wpAny _ _ (getattributeRaised _ _ _ _ _ _ _) _ _ _
  unfold getattributeRaised
  repeat (any_goals (first | assumption | wp_step))
  exact h _ _ hq
abbrev tup2 (k : Int) (t : Tok) (v : Value) : Obj := { cls := .type "tuple", data := .seq #[.int k t, v] }
theorem upd_entry : entryFor table "dict.update.loop" = some Builtin.«dict.update.loop» := by first | exact entryFor_of_fast (by kernel_rfl) | exact entryFor_of_tree (by kernel_rfl)
theorem upd_plain : plainId "dict.update.loop" = true := by decide +kernel
theorem stored_new {kvs : List (Int × Value)} {k : Int} {v : Value} (h : k ∉ kvs.map (·.1)) : PySem.stored kvs k v = kvs ++ [(k, v)] := by
  unfold PySem.stored
  rw [if_neg]
  simp only [List.any_eq_true, decide_eq_true_eq, not_exists, not_and]
  intro p hp e
  exact h (List.mem_map.mpr ⟨p, hp, e⟩)
theorem upd_loop {R : Result → Shared → Prop} {d I D : Addr} {ys : List Value} {kvs : List (Int × Value)} (hh : A.handled = none) (hlen : ys.length = kvs.length) (hnd : (kvs.map (·.1)).Nodup) (hz : kvs.length ≤ 1000) (hDI : D ≠ I) (hDd : D ≠ d) (hId : I ≠ d) :
    ∀ (j i : Nat) (s : Shared), kvs.length - i = j → i ≤ kvs.length → s.heap.IsList D ys.toArray →
      (∀ i, i < kvs.length → ∃ a k t v, ys[i]? = some (.ref a) ∧ kvs[i]? = some (k, v) ∧ s.heap.get? a = some (tup2 k t v) ∧ a ≠ I ∧ a ≠ d) →
      s.heap.IsListIter I D i → s.heap.DictOf (PySem.intKind prog w) d (kvs.take i) →
      (∀ h' tk', h'.DictOf (PySem.intKind prog w) d kvs → (∀ b o, b ≠ I → b ≠ d → s.heap.get? b = some o → h'.get? b = some o) → R (.ok (.ret .none)) { s with heap := h', toks := tk' }) →
      codeAny (model prog w) A (.builtin "dict.update.loop" ⟨[.ref d, .ref I, rawInt i, .none], []⟩) R s := by
  intro j
  induction j with
  | zero =>
    intro i s hj hi hl ht hit hd hR
    obtain rfl : i = kvs.length := by omega
    refine codeAny_builtin upd_entry ?_
    rw [Around.under_plainId upd_plain _]
    show wpAny _ A.in1 (pyNext (.ref I) >>= _) _ _ s
    refine wpAny_bind (wpAny_pyNext_list_end hh hit hl (by simp [hlen]) fun h' he => ?_)
    rw [List.take_length] at hd
    have hd' : h'.DictOf (PySem.intKind prog w) d kvs := by
      obtain ⟨o, es, ep, ho, r⟩ := hd
      exact ⟨o, es, ep, he d o (Ne.symm hId) ho, r⟩
    refine wpAny_bind (wpAny_of_eq (a := ()) rfl ?_)
    exact wpAny_pure (hR h' s.toks hd' fun b o hb _ e => he b o hb e)
  | succ j ih =>
    intro i s hj hi hl ht hit hd hR
    have hlt : i < kvs.length := by omega
    obtain ⟨a, k, t, v, hy, hk, hta, haI, had⟩ := ht i hlt
    refine codeAny_builtin upd_entry ?_
    rw [Around.under_plainId upd_plain _]
    show wpAny _ A.in1 (pyNext (.ref I) >>= _) _ _ s
    refine wpAny_bind (wpAny_pyNext_list_item (x := .ref a) hit hl (by simpa using hy) fun h' hit' hs => ?_)
    have hta' : h'.get? a = some (tup2 k t v) := (hs.2 a haI).trans hta
    refine wpAny_bind (wpAny_holding ?_)
    refine wpAny_bind (wpAny_tryCatch ?_)
    unfold Builtin.Dict.pairItems
    refine wpAny_bind (wpAny_typeOf (T := "tuple") ⟨_, hta', rfl⟩ ?_)
    refine bm_if_true' (by decide) ?_
    refine wpAny_bind (wpAny_seqItems hta' rfl ?_)
    refine wpAny_pure ?_
    have hd' : h'.DictOf (PySem.intKind prog w) d (kvs.take i) := by
      obtain ⟨o, es, ep, ho, r⟩ := hd
      exact ⟨o, es, ep, (hs.2 d (Ne.symm hId)).trans ho, r⟩
    have htk : kvs.take (i + 1) = kvs.take i ++ [(k, v)] := by rw [List.take_add_one, hk]; rfl
    have hkn : k ∉ (kvs.take i).map (·.1) := by
      have e : (kvs.take (i + 1)).map (·.1) = (kvs.take i).map (·.1) ++ [k] := by rw [htk]; simp
      have hn : ((kvs.take (i + 1)).map (·.1)).Nodup := hnd.sublist ((List.take_sublist _ _).map _)
      rw [e, List.nodup_append] at hn
      exact fun hm => hn.2.2 k hm k (List.mem_singleton.mpr rfl) rfl
    refine wpAny_holding (wpAny_dictSet_pairs (knd := PySem.intKind prog w) (k := k) (by simp [PySem.intKind, Value.isInt]) hd' (fun h2 hd2 hs2 => ?_) (by rw [List.length_take, sizeLine_eq]; omega))
    rw [stored_new hkn, ← htk] at hd2
    refine wpAny_pure ⟨plainId_quiet upd_plain _, ?_⟩
    have key : ∀ b o, b ≠ I → b ≠ d → s.heap.get? b = some o → h2.get? b = some o := fun b o h1 h2' e => (hs2.2 b h2').trans ((hs.2 b h1).trans e)
    refine ih (i + 1) { s with heap := h2, toks := s.toks + 1 } (by omega) hlt ?_ ?_ ?_ hd2 ?_
    · obtain ⟨o, e, r⟩ := hl; exact ⟨o, key D o hDI hDd e, r⟩
    · intro i' hi'
      obtain ⟨a, k, t, v, q1, q2, q3, q4, q5⟩ := ht i' hi'
      exact ⟨a, k, t, v, q1, q2, key a _ q4 q5 q3, q4, q5⟩
    · obtain ⟨o, e, r⟩ := hit'; exact ⟨o, (hs2.2 I hId).trans e, r⟩
    · exact fun h3 tk3 hd3 hk3 => hR h3 tk3 hd3 fun b o h1 h2' e => hk3 b o h1 h2' (key b o h1 h2' e)
theorem dict_pairs {h₀ : Heap} {L D : Addr} {m : Str → Option Value} {news : List (Addr × Obj)} {ys : List Value} {n : Nat} {kvs : List (Int × Value)} {Q : Value → Shared → Prop} (F : Fr h₀ L s.heap m) (N : News h₀ L s.heap news) (hA : A.handled = none) (hbig : sysModules < h₀.objs.size)
    (hm : (D, ({ cls := .type "list", data := .seq ys.toArray n } : Obj)) ∈ news) (hlen : ys.length = kvs.length) (hnd : (kvs.map (·.1)).Nodup) (hz : kvs.length ≤ 1000)
    (ht : ∀ i, i < kvs.length → ∃ a k t v, ys[i]? = some (.ref a) ∧ kvs[i]? = some (k, v) ∧ (a, tup2 k t v) ∈ news)
    (h : ∀ d o h' tk', Fr h₀ L h' m → News h₀ L h' ((d, o) :: news) → (∀ p ∈ news, p.1 < d) → (d == sysModules) = false → o.IsDictOf (PySem.intKind prog w) kvs → Q (.ref d) { s with heap := h', toks := tk' }) :
    wpAny (model prog w) A (call (.type "dict") [.ref D]) Q E s := by
  have hD := (N _ hm).1
  have hDlt : D < s.heap.objs.size := Heap.lt_size hD
  refine callType_codes (Q₁ := fun obj s₁ => obj = .ref s.heap.objs.size ∧ s₁ = { s with heap := s.heap.push { cls := .type "dict", data := .dict #[] } }) PySem.F.kt_called_dict (PySem.F.kt_typeCall_dict_1 _) PySem.F.entry_dict_init (kt_code_dict_new _ ⟨rfl, rfl⟩) ?_
  rintro obj s₁ ⟨rfl, rfl⟩
  have hnew : (s.heap.push { cls := .type "dict", data := .dict #[] }).DictOf (PySem.intKind prog w) s.heap.objs.size [] := Heap.DictOf.new s.heap
  refine ⟨hnew.typeIs, PySem.F.args_dict_init_2 _ _, ?_⟩
  unfold Builtin.«dict.__init__»
  refine wpAny_bind ?_
  unfold Builtin.Dict.selfAndRest
  refine wpAny_bind (wpAny_notOrdered_dict hnew.typeIs ?_)
  show wpAny _ _ (pure (s.heap.objs.size, [Value.ref D])) _ _ _
  refine wpAny_pure ?_
  show wpAny _ _ (Builtin.Dict.updateFrom "dict.__init__" s.heap.objs.size (.ref D) [] .none) _ _ _
  unfold Builtin.Dict.updateFrom
  have hD1 : (s.heap.push { cls := .type "dict", data := .dict #[] }).get? D = some { cls := .type "list", data := .seq ys.toArray n } := Heap.get?_push_of_some _ hD
  refine wpAny_bind (wpAny_typeOf (T := "list") ⟨_, hD1, rfl⟩ ?_)
  refine bm_if_true' (by decide) ?_
  refine wpAny_bind (list_no_keys (k := n) hD1 hA fun h1 tk1 hk1 => ?_)
  refine bm_if_true' rfl ?_
  refine wpAny_bind (wpAny_rule ?_)
  have hD2 : h1.get? D = some { cls := .type "list", data := .seq ys.toArray n } := hk1 _ _ hD1
  refine wpAny_bind (wpAny_pyIter_list (s := { s with heap := h1, toks := tk1 }) ⟨_, hD2, rfl, n, rfl⟩ ?_)
  have hd1 : h1.DictOf (PySem.intKind prog w) s.heap.objs.size [] := hnew.keep hk1
  have hsz1 : s.heap.objs.size < h1.objs.size := by
    obtain ⟨o, _, _, e, _⟩ := hd1; exact Heap.lt_size e
  have up : ∀ b o, s.heap.get? b = some o → (h1.push { cls := .type "list_iterator", data := .fields #[.ref D, .int 0 0] }).get? b = some o := fun b o e => Heap.get?_push_of_some _ (hk1 _ _ (Heap.get?_push_of_some _ e))
  have loop := upd_loop (prog := prog) (w := w) (A := A.in1) (R := wants (fun r s₂ => r = .none ∧ Q (.ref s.heap.objs.size) s₂) E) (d := s.heap.objs.size) (I := h1.objs.size) (D := D) (ys := ys) (kvs := kvs) hA hlen hnd hz
    (Nat.ne_of_lt (Nat.lt_trans hDlt hsz1)) (Nat.ne_of_lt hDlt) (Nat.ne_of_gt hsz1) kvs.length 0 { s with heap := h1.push { cls := .type "list_iterator", data := .fields #[.ref D, .int 0 0] }, toks := tk1 } (Nat.sub_zero _) (Nat.zero_le _)
    ⟨_, up _ _ hD, rfl, n, rfl⟩ (fun i hi => by
      obtain ⟨a, k, t, v, q1, q2, q3⟩ := ht i hi
      have z := (N _ q3).1
      exact ⟨a, k, t, v, q1, q2, up _ _ z, Nat.ne_of_lt (Nat.lt_trans (Heap.lt_size z) hsz1), Nat.ne_of_lt (Heap.lt_size z)⟩) ⟨_, Heap.get?_push_size _ rfl, rfl, rfl⟩ (by rw [List.take_zero]; exact hd1.push _)
    (fun h' tk' hd' hk' => by
      have keep : ∀ b o, s.heap.get? b = some o → h'.get? b = some o := fun b o e => hk' b o (Nat.ne_of_lt (Nat.lt_trans (Heap.lt_size e) hsz1)) (Nat.ne_of_lt (Heap.lt_size e)) (up b o e)
      obtain ⟨o, ho, hdo⟩ := Heap.dictOf_iff.mp hd'
      refine ⟨rfl, h _ o h' tk' (F.keeps keep) (fun p hp => ?_) (fun p hp => Heap.lt_size (N p hp).1) (F.notModules hbig) hdo⟩
      rcases List.mem_cons.mp hp with rfl | hp
      · exact ⟨ho, fun e => Nat.lt_irrefl _ (e ▸ F.ns.lt), next_is_new F⟩
      · exact ⟨keep _ _ (N p hp).1, (N p hp).2⟩)
  exact wpAny_pure ⟨plainId_quiet upd_plain _, loop⟩
section
open PyProof.Rows.LCg
variable {h₀ : Heap} {L : Addr} {m : Str → Option Value} {env : Env}
theorem comp_inv {elt : PySem.Expr} {x : Str} {scope : Scope} {cl : List (Str × Addr)} {P : Nat → Value → Prop} {Fin : List Value → List (Addr × Obj) → Prop} {n : Nat} (ks : List Int) (hlen : ks.length = n)
    (hP : ∀ i v, i < n → P i v → ∃ k t, ks[i]? = some k ∧ v = .int k t) (S : List (Addr × Obj) → Prop) (hS : ∀ nw, S nw) (J : Nat → List Value → List (Addr × Obj) → Prop)
    (turn : ∀ (i : Nat) (k : Int) (t : Tok) I oI C oC D ys nw m₂ h tk (E' : Value → Shared → Prop) (Qv : Value → Shared → Prop), J i ys nw → i < n → ks[i]? = some k → NsObj oC m₂ → m₂ x = some (.int k t) → Fr h₀ L h m → News h₀ L h ((I, oI) :: (C, oC) :: (D, lst ys) :: nw) → Off3 I C D nw → ((@Ne Nat I C) ∧ (@Ne Nat I D) ∧ (@Ne Nat C D)) →
      (∀ y h' tk' nw', J (i + 1) (ys ++ [y]) nw' → Fr h₀ L h' m → News h₀ L h' ((I, oI) :: (C, oC) :: (D, lst ys) :: nw') → Off3 I C D nw' → Qv y { s with heap := h', toks := tk' }) →
      wpAny (model prog w) A (eval elt (compEnvC scope cl C env)) Qv E' { s with heap := h, toks := tk })
    (fin : ∀ ys nw, J n ys nw → Fin ys nw) :
    ∀ (j i : Nat) (ys : List Value) (nw : List (Addr × Obj)), i + j = n → J i ys nw → CompRest prog w A h₀ L m env elt x scope cl s S P Fin j i ys nw
  | 0, i, ys, nw, hi, hJ => by
    obtain rfl : i = n := by omega
    exact CompRest.zero (fin ys nw hJ)
  | j + 1, i, ys, nw, hi, hJ => by
    refine CompRest.succ fun v I oI C oC D m₂ h tk E' hv hC hx F N off ne => ?_
    obtain ⟨k, t, hk, rfl⟩ := hP i v (by omega) hv
    refine turn i k t I oI C oC D ys nw m₂ h tk E' _ hJ (by omega) hk hC hx F N off ne fun y h' tk' nw' hJ' F' N' off' => ?_
    exact ⟨h', tk', nw', rfl, F', N', off', hS nw', comp_inv ks hlen hP S hS J turn fin j (i + 1) _ nw' (by omega) hJ'⟩
noncomputable def SrcD (prog : Program) (w : World) (A : Around) (h₀ : Heap) (L : Addr) (m : Str → Option Value) (env : Env) (elt : PySem.Expr) (x : Str) (scope : Scope) (cl : List (Str × Addr)) (Fin : Shared → List Value → List (Addr × Obj) → Prop) (xv : Value) (s₁ : Shared) : Prop :=
  ∃ d kvs ep nw, xv = .ref d ∧ A.handled = none ∧ (d == sysModules) = false ∧ h₀.DictAt (PySem.intKind prog w) d kvs ep ∧ Fr h₀ L s₁.heap m ∧ News h₀ L s₁.heap nw ∧ kvs.length ≤ sizeLine ∧
    ∀ g : Heap, CompRest prog w A h₀ L m env elt x scope cl { s₁ with heap := g } (fun _ => True) (fun i v => ∃ k x, kvs[i]? = some (k, x) ∧ Value.isInt k v = true) (Fin { s₁ with heap := g }) kvs.length 0 [] nw
theorem ListComp_D {elt iter : PySem.Expr} {x : Str} {px : Pos} {scope : Scope} {cl : List (Str × Addr)} {pos : Pos} {Q : Value → Shared → Prop} (F₀ : Fr h₀ L s.heap m)
    (hclos : closureFor scope env = pure cl) (hcell : ∀ y ∈ scope.names, y.2 ≠ .cell) (hkind : scope.kind = .function)
    (hnames : ∀ y ∈ scope.names, y.2 = .local → scope.names.lookup y.1 = some .local) (hx : scope.names.lookup x = some .local)
    (h : wpAny (model prog w) A (eval iter env) (SrcD prog w A h₀ L m env elt x scope cl (fun s₂ => FinE h₀ L m s₂ Q)) E s)
    (hs : ∀ x, foldedSetIterable iter env x = pure x := by intro _; rfl) :
    wpAny (model prog w) A (eval (.ListComp elt [⟨.Name x px, iter, [], 0⟩] scope pos) env) Q E s := by
  rw [eval_ListComp]
  refine wpAny_comprehension_free (use := none) rfl hs hclos hkind hnames (wpAny_mono h (fun xv s₁ h₁ => ?_) fun _ _ e => e)
  obtain ⟨d, kvs, ep, nw, rfl, hh, lo, hat, F, N, hz, R⟩ := h₁
  have hat1 : s₁.heap.DictAt (PySem.intKind prog w) d kvs ep := hat.at' fun o e => F.keep _ _ e
  have hdlt : d < s₁.heap.objs.size := by obtain ⟨o, _, e, _⟩ := hat1; exact Heap.lt_size e
  refine wpAny_pyIter_dict lo hat1 ?_
  have up : ∀ b o, s₁.heap.get? b = some o → (s₁.heap.push { cls := .type "dict_keyiterator", data := .fields #[.ref d, .int 0 0, .int kvs.length 0, .int ep 0] }).get? b = some o := fun b o e => Heap.get?_push_of_some _ e
  refine block_U (Walks.dictKeys (knd := PySem.intKind prog w) hh s₁.heap.objs.size d (Nat.ne_of_lt hdlt) kvs ep) hz (fun i h st => by obtain ⟨o, e, _⟩ := st.1; exact ⟨o, e⟩)
    (fun i h h' o nw st e e' k N S => ⟨by obtain ⟨o', q, r⟩ := st.1; rw [e] at q; cases q; exact ⟨o, e', r⟩, hat.at' fun o e => k _ _ e⟩) hcell hkind hx ⟨⟨_, Heap.get?_push_size _ rfl, rfl, rfl⟩, hat1.at' fun o e => up _ _ e⟩ (fun b hb => ?_)
    (F.keeps up) (N.grown up) (Nat.ne_of_lt F.ns.lt) (next_is_new F) (fun p hp => Nat.ne_of_lt (Heap.lt_size (N p hp).1)) trivial (R _) ?_
  · show b < (s₁.heap.push _).objs.size
    rw [Heap.size_push]
    rcases List.mem_cons.mp hb with rfl | hb
    · exact Nat.lt_succ_self _
    · rw [List.mem_singleton.mp hb]; exact Nat.lt_succ_of_lt hdlt
  · intro D C h' tk m' ys news' F' N' o1 hn hC₀ hD₀ hCL hDL hCD offC fin
    refine ⟨m', hn, fun h'' hs'' => fin D h'' tk (F'.change hs'' hCL hC₀) (fun p hp => ?_) o1⟩
    refine ⟨hs''.extBut _ _ ?_ (N' p hp).1, (N' p hp).2⟩
    rcases List.mem_cons.mp hp with rfl | hp
    · exact Ne.symm hCD
    · exact offC p hp
end
end
end Mine
end PartPairs
set_option maxRecDepth 100000
set_option maxHeartbeats 8000000
set_option rowWalk.seconds 0
open PySem PySem.W PyProof.Rows PySem.Calls PySem.Spec
namespace Mine
local macro_rules | `(tactic| units_room) => `(tactic| ktr_units)
local macro_rules | `(tactic| k_units) => `(tactic| ktr_units)
local macro_rules | `(tactic| k_room) => `(tactic| ktr_room)
local macro_rules | `(tactic| size_fits) => `(tactic| with_reducible assumption)
local macro_rules | `(tactic| walk_at $s:str) => `(tactic| k_extra $s)
local macro_rules | `(tactic| k_ne) => `(tactic| (refine neN ?_; (try dsimp only); first | assumption | exact Ne.symm (by assumption)))
theorem room_lt {a b c d : Nat} (h : a + b < c) (h2 : d ≤ b) : a + d < c := Nat.lt_of_le_of_lt (Nat.add_le_add_left h2 a) h
local macro_rules | `(tactic| ktr_room) => `(tactic| ((try simp only [depth_deeper, units_deeper, units_in1, depth_in1, Around.mark_units, ktrTop, Nat.add_assoc, Nat.reduceAdd]); (refine room_lt ?_ ?_; assumption; decide)))
local macro_rules | `(tactic| ktr_units) => `(tactic| ((try simp only [depth_deeper, units_deeper, units_in1, depth_in1, Around.mark_units, ktrTop, Nat.add_assoc, Nat.reduceAdd]); (refine room_lt ?_ ?_; assumption; decide)))
section PartC1
theorem off_C1 : True := by
  w_top off
  k_with_none
  k_with "LeaveK" => (with_reducible show LeaveK _ _ _ _ _ _ _; (rename GSub _ _ _ => zqkG'); (refine leaveS (by k_asm) zqkG' ?_); clear zqkG'; intro zqkE'; walk_say "KEEPS")
  trivial
theorem fill_now (w : World) (h₀ : Heap) (hX : (hd.heap_39 w.params).In h₀) : (hd.heap_39 w.params).In h₀ ∧ PySem.Challenge.rw_pb0084_01 = PySem.Challenge.rw_pb0084_01 := by
  k_fill
  exact ⟨hX, rfl⟩
section
variable {w : World} {mg mb : Str → Option Value} {mean : ExcName → Option Value} {dp un : Nat} {gd : Option (List Code)} {cn : Str} {cs : Scope} {L a : Addr} {ccd : Value} {cl : List (Str × Addr)} {outer : List Env} {A₀ : Around} {base h₀ : Heap} {m : Str → Option Value} {s : Shared} {Q E : Value → Shared → Prop} {news : List (Addr × Obj)}

theorem getLast_in {ns : List Int} {P : Int → Prop} (h : ns ≠ []) (hp : ∀ x ∈ ns, P x) : P (ns.getLastD 0) := by
  cases ns with
  | nil => exact absurd rfl h
  | cons x r => rw [List.getLastD_cons]; rw [← List.getLast_eq_getLastD (by simp)]; exact hp _ (List.getLast_mem _)
theorem draw_core (B : Below A₀ base outer h₀) (F : Fr h₀ L s.heap m) (X : (hd.heap_39 w.params).In h₀) (T : Top hd.view_39 LS mean mg mb h₀) (hk : cs.kind = .function) (hdp : dp + 20 < recursionLimit) (hun : un + 500 < cLine)
    {d c : Addr} {o : Obj} {cells : List Value} {ns : List Int} {n : Nat} {mx tn below : Int} {t1 t2 tb : Tok} 
    (N : News h₀ L s.heap [(d, o), (c, listOf cells.toArray n)]) (lo : (d == sysModules) = false) (hne : @Ne Nat d c)
    (hD : o.IsDictOf (PySem.strKind PR w) [(Str.ofString "cells", Value.ref c), (Str.ofString "mixed", Value.int mx t1), (Str.ofString "turn", Value.int tn t2)])
    (hI : IntsAre cells ns) (hlen : ns.length ≤ 20) (hp : ∀ x ∈ ns, 0 ≤ x ∧ x < 10 ^ 40) (hn0 : 0 ≤ tn) (hn1 : tn < 1000000) (hb0 : 0 < below) (hb1 : below < 1000000)
    (hret : ∀ (r : Int) (t : Tok) (h' : Heap) (tk' : Nat) (o' : Obj) (cells' : List Value) (n' : Nat) (ns' : List Int) (t2' : Tok), Fr h₀ L h' m → News h₀ L h' [(d, o'), (c, listOf cells'.toArray n')] → KeepBut s.heap h' [d, c] →
      o'.IsDictOf (PySem.strKind PR w) [(Str.ofString "cells", Value.ref c), (Str.ofString "mixed", Value.int mx t1), (Str.ofString "turn", Value.int (tn + 1) t2')] → IntsAre cells' ns' → ns'.length ≤ 20 → (∀ x ∈ ns', 0 ≤ x ∧ x < 10 ^ 40) → 0 ≤ r → r < below →
      Q (.int r t) { s with heap := h', toks := tk' }) :
    wpAny (model PR w) (ktrTop dp un gd cn cs L a ccd cl outer) (call (.ref 98) [.ref d, .int below tb]) Q E s := by
  have hcl := hI.length
  by_cases hz : ns = []
  · refine wpAny_call ?_
    k_dflt (refine' code_defG ?k1 ?k2 ?k3 ?k4 ?k5 ?kA ?kF ?kK ?k6 ?k7 ?k8 ?k9 ?kB ?_ ?c2 ?c3 ?c4 ?c5; (case kA => exact rfl); (case kF => exact rfl); (case kK => assumption); (case k1 => k_asm); (case k2 => k_asm); (case k3 => k_asm); (case k4 => k_asm); (case k5 => k_asm); (case k6 => k_is); (case k7 => k_is); (case k8 => ktr_room); (case k9 => exact BindsTo.of_eq rfl); (case c5 => decide); (case kB => exact locs rfl); (case c2 => exact rfl); (case c3 => exact rfl); (case c4 => exact rfl); k_whole; intro g' L' h' FG' F' N' B' X' T' kG'; (try dsimp only); (try k_fold))
    k_steps
    exact hret _ _ _ _ _ cells _ ns _ (by k_asm) (cb_drop (by k_asm) (by lcg_sub)) (by k_asm) (by k_asm) hI hlen hp (Int.fmod_nonneg_of_pos _ hb0) (Int.fmod_lt_of_pos _ hb0)
  · have h1 : 0 < ns.length := List.length_pos_iff.mpr hz
    have hg := getLast_in hz hp
    have hg0 := hg.1
    have hg1 : ns.getLastD 0 < 10000000000000000000000000000000000000000 := hg.2
    clear hg
    refine wpAny_call ?_
    k_dflt (refine' code_defG ?k1 ?k2 ?k3 ?k4 ?k5 ?kA ?kF ?kK ?k6 ?k7 ?k8 ?k9 ?kB ?_ ?c2 ?c3 ?c4 ?c5; (case kA => exact rfl); (case kF => exact rfl); (case kK => assumption); (case k1 => k_asm); (case k2 => k_asm); (case k3 => k_asm); (case k4 => k_asm); (case k5 => k_asm); (case k6 => k_is); (case k7 => k_is); (case k8 => ktr_room); (case k9 => exact BindsTo.of_eq rfl); (case c5 => decide); (case kB => exact locs rfl); (case c2 => exact rfl); (case c3 => exact rfl); (case c4 => exact rfl); k_whole; intro g' L' h' FG' F' N' B' X' T' kG'; (try dsimp only); (try k_fold))
    have hnp : below.natAbs < 1073741824 := by omega
    have hs9 : cells.dropLast.toArray.size ≤ sizeLine := by simp only [List.size_toArray, List.length_dropLast, sizeLine_eq]; omega
    k_steps
    · rename IntsAre _ _ => hJ
      rename News _ _ _ _ => kN9
      simp only [List.push_toArray] at kN9
      refine hret _ _ _ _ _ (cells.dropLast ++ [_]) _ (ns.dropLast ++ [_]) _ (by k_asm) (cb_drop (by k_asm) (by lcg_sub)) (by k_asm) (by k_asm) (hJ.append (.cons _ _ .nil)) ?_ ?_ (Int.fmod_nonneg_of_pos _ hb0) (Int.fmod_lt_of_pos _ hb0)
      · simp only [List.length_append, List.length_dropLast, List.length_cons, List.length_nil]; omega
      · intro x hx
        rcases List.mem_append.mp hx with hx | hx
        · exact hp x ((List.dropLast_sublist ns).subset hx)
        · rw [List.mem_singleton.mp hx]
          refine ⟨Int.fdiv_nonneg hg0 (Int.le_of_lt hb0), ?_⟩
          rw [Int.fdiv_eq_ediv_of_nonneg _ (Int.le_of_lt hb0)]
          exact Int.lt_of_le_of_lt (Int.ediv_le_self _ hg0) hg1
    · rename IntsAre _ _ => hJ
      refine hret _ _ _ _ _ cells.dropLast _ ns.dropLast _ (by k_asm) (cb_drop (by k_asm) (by lcg_sub)) (by k_asm) (by k_asm) hJ ?_ ?_ (Int.fmod_nonneg_of_pos _ hb0) (Int.fmod_lt_of_pos _ hb0)
      · simp only [List.length_dropLast]; omega
      · exact fun x hx => hp x ((List.dropLast_sublist ns).subset hx)

/-- the deck's two objects, whatever was drawn -/
noncomputable def DeckOK (w : World) (d c : Addr) (k : Int) (o oc : Obj) : Prop :=
  ∃ (cells : List Value) (ns : List Int) (n : Nat) (mx tn : Int) (t1 t2 : Tok), oc = listOf cells.toArray n ∧ (d == sysModules) = false ∧ @Ne Nat d c ∧
    o.IsDictOf (PySem.strKind PR w) [(Str.ofString "cells", Value.ref c), (Str.ofString "mixed", Value.int mx t1), (Str.ofString "turn", Value.int tn t2)] ∧ IntsAre cells ns ∧ ns.length ≤ 20 ∧ (∀ x ∈ ns, 0 ≤ x ∧ x < 10 ^ 40) ∧ 0 ≤ tn ∧ tn ≤ k
theorem DeckOK.ne {d c : Addr} {k : Int} {o oc : Obj} (h : DeckOK w d c k o oc) : @Ne Nat d c := by
  obtain ⟨_, _, _, _, _, _, _, _, _, h, _⟩ := h
  exact h
theorem draw (B : Below A₀ base outer h₀) (F : Fr h₀ L s.heap m) (X : (hd.heap_39 w.params).In h₀) (T : Top hd.view_39 LS mean mg mb h₀) (hk : cs.kind = .function) (hdp : dp + 20 < recursionLimit) (hun : un + 500 < cLine)
    {d c : Addr} {o oc : Obj} {k below : Int} {tb : Tok} (N : News h₀ L s.heap [(d, o), (c, oc)]) (D : DeckOK w d c k o oc) (hk1 : k < 1000000) (hb0 : 0 < below) (hb1 : below < 1000000)
    (hret : ∀ (r : Int) (t : Tok) (h' : Heap) (tk' : Nat) (o' oc' : Obj), Fr h₀ L h' m → News h₀ L h' [(d, o'), (c, oc')] → KeepBut s.heap h' [d, c] → DeckOK w d c (k + 1) o' oc' → 0 ≤ r → r < below → Q (.int r t) { s with heap := h', toks := tk' }) :
    wpAny (model PR w) (ktrTop dp un gd cn cs L a ccd cl outer) (call (.ref 98) [.ref d, .int below tb]) Q E s := by
  obtain ⟨cells, ns, n, mx, tn, t1, t2, rfl, lo, hne, hD, hI, hlen, hp, hn0, hn1⟩ := D
  exact draw_core B F X T hk hdp hun N lo hne hD hI hlen hp hn0 (Int.lt_of_le_of_lt hn1 hk1) hb0 hb1 fun r t h' tk' o' cells' n' ns' t2' F' N' K' hD' hI' hlen' hp' h0 h1 =>
    hret r t h' tk' o' _ F' N' K' ⟨cells', ns', n', mx, tn + 1, t1, t2', rfl, lo, hne, hD', hI', hlen', hp', by omega, by omega⟩ h0 h1
end
end PartC1
section PartC2
theorem off_C2 : True := by
  w_top off
  k_with_none
  k_with "LeaveK" => (with_reducible show LeaveK _ _ _ _ _ _ _; (rename GSub _ _ _ => zqkG'); (refine leaveS (by k_asm) zqkG' ?_); clear zqkG'; intro zqkE'; walk_say "KEEPS")
  k_with "call ref" => ((with_reducible show wpAny _ _ (call (Value.ref 98) [_, _]) _ _ _); k_dflt ((rename News _ _ _ _ => zqkN'); (rename DeckOK _ _ _ _ _ _ => zqkD'); (have zqkDn := DeckOK.ne zqkD'); (refine' draw ?k1 ?k2 ?k3 ?k4 ?kA ?kd ?ku ?kN zqkD' ?kk ?kb ?kc ?_; (case k1 => k_asm); (case k2 => k_asm); (case k3 => k_asm); (case k4 => k_asm); (case kA => first | exact rfl | assumption); (case kd => (first | decide | ((try simp only [depth_deeper, units_deeper, units_in1, depth_in1, ktrTop, Nat.add_assoc, Nat.reduceAdd]); (refine room_lt ?_ ?_; assumption; decide)) | ((try simp only [depth_deeper, units_deeper, ktrTop]); omega))); (case ku => (first | decide | ((try simp only [depth_deeper, units_deeper, units_in1, depth_in1, ktrTop, Nat.add_assoc, Nat.reduceAdd]); (refine room_lt ?_ ?_; assumption; decide)) | ((try simp only [depth_deeper, units_deeper, ktrTop]); omega))); (case kN => exact cb_drop (by k_asm) (by lcg_sub)); (case kk => omega); (case kb => omega); (case kc => omega); k_whole); (intro zqr9 zqt9 zqh9 zqtk9 zqo9 zqoc9 zqF9 zqN9 zqKB9 zqD9 zqhr0 zqhr1); (replace zqN9 := KeepBut.news2 zqKB9 zqkN' (by k_updF) (by (intro _; (try dsimp only); k_updF)) zqN9); (clear zqkN' zqkD' zqkDn); (try dsimp only at zqN9); (try dsimp only); (try k_fold)))
  trivial
theorem fill_now2 (w : World) (h₀ : Heap) (hX : (hd.heap_39 w.params).In h₀) : (hd.heap_39 w.params).In h₀ ∧ PySem.Challenge.rw_pb0084_01 = PySem.Challenge.rw_pb0084_01 := by
  k_fill
  exact ⟨hX, rfl⟩
section
variable {w : World} {mg mb : Str → Option Value} {mean : ExcName → Option Value} {dp un : Nat} {gd : Option (List Code)} {cn : Str} {cs : Scope} {L a : Addr} {ccd : Value} {cl : List (Str × Addr)} {outer : List Env} {A₀ : Around} {base h₀ : Heap} {m : Str → Option Value} {s : Shared} {Q E : Value → Shared → Prop} {news : List (Addr × Obj)}


theorem KeepBut.less {h h' : Heap} {l : Addr} {o : Obj} {T : List Addr} (k : KeepBut h h' (l :: T)) (e : h.get? l = some o) (e' : h'.get? l = some o) : KeepBut h h' T := by
  intro b ob hb hn
  by_cases hbl : b = l
  · subst hbl; rw [e] at hb; rw [e', ← hb]
  · exact k b ob hb (by simp [hbl, hn])
theorem pick (B : Below A₀ base outer h₀) (F : Fr h₀ L s.heap m) (X : (hd.heap_39 w.params).In h₀) (T : Top hd.view_39 LS mean mg mb h₀) (hk : cs.kind = .function) (hdp : dp + 40 < recursionLimit) (hun : un + 1000 < cLine)
    {d c l : Addr} {o oc : Obj} {k : Int} {vs : List Value} {n : Nat} (N : News h₀ L s.heap [(l, listOf vs.toArray n), (d, o), (c, oc)]) (D : DeckOK w d c k o oc) (hk1 : k < 1000000) (hl0 : 0 < vs.length) (hl1 : vs.length < 1000) 
    (hld : @Ne Nat l d) (hlc : @Ne Nat l c)
    (hret : ∀ (i : Nat) (hi : i < vs.length) (h' : Heap) (tk' : Nat) (o' oc' : Obj), Fr h₀ L h' m → News h₀ L h' [(l, listOf vs.toArray n), (d, o'), (c, oc')] → KeepBut s.heap h' [d, c] → DeckOK w d c (k + 1) o' oc' → Q vs[i] { s with heap := h', toks := tk' }) :
    wpAny (model PR w) (ktrTop dp un gd cn cs L a ccd cl outer) (call (.ref 105) [.ref d, .ref l]) Q E s := by
  refine wpAny_call ?_
  k_dflt (refine' code_defG ?k1 ?k2 ?k3 ?k4 ?k5 ?kA ?kF ?kK ?k6 ?k7 ?k8 ?k9 ?kB ?_ ?c2 ?c3 ?c4 ?c5; (case kA => exact rfl); (case kF => exact rfl); (case kK => assumption); (case k1 => k_asm); (case k2 => k_asm); (case k3 => k_asm); (case k4 => k_asm); (case k5 => k_asm); (case k6 => k_is); (case k7 => k_is); (case k8 => ktr_room); (case k9 => exact BindsTo.of_eq rfl); (case c5 => decide); (case kB => exact locs rfl); (case c2 => exact rfl); (case c3 => exact rfl); (case c4 => exact rfl); k_whole; intro g' L' h' FG' F' N' B' X' T' kG'; (try dsimp only); (try k_fold))
  k_steps
  refine KM.len_K (n := vs.length) N' (.head _) (by simp only [List.size_toArray]) (by omega) ?_
  k_steps
  have hr2 : zqr9.toNat < vs.length := by omega
  refine item_litK (News.isList zqN9 (.head _)) zqhr0 (by omega) (v := vs[zqr9.toNat]) (by simp [hr2]) ?_ (by with_unfolding_all rfl)
  k_steps
  rename KeepBut _ _ _ => kE
  rename News _ _ _ _ => kN9
  exact hret _ hr2 _ _ _ _ (by k_asm) (cb_drop (by k_asm) (by lcg_sub)) (KeepBut.less kE (N _ (.head _)).1 (kN9 _ (.head _)).1) zqD9
end
end PartC2
section PartC3
theorem off_C3 : True := by
  w_top off
  k_with_none
  k_with "LeaveK" => (with_reducible show LeaveK _ _ _ _ _ _ _; (rename GSub _ _ _ => zqkG'); (refine leaveS (by k_asm) zqkG' ?_); clear zqkG'; intro zqkE'; walk_say "KEEPS")
  k_with "call ref" => ((with_reducible show wpAny _ _ (call (Value.ref 98) [_, _]) _ _ _); k_dflt ((rename News _ _ _ _ => zqkN'); (rename DeckOK _ _ _ _ _ _ => zqkD'); (have zqkDn := DeckOK.ne zqkD'); (refine' draw ?k1 ?k2 ?k3 ?k4 ?kA ?kd ?ku ?kN zqkD' ?kk ?kb ?kc ?_; (case k1 => k_asm); (case k2 => k_asm); (case k3 => k_asm); (case k4 => k_asm); (case kA => first | exact rfl | assumption); (case kd => (first | decide | ((try simp only [depth_deeper, units_deeper, units_in1, depth_in1, ktrTop, Nat.add_assoc, Nat.reduceAdd]); (refine room_lt ?_ ?_; assumption; decide)) | ((try simp only [depth_deeper, units_deeper, ktrTop]); omega))); (case ku => (first | decide | ((try simp only [depth_deeper, units_deeper, units_in1, depth_in1, ktrTop, Nat.add_assoc, Nat.reduceAdd]); (refine room_lt ?_ ?_; assumption; decide)) | ((try simp only [depth_deeper, units_deeper, ktrTop]); omega))); (case kN => exact cb_drop (by k_asm) (by lcg_sub)); (case kk => omega); (case kb => omega); (case kc => omega); k_whole); (intro zqr9 zqt9 zqh9 zqtk9 zqo9 zqoc9 zqF9 zqN9 zqKB9 zqD9 zqhr0 zqhr1); (replace zqN9 := KeepBut.news2 zqKB9 zqkN' (by k_updF) (by (intro _; (try dsimp only); k_updF)) zqN9); (clear zqkN' zqkD' zqkDn); (try dsimp only at zqN9); (try dsimp only); (try k_fold)))
  k_with "call ref" => ((with_reducible show wpAny _ _ (call (Value.ref 105) [_, _]) _ _ _); k_dflt ((rename News _ _ _ _ => zqkN'); (rename DeckOK _ _ _ _ _ _ => zqkD'); (have zqkDn := DeckOK.ne zqkD'); (refine' pick ?k1 ?k2 ?k3 ?k4 ?kA ?kd ?ku ?kN zqkD' ?kk ?kb ?kc ?ld ?lc ?_; (case k1 => k_asm); (case k2 => k_asm); (case k3 => k_asm); (case k4 => k_asm); (case kA => first | exact rfl | assumption); (case kd => (first | decide | ((try simp only [depth_deeper, units_deeper, units_in1, depth_in1, ktrTop, Nat.add_assoc, Nat.reduceAdd]); (refine room_lt ?_ ?_; assumption; decide)) | ((try simp only [depth_deeper, units_deeper, ktrTop]); omega))); (case ku => (first | decide | ((try simp only [depth_deeper, units_deeper, units_in1, depth_in1, ktrTop, Nat.add_assoc, Nat.reduceAdd]); (refine room_lt ?_ ?_; assumption; decide)) | ((try simp only [depth_deeper, units_deeper, ktrTop]); omega))); (case kN => exact cb_drop (by k_asm) (by lcg_sub)); (case kk => omega); (case kb => first | decide | (simp only [List.length_append, List.length_cons, List.length_nil]; omega)); (case kc => first | decide | (simp only [List.length_append, List.length_cons, List.length_nil]; omega)); (case ld => omega); (case lc => omega); k_whole); (intro zqi9 zqhi9 zqh9 zqtk9 zqo9 zqoc9 zqF9 zqN9 zqKB9 zqD9); (replace zqN9 := KeepBut.news2 zqKB9 zqkN' (by k_updF) (by (intro _; (try dsimp only); k_updF)) (cb_drop zqN9 (by lcg_sub))); (clear zqkN' zqkD' zqkDn); (try dsimp only at zqN9); (try dsimp only); (try k_fold)))
  trivial
theorem fill_C3 (w : World) (h₀ : Heap) (hX : (hd.heap_39 w.params).In h₀) : (hd.heap_39 w.params).In h₀ ∧ PySem.Challenge.rw_pb0084_01 = PySem.Challenge.rw_pb0084_01 := by
  k_fill
  exact ⟨hX, rfl⟩
section
variable {w : World} {mg mb : Str → Option Value} {mean : ExcName → Option Value} {dp un : Nat} {gd : Option (List Code)} {cn : Str} {cs : Scope} {L a : Addr} {ccd : Value} {cl : List (Str × Addr)} {outer : List Env} {A₀ : Around} {base h₀ : Heap} {m : Str → Option Value} {s : Shared} {Q E : Value → Shared → Prop} {news : List (Addr × Obj)}


theorem of_val {Q : Value → Shared → Prop} {v v' : Value} {s : Shared} (e : v = v') (h : Q v' s) : Q v s := e ▸ h
noncomputable def AllB : List Value → Prop
  | [] => True
  | v :: r => (∃ n t, v = Value.int n t ∧ 0 ≤ n ∧ n < 256) ∧ AllB r
theorem AllB.at : ∀ {vs : List Value} {i : Nat} (_ : AllB vs) (h : i < vs.length), ∃ n t, vs[i] = Value.int n t ∧ 0 ≤ n ∧ n < 256
  | v :: r, 0, a, _ => a.1
  | v :: r, i + 1, a, h => by
    obtain ⟨n, t, e, z⟩ := AllB.at (i := i) a.2 (Nat.lt_of_succ_lt_succ h)
    exact ⟨n, t, e, z⟩
theorem octet (B : Below A₀ base outer h₀) (F : Fr h₀ L s.heap m) (X : (hd.heap_39 w.params).In h₀) (T : Top hd.view_39 LS mean mg mb h₀) (hk : cs.kind = .function) (hdp : dp + 60 < recursionLimit) (hun : un + 1500 < cLine)
    {d c : Addr} {o oc : Obj} {k : Int} (N : News h₀ L s.heap [(d, o), (c, oc)]) (D : DeckOK w d c k o oc) (hk1 : k < 999990)
    (hret : ∀ (r : Int) (t : Tok) (h' : Heap) (tk' : Nat) (o' oc' : Obj), Fr h₀ L h' m → News h₀ L h' [(d, o'), (c, oc')] → KeepBut s.heap h' [d, c] → DeckOK w d c (k + 1 + 1) o' oc' → 0 ≤ r → r < 256 → Q (.int r t) { s with heap := h', toks := tk' }) :
    wpAny (model PR w) (ktrTop dp un gd cn cs L a ccd cl outer) (call (.ref 119) [.ref d]) Q E s := by
  refine wpAny_call ?_
  k_dflt (refine' code_defG ?k1 ?k2 ?k3 ?k4 ?k5 ?kA ?kF ?kK ?k6 ?k7 ?k8 ?k9 ?kB ?_ ?c2 ?c3 ?c4 ?c5; (case kA => exact rfl); (case kF => exact rfl); (case kK => assumption); (case k1 => k_asm); (case k2 => k_asm); (case k3 => k_asm); (case k4 => k_asm); (case k5 => k_asm); (case k6 => k_is); (case k7 => k_is); (case k8 => ktr_room); (case k9 => exact BindsTo.of_eq rfl); (case c5 => decide); (case kB => exact locs rfl); (case c2 => exact rfl); (case c3 => exact rfl); (case c4 => exact rfl); k_whole; intro g' L' h' FG' F' N' B' X' T' kG'; (try dsimp only); (try k_fold))
  k_steps
  rename _ < List.length _ => hi
  obtain ⟨r8, t8, e8, h80, h81⟩ := AllB.at (by (repeat (refine ⟨⟨_, _, rfl, by first | decide | assumption | omega, by first | decide | assumption | omega⟩, ?_⟩)); exact trivial) hi
  rename DeckOK _ _ _ _ _ _ => D9
  refine of_val (Q := Q) e8 ?_
  exact hret r8 t8 _ _ _ _ (by k_asm) (cb_drop (by k_asm) (by lcg_sub)) (by k_asm) D9 h80 h81
end
end PartC3
section PartC2b
theorem fill_C2b (w : World) (h₀ : Heap) (hX : (hd.heap_39 w.params).In h₀) : (hd.heap_39 w.params).In h₀ ∧ PySem.Challenge.rw_pb0084_01 = PySem.Challenge.rw_pb0084_01 := by
  k_fill
  exact ⟨hX, rfl⟩
section
variable {w : World} {mg mb : Str → Option Value} {mean : ExcName → Option Value} {dp un : Nat} {gd : Option (List Code)} {cn : Str} {cs : Scope} {L a : Addr} {ccd : Value} {cl : List (Str × Addr)} {outer : List Env} {A₀ : Around} {base h₀ : Heap} {m : Str → Option Value} {s : Shared} {Q E : Value → Shared → Prop} {news : List (Addr × Obj)}


theorem ints_mem : ∀ {vs : List Value} {ns : List Int} (_ : IntsAre vs ns) (i : Nat) (h : i < vs.length), ∃ n t, vs[i] = Value.int n t ∧ n ∈ ns
  | _, _, .cons n t r, 0, _ => ⟨n, t, rfl, .head _⟩
  | _, _, .cons n t r, i + 1, h => by
    obtain ⟨n', t', e, hm⟩ := ints_mem r i (Nat.lt_of_succ_lt_succ h)
    exact ⟨n', t', e, .tail _ hm⟩
theorem pickI (B : Below A₀ base outer h₀) (F : Fr h₀ L s.heap m) (X : (hd.heap_39 w.params).In h₀) (T : Top hd.view_39 LS mean mg mb h₀) (hk : cs.kind = .function) (hdp : dp + 40 < recursionLimit) (hun : un + 1000 < cLine)
    {d c l : Addr} {o oc : Obj} {k : Int} {vs : List Value} {ns : List Int} {n : Nat} (N : News h₀ L s.heap [(l, listOf vs.toArray n), (d, o), (c, oc)]) (D : DeckOK w d c k o oc) (hk1 : k < 1000000) (hi : IntsAre vs ns) (hv : ∀ x ∈ ns, 0 ≤ x ∧ x < 256) (hl0 : 0 < vs.length) (hl1 : vs.length < 1000)
    (hld : @Ne Nat l d) (hlc : @Ne Nat l c)
    (hret : ∀ (r : Int) (t : Tok) (h' : Heap) (tk' : Nat) (o' oc' : Obj), Fr h₀ L h' m → News h₀ L h' [(l, listOf vs.toArray n), (d, o'), (c, oc')] → KeepBut s.heap h' [d, c] → DeckOK w d c (k + 1) o' oc' → r ∈ ns → 0 ≤ r → r < 256 → Q (.int r t) { s with heap := h', toks := tk' }) :
    wpAny (model PR w) (ktrTop dp un gd cn cs L a ccd cl outer) (call (.ref 105) [.ref d, .ref l]) Q E s :=
  pick B F X T hk hdp hun N D hk1 hl0 hl1 hld hlc fun i h h' tk' o' oc' F' N' K' D' => by
    obtain ⟨r, t, e, hm⟩ := ints_mem hi i h
    refine of_val (Q := Q) e ?_
    exact hret r t h' tk' o' oc' F' N' K' D' hm (hv r hm).1 (hv r hm).2
end
end PartC2b
section PartC4
theorem off_C4 : True := by
  w_top off
  k_with_none
  k_with "LeaveK" => (with_reducible show LeaveK _ _ _ _ _ _ _; (rename GSub _ _ _ => zqkG'); (refine leaveS (by k_asm) zqkG' ?_); clear zqkG'; intro zqkE'; walk_say "KEEPS")
  k_with "call ref" => ((with_reducible show wpAny _ _ (call (Value.ref 98) [_, _]) _ _ _); k_dflt ((rename News _ _ _ _ => zqkN'); (rename DeckOK _ _ _ _ _ _ => zqkD'); (have zqkDn := DeckOK.ne zqkD'); (refine' draw ?k1 ?k2 ?k3 ?k4 ?kA ?kd ?ku ?kN zqkD' ?kk ?kb ?kc ?_; (case k1 => k_asm); (case k2 => k_asm); (case k3 => k_asm); (case k4 => k_asm); (case kA => first | exact rfl | assumption); (case kd => (first | decide | ((try simp only [depth_deeper, units_deeper, units_in1, depth_in1, ktrTop, Nat.add_assoc, Nat.reduceAdd]); (refine room_lt ?_ ?_; assumption; decide)) | ((try simp only [depth_deeper, units_deeper, ktrTop]); omega))); (case ku => (first | decide | ((try simp only [depth_deeper, units_deeper, units_in1, depth_in1, ktrTop, Nat.add_assoc, Nat.reduceAdd]); (refine room_lt ?_ ?_; assumption; decide)) | ((try simp only [depth_deeper, units_deeper, ktrTop]); omega))); (case kN => exact cb_drop (by k_asm) (by lcg_sub)); (case kk => omega); (case kb => omega); (case kc => omega); k_whole); (intro zqr9 zqt9 zqh9 zqtk9 zqo9 zqoc9 zqF9 zqN9 zqKB9 zqD9 zqhr0 zqhr1); (replace zqN9 := KeepBut.news2 zqKB9 zqkN' (by k_updF) (by (intro _; (try dsimp only); k_updF)) zqN9); (clear zqkN' zqkD' zqkDn); (try dsimp only at zqN9); (try dsimp only); (try k_fold)))
  k_with "call ref" => ((with_reducible show wpAny _ _ (call (Value.ref 105) [_, _]) _ _ _); k_dflt ((rename News _ _ _ _ => zqkN'); (rename DeckOK _ _ _ _ _ _ => zqkD'); (have zqkDn := DeckOK.ne zqkD'); (refine' pick ?k1 ?k2 ?k3 ?k4 ?kA ?kd ?ku ?kN zqkD' ?kk ?kb ?kc ?ld ?lc ?_; (case k1 => k_asm); (case k2 => k_asm); (case k3 => k_asm); (case k4 => k_asm); (case kA => first | exact rfl | assumption); (case kd => (first | decide | ((try simp only [depth_deeper, units_deeper, units_in1, depth_in1, ktrTop, Nat.add_assoc, Nat.reduceAdd]); (refine room_lt ?_ ?_; assumption; decide)) | ((try simp only [depth_deeper, units_deeper, ktrTop]); omega))); (case ku => (first | decide | ((try simp only [depth_deeper, units_deeper, units_in1, depth_in1, ktrTop, Nat.add_assoc, Nat.reduceAdd]); (refine room_lt ?_ ?_; assumption; decide)) | ((try simp only [depth_deeper, units_deeper, ktrTop]); omega))); (case kN => exact cb_drop (by k_asm) (by lcg_sub)); (case kk => omega); (case kb => first | decide | (simp only [List.length_append, List.length_cons, List.length_nil]; omega)); (case kc => first | decide | (simp only [List.length_append, List.length_cons, List.length_nil]; omega)); (case ld => omega); (case lc => omega); k_whole); (intro zqi9 zqhi9 zqh9 zqtk9 zqo9 zqoc9 zqF9 zqN9 zqKB9 zqD9); (replace zqN9 := KeepBut.news2 zqKB9 zqkN' (by k_updF) (by (intro _; (try dsimp only); k_updF)) (cb_drop zqN9 (by lcg_sub))); (clear zqkN' zqkD' zqkDn); (try dsimp only at zqN9); (try dsimp only); (try k_fold)))
  k_with "call ref" => ((with_reducible show wpAny _ _ (call (Value.ref 119) [_]) _ _ _); k_dflt ((rename News _ _ _ _ => zqkN'); (rename DeckOK _ _ _ _ _ _ => zqkD'); (have zqkDn := DeckOK.ne zqkD'); (refine' octet ?k1 ?k2 ?k3 ?k4 ?kA ?kd ?ku ?kN zqkD' ?kk ?_; (case k1 => k_asm); (case k2 => k_asm); (case k3 => k_asm); (case k4 => k_asm); (case kA => first | exact rfl | assumption); (case kd => (first | decide | ((try simp only [depth_deeper, units_deeper, units_in1, depth_in1, ktrTop, Nat.add_assoc, Nat.reduceAdd]); (refine room_lt ?_ ?_; assumption; decide)) | ((try simp only [depth_deeper, units_deeper, ktrTop]); omega))); (case ku => (first | decide | ((try simp only [depth_deeper, units_deeper, units_in1, depth_in1, ktrTop, Nat.add_assoc, Nat.reduceAdd]); (refine room_lt ?_ ?_; assumption; decide)) | ((try simp only [depth_deeper, units_deeper, ktrTop]); omega))); (case kN => exact cb_drop (by k_asm) (by lcg_sub)); (case kk => omega); k_whole); (intro zqr9 zqt9 zqh9 zqtk9 zqo9 zqoc9 zqF9 zqN9 zqKB9 zqD9 zqhr0 zqhr1); (replace zqN9 := KeepBut.news2 zqKB9 zqkN' (by k_updF) (by (intro _; (try dsimp only); k_updF)) zqN9); (clear zqkN' zqkD' zqkDn); (try dsimp only at zqN9); (try dsimp only); (try k_fold)))
  trivial
theorem fill_C4 (w : World) (h₀ : Heap) (hX : (hd.heap_39 w.params).In h₀) : (hd.heap_39 w.params).In h₀ ∧ PySem.Challenge.rw_pb0084_01 = PySem.Challenge.rw_pb0084_01 := by
  k_fill
  exact ⟨hX, rfl⟩
section
variable {w : World} {mg mb : Str → Option Value} {mean : ExcName → Option Value} {dp un : Nat} {gd : Option (List Code)} {cn : Str} {cs : Scope} {L a : Addr} {ccd : Value} {cl : List (Str × Addr)} {outer : List Env} {A₀ : Around} {base h₀ : Heap} {m : Str → Option Value} {s : Shared} {Q E : Value → Shared → Prop} {news : List (Addr × Obj)}


theorem figures (B : Below A₀ base outer h₀) (F : Fr h₀ L s.heap m) (X : (hd.heap_39 w.params).In h₀) (T : Top hd.view_39 LS mean mg mb h₀) (hk : cs.kind = .function) (hdp : dp + 20 < recursionLimit) (hun : un + 500 < cLine)
    {n : Int} {t : Tok} (N : News h₀ L s.heap []) (h0 : 0 ≤ n) (h1 : n < 256)
    (hret : ∀ (b : Array UInt8) (t : Tok) (h' : Heap) (tk' : Nat), Fr h₀ L h' m → KeepBut s.heap h' [] → KBw.bInts b = [92, 48 + n / 64, 48 + n / 8 % 8, 48 + n % 8] → Q (.bytes b t) { s with heap := h', toks := tk' }) :
    wpAny (model PR w) (ktrTop dp un gd cn cs L a ccd cl outer) (call (.ref 126) [.int n t]) Q E s := by
  refine wpAny_call ?_
  k_dflt (refine' code_defG ?k1 ?k2 ?k3 ?k4 ?k5 ?kA ?kF ?kK ?k6 ?k7 ?k8 ?k9 ?kB ?_ ?c2 ?c3 ?c4 ?c5; (case kA => exact rfl); (case kF => exact rfl); (case kK => assumption); (case k1 => k_asm); (case k2 => k_asm); (case k3 => k_asm); (case k4 => k_asm); (case k5 => k_asm); (case k6 => k_is); (case k7 => k_is); (case k8 => ktr_room); (case k9 => exact BindsTo.of_eq rfl); (case c5 => decide); (case kB => exact locs rfl); (case c2 => exact rfl); (case c3 => exact rfl); (case c4 => exact rfl); k_whole; intro g' L' h' FG' F' N' B' X' T' kG'; (try dsimp only); (try k_fold))
  have hin : KBa.In [92, 48 + n.fdiv 64, 48 + (n.fdiv 8).fmod 8, 48 + n.fmod 8] := by
    intro x hx
    rw [Int.fdiv_eq_ediv_of_nonneg _ (by decide), Int.fdiv_eq_ediv_of_nonneg _ (by decide), Int.fmod_eq_emod_of_nonneg _ (by decide), Int.fmod_eq_emod_of_nonneg _ (by decide)] at hx
    simp only [List.mem_cons, List.not_mem_nil, or_false] at hx
    omega
  k_steps
  refine hret _ _ _ _ (by k_asm) (by k_asm) ((KBa.ints_make hin).trans ?_)
  rw [Int.fdiv_eq_ediv_of_nonneg _ (by decide), Int.fdiv_eq_ediv_of_nonneg _ (by decide), Int.fmod_eq_emod_of_nonneg _ (by decide), Int.fmod_eq_emod_of_nonneg _ (by decide)]
theorem isplain (B : Below A₀ base outer h₀) (F : Fr h₀ L s.heap m) (X : (hd.heap_39 w.params).In h₀) (T : Top hd.view_39 LS mean mg mb h₀) (hk : cs.kind = .function) (hdp : dp + 20 < recursionLimit) (hun : un + 500 < cLine)
    {n : Int} {t : Tok} (N : News h₀ L s.heap []) (h0 : 0 ≤ n) (h1 : n < 256)
    (hret : ∀ (h' : Heap) (tk' : Nat), Fr h₀ L h' m → KeepBut s.heap h' [] → Q (.bool (decide (32 ≤ n ∧ n ≤ 126 ∧ n ≠ 34 ∧ n ≠ 92))) { s with heap := h', toks := tk' }) :
    wpAny (model PR w) (ktrTop dp un gd cn cs L a ccd cl outer) (call (.ref 133) [.int n t]) Q E s := by
  refine wpAny_call ?_
  k_dflt (refine' code_defG ?k1 ?k2 ?k3 ?k4 ?k5 ?kA ?kF ?kK ?k6 ?k7 ?k8 ?k9 ?kB ?_ ?c2 ?c3 ?c4 ?c5; (case kA => exact rfl); (case kF => exact rfl); (case kK => assumption); (case k1 => k_asm); (case k2 => k_asm); (case k3 => k_asm); (case k4 => k_asm); (case k5 => k_asm); (case k6 => k_is); (case k7 => k_is); (case k8 => ktr_room); (case k9 => exact BindsTo.of_eq rfl); (case c5 => decide); (case kB => exact locs rfl); (case c2 => exact rfl); (case c3 => exact rfl); (case c4 => exact rfl); k_whole; intro g' L' h' FG' F' N' B' X' T' kG'; (try dsimp only); (try k_fold))
  k_steps
  all_goals refine of_val (Q := Q) ?_ (hret _ _ (by k_asm) (by k_asm))
  all_goals (refine congrArg Value.bool ?_; rw [Bool.eq_iff_iff]; simp only [List.any_cons, List.any_nil, Bool.or_false, Bool.not_eq_true', Bool.or_eq_false_iff, beq_eq_false_iff_ne, decide_eq_true_eq, ne_eq]; omega)
end
end PartC4
section PartC5
theorem off_C5 : True := by
  w_top off
  k_with_none
  k_with "LeaveK" => (with_reducible show LeaveK _ _ _ _ _ _ _; (rename GSub _ _ _ => zqkG'); (refine leaveS (by k_asm) zqkG' ?_); clear zqkG'; intro zqkE'; walk_say "KEEPS")
  k_with "call ref" => ((with_reducible show wpAny _ _ (call (Value.ref 98) [_, _]) _ _ _); k_dflt ((rename News _ _ _ _ => zqkN'); (rename DeckOK _ _ _ _ _ _ => zqkD'); (have zqkDn := DeckOK.ne zqkD'); (refine' draw ?k1 ?k2 ?k3 ?k4 ?kA ?kd ?ku ?kN zqkD' ?kk ?kb ?kc ?_; (case k1 => k_asm); (case k2 => k_asm); (case k3 => k_asm); (case k4 => k_asm); (case kA => first | exact rfl | assumption); (case kd => (first | decide | ((try simp only [depth_deeper, units_deeper, units_in1, depth_in1, ktrTop, Nat.add_assoc, Nat.reduceAdd]); (refine room_lt ?_ ?_; assumption; decide)) | ((try simp only [depth_deeper, units_deeper, ktrTop]); omega))); (case ku => (first | decide | ((try simp only [depth_deeper, units_deeper, units_in1, depth_in1, ktrTop, Nat.add_assoc, Nat.reduceAdd]); (refine room_lt ?_ ?_; assumption; decide)) | ((try simp only [depth_deeper, units_deeper, ktrTop]); omega))); (case kN => exact cb_drop (by k_asm) (by lcg_sub)); (case kk => omega); (case kb => omega); (case kc => omega); k_whole); (intro zqr9 zqt9 zqh9 zqtk9 zqo9 zqoc9 zqF9 zqN9 zqKB9 zqD9 zqhr0 zqhr1); (replace zqN9 := KeepBut.news2 zqKB9 zqkN' (by k_updF) (by (intro _; (try dsimp only); k_updF)) zqN9); (clear zqkN' zqkD' zqkDn); (try dsimp only at zqN9); (try dsimp only); (try k_fold)))
  k_with "call ref" => ((with_reducible show wpAny _ _ (call (Value.ref 105) [_, _]) _ _ _); k_dflt ((rename News _ _ _ _ => zqkN'); (rename DeckOK _ _ _ _ _ _ => zqkD'); (have zqkDn := DeckOK.ne zqkD'); (refine' pick ?k1 ?k2 ?k3 ?k4 ?kA ?kd ?ku ?kN zqkD' ?kk ?kb ?kc ?ld ?lc ?_; (case k1 => k_asm); (case k2 => k_asm); (case k3 => k_asm); (case k4 => k_asm); (case kA => first | exact rfl | assumption); (case kd => (first | decide | ((try simp only [depth_deeper, units_deeper, units_in1, depth_in1, ktrTop, Nat.add_assoc, Nat.reduceAdd]); (refine room_lt ?_ ?_; assumption; decide)) | ((try simp only [depth_deeper, units_deeper, ktrTop]); omega))); (case ku => (first | decide | ((try simp only [depth_deeper, units_deeper, units_in1, depth_in1, ktrTop, Nat.add_assoc, Nat.reduceAdd]); (refine room_lt ?_ ?_; assumption; decide)) | ((try simp only [depth_deeper, units_deeper, ktrTop]); omega))); (case kN => exact cb_drop (by k_asm) (by lcg_sub)); (case kk => omega); (case kb => first | decide | (simp only [List.length_append, List.length_cons, List.length_nil]; omega)); (case kc => first | decide | (simp only [List.length_append, List.length_cons, List.length_nil]; omega)); (case ld => omega); (case lc => omega); k_whole); (intro zqi9 zqhi9 zqh9 zqtk9 zqo9 zqoc9 zqF9 zqN9 zqKB9 zqD9); (replace zqN9 := KeepBut.news2 zqKB9 zqkN' (by k_updF) (by (intro _; (try dsimp only); k_updF)) (cb_drop zqN9 (by lcg_sub))); (clear zqkN' zqkD' zqkDn); (try dsimp only at zqN9); (try dsimp only); (try k_fold)))
  k_with "call ref" => ((with_reducible show wpAny _ _ (call (Value.ref 119) [_]) _ _ _); k_dflt ((rename News _ _ _ _ => zqkN'); (rename DeckOK _ _ _ _ _ _ => zqkD'); (have zqkDn := DeckOK.ne zqkD'); (refine' octet ?k1 ?k2 ?k3 ?k4 ?kA ?kd ?ku ?kN zqkD' ?kk ?_; (case k1 => k_asm); (case k2 => k_asm); (case k3 => k_asm); (case k4 => k_asm); (case kA => first | exact rfl | assumption); (case kd => (first | decide | ((try simp only [depth_deeper, units_deeper, units_in1, depth_in1, ktrTop, Nat.add_assoc, Nat.reduceAdd]); (refine room_lt ?_ ?_; assumption; decide)) | ((try simp only [depth_deeper, units_deeper, ktrTop]); omega))); (case ku => (first | decide | ((try simp only [depth_deeper, units_deeper, units_in1, depth_in1, ktrTop, Nat.add_assoc, Nat.reduceAdd]); (refine room_lt ?_ ?_; assumption; decide)) | ((try simp only [depth_deeper, units_deeper, ktrTop]); omega))); (case kN => exact cb_drop (by k_asm) (by lcg_sub)); (case kk => omega); k_whole); (intro zqr9 zqt9 zqh9 zqtk9 zqo9 zqoc9 zqF9 zqN9 zqKB9 zqD9 zqhr0 zqhr1); (replace zqN9 := KeepBut.news2 zqKB9 zqkN' (by k_updF) (by (intro _; (try dsimp only); k_updF)) zqN9); (clear zqkN' zqkD' zqkDn); (try dsimp only at zqN9); (try dsimp only); (try k_fold)))
  k_with "call ref" => ((with_reducible show wpAny _ _ (call (Value.ref 126) [_]) _ _ _); k_dflt ((rename News _ _ _ _ => zqkN'); (refine' figures ?k1 ?k2 ?k3 ?k4 ?kA ?kd ?ku ?kN ?kb ?kc ?_; (case k1 => k_asm); (case k2 => k_asm); (case k3 => k_asm); (case k4 => k_asm); (case kA => first | exact rfl | assumption); (case kd => (first | decide | ((try simp only [depth_deeper, units_deeper, units_in1, depth_in1, ktrTop, Nat.add_assoc, Nat.reduceAdd]); (refine room_lt ?_ ?_; assumption; decide)) | ((try simp only [depth_deeper, units_deeper, ktrTop]); omega))); (case ku => (first | decide | ((try simp only [depth_deeper, units_deeper, units_in1, depth_in1, ktrTop, Nat.add_assoc, Nat.reduceAdd]); (refine room_lt ?_ ?_; assumption; decide)) | ((try simp only [depth_deeper, units_deeper, ktrTop]); omega))); (case kN => exact cb_drop (by k_asm) (by lcg_sub)); (case kb => omega); (case kc => omega); k_whole); (intro zqb9 zqt9 zqh9 zqtk9 zqF9 zqKB9 zqE9); (have zqN9 := KeepBut.news0 zqKB9 zqkN'); (clear zqkN'); (try dsimp only); (try k_fold)))
  k_with "call ref" => ((with_reducible show wpAny _ _ (call (Value.ref 133) [_]) _ _ _); k_dflt ((rename News _ _ _ _ => zqkN'); (refine' isplain ?k1 ?k2 ?k3 ?k4 ?kA ?kd ?ku ?kN ?kb ?kc ?_; (case k1 => k_asm); (case k2 => k_asm); (case k3 => k_asm); (case k4 => k_asm); (case kA => first | exact rfl | assumption); (case kd => (first | decide | ((try simp only [depth_deeper, units_deeper, units_in1, depth_in1, ktrTop, Nat.add_assoc, Nat.reduceAdd]); (refine room_lt ?_ ?_; assumption; decide)) | ((try simp only [depth_deeper, units_deeper, ktrTop]); omega))); (case ku => (first | decide | ((try simp only [depth_deeper, units_deeper, units_in1, depth_in1, ktrTop, Nat.add_assoc, Nat.reduceAdd]); (refine room_lt ?_ ?_; assumption; decide)) | ((try simp only [depth_deeper, units_deeper, ktrTop]); omega))); (case kN => exact cb_drop (by k_asm) (by lcg_sub)); (case kb => omega); (case kc => omega); k_whole); (intro zqh9 zqtk9 zqF9 zqKB9); (have zqN9 := KeepBut.news0 zqKB9 zqkN'); (clear zqkN'); (try dsimp only); (try k_fold)))
  k_with "exec Assign cons ListComp" => ((with_reducible show wpAny _ _ (exec (Stmt.Assign [_] (Expr.ListComp _ _ _ _) _) _) _ _ _); refine Hold.stop ?_)
  trivial
theorem fill_C5 (w : World) (h₀ : Heap) (hX : (hd.heap_39 w.params).In h₀) : (hd.heap_39 w.params).In h₀ ∧ PySem.Challenge.rw_pb0084_01 = PySem.Challenge.rw_pb0084_01 := by
  k_fill
  exact ⟨hX, rfl⟩
section
variable {w : World} {mg mb : Str → Option Value} {mean : ExcName → Option Value} {dp un : Nat} {gd : Option (List Code)} {cn : Str} {cs : Scope} {L a : Addr} {ccd : Value} {cl : List (Str × Addr)} {outer : List Env} {A₀ : Around} {base h₀ : Heap} {m : Str → Option Value} {s : Shared} {Q E : Value → Shared → Prop} {news : List (Addr × Obj)}


noncomputable def figs (n : Int) : List Int := [92, 48 + n / 64, 48 + n / 8 % 8, 48 + n % 8]
noncomputable def letterOf (n : Int) : Option Int := List.lookup n [(7, 97), (8, 98), (9, 116), (10, 110), (11, 118), (12, 102), (13, 114), (34, 34), (92, 92)]
noncomputable def writ (n : Int) : List Int := if 32 ≤ n ∧ n ≤ 126 ∧ n ≠ 34 ∧ n ≠ 92 then [n] else match letterOf n with
  | some l => [92, l]
  | none => figs n
noncomputable def Hold (P : Prop) : Prop := P
theorem Hold.stop {P : Prop} (h : Hold P) : P := h
theorem Hold.go {P : Prop} (h : P) : Hold P := h
open PyProof.Rows.LCg in
theorem kct_filter {prog : Program} {A : Around} {env : Env} {c elt : PySem.Expr} {a b : Str} {scope : Scope} {cl : List (Str × Addr)} {S : List (Addr × Obj) → Prop} {Fin : List Value → List (Addr × Obj) → Prop} {news : List (Addr × Obj)}
    (q : Int → Bool) (hS : S news)
    (turn : ∀ (k v : Int) (tv t : Tok) I oI C oC D ys m₂ h tk (E' : Value → Shared → Prop) (Q : Value → Shared → Prop) (Z : Shared → Prop), NsObj oC m₂ → m₂ a = some (.int k t) → m₂ b = some (.int v tv) → Fr h₀ L h m → News h₀ L h ((I, oI) :: (C, oC) :: (D, lst ys) :: news) → Off3 I C D news → ((@Ne Nat I C) ∧ (@Ne Nat I D) ∧ (@Ne Nat C D)) →
      (∀ t' h' tk', q v = true → Fr h₀ L h' m → News h₀ L h' ((I, oI) :: (C, oC) :: (D, lst ys) :: news) → Q (.int k t') { s with heap := h', toks := tk' }) →
      (∀ h' tk', q v = false → Fr h₀ L h' m → News h₀ L h' ((I, oI) :: (C, oC) :: (D, lst ys) :: news) → Z { s with heap := h', toks := tk' }) →
      wpAny (model prog w) A (isTrue c (compEnvC scope cl C env) (eval c (compEnvC scope cl C env))) (fun okb s₃ => if okb = true then wpAny (model prog w) A (eval elt (compEnvC scope cl C env)) Q E' s₃ else Z s₃) E' { s with heap := h, toks := tk }) :
    ∀ (zs : List (Int × Int × Tok)) (ys : List Value) (ns : List Int), IntsAre ys ns → (∀ zv, IntsAre zv (ns ++ (zs.filter fun p => q p.2.1).map (·.1)) → Fin zv news) →
      KctRest prog w A h₀ L m env c elt a b scope cl s S Fin (zs.map fun p => ((fun t => Value.int p.1 t), Value.int p.2.1 p.2.2)) ys news
  | [], ys, ns, hy, fin => KctRest.nil (fin ys (by simpa using hy))
  | (k, v, tv) :: r, ys, ns, hy, fin => by
    refine KctRest.cons fun t I oI C oC D m₂ h tk E' hC ha hb F N off ne => ?_
    refine turn k v tv t I oI C oC D ys m₂ h tk E' _ _ hC ha hb F N off ne (fun t' h' tk' hq F' N' => ?_) (fun h' tk' hq F' N' => ?_)
    · exact ⟨h', tk', news, rfl, F', N', off, hS, kct_filter q hS turn r _ (ns ++ [k]) (hy.append (.cons _ _ .nil)) fun zv hz => fin zv (by simpa [List.filter_cons, hq] using hz)⟩
    · exact ⟨h', tk', news, rfl, F', N', off, hS, kct_filter q hS turn r _ ns hy fun zv hz => fin zv (by simpa [List.filter_cons, hq] using hz)⟩
theorem letter_in {n l : Int} (h : letterOf n = some l) : 0 ≤ l ∧ l < 256 := by
  unfold letterOf at h
  simp only [List.lookup] at h
  repeat' split at h
  all_goals first | (injection h with h; subst h; decide) | cases h
theorem letter_list (n : Int) (ts : Fin 9 → Tok) : (([(97, 7, ts 0), (98, 8, ts 1), (116, 9, ts 2), (110, 10, ts 3), (118, 11, ts 4), (102, 12, ts 5), (114, 13, ts 6), (34, 34, ts 7), (92, 92, ts 8)] : List (Int × Int × Tok)).filter fun p => decide (p.2.1 = n)).map (·.1) = (letterOf n).toList := by
  by_cases h1 : n = 7; · subst h1; rfl
  by_cases h2 : n = 8; · subst h2; rfl
  by_cases h3 : n = 9; · subst h3; rfl
  by_cases h4 : n = 10; · subst h4; rfl
  by_cases h5 : n = 11; · subst h5; rfl
  by_cases h6 : n = 12; · subst h6; rfl
  by_cases h7 : n = 13; · subst h7; rfl
  by_cases h8 : n = 34; · subst h8; rfl
  by_cases h9 : n = 92; · subst h9; rfl
  simp [letterOf, List.lookup, h1, h2, h3, h4, h5, h6, h7, h8, h9, Ne.symm h1, Ne.symm h2, Ne.symm h3, Ne.symm h4, Ne.symm h5, Ne.symm h6, Ne.symm h7, Ne.symm h8, Ne.symm h9, beq_eq_false_iff_ne.mpr h1, beq_eq_false_iff_ne.mpr h2, beq_eq_false_iff_ne.mpr h3, beq_eq_false_iff_ne.mpr h4, beq_eq_false_iff_ne.mpr h5, beq_eq_false_iff_ne.mpr h6, beq_eq_false_iff_ne.mpr h7, beq_eq_false_iff_ne.mpr h8, beq_eq_false_iff_ne.mpr h9]
theorem written (B : Below A₀ base outer h₀) (F : Fr h₀ L s.heap m) (X : (hd.heap_39 w.params).In h₀) (T : Top hd.view_39 LS mean mg mb h₀) (hk : cs.kind = .function) (hdp : dp + 40 < recursionLimit) (hun : un + 1000 < cLine)
    {n : Int} {t : Tok} (N : News h₀ L s.heap []) (h0 : 0 ≤ n) (h1 : n < 256)
    (hret : ∀ (b : Array UInt8) (t : Tok) (h' : Heap) (tk' : Nat), Fr h₀ L h' m → KeepBut s.heap h' [] → KBw.bInts b = writ n → Q (.bytes b t) { s with heap := h', toks := tk' }) :
    wpAny (model PR w) (ktrTop dp un gd cn cs L a ccd cl outer) (call (.ref 138) [.int n t]) Q E s := by
  refine wpAny_call ?_
  k_dflt (refine' enterC ?k1 ?k2 ?k3 ?k4 ?k5 ?kA ?kF ?kK ?k6 ?k7 ?k8 ?k9 ?kB ?kD ?_ ?c2 ?c3 ?c4; (case kA => exact rfl); (case kF => exact rfl); (case kK => assumption); (case k1 => k_asm); (case k2 => k_asm); (case k3 => k_asm); (case k4 => k_asm); (case k5 => k_asm); (case k6 => k_is); (case k7 => k_is); (case k8 => ktr_room); (case k9 => exact BindsTo.of_eq rfl); (case kB => rfl); (case kD => decide); (case c2 => exact rfl); (case c3 => exact rfl); (case c4 => exact rfl); k_whole; intro g' L' h' tk' cells' FG' F' N' X0' B' X' T' hlt' kG'; cells_open X0'; (try simp only [List.append_nil, List.cons_append, List.nil_append] at N'); (try dsimp only); (try k_fold))
  k_steps
  · rename (_ ∧ _ ∧ _ ∧ _) => ha
    rename ((_ : Nat) : Int) = n => hb9
    exact hret _ _ _ _ (by k_asm) (by k_asm) (by rw [KBw.bInts, writ, if_pos ha]; simp; omega)
  · refine Hold.go ?_
    rename Fr _ _ _ _ => lF'
    rename News _ _ _ _ => lN'
    (k_dflt (refine kct_Assign (PySem.intKind _ _) lF' (by rfl) (by with_unfolding_all rfl) (by rfl) (by decide) (by rfl) (by decide) (by rfl) (by rfl) (by first | decide | decide +kernel) (by rfl) (by rfl) ?_))
    with_unfolding_all refine MethodCall_ ?_
    k_steps
    rename News _ _ _ _ => lN'
    with_unfolding_all refine KctSrc.intro (enc := PyData.int) (by rfl) (by k_asm) lN' ⟨_, (lN' _ (.head _)).1, rfl, rfl⟩ (by k_mem) (by k_asm) (by first | size_fits | exact Nat.le_of_ble_eq_true rfl) (fun _ _ h => Value.isInt_shape h) (xs := List.map (fun p : Int × Int × Tok => ((fun t => Value.int p.1 t), Value.int p.2.1 p.2.2)) [(97, 7, _), (98, 8, _), (116, 9, _), (110, 10, _), (118, 11, _), (102, 12, _), (114, 13, _), (34, 34, _), (92, 92, _)]) (by rfl) ?_
    intro gz
    refine kct_filter (fun v => decide (v = n)) (by exact .inr ⟨_, by k_mem, rfl, 0, rfl⟩) ?_ _ _ [] .nil ?_
    · intro k v tv t I oI C oC D ys m₂ h tk E' Q Z hC ha hb lF lN off ne yes no
      k_steps
      · rename v = n => hvn
        exact yes _ _ _ (by simp [hvn]) (by k_asm) (by k_asm)
      · rename v ≠ n => hvn
        exact no _ _ (by simp [hvn]) (by k_asm) (by k_asm)
    · intro zv hz
      rename ¬ _ => ha
      have hz' := hz
      rw [List.nil_append, letter_list n (fun i => match i with | 0 => _ | 1 => _ | 2 => _ | 3 => _ | 4 => _ | 5 => _ | 6 => _ | 7 => _ | 8 => _)] at hz'
      clear hz
      intro D h tk F N off
      cases hL : letterOf n with
      | none =>
        rw [hL, Option.toList_none] at hz'
        have := IntsAre.nil_inv hz'
        subst this
        k_steps
        exact hret _ _ _ _ (by k_asm) (by k_asm) (by rw [writ, if_neg ha, hL]; assumption)
      | some l =>
        rw [hL, Option.toList_some] at hz'
        obtain ⟨tl, zr, rfl, hz2⟩ := IntsAre.cons_inv hz'
        have := IntsAre.nil_inv hz2
        subst this
        have hl0 := (letter_in hL).1
        have hl1 := (letter_in hL).2
        k_steps
        · rename decide _ = true => hx
          exact absurd hx (by simp)
        · rename News _ _ _ _ => kN9
          refine KBa.make_K (ns := [92, l]) (by k_asm) (by k_asm) rfl (News.isList kN9 (.head _)) (.cons _ _ (.cons _ _ .nil)) (by intro x hx; simp only [List.mem_cons, List.not_mem_nil, or_false] at hx; omega) (by simp) ?_
          intro h8 t8 k8 F8 N8 I8
          k_steps
          exact hret _ _ _ _ (by k_asm) (by k_asm) (by rw [writ, if_neg ha, hL]; exact KBa.ints_make I8)
end
end PartC5
section PartC6
theorem off_C6 : True := by
  w_top off
  k_with_none
  k_with "LeaveK" => (with_reducible show LeaveK _ _ _ _ _ _ _; (rename GSub _ _ _ => zqkG'); (refine leaveS (by k_asm) zqkG' ?_); clear zqkG'; intro zqkE'; walk_say "KEEPS")
  k_with "call ref" => ((with_reducible show wpAny _ _ (call (Value.ref 98) [_, _]) _ _ _); k_dflt ((rename News _ _ _ _ => zqkN'); (rename DeckOK _ _ _ _ _ _ => zqkD'); (have zqkDn := DeckOK.ne zqkD'); (refine' draw ?k1 ?k2 ?k3 ?k4 ?kA ?kd ?ku ?kN zqkD' ?kk ?kb ?kc ?_; (case k1 => k_asm); (case k2 => k_asm); (case k3 => k_asm); (case k4 => k_asm); (case kA => first | exact rfl | assumption); (case kd => (first | decide | ((try simp only [depth_deeper, units_deeper, units_in1, depth_in1, ktrTop, Nat.add_assoc, Nat.reduceAdd]); (refine room_lt ?_ ?_; assumption; decide)) | ((try simp only [depth_deeper, units_deeper, ktrTop]); omega))); (case ku => (first | decide | ((try simp only [depth_deeper, units_deeper, units_in1, depth_in1, ktrTop, Nat.add_assoc, Nat.reduceAdd]); (refine room_lt ?_ ?_; assumption; decide)) | ((try simp only [depth_deeper, units_deeper, ktrTop]); omega))); (case kN => exact cb_drop (by k_asm) (by lcg_sub)); (case kk => omega); (case kb => omega); (case kc => omega); k_whole); (intro zqr9 zqt9 zqh9 zqtk9 zqo9 zqoc9 zqF9 zqN9 zqKB9 zqD9 zqhr0 zqhr1); (replace zqN9 := KeepBut.news2 zqKB9 zqkN' (by k_updF) (by (intro _; (try dsimp only); k_updF)) zqN9); (clear zqkN' zqkD' zqkDn); (try dsimp only at zqN9); (try dsimp only); (try k_fold)))
  k_with "call ref" => ((with_reducible show wpAny _ _ (call (Value.ref 105) [_, _]) _ _ _); k_dflt ((rename News _ _ _ _ => zqkN'); (rename DeckOK _ _ _ _ _ _ => zqkD'); (have zqkDn := DeckOK.ne zqkD'); (refine' pick ?k1 ?k2 ?k3 ?k4 ?kA ?kd ?ku ?kN zqkD' ?kk ?kb ?kc ?ld ?lc ?_; (case k1 => k_asm); (case k2 => k_asm); (case k3 => k_asm); (case k4 => k_asm); (case kA => first | exact rfl | assumption); (case kd => (first | decide | ((try simp only [depth_deeper, units_deeper, units_in1, depth_in1, ktrTop, Nat.add_assoc, Nat.reduceAdd]); (refine room_lt ?_ ?_; assumption; decide)) | ((try simp only [depth_deeper, units_deeper, ktrTop]); omega))); (case ku => (first | decide | ((try simp only [depth_deeper, units_deeper, units_in1, depth_in1, ktrTop, Nat.add_assoc, Nat.reduceAdd]); (refine room_lt ?_ ?_; assumption; decide)) | ((try simp only [depth_deeper, units_deeper, ktrTop]); omega))); (case kN => exact cb_drop (by k_asm) (by lcg_sub)); (case kk => omega); (case kb => first | decide | (simp only [List.length_append, List.length_cons, List.length_nil]; omega)); (case kc => first | decide | (simp only [List.length_append, List.length_cons, List.length_nil]; omega)); (case ld => omega); (case lc => omega); k_whole); (intro zqi9 zqhi9 zqh9 zqtk9 zqo9 zqoc9 zqF9 zqN9 zqKB9 zqD9); (replace zqN9 := KeepBut.news2 zqKB9 zqkN' (by k_updF) (by (intro _; (try dsimp only); k_updF)) (cb_drop zqN9 (by lcg_sub))); (clear zqkN' zqkD' zqkDn); (try dsimp only at zqN9); (try dsimp only); (try k_fold)))
  k_with "call ref" => ((with_reducible show wpAny _ _ (call (Value.ref 119) [_]) _ _ _); k_dflt ((rename News _ _ _ _ => zqkN'); (rename DeckOK _ _ _ _ _ _ => zqkD'); (have zqkDn := DeckOK.ne zqkD'); (refine' octet ?k1 ?k2 ?k3 ?k4 ?kA ?kd ?ku ?kN zqkD' ?kk ?_; (case k1 => k_asm); (case k2 => k_asm); (case k3 => k_asm); (case k4 => k_asm); (case kA => first | exact rfl | assumption); (case kd => (first | decide | ((try simp only [depth_deeper, units_deeper, units_in1, depth_in1, ktrTop, Nat.add_assoc, Nat.reduceAdd]); (refine room_lt ?_ ?_; assumption; decide)) | ((try simp only [depth_deeper, units_deeper, ktrTop]); omega))); (case ku => (first | decide | ((try simp only [depth_deeper, units_deeper, units_in1, depth_in1, ktrTop, Nat.add_assoc, Nat.reduceAdd]); (refine room_lt ?_ ?_; assumption; decide)) | ((try simp only [depth_deeper, units_deeper, ktrTop]); omega))); (case kN => exact cb_drop (by k_asm) (by lcg_sub)); (case kk => omega); k_whole); (intro zqr9 zqt9 zqh9 zqtk9 zqo9 zqoc9 zqF9 zqN9 zqKB9 zqD9 zqhr0 zqhr1); (replace zqN9 := KeepBut.news2 zqKB9 zqkN' (by k_updF) (by (intro _; (try dsimp only); k_updF)) zqN9); (clear zqkN' zqkD' zqkDn); (try dsimp only at zqN9); (try dsimp only); (try k_fold)))
  k_with "call ref" => ((with_reducible show wpAny _ _ (call (Value.ref 126) [_]) _ _ _); k_dflt ((rename News _ _ _ _ => zqkN'); (refine' figures ?k1 ?k2 ?k3 ?k4 ?kA ?kd ?ku ?kN ?kb ?kc ?_; (case k1 => k_asm); (case k2 => k_asm); (case k3 => k_asm); (case k4 => k_asm); (case kA => first | exact rfl | assumption); (case kd => (first | decide | ((try simp only [depth_deeper, units_deeper, units_in1, depth_in1, ktrTop, Nat.add_assoc, Nat.reduceAdd]); (refine room_lt ?_ ?_; assumption; decide)) | ((try simp only [depth_deeper, units_deeper, ktrTop]); omega))); (case ku => (first | decide | ((try simp only [depth_deeper, units_deeper, units_in1, depth_in1, ktrTop, Nat.add_assoc, Nat.reduceAdd]); (refine room_lt ?_ ?_; assumption; decide)) | ((try simp only [depth_deeper, units_deeper, ktrTop]); omega))); (case kN => exact cb_drop (by k_asm) (by lcg_sub)); (case kb => omega); (case kc => omega); k_whole); (intro zqb9 zqt9 zqh9 zqtk9 zqF9 zqKB9 zqE9); (have zqN9 := KeepBut.news0 zqKB9 zqkN'); (clear zqkN'); (try dsimp only); (try k_fold)))
  k_with "call ref" => ((with_reducible show wpAny _ _ (call (Value.ref 133) [_]) _ _ _); k_dflt ((rename News _ _ _ _ => zqkN'); (refine' isplain ?k1 ?k2 ?k3 ?k4 ?kA ?kd ?ku ?kN ?kb ?kc ?_; (case k1 => k_asm); (case k2 => k_asm); (case k3 => k_asm); (case k4 => k_asm); (case kA => first | exact rfl | assumption); (case kd => (first | decide | ((try simp only [depth_deeper, units_deeper, units_in1, depth_in1, ktrTop, Nat.add_assoc, Nat.reduceAdd]); (refine room_lt ?_ ?_; assumption; decide)) | ((try simp only [depth_deeper, units_deeper, ktrTop]); omega))); (case ku => (first | decide | ((try simp only [depth_deeper, units_deeper, units_in1, depth_in1, ktrTop, Nat.add_assoc, Nat.reduceAdd]); (refine room_lt ?_ ?_; assumption; decide)) | ((try simp only [depth_deeper, units_deeper, ktrTop]); omega))); (case kN => exact cb_drop (by k_asm) (by lcg_sub)); (case kb => omega); (case kc => omega); k_whole); (intro zqh9 zqtk9 zqF9 zqKB9); (have zqN9 := KeepBut.news0 zqKB9 zqkN'); (clear zqkN'); (try dsimp only); (try k_fold)))
  k_with "call ref" => ((with_reducible show wpAny _ _ (call (Value.ref 138) [_]) _ _ _); k_dflt ((rename News _ _ _ _ => zqkN'); (refine' written ?k1 ?k2 ?k3 ?k4 ?kA ?kd ?ku ?kN ?kb ?kc ?_; (case k1 => k_asm); (case k2 => k_asm); (case k3 => k_asm); (case k4 => k_asm); (case kA => first | exact rfl | assumption); (case kd => (first | decide | ((try simp only [depth_deeper, units_deeper, units_in1, depth_in1, ktrTop, Nat.add_assoc, Nat.reduceAdd]); (refine room_lt ?_ ?_; assumption; decide)) | ((try simp only [depth_deeper, units_deeper, ktrTop]); omega))); (case ku => (first | decide | ((try simp only [depth_deeper, units_deeper, units_in1, depth_in1, ktrTop, Nat.add_assoc, Nat.reduceAdd]); (refine room_lt ?_ ?_; assumption; decide)) | ((try simp only [depth_deeper, units_deeper, ktrTop]); omega))); (case kN => exact cb_drop (by k_asm) (by lcg_sub)); (case kb => omega); (case kc => omega); k_whole); (intro zqb9 zqt9 zqh9 zqtk9 zqF9 zqKB9 zqE9); (have zqN9 := KeepBut.news0 zqKB9 zqkN'); (clear zqkN'); (try dsimp only); (try k_fold)))
  trivial
theorem fill_C6 (w : World) (h₀ : Heap) (hX : (hd.heap_39 w.params).In h₀) : (hd.heap_39 w.params).In h₀ ∧ PySem.Challenge.rw_pb0084_01 = PySem.Challenge.rw_pb0084_01 := by
  k_fill
  exact ⟨hX, rfl⟩
section
variable {w : World} {mg mb : Str → Option Value} {mean : ExcName → Option Value} {dp un : Nat} {gd : Option (List Code)} {cn : Str} {cs : Scope} {L a : Addr} {ccd : Value} {cl : List (Str × Addr)} {outer : List Env} {A₀ : Around} {base h₀ : Heap} {m : Str → Option Value} {s : Shared} {Q E : Value → Shared → Prop} {news : List (Addr × Obj)}


noncomputable def toldIs (n : Int) (v : List Int) : Prop := v = figs n ∨ (v = [n] ∧ n ≠ 34 ∧ n ≠ 92) ∨ v = writ n
theorem told (B : Below A₀ base outer h₀) (F : Fr h₀ L s.heap m) (X : (hd.heap_39 w.params).In h₀) (T : Top hd.view_39 LS mean mg mb h₀) (hk : cs.kind = .function) (hdp : dp + 60 < recursionLimit) (hun : un + 1500 < cLine)
    {d c : Addr} {o oc : Obj} {k : Int} {n : Int} {t : Tok} (N : News h₀ L s.heap [(d, o), (c, oc)]) (D : DeckOK w d c k o oc) (hk1 : k < 999990) (h0 : 0 ≤ n) (h1 : n < 256)
    (hret : ∀ (b : Array UInt8) (t : Tok) (h' : Heap) (tk' : Nat) (o' oc' : Obj), Fr h₀ L h' m → News h₀ L h' [(d, o'), (c, oc')] → KeepBut s.heap h' [d, c] → DeckOK w d c (k + 1) o' oc' → toldIs n (KBw.bInts b) → Q (.bytes b t) { s with heap := h', toks := tk' }) :
    wpAny (model PR w) (ktrTop dp un gd cn cs L a ccd cl outer) (call (.ref 145) [.ref d, .int n t]) Q E s := by
  refine wpAny_call ?_
  k_dflt (refine' code_defG ?k1 ?k2 ?k3 ?k4 ?k5 ?kA ?kF ?kK ?k6 ?k7 ?k8 ?k9 ?kB ?_ ?c2 ?c3 ?c4 ?c5; (case kA => exact rfl); (case kF => exact rfl); (case kK => assumption); (case k1 => k_asm); (case k2 => k_asm); (case k3 => k_asm); (case k4 => k_asm); (case k5 => k_asm); (case k6 => k_is); (case k7 => k_is); (case k8 => ktr_room); (case k9 => exact BindsTo.of_eq rfl); (case c5 => decide); (case kB => exact locs rfl); (case c2 => exact rfl); (case c3 => exact rfl); (case c4 => exact rfl); k_whole; intro g' L' h' FG' F' N' B' X' T' kG'; (try dsimp only); (try k_fold))
  k_steps
  all_goals (rename DeckOK _ _ _ _ _ _ => D9; refine hret _ _ _ _ _ _ (by k_asm) (cb_drop (by k_asm) (by lcg_sub)) (by k_asm) D9 ?_)
  · rename KBw.bInts _ = _ => hE
    exact .inl hE
  · rename KBw.bInts _ = _ => hE
    exact .inr (.inr hE)
  · rename List.any _ _ = false => hx
    simp at hx
    exact .inr (.inl ⟨by rw [KBw.bInts]; simp; omega, by omega, by omega⟩)
  · rename KBw.bInts _ = _ => hE
    exact .inr (.inr hE)
end
end PartC6
section PartD1
local macro_rules | `(tactic| walk_at "pyIter bytes") => `(tactic| ((with_reducible show wpAny _ _ (pyIter (Value.bytes _ _)) _ _ _); refine Hold.stop ?_))
theorem off_D1 : True := by
  w_top off
  k_with_none
  k_with "LeaveK" => (with_reducible show LeaveK _ _ _ _ _ _ _; (rename GSub _ _ _ => zqkG'); (refine leaveS (by k_asm) zqkG' ?_); clear zqkG'; intro zqkE'; walk_say "KEEPS")
  k_with "call ref" => ((with_reducible show wpAny _ _ (call (Value.ref 98) [_, _]) _ _ _); k_dflt ((rename News _ _ _ _ => zqkN'); (rename DeckOK _ _ _ _ _ _ => zqkD'); (have zqkDn := DeckOK.ne zqkD'); (refine' draw ?k1 ?k2 ?k3 ?k4 ?kA ?kd ?ku ?kN zqkD' ?kk ?kb ?kc ?_; (case k1 => k_asm); (case k2 => k_asm); (case k3 => k_asm); (case k4 => k_asm); (case kA => first | exact rfl | assumption); (case kd => (first | decide | ((try simp only [depth_deeper, units_deeper, units_in1, depth_in1, ktrTop, Nat.add_assoc, Nat.reduceAdd]); (refine room_lt ?_ ?_; assumption; decide)) | ((try simp only [depth_deeper, units_deeper, ktrTop]); omega))); (case ku => (first | decide | ((try simp only [depth_deeper, units_deeper, units_in1, depth_in1, ktrTop, Nat.add_assoc, Nat.reduceAdd]); (refine room_lt ?_ ?_; assumption; decide)) | ((try simp only [depth_deeper, units_deeper, ktrTop]); omega))); (case kN => exact cb_drop (by k_asm) (by lcg_sub)); (case kk => omega); (case kb => omega); (case kc => omega); k_whole); (intro zqr9 zqt9 zqh9 zqtk9 zqo9 zqoc9 zqF9 zqN9 zqKB9 zqD9 zqhr0 zqhr1); (replace zqN9 := KeepBut.news2 zqKB9 zqkN' (by k_updF) (by (intro _; (try dsimp only); k_updF)) zqN9); (clear zqkN' zqkD' zqkDn); (try dsimp only at zqN9); (try dsimp only); (try k_fold)))
  k_with "call ref" => ((with_reducible show wpAny _ _ (call (Value.ref 105) [_, _]) _ _ _); k_dflt ((rename News _ _ _ _ => zqkN'); (rename DeckOK _ _ _ _ _ _ => zqkD'); (have zqkDn := DeckOK.ne zqkD'); (refine' pick ?k1 ?k2 ?k3 ?k4 ?kA ?kd ?ku ?kN zqkD' ?kk ?kb ?kc ?ld ?lc ?_; (case k1 => k_asm); (case k2 => k_asm); (case k3 => k_asm); (case k4 => k_asm); (case kA => first | exact rfl | assumption); (case kd => (first | decide | ((try simp only [depth_deeper, units_deeper, units_in1, depth_in1, ktrTop, Nat.add_assoc, Nat.reduceAdd]); (refine room_lt ?_ ?_; assumption; decide)) | ((try simp only [depth_deeper, units_deeper, ktrTop]); omega))); (case ku => (first | decide | ((try simp only [depth_deeper, units_deeper, units_in1, depth_in1, ktrTop, Nat.add_assoc, Nat.reduceAdd]); (refine room_lt ?_ ?_; assumption; decide)) | ((try simp only [depth_deeper, units_deeper, ktrTop]); omega))); (case kN => exact cb_drop (by k_asm) (by lcg_sub)); (case kk => omega); (case kb => first | decide | (simp only [List.length_append, List.length_cons, List.length_nil]; omega)); (case kc => first | decide | (simp only [List.length_append, List.length_cons, List.length_nil]; omega)); (case ld => omega); (case lc => omega); k_whole); (intro zqi9 zqhi9 zqh9 zqtk9 zqo9 zqoc9 zqF9 zqN9 zqKB9 zqD9); (replace zqN9 := KeepBut.news2 zqKB9 zqkN' (by k_updF) (by (intro _; (try dsimp only); k_updF)) (cb_drop zqN9 (by lcg_sub))); (clear zqkN' zqkD' zqkDn); (try dsimp only at zqN9); (try dsimp only); (try k_fold)))
  k_with "call ref" => ((with_reducible show wpAny _ _ (call (Value.ref 119) [_]) _ _ _); k_dflt ((rename News _ _ _ _ => zqkN'); (rename DeckOK _ _ _ _ _ _ => zqkD'); (have zqkDn := DeckOK.ne zqkD'); (refine' octet ?k1 ?k2 ?k3 ?k4 ?kA ?kd ?ku ?kN zqkD' ?kk ?_; (case k1 => k_asm); (case k2 => k_asm); (case k3 => k_asm); (case k4 => k_asm); (case kA => first | exact rfl | assumption); (case kd => (first | decide | ((try simp only [depth_deeper, units_deeper, units_in1, depth_in1, ktrTop, Nat.add_assoc, Nat.reduceAdd]); (refine room_lt ?_ ?_; assumption; decide)) | ((try simp only [depth_deeper, units_deeper, ktrTop]); omega))); (case ku => (first | decide | ((try simp only [depth_deeper, units_deeper, units_in1, depth_in1, ktrTop, Nat.add_assoc, Nat.reduceAdd]); (refine room_lt ?_ ?_; assumption; decide)) | ((try simp only [depth_deeper, units_deeper, ktrTop]); omega))); (case kN => exact cb_drop (by k_asm) (by lcg_sub)); (case kk => omega); k_whole); (intro zqr9 zqt9 zqh9 zqtk9 zqo9 zqoc9 zqF9 zqN9 zqKB9 zqD9 zqhr0 zqhr1); (replace zqN9 := KeepBut.news2 zqKB9 zqkN' (by k_updF) (by (intro _; (try dsimp only); k_updF)) zqN9); (clear zqkN' zqkD' zqkDn); (try dsimp only at zqN9); (try dsimp only); (try k_fold)))
  k_with "call ref" => ((with_reducible show wpAny _ _ (call (Value.ref 126) [_]) _ _ _); k_dflt ((rename News _ _ _ _ => zqkN'); (refine' figures ?k1 ?k2 ?k3 ?k4 ?kA ?kd ?ku ?kN ?kb ?kc ?_; (case k1 => k_asm); (case k2 => k_asm); (case k3 => k_asm); (case k4 => k_asm); (case kA => first | exact rfl | assumption); (case kd => (first | decide | ((try simp only [depth_deeper, units_deeper, units_in1, depth_in1, ktrTop, Nat.add_assoc, Nat.reduceAdd]); (refine room_lt ?_ ?_; assumption; decide)) | ((try simp only [depth_deeper, units_deeper, ktrTop]); omega))); (case ku => (first | decide | ((try simp only [depth_deeper, units_deeper, units_in1, depth_in1, ktrTop, Nat.add_assoc, Nat.reduceAdd]); (refine room_lt ?_ ?_; assumption; decide)) | ((try simp only [depth_deeper, units_deeper, ktrTop]); omega))); (case kN => exact cb_drop (by k_asm) (by lcg_sub)); (case kb => omega); (case kc => omega); k_whole); (intro zqb9 zqt9 zqh9 zqtk9 zqF9 zqKB9 zqE9); (have zqN9 := KeepBut.news0 zqKB9 zqkN'); (clear zqkN'); (try dsimp only); (try k_fold)))
  k_with "call ref" => ((with_reducible show wpAny _ _ (call (Value.ref 133) [_]) _ _ _); k_dflt ((rename News _ _ _ _ => zqkN'); (refine' isplain ?k1 ?k2 ?k3 ?k4 ?kA ?kd ?ku ?kN ?kb ?kc ?_; (case k1 => k_asm); (case k2 => k_asm); (case k3 => k_asm); (case k4 => k_asm); (case kA => first | exact rfl | assumption); (case kd => (first | decide | ((try simp only [depth_deeper, units_deeper, units_in1, depth_in1, ktrTop, Nat.add_assoc, Nat.reduceAdd]); (refine room_lt ?_ ?_; assumption; decide)) | ((try simp only [depth_deeper, units_deeper, ktrTop]); omega))); (case ku => (first | decide | ((try simp only [depth_deeper, units_deeper, units_in1, depth_in1, ktrTop, Nat.add_assoc, Nat.reduceAdd]); (refine room_lt ?_ ?_; assumption; decide)) | ((try simp only [depth_deeper, units_deeper, ktrTop]); omega))); (case kN => exact cb_drop (by k_asm) (by lcg_sub)); (case kb => omega); (case kc => omega); k_whole); (intro zqh9 zqtk9 zqF9 zqKB9); (have zqN9 := KeepBut.news0 zqKB9 zqkN'); (clear zqkN'); (try dsimp only); (try k_fold)))
  k_with "call ref" => ((with_reducible show wpAny _ _ (call (Value.ref 138) [_]) _ _ _); k_dflt ((rename News _ _ _ _ => zqkN'); (refine' written ?k1 ?k2 ?k3 ?k4 ?kA ?kd ?ku ?kN ?kb ?kc ?_; (case k1 => k_asm); (case k2 => k_asm); (case k3 => k_asm); (case k4 => k_asm); (case kA => first | exact rfl | assumption); (case kd => (first | decide | ((try simp only [depth_deeper, units_deeper, units_in1, depth_in1, ktrTop, Nat.add_assoc, Nat.reduceAdd]); (refine room_lt ?_ ?_; assumption; decide)) | ((try simp only [depth_deeper, units_deeper, ktrTop]); omega))); (case ku => (first | decide | ((try simp only [depth_deeper, units_deeper, units_in1, depth_in1, ktrTop, Nat.add_assoc, Nat.reduceAdd]); (refine room_lt ?_ ?_; assumption; decide)) | ((try simp only [depth_deeper, units_deeper, ktrTop]); omega))); (case kN => exact cb_drop (by k_asm) (by lcg_sub)); (case kb => omega); (case kc => omega); k_whole); (intro zqb9 zqt9 zqh9 zqtk9 zqF9 zqKB9 zqE9); (have zqN9 := KeepBut.news0 zqKB9 zqkN'); (clear zqkN'); (try dsimp only); (try k_fold)))
  k_with "call ref" => ((with_reducible show wpAny _ _ (call (Value.ref 54) [_, _]) _ _ _); refine Hold.stop ?_)
  trivial
theorem fill_OcT (w : World) (h₀ : Heap) (hX : (hd.heap_39 w.params).In h₀) : (hd.heap_39 w.params).In h₀ ∧ PySem.Challenge.rw_pb0084_01 = PySem.Challenge.rw_pb0084_01 := by
  k_fill
  exact ⟨hX, rfl⟩
section
variable {w : World} {mg mb : Str → Option Value} {mean : ExcName → Option Value} {dp un : Nat} {gd : Option (List Code)} {cn : Str} {cs : Scope} {L a : Addr} {ccd : Value} {cl : List (Str × Addr)} {outer : List Env} {A₀ : Around} {base h₀ : Heap} {m : Str → Option Value} {s : Shared} {Q E : Value → Shared → Prop} {news : List (Addr × Obj)}


section
variable {prog : Program} {A : Around} {Ev : Value → Shared → Prop} {env : Env} {m0 : Str → Option Value}
theorem forBytesA {x z d : Str} {px : Pos} {body : List Stmt} {pb : Array UInt8} {t : Tok} {ks : List Int} {Q : Flow → Shared → Prop} (J : Nat → Int → Prop) {v0 : Int} {u0 : Tok} {ox od : Option Value}
    (hh : A.handled = none) (hks : KBw.bInts pb = ks) (hloc : env.locals = L) (hkx : env.kindOf x = some .local) (hcls : (env.scope.kind == .class || (env.scope.kind == .module && env.locals != env.globals)) = false)
    (F : Fr h₀ L s.heap (fun y => if y = x then ox else if y = z then some (.int v0 u0) else if y = d then od else m0 y)) (J0 : J 0 v0)
    (turn : ∀ (i : Nat) (k : Int) (u : Tok) (v : Int) (uv : Tok) (dv : Option Value) (I : Addr) (oI : Obj) h tk (Q' : Flow → Shared → Prop) (E' : Value → Shared → Prop), ks[i]? = some k → J i v → Fr h₀ L h (fun y => if y = x then some (.int k u) else if y = z then some (.int v uv) else if y = d then dv else m0 y) → News h₀ L h [(I, oI)] →
      (∀ h' tk' v' uv' dv' m', m' = (fun y => if y = x then some (.int k u) else if y = z then some (.int v' uv') else if y = d then dv' else m0 y) → J (i + 1) v' → Fr h₀ L h' m' → News h₀ L h' [(I, oI)] → Q' .next { s with heap := h', toks := tk' }) →
      (∀ f s', Q f s' → f ≠ .next → f ≠ .cont → f ≠ .brk → Q' f s') →
      wpAny (model prog w) A (execs body env) Q' E' { s with heap := h, toks := tk })
    (done : ∀ h tk v uv ov dv, J ks.length v → Fr h₀ L h (fun y => if y = x then ov else if y = z then some (.int v uv) else if y = d then dv else m0 y) → Q .next { s with heap := h, toks := tk }) :
    wpAny (model prog w) A (pyIter (.bytes pb t)) (fun it s₂ => codeAny (model prog w) A (.forLoop (.Name x px) it body [] env) (fun r s' => match r with | .ok f => Q f s' | .error e => cameBackBy (model prog w) A env Ev e s') s₂) Ev s := by
  subst hloc
  have hlen : ks.length = pb.size := by rw [← hks]; exact KBw.ints_length pb
  refine KBw.pyIter_bytes ?_
  have hIL : @Ne Nat s.heap.objs.size env.locals := fun e => Nat.lt_irrefl _ (e ▸ F.ns.lt)
  have hI0 := next_is_new F
  have key : ∀ b o, s.heap.get? b = some o → (s.heap.push { cls := .type "bytes_iterator", data := .fields #[.bytes pb t, .int 0 0] }).get? b = some o := fun b o e => Heap.get?_push_of_some _ e
  refine codeAny_forLoop (fun k s' => ∃ h' tk i oI ov v uv dv, s' = { s with heap := h', toks := tk } ∧ i ≤ ks.length ∧ k = ks.length + 1 - i ∧ KBw.IsBytesIter h' s.heap.objs.size pb t i ∧ h'.get? s.heap.objs.size = some oI ∧ Fr h₀ env.locals h' (fun y => if y = x then ov else if y = z then some (.int v uv) else if y = d then dv else m0 y) ∧ J i v)
    ?_ (ks.length + 1) ⟨_, _, 0, _, ox, v0, u0, od, rfl, Nat.zero_le _, rfl, ⟨_, Heap.get?_push_size _ rfl, rfl, rfl⟩, Heap.get?_push_size _ rfl, F.keeps key, J0⟩
  rintro k s' ⟨h', tk, i, oI, ov, v, uv, dv, rfl, hi, rfl, hit, hoI, F', hJ⟩
  by_cases hlt : i < ks.length
  · obtain ⟨c, hc⟩ : ∃ c, pb[i]? = some c := ⟨_, Array.getElem?_eq_getElem (by omega)⟩
    refine KBw.next_item hit hc fun h1 hit1 hs1 => ?_
    have F1 := F'.change hs1 hIL hI0
    refine wpAny_assign_Name (wpAny_storeName_local hkx F1.ns (fun h2 hn2 hs2 => ?_) hcls)
    have hL0 : h₀.get? env.locals = none := Heap.get?_none_of_le F1.above
    have F2 : Fr h₀ env.locals h2 (fun y => if y = x then some (Value.int (c.toNat : Int) tk) else if y = x then ov else if y = z then some (.int v uv) else if y = d then dv else m0 y) :=
      ⟨hn2, fun b o e => hs2.extBut b o (fun q => by rw [q, hL0] at e; cases e) (F1.keep b o e), F1.above⟩
    have F3 : Fr h₀ env.locals h2 (fun y => if y = x then some (Value.int (c.toNat : Int) tk) else if y = z then some (.int v uv) else if y = d then dv else m0 y) := by
      have e : (fun y => if y = x then some (Value.int (c.toNat : Int) tk) else if y = x then ov else if y = z then some (.int v uv) else if y = d then dv else m0 y) = (fun y => if y = x then some (Value.int (c.toNat : Int) tk) else if y = z then some (.int v uv) else if y = d then dv else m0 y) := by
        funext y; by_cases hy : y = x <;> simp [hy]
      rw [← e]; exact F2
    obtain ⟨oI1, heI1, hcI1, hdI1⟩ := hit1
    have heI2 : h2.get? s.heap.objs.size = some oI1 := hs2.extBut _ _ hIL heI1
    have N2 : News h₀ env.locals h2 [(s.heap.objs.size, oI1)] := fun p hp => by rw [List.mem_singleton.mp hp]; exact ⟨heI2, hIL, hI0⟩
    have hk : ks[i]? = some (c.toNat : Int) := hks ▸ KBw.ints_get hc
    refine turn i _ tk v uv dv s.heap.objs.size oI1 h2 _ _ _ hk hJ F3 N2 ?_ ?_
    · intro h' tk' v' uv' dv' m' hm' hJ' F' N'
      subst hm'
      exact ⟨ks.length + 1 - (i + 1), by omega, h', tk', i + 1, oI1, _, v', uv', dv', rfl, by omega, rfl, ⟨oI1, (N' _ (.head _)).1, hcI1, hdI1⟩, (N' _ (.head _)).1, F', hJ'⟩
    · intro f s' hf h1 h2 h3
      cases f with
      | next => exact absurd rfl h1
      | cont => exact absurd rfl h2
      | brk => exact absurd rfl h3
      | ret v => exact hf
  · obtain rfl : i = ks.length := by omega
    refine KBw.next_end hh hit (by simp; omega) fun h1 he1 => ?_
    refine wpAny_execs_nil (done h1 tk v uv ov dv hJ ⟨F'.ns.at' fun o e => he1 _ _ (Ne.symm hIL) e, fun b o e => he1 _ _ (fun q => by rw [q, hI0] at e; cases e) (F'.keep b o e), F'.above⟩)
end
noncomputable def octGo : Int → List Int → Option Int
  | v, [] => some v
  | v, k :: r => if 48 ≤ k ∧ k < 56 then octGo (8 * v + (k - 48)) r else none
noncomputable def octNum : List Int → Option Int
  | [] => none
  | k :: r => octGo 0 (k :: r)
noncomputable def optV : Option Int → Tok → Value
  | none, _ => .none
  | some v, t => .int v t
theorem num_start {g h : Heap} {L : Addr} {u : Tok} {pb : Array UInt8} {t tb : Tok} (F : Fr g L h (fun y => if y = Str.ofString "number" then some (.int 0 u) else [(Str.ofString "base", Value.int 8 tb), (Str.ofString "octets", Value.bytes pb t)].lookup y)) :
    Fr g L h (fun y => if y = Str.ofString "octet" then none else if y = Str.ofString "number" then some (.int 0 u) else if y = Str.ofString "digit" then none else if y = Str.ofString "octets" then some (.bytes pb t) else if y = Str.ofString "base" then some (.int 8 tb) else none) := by
  have e : (fun y => if y = Str.ofString "number" then some (Value.int 0 u) else [(Str.ofString "base", Value.int 8 tb), (Str.ofString "octets", Value.bytes pb t)].lookup y) = (fun y => if y = Str.ofString "octet" then none else if y = Str.ofString "number" then some (Value.int 0 u) else if y = Str.ofString "digit" then none else if y = Str.ofString "octets" then some (Value.bytes pb t) else if y = Str.ofString "base" then some (Value.int 8 tb) else none) := by
    funext y
    by_cases h1 : y = Str.ofString "octet"
    · subst h1; rfl
    · by_cases h2 : y = Str.ofString "digit"
      · subst h2; rfl
      · by_cases h3 : y = Str.ofString "octets"
        · subst h3; rfl
        · by_cases h4 : y = Str.ofString "base"
          · subst h4; rfl
          · simp only [h1, h2, h3, h4, if_false, List.lookup_cons, beq_eq_false_iff_ne.mpr h3, beq_eq_false_iff_ne.mpr h4, List.lookup_nil]
  rw [← e]; exact F
theorem oct_drop {v : Int} {ks : List Int} {i : Nat} {k : Int} (h : ks[i]? = some k) : octGo v (ks.drop i) = if 48 ≤ k ∧ k < 56 then octGo (8 * v + (k - 48)) (ks.drop (i + 1)) else none := by
  obtain ⟨hlt, rfl⟩ := List.getElem?_eq_some_iff.mp h
  rw [List.drop_eq_getElem_cons hlt]
  rfl
theorem num_next {g h : Heap} {L : Addr} {a b c b' : Value} {d : Option Value} {m0 : Str → Option Value} (F : Fr g L h (fun y => if y = Str.ofString "number" then some a else if y = Str.ofString "digit" then some b else if y = Str.ofString "octet" then some c else if y = Str.ofString "number" then some b' else if y = Str.ofString "digit" then d else m0 y)) :
    Fr g L h (fun y => if y = Str.ofString "octet" then some c else if y = Str.ofString "number" then some a else if y = Str.ofString "digit" then some b else m0 y) := by
  have e : (fun y => if y = Str.ofString "number" then some a else if y = Str.ofString "digit" then some b else if y = Str.ofString "octet" then some c else if y = Str.ofString "number" then some b' else if y = Str.ofString "digit" then d else m0 y) = (fun y => if y = Str.ofString "octet" then some c else if y = Str.ofString "number" then some a else if y = Str.ofString "digit" then some b else m0 y) := by
    funext y
    by_cases h1 : y = Str.ofString "octet"
    · subst h1; rfl
    · by_cases h2 : y = Str.ofString "number"
      · subst h2; rfl
      · by_cases h3 : y = Str.ofString "digit"
        · subst h3; rfl
        · simp only [h1, h2, h3, if_false]
  rw [← e]; exact F
theorem of_oct {Q : Value → Shared → Prop} {s : Shared} {o : Option Int} (e : o = none) (h : ∀ u, Q (optV o u) s) : Q .none s := by
  have z := h 0
  rw [e] at z
  exact z
theorem numby (B : Below A₀ base outer h₀) (F : Fr h₀ L s.heap m) (X : (hd.heap_39 w.params).In h₀) (T : Top hd.view_39 LS mean mg mb h₀) (hk : cs.kind = .function) (hdp : dp + 20 < recursionLimit) (hun : un + 500 < cLine)
    {pb : Array UInt8} {ks : List Int} {t tb : Tok} (N : News h₀ L s.heap []) (hks : KBw.bInts pb = ks) (hkl : ks.length ≤ 3)
    (hret : ∀ (u : Tok) (h' : Heap) (tk' : Nat), Fr h₀ L h' m → KeepBut s.heap h' [] → Q (optV (octNum ks) u) { s with heap := h', toks := tk' }) :
    wpAny (model PR w) (ktrTop dp un gd cn cs L a ccd cl outer) (call (.ref 54) [.bytes pb t, .int 8 tb]) Q E s := by
  refine wpAny_call ?_
  k_dflt (refine' code_defG ?k1 ?k2 ?k3 ?k4 ?k5 ?kA ?kF ?kK ?k6 ?k7 ?k8 ?k9 ?kB ?_ ?c2 ?c3 ?c4 ?c5; (case kA => exact rfl); (case kF => exact rfl); (case kK => assumption); (case k1 => k_asm); (case k2 => k_asm); (case k3 => k_asm); (case k4 => k_asm); (case k5 => k_asm); (case k6 => k_is); (case k7 => k_is); (case k8 => ktr_room); (case k9 => exact BindsTo.of_eq rfl); (case c5 => decide); (case kB => exact locs rfl); (case c2 => exact rfl); (case c3 => exact rfl); (case c4 => exact rfl); k_whole; intro g' L' h' FG' F' N' B' X' T' kG'; (try dsimp only); (try k_fold))
  refine wpAny_name ?_
  intro Q' E' hQ hE
  refine wpAny_execs_cons ?_
  k_steps
  · have hk0 : ks = [] := List.length_eq_zero_iff.mp (by omega)
    subst hk0
    refine hQ _ _ ?_
    k_steps
    exact hret 0 _ _ (by k_asm) (by k_asm)
  · refine wpAny_For ?_
    k_steps
    refine Hold.go ?_
    rename Fr _ _ _ _ => lF
    rename News _ _ _ _ => lN
    have lF2 := num_start lF
    refine forBytesA (v0 := 0) (fun i v => 0 ≤ v ∧ v < 512 ∧ ((i = 0 → v < 1) ∧ (i = 1 → v < 8) ∧ (i = 2 → v < 64)) ∧ octNum ks = octGo v (ks.drop i)) rfl hks rfl rfl rfl lF2 ?_ ?_ ?_
    · refine ⟨by decide, by decide, by omega, ?_⟩
      cases ks with
      | nil => simp at *
      | cons k r => rfl
    · intro i k u v uv dv I oI h tk Q2 E2 hi hJ lF lN yes oth
      obtain ⟨hv0, hv1, hv2, hv3⟩ := hJ
      have hin := KBw.ints_in (hks ▸ List.mem_of_getElem? hi)
      refine wpAny_execs_cons ?_
      k_steps
      all_goals rename Fr _ _ _ _ => lF
      all_goals rename News _ _ _ _ => lN
      · refine yes _ _ _ _ _ _ rfl ?_ (num_next lF) lN
        · have hlt : i < ks.length := (List.getElem?_eq_some_iff.mp hi).1
          refine ⟨by omega, by omega, by omega, ?_⟩
          rw [hv3, oct_drop hi, if_pos (by omega)]
      · refine oth _ _ ?_ (fun e => by cases e) (fun e => by cases e) (fun e => by cases e)
        refine hQ _ _ ?_
        k_steps
        exact of_oct (Q := Q) (by rw [hv3, oct_drop hi, if_neg (by omega)]) fun u => hret u _ _ (by k_asm) (by k_asm)
      · refine oth _ _ ?_ (fun e => by cases e) (fun e => by cases e) (fun e => by cases e)
        refine hQ _ _ ?_
        k_steps
        exact of_oct (Q := Q) (by rw [hv3, oct_drop hi, if_neg (by omega)]) fun u => hret u _ _ (by k_asm) (by k_asm)
    · intro h tk v uv ov dv hJ lF
      obtain ⟨hv0, hv1, hv2, hv3⟩ := hJ
      rw [List.drop_of_length_le (Nat.le_refl _)] at hv3
      have lN : News g' L' h [] := fun p hp => nomatch hp
      (try dsimp only)
      k_steps
      refine hQ _ _ ?_
      k_steps
      exact of_val (Q := Q) (by rw [hv3]; rfl) (hret _ _ _ (by k_asm) (by k_asm))
theorem octal (B : Below A₀ base outer h₀) (F : Fr h₀ L s.heap m) (X : (hd.heap_39 w.params).In h₀) (T : Top hd.view_39 LS mean mg mb h₀) (hk : cs.kind = .function) (hdp : dp + 40 < recursionLimit) (hun : un + 1000 < cLine)
    {pb : Array UInt8} {ks : List Int} {t : Tok} (N : News h₀ L s.heap []) (hks : KBw.bInts pb = ks) (hkl : ks.length ≤ 3)
    (hret : ∀ (u : Tok) (h' : Heap) (tk' : Nat), Fr h₀ L h' m → KeepBut s.heap h' [] → Q (optV (octNum ks) u) { s with heap := h', toks := tk' }) :
    wpAny (model PR w) (ktrTop dp un gd cn cs L a ccd cl outer) (call (.ref 61) [.bytes pb t]) Q E s := by
  refine wpAny_call ?_
  k_dflt (refine' code_defG ?k1 ?k2 ?k3 ?k4 ?k5 ?kA ?kF ?kK ?k6 ?k7 ?k8 ?k9 ?kB ?_ ?c2 ?c3 ?c4 ?c5; (case kA => exact rfl); (case kF => exact rfl); (case kK => assumption); (case k1 => k_asm); (case k2 => k_asm); (case k3 => k_asm); (case k4 => k_asm); (case k5 => k_asm); (case k6 => k_is); (case k7 => k_is); (case k8 => ktr_room); (case k9 => exact BindsTo.of_eq rfl); (case c5 => decide); (case kB => exact locs rfl); (case c2 => exact rfl); (case c3 => exact rfl); (case c4 => exact rfl); k_whole; intro g' L' h' FG' F' N' B' X' T' kG'; (try dsimp only); (try k_fold))
  k_steps
  refine Hold.go ?_
  refine' numby ?k1 ?k2 ?k3 ?k4 ?kA ?kd ?ku ?kN ?kb ?kc ?_
  (case kb => exact hks)
  (case k1 => k_asm); (case k2 => k_asm); (case k3 => k_asm); (case k4 => k_asm); (case kA => exact rfl); (case kd => (first | decide | ((try simp only [depth_deeper, units_deeper, units_in1, depth_in1, ktrTop, Nat.add_assoc, Nat.reduceAdd]); (refine room_lt ?_ ?_; assumption; decide)) | ((try simp only [depth_deeper, units_deeper, ktrTop]); omega))); (case ku => (first | decide | ((try simp only [depth_deeper, units_deeper, units_in1, depth_in1, ktrTop, Nat.add_assoc, Nat.reduceAdd]); (refine room_lt ?_ ?_; assumption; decide)) | ((try simp only [depth_deeper, units_deeper, ktrTop]); omega))); (case kN => exact cb_drop (by k_asm) (by lcg_sub)); (case kc => exact hkl)
  intro u h9 tk9 F9 KB9
  have N9 : News g' L' h9 [] := fun p hp => nomatch hp
  (try dsimp only)
  k_steps
  exact hret _ _ _ (by k_asm) (by k_asm)
end
end PartD1
section PartC7
theorem off_C7 : True := by
  w_top off
  k_with_none
  k_with "LeaveK" => (with_reducible show LeaveK _ _ _ _ _ _ _; (rename GSub _ _ _ => zqkG'); (refine leaveS (by k_asm) zqkG' ?_); clear zqkG'; intro zqkE'; walk_say "KEEPS")
  k_with "call ref" => ((with_reducible show wpAny _ _ (call (Value.ref 98) [_, _]) _ _ _); k_dflt ((rename News _ _ _ _ => zqkN'); (rename DeckOK _ _ _ _ _ _ => zqkD'); (have zqkDn := DeckOK.ne zqkD'); (refine' draw ?k1 ?k2 ?k3 ?k4 ?kA ?kd ?ku ?kN zqkD' ?kk ?kb ?kc ?_; (case k1 => k_asm); (case k2 => k_asm); (case k3 => k_asm); (case k4 => k_asm); (case kA => first | exact rfl | assumption); (case kd => (first | decide | ((try simp only [depth_deeper, units_deeper, units_in1, depth_in1, ktrTop, Nat.add_assoc, Nat.reduceAdd]); (refine room_lt ?_ ?_; assumption; decide)) | ((try simp only [depth_deeper, units_deeper, ktrTop]); omega))); (case ku => (first | decide | ((try simp only [depth_deeper, units_deeper, units_in1, depth_in1, ktrTop, Nat.add_assoc, Nat.reduceAdd]); (refine room_lt ?_ ?_; assumption; decide)) | ((try simp only [depth_deeper, units_deeper, ktrTop]); omega))); (case kN => exact cb_drop (by k_asm) (by lcg_sub)); (case kk => omega); (case kb => omega); (case kc => omega); k_whole); (intro zqr9 zqt9 zqh9 zqtk9 zqo9 zqoc9 zqF9 zqN9 zqKB9 zqD9 zqhr0 zqhr1); (replace zqN9 := KeepBut.news2 zqKB9 zqkN' (by k_updF) (by (intro _; (try dsimp only); k_updF)) zqN9); (clear zqkN' zqkD' zqkDn); (try dsimp only at zqN9); (try dsimp only); (try k_fold)))
  k_with "call ref" => ((with_reducible show wpAny _ _ (call (Value.ref 105) [_, _]) _ _ _); k_dflt ((rename News _ _ _ _ => zqkN'); (rename DeckOK _ _ _ _ _ _ => zqkD'); (have zqkDn := DeckOK.ne zqkD'); (refine' pick ?k1 ?k2 ?k3 ?k4 ?kA ?kd ?ku ?kN zqkD' ?kk ?kb ?kc ?ld ?lc ?_; (case k1 => k_asm); (case k2 => k_asm); (case k3 => k_asm); (case k4 => k_asm); (case kA => first | exact rfl | assumption); (case kd => (first | decide | ((try simp only [depth_deeper, units_deeper, units_in1, depth_in1, ktrTop, Nat.add_assoc, Nat.reduceAdd]); (refine room_lt ?_ ?_; assumption; decide)) | ((try simp only [depth_deeper, units_deeper, ktrTop]); omega))); (case ku => (first | decide | ((try simp only [depth_deeper, units_deeper, units_in1, depth_in1, ktrTop, Nat.add_assoc, Nat.reduceAdd]); (refine room_lt ?_ ?_; assumption; decide)) | ((try simp only [depth_deeper, units_deeper, ktrTop]); omega))); (case kN => exact cb_drop (by k_asm) (by lcg_sub)); (case kk => omega); (case kb => first | decide | (simp only [List.length_append, List.length_cons, List.length_nil]; omega)); (case kc => first | decide | (simp only [List.length_append, List.length_cons, List.length_nil]; omega)); (case ld => omega); (case lc => omega); k_whole); (intro zqi9 zqhi9 zqh9 zqtk9 zqo9 zqoc9 zqF9 zqN9 zqKB9 zqD9); (replace zqN9 := KeepBut.news2 zqKB9 zqkN' (by k_updF) (by (intro _; (try dsimp only); k_updF)) (cb_drop zqN9 (by lcg_sub))); (clear zqkN' zqkD' zqkDn); (try dsimp only at zqN9); (try dsimp only); (try k_fold)))
  k_with "call ref" => ((with_reducible show wpAny _ _ (call (Value.ref 119) [_]) _ _ _); k_dflt ((rename News _ _ _ _ => zqkN'); (rename DeckOK _ _ _ _ _ _ => zqkD'); (have zqkDn := DeckOK.ne zqkD'); (refine' octet ?k1 ?k2 ?k3 ?k4 ?kA ?kd ?ku ?kN zqkD' ?kk ?_; (case k1 => k_asm); (case k2 => k_asm); (case k3 => k_asm); (case k4 => k_asm); (case kA => first | exact rfl | assumption); (case kd => (first | decide | ((try simp only [depth_deeper, units_deeper, units_in1, depth_in1, ktrTop, Nat.add_assoc, Nat.reduceAdd]); (refine room_lt ?_ ?_; assumption; decide)) | ((try simp only [depth_deeper, units_deeper, ktrTop]); omega))); (case ku => (first | decide | ((try simp only [depth_deeper, units_deeper, units_in1, depth_in1, ktrTop, Nat.add_assoc, Nat.reduceAdd]); (refine room_lt ?_ ?_; assumption; decide)) | ((try simp only [depth_deeper, units_deeper, ktrTop]); omega))); (case kN => exact cb_drop (by k_asm) (by lcg_sub)); (case kk => omega); k_whole); (intro zqr9 zqt9 zqh9 zqtk9 zqo9 zqoc9 zqF9 zqN9 zqKB9 zqD9 zqhr0 zqhr1); (replace zqN9 := KeepBut.news2 zqKB9 zqkN' (by k_updF) (by (intro _; (try dsimp only); k_updF)) zqN9); (clear zqkN' zqkD' zqkDn); (try dsimp only at zqN9); (try dsimp only); (try k_fold)))
  k_with "call ref" => ((with_reducible show wpAny _ _ (call (Value.ref 126) [_]) _ _ _); k_dflt ((rename News _ _ _ _ => zqkN'); (refine' figures ?k1 ?k2 ?k3 ?k4 ?kA ?kd ?ku ?kN ?kb ?kc ?_; (case k1 => k_asm); (case k2 => k_asm); (case k3 => k_asm); (case k4 => k_asm); (case kA => first | exact rfl | assumption); (case kd => (first | decide | ((try simp only [depth_deeper, units_deeper, units_in1, depth_in1, ktrTop, Nat.add_assoc, Nat.reduceAdd]); (refine room_lt ?_ ?_; assumption; decide)) | ((try simp only [depth_deeper, units_deeper, ktrTop]); omega))); (case ku => (first | decide | ((try simp only [depth_deeper, units_deeper, units_in1, depth_in1, ktrTop, Nat.add_assoc, Nat.reduceAdd]); (refine room_lt ?_ ?_; assumption; decide)) | ((try simp only [depth_deeper, units_deeper, ktrTop]); omega))); (case kN => exact cb_drop (by k_asm) (by lcg_sub)); (case kb => omega); (case kc => omega); k_whole); (intro zqb9 zqt9 zqh9 zqtk9 zqF9 zqKB9 zqE9); (have zqN9 := KeepBut.news0 zqKB9 zqkN'); (clear zqkN'); (try dsimp only); (try k_fold)))
  k_with "call ref" => ((with_reducible show wpAny _ _ (call (Value.ref 133) [_]) _ _ _); k_dflt ((rename News _ _ _ _ => zqkN'); (refine' isplain ?k1 ?k2 ?k3 ?k4 ?kA ?kd ?ku ?kN ?kb ?kc ?_; (case k1 => k_asm); (case k2 => k_asm); (case k3 => k_asm); (case k4 => k_asm); (case kA => first | exact rfl | assumption); (case kd => (first | decide | ((try simp only [depth_deeper, units_deeper, units_in1, depth_in1, ktrTop, Nat.add_assoc, Nat.reduceAdd]); (refine room_lt ?_ ?_; assumption; decide)) | ((try simp only [depth_deeper, units_deeper, ktrTop]); omega))); (case ku => (first | decide | ((try simp only [depth_deeper, units_deeper, units_in1, depth_in1, ktrTop, Nat.add_assoc, Nat.reduceAdd]); (refine room_lt ?_ ?_; assumption; decide)) | ((try simp only [depth_deeper, units_deeper, ktrTop]); omega))); (case kN => exact cb_drop (by k_asm) (by lcg_sub)); (case kb => omega); (case kc => omega); k_whole); (intro zqh9 zqtk9 zqF9 zqKB9); (have zqN9 := KeepBut.news0 zqKB9 zqkN'); (clear zqkN'); (try dsimp only); (try k_fold)))
  k_with "call ref" => ((with_reducible show wpAny _ _ (call (Value.ref 138) [_]) _ _ _); k_dflt ((rename News _ _ _ _ => zqkN'); (refine' written ?k1 ?k2 ?k3 ?k4 ?kA ?kd ?ku ?kN ?kb ?kc ?_; (case k1 => k_asm); (case k2 => k_asm); (case k3 => k_asm); (case k4 => k_asm); (case kA => first | exact rfl | assumption); (case kd => (first | decide | ((try simp only [depth_deeper, units_deeper, units_in1, depth_in1, ktrTop, Nat.add_assoc, Nat.reduceAdd]); (refine room_lt ?_ ?_; assumption; decide)) | ((try simp only [depth_deeper, units_deeper, ktrTop]); omega))); (case ku => (first | decide | ((try simp only [depth_deeper, units_deeper, units_in1, depth_in1, ktrTop, Nat.add_assoc, Nat.reduceAdd]); (refine room_lt ?_ ?_; assumption; decide)) | ((try simp only [depth_deeper, units_deeper, ktrTop]); omega))); (case kN => exact cb_drop (by k_asm) (by lcg_sub)); (case kb => omega); (case kc => omega); k_whole); (intro zqb9 zqt9 zqh9 zqtk9 zqF9 zqKB9 zqE9); (have zqN9 := KeepBut.news0 zqKB9 zqkN'); (clear zqkN'); (try dsimp only); (try k_fold)))
  k_with "call ref" => ((with_reducible show wpAny _ _ (call (Value.ref 145) [_, _]) _ _ _); k_dflt ((rename News _ _ _ _ => zqkN'); (rename DeckOK _ _ _ _ _ _ => zqkD'); (have zqkDn := DeckOK.ne zqkD'); (refine' told ?k1 ?k2 ?k3 ?k4 ?kA ?kd ?ku ?kN zqkD' ?kk ?kb ?kc ?_; (case k1 => k_asm); (case k2 => k_asm); (case k3 => k_asm); (case k4 => k_asm); (case kA => first | exact rfl | assumption); (case kd => (first | decide | ((try simp only [depth_deeper, units_deeper, units_in1, depth_in1, ktrTop, Nat.add_assoc, Nat.reduceAdd]); (refine room_lt ?_ ?_; assumption; decide)) | ((try simp only [depth_deeper, units_deeper, ktrTop]); omega))); (case ku => (first | decide | ((try simp only [depth_deeper, units_deeper, units_in1, depth_in1, ktrTop, Nat.add_assoc, Nat.reduceAdd]); (refine room_lt ?_ ?_; assumption; decide)) | ((try simp only [depth_deeper, units_deeper, ktrTop]); omega))); (case kN => exact cb_drop (by k_asm) (by lcg_sub)); (case kk => omega); (case kb => omega); (case kc => omega); k_whole); (intro zqb9 zqt9 zqh9 zqtk9 zqo9 zqoc9 zqF9 zqN9 zqKB9 zqD9 zqE9); (replace zqN9 := KeepBut.news2 zqKB9 zqkN' (by k_updF) (by (intro _; (try dsimp only); k_updF)) zqN9); (clear zqkN' zqkD' zqkDn); (try dsimp only at zqN9); (try dsimp only); (try k_fold)))
  k_with "getMethod bytes" => ((with_reducible refine method_join ?_))
  k_with "call builtin:bytes.join" => ((with_reducible show wpAny _ _ (call (Value.builtin "bytes.join") _) _ _ _); refine Hold.stop ?_)
  k_with "call ref" => ((with_reducible show wpAny _ _ (call (Value.ref 105) [_, _]) _ _ _); k_dflt ((rename News _ _ _ _ => zqkN'); (rename DeckOK _ _ _ _ _ _ => zqkD'); (have zqkDn := DeckOK.ne zqkD'); (refine' pickI ?k1 ?k2 ?k3 ?k4 ?kA ?kd ?ku ?kN zqkD' ?kk ?ki ?kv ?kb ?kc ?ld ?lc ?_; (case k1 => k_asm); (case k2 => k_asm); (case k3 => k_asm); (case k4 => k_asm); (case kA => first | exact rfl | assumption); (case kd => (first | decide | ((try simp only [depth_deeper, units_deeper, units_in1, depth_in1, ktrTop, Nat.add_assoc, Nat.reduceAdd]); (refine room_lt ?_ ?_; assumption; decide)) | ((try simp only [depth_deeper, units_deeper, ktrTop]); omega))); (case ku => (first | decide | ((try simp only [depth_deeper, units_deeper, units_in1, depth_in1, ktrTop, Nat.add_assoc, Nat.reduceAdd]); (refine room_lt ?_ ?_; assumption; decide)) | ((try simp only [depth_deeper, units_deeper, ktrTop]); omega))); (case kN => exact cb_drop (by k_asm) (by lcg_sub)); (case kk => omega); (case ki => first | l_ints | l_intsW); (case kv => decide); (case kb => (simp only [List.length_append, List.length_cons, List.length_nil]; omega)); (case kc => (simp only [List.length_append, List.length_cons, List.length_nil]; omega)); (case ld => omega); (case lc => omega); k_whole); (intro zqr9 zqt9 zqh9 zqtk9 zqo9 zqoc9 zqF9 zqN9 zqKB9 zqD9 zqhm9 zqhr0 zqhr1); (replace zqN9 := KeepBut.news2 zqKB9 zqkN' (by k_updF) (by (intro _; (try dsimp only); k_updF)) (cb_drop zqN9 (by lcg_sub))); (clear zqkN' zqkD' zqkDn); (try dsimp only at zqN9); (try dsimp only); (try k_fold)))
  k_with "eval ListComp" => ((with_reducible show wpAny _ _ (eval (Expr.ListComp _ _ _ _) _) _ _ _); refine Hold.stop ?_)
  trivial
theorem fill_C7 (w : World) (h₀ : Heap) (hX : (hd.heap_39 w.params).In h₀) : (hd.heap_39 w.params).In h₀ ∧ PySem.Challenge.rw_pb0084_01 = PySem.Challenge.rw_pb0084_01 := by
  k_fill
  exact ⟨hX, rfl⟩
section
variable {w : World} {mg mb : Str → Option Value} {mean : ExcName → Option Value} {dp un : Nat} {gd : Option (List Code)} {cn : Str} {cs : Scope} {L a : Addr} {ccd : Value} {cl : List (Str × Addr)} {outer : List Env} {A₀ : Around} {base h₀ : Heap} {m : Str → Option Value} {s : Shared} {Q E : Value → Shared → Prop} {news : List (Addr × Obj)}


noncomputable def faultIs (ks : List Int) (v : List Int) : Prop := ∃ inner, inner = (ks.map writ).flatten ∧
  (v = 34 :: inner ∨ (∃ x, v = 34 :: inner ++ [34, x]) ∨ (∃ x, (x = 99 ∨ x = 56 ∨ x = 32 ∨ x = 78 ∨ x = 120) ∧ v = 34 :: inner ++ [92, x, 34]) ∨ v = 34 :: inner ++ [92, 49, 50, 34] ∨ v = 34 :: inner ++ [92, 52, 48, 48, 34] ∨ v = 34 :: inner ++ [92, 48, 56, 49, 34])
theorem DeckOK.mono {d c : Addr} {k k' : Int} {o oc : Obj} (h : k ≤ k') (D : DeckOK w d c k o oc) : DeckOK w d c k' o oc := by
  obtain ⟨cells, ns, n, mx, tn, t1, t2, e, lo, hne, hD, hI, hlen, hp, hn0, hn1⟩ := D
  exact ⟨cells, ns, n, mx, tn, t1, t2, e, lo, hne, hD, hI, hlen, hp, hn0, Int.le_trans hn1 h⟩
theorem writ_len (n : Int) : (writ n).length ≤ 4 := by
  unfold writ
  split
  · simp
  · split <;> simp [figs]
theorem writ_flat : ∀ (ks : List Int), ((ks.map writ).flatten).length ≤ 4 * ks.length
  | [] => by simp
  | k :: r => by have := writ_flat r; have := writ_len k; simp only [List.map_cons, List.flatten_cons, List.length_append, List.length_cons]; omega
theorem faulty (B : Below A₀ base outer h₀) (F : Fr h₀ L s.heap m) (X : (hd.heap_39 w.params).In h₀) (T : Top hd.view_39 LS mean mg mb h₀) (hk : cs.kind = .function) (hdp : dp + 60 < recursionLimit) (hun : un + 1500 < cLine)
    {d c : Addr} {o oc : Obj} {k : Int} {pb : Array UInt8} {ks : List Int} {t : Tok} (N : News h₀ L s.heap [(d, o), (c, oc)]) (D : DeckOK w d c k o oc) (hk1 : k < 999990) (hks : KBw.bInts pb = ks) (hkl : ks.length ≤ 8)
    (hret : ∀ (b : Array UInt8) (t : Tok) (h' : Heap) (tk' : Nat) (o' oc' : Obj), Fr h₀ L h' m → News h₀ L h' [(d, o'), (c, oc')] → KeepBut s.heap h' [d, c] → DeckOK w d c (k + 1 + 1) o' oc' → faultIs ks (KBw.bInts b) → Q (.bytes b t) { s with heap := h', toks := tk' }) :
    wpAny (model PR w) (ktrTop dp un gd cn cs L a ccd cl outer) (call (.ref 157) [.ref d, .bytes pb t]) Q E s := by
  refine wpAny_call ?_
  k_dflt (refine' code_defG ?k1 ?k2 ?k3 ?k4 ?k5 ?kA ?kF ?kK ?k6 ?k7 ?k8 ?k9 ?kB ?_ ?c2 ?c3 ?c4 ?c5; (case kA => exact rfl); (case kF => exact rfl); (case kK => assumption); (case k1 => k_asm); (case k2 => k_asm); (case k3 => k_asm); (case k4 => k_asm); (case k5 => k_asm); (case k6 => k_is); (case k7 => k_is); (case k8 => ktr_room); (case k9 => exact BindsTo.of_eq rfl); (case c5 => decide); (case kB => exact locs rfl); (case c2 => exact rfl); (case c3 => exact rfl); (case c4 => exact rfl); k_whole; intro g' L' h' FG' F' N' B' X' T' kG'; (try dsimp only); (try k_fold))

  k_steps
  refine Hold.go ?_
  rename Fr _ _ _ _ => lF'
  rename News _ _ _ _ => lN'
  k_dflt (refine ListComp_B lF' (by rfl) (by decide) (by rfl) (by decide) (by rfl) ?_)
  k_steps
  refine SrcB.intro rfl (by k_asm) (by k_asm) (by rw [← KBw.ints_length, hks, sizeLine_eq]; omega) ?_
  intro gz
  refine comp_each ks (by rw [← hks]; exact KBw.ints_length pb) (PB.ks hks) (fun _ nw => nw = [(d, o), (c, oc)]) (fun k y => ∃ b t, y = Value.bytes b t ∧ KBw.bInts b = writ k) ?_ ?_ _ 0 [] _ (by omega) rfl (by simp [Each])
  · intro i x tx I oI C oC Dl ys nw m₂ h tk E' Qv hJ hi hm hC hx lF lN off ne yes
    subst hJ
    have hx0 := (KBw.ints_in (hks ▸ hm)).1
    have hx1 := (KBw.ints_in (hks ▸ hm)).2
    k_steps
    exact yes _ _ _ _ ⟨_, _, rfl, by assumption⟩ rfl (by k_asm) (by k_asm) off
  intro ys nw he hJ
  subst hJ
  intro Dl h tk lF lN off
  obtain ⟨bs, hbs, hmap⟩ := joinMap he
  k_steps
  refine Hold.go ?_
  have od1 : @Ne Nat d Dl := off.1
  have oc1 : @Ne Nat c Dl := off.2.1
  have hil : ((ks.map writ).flatten).length ≤ 4 * ks.length := writ_flat ks
  rw [← hmap] at hil
  refine join_K (News.isList lN (.head _)) hbs (by omega) ?_
  intro ib it ik hib
  rw [hmap] at hib hil
  obtain ⟨inner, hin⟩ : ∃ inner, inner = (ks.map writ).flatten := ⟨_, rfl⟩
  rw [← hin] at hib hil
  k_steps
  all_goals (rename DeckOK _ _ _ _ _ _ => D9; rename KBw.bInts _ = _ => hE; refine hret _ _ _ _ _ _ (by k_asm) (cb_drop (by k_asm) (by lcg_sub)) (by k_asm) (DeckOK.mono (by omega) D9) ⟨inner, hin, ?_⟩; rw [hE])
  · exact .inl (by simp)
  · rename ((_ : Nat) : Int) = _ => hb
    exact .inr (.inl ⟨_, by simp only [List.map_cons, List.map_nil, hb, List.append_assoc, List.cons_append, List.nil_append]; rfl⟩)
  · rename ((_ : Nat) : Int) = _ => hb
    rename _ ∈ _ => hm
    exact .inr (.inr (.inl ⟨_, by simpa using hm, by simp only [List.map_cons, List.map_nil, hb, List.append_assoc, List.cons_append, List.nil_append]; rfl⟩))
  · exact .inr (.inr (.inr (.inl (by simp))))
  · exact .inr (.inr (.inr (.inr (.inl (by simp)))))
  · exact .inr (.inr (.inr (.inr (.inr (by simp)))))
end
end PartC7
section PartC8
theorem off_C8 : True := by
  w_top off
  k_with_none
  k_with "LeaveK" => (with_reducible show LeaveK _ _ _ _ _ _ _; (rename GSub _ _ _ => zqkG'); (refine leaveS (by k_asm) zqkG' ?_); clear zqkG'; intro zqkE'; walk_say "KEEPS")
  k_with "call ref" => ((with_reducible show wpAny _ _ (call (Value.ref 98) [_, _]) _ _ _); k_dflt ((rename News _ _ _ _ => zqkN'); (rename DeckOK _ _ _ _ _ _ => zqkD'); (have zqkDn := DeckOK.ne zqkD'); (refine' draw ?k1 ?k2 ?k3 ?k4 ?kA ?kd ?ku ?kN zqkD' ?kk ?kb ?kc ?_; (case k1 => k_asm); (case k2 => k_asm); (case k3 => k_asm); (case k4 => k_asm); (case kA => first | exact rfl | assumption); (case kd => (first | decide | ((try simp only [depth_deeper, units_deeper, units_in1, depth_in1, ktrTop, Nat.add_assoc, Nat.reduceAdd]); (refine room_lt ?_ ?_; assumption; decide)) | ((try simp only [depth_deeper, units_deeper, ktrTop]); omega))); (case ku => (first | decide | ((try simp only [depth_deeper, units_deeper, units_in1, depth_in1, ktrTop, Nat.add_assoc, Nat.reduceAdd]); (refine room_lt ?_ ?_; assumption; decide)) | ((try simp only [depth_deeper, units_deeper, ktrTop]); omega))); (case kN => exact cb_drop (by k_asm) (by lcg_sub)); (case kk => omega); (case kb => omega); (case kc => omega); k_whole); (intro zqr9 zqt9 zqh9 zqtk9 zqo9 zqoc9 zqF9 zqN9 zqKB9 zqD9 zqhr0 zqhr1); (replace zqN9 := KeepBut.news2 zqKB9 zqkN' (by k_updF) (by (intro _; (try dsimp only); k_updF)) zqN9); (clear zqkN' zqkD' zqkDn); (try dsimp only at zqN9); (try dsimp only); (try k_fold)))
  k_with "call ref" => ((with_reducible show wpAny _ _ (call (Value.ref 105) [_, _]) _ _ _); k_dflt ((rename News _ _ _ _ => zqkN'); (rename DeckOK _ _ _ _ _ _ => zqkD'); (have zqkDn := DeckOK.ne zqkD'); (refine' pick ?k1 ?k2 ?k3 ?k4 ?kA ?kd ?ku ?kN zqkD' ?kk ?kb ?kc ?ld ?lc ?_; (case k1 => k_asm); (case k2 => k_asm); (case k3 => k_asm); (case k4 => k_asm); (case kA => first | exact rfl | assumption); (case kd => (first | decide | ((try simp only [depth_deeper, units_deeper, units_in1, depth_in1, ktrTop, Nat.add_assoc, Nat.reduceAdd]); (refine room_lt ?_ ?_; assumption; decide)) | ((try simp only [depth_deeper, units_deeper, ktrTop]); omega))); (case ku => (first | decide | ((try simp only [depth_deeper, units_deeper, units_in1, depth_in1, ktrTop, Nat.add_assoc, Nat.reduceAdd]); (refine room_lt ?_ ?_; assumption; decide)) | ((try simp only [depth_deeper, units_deeper, ktrTop]); omega))); (case kN => exact cb_drop (by k_asm) (by lcg_sub)); (case kk => omega); (case kb => first | decide | (simp only [List.length_append, List.length_cons, List.length_nil]; omega)); (case kc => first | decide | (simp only [List.length_append, List.length_cons, List.length_nil]; omega)); (case ld => omega); (case lc => omega); k_whole); (intro zqi9 zqhi9 zqh9 zqtk9 zqo9 zqoc9 zqF9 zqN9 zqKB9 zqD9); (replace zqN9 := KeepBut.news2 zqKB9 zqkN' (by k_updF) (by (intro _; (try dsimp only); k_updF)) (cb_drop zqN9 (by lcg_sub))); (clear zqkN' zqkD' zqkDn); (try dsimp only at zqN9); (try dsimp only); (try k_fold)))
  k_with "call ref" => ((with_reducible show wpAny _ _ (call (Value.ref 119) [_]) _ _ _); k_dflt ((rename News _ _ _ _ => zqkN'); (rename DeckOK _ _ _ _ _ _ => zqkD'); (have zqkDn := DeckOK.ne zqkD'); (refine' octet ?k1 ?k2 ?k3 ?k4 ?kA ?kd ?ku ?kN zqkD' ?kk ?_; (case k1 => k_asm); (case k2 => k_asm); (case k3 => k_asm); (case k4 => k_asm); (case kA => first | exact rfl | assumption); (case kd => (first | decide | ((try simp only [depth_deeper, units_deeper, units_in1, depth_in1, ktrTop, Nat.add_assoc, Nat.reduceAdd]); (refine room_lt ?_ ?_; assumption; decide)) | ((try simp only [depth_deeper, units_deeper, ktrTop]); omega))); (case ku => (first | decide | ((try simp only [depth_deeper, units_deeper, units_in1, depth_in1, ktrTop, Nat.add_assoc, Nat.reduceAdd]); (refine room_lt ?_ ?_; assumption; decide)) | ((try simp only [depth_deeper, units_deeper, ktrTop]); omega))); (case kN => exact cb_drop (by k_asm) (by lcg_sub)); (case kk => omega); k_whole); (intro zqr9 zqt9 zqh9 zqtk9 zqo9 zqoc9 zqF9 zqN9 zqKB9 zqD9 zqhr0 zqhr1); (replace zqN9 := KeepBut.news2 zqKB9 zqkN' (by k_updF) (by (intro _; (try dsimp only); k_updF)) zqN9); (clear zqkN' zqkD' zqkDn); (try dsimp only at zqN9); (try dsimp only); (try k_fold)))
  k_with "call ref" => ((with_reducible show wpAny _ _ (call (Value.ref 126) [_]) _ _ _); k_dflt ((rename News _ _ _ _ => zqkN'); (refine' figures ?k1 ?k2 ?k3 ?k4 ?kA ?kd ?ku ?kN ?kb ?kc ?_; (case k1 => k_asm); (case k2 => k_asm); (case k3 => k_asm); (case k4 => k_asm); (case kA => first | exact rfl | assumption); (case kd => (first | decide | ((try simp only [depth_deeper, units_deeper, units_in1, depth_in1, ktrTop, Nat.add_assoc, Nat.reduceAdd]); (refine room_lt ?_ ?_; assumption; decide)) | ((try simp only [depth_deeper, units_deeper, ktrTop]); omega))); (case ku => (first | decide | ((try simp only [depth_deeper, units_deeper, units_in1, depth_in1, ktrTop, Nat.add_assoc, Nat.reduceAdd]); (refine room_lt ?_ ?_; assumption; decide)) | ((try simp only [depth_deeper, units_deeper, ktrTop]); omega))); (case kN => exact cb_drop (by k_asm) (by lcg_sub)); (case kb => omega); (case kc => omega); k_whole); (intro zqb9 zqt9 zqh9 zqtk9 zqF9 zqKB9 zqE9); (have zqN9 := KeepBut.news0 zqKB9 zqkN'); (clear zqkN'); (try dsimp only); (try k_fold)))
  k_with "call ref" => ((with_reducible show wpAny _ _ (call (Value.ref 133) [_]) _ _ _); k_dflt ((rename News _ _ _ _ => zqkN'); (refine' isplain ?k1 ?k2 ?k3 ?k4 ?kA ?kd ?ku ?kN ?kb ?kc ?_; (case k1 => k_asm); (case k2 => k_asm); (case k3 => k_asm); (case k4 => k_asm); (case kA => first | exact rfl | assumption); (case kd => (first | decide | ((try simp only [depth_deeper, units_deeper, units_in1, depth_in1, ktrTop, Nat.add_assoc, Nat.reduceAdd]); (refine room_lt ?_ ?_; assumption; decide)) | ((try simp only [depth_deeper, units_deeper, ktrTop]); omega))); (case ku => (first | decide | ((try simp only [depth_deeper, units_deeper, units_in1, depth_in1, ktrTop, Nat.add_assoc, Nat.reduceAdd]); (refine room_lt ?_ ?_; assumption; decide)) | ((try simp only [depth_deeper, units_deeper, ktrTop]); omega))); (case kN => exact cb_drop (by k_asm) (by lcg_sub)); (case kb => omega); (case kc => omega); k_whole); (intro zqh9 zqtk9 zqF9 zqKB9); (have zqN9 := KeepBut.news0 zqKB9 zqkN'); (clear zqkN'); (try dsimp only); (try k_fold)))
  k_with "call ref" => ((with_reducible show wpAny _ _ (call (Value.ref 138) [_]) _ _ _); k_dflt ((rename News _ _ _ _ => zqkN'); (refine' written ?k1 ?k2 ?k3 ?k4 ?kA ?kd ?ku ?kN ?kb ?kc ?_; (case k1 => k_asm); (case k2 => k_asm); (case k3 => k_asm); (case k4 => k_asm); (case kA => first | exact rfl | assumption); (case kd => (first | decide | ((try simp only [depth_deeper, units_deeper, units_in1, depth_in1, ktrTop, Nat.add_assoc, Nat.reduceAdd]); (refine room_lt ?_ ?_; assumption; decide)) | ((try simp only [depth_deeper, units_deeper, ktrTop]); omega))); (case ku => (first | decide | ((try simp only [depth_deeper, units_deeper, units_in1, depth_in1, ktrTop, Nat.add_assoc, Nat.reduceAdd]); (refine room_lt ?_ ?_; assumption; decide)) | ((try simp only [depth_deeper, units_deeper, ktrTop]); omega))); (case kN => exact cb_drop (by k_asm) (by lcg_sub)); (case kb => omega); (case kc => omega); k_whole); (intro zqb9 zqt9 zqh9 zqtk9 zqF9 zqKB9 zqE9); (have zqN9 := KeepBut.news0 zqKB9 zqkN'); (clear zqkN'); (try dsimp only); (try k_fold)))
  k_with "call ref" => ((with_reducible show wpAny _ _ (call (Value.ref 145) [_, _]) _ _ _); k_dflt ((rename News _ _ _ _ => zqkN'); (rename DeckOK _ _ _ _ _ _ => zqkD'); (have zqkDn := DeckOK.ne zqkD'); (refine' told ?k1 ?k2 ?k3 ?k4 ?kA ?kd ?ku ?kN zqkD' ?kk ?kb ?kc ?_; (case k1 => k_asm); (case k2 => k_asm); (case k3 => k_asm); (case k4 => k_asm); (case kA => first | exact rfl | assumption); (case kd => (first | decide | ((try simp only [depth_deeper, units_deeper, units_in1, depth_in1, ktrTop, Nat.add_assoc, Nat.reduceAdd]); (refine room_lt ?_ ?_; assumption; decide)) | ((try simp only [depth_deeper, units_deeper, ktrTop]); omega))); (case ku => (first | decide | ((try simp only [depth_deeper, units_deeper, units_in1, depth_in1, ktrTop, Nat.add_assoc, Nat.reduceAdd]); (refine room_lt ?_ ?_; assumption; decide)) | ((try simp only [depth_deeper, units_deeper, ktrTop]); omega))); (case kN => exact cb_drop (by k_asm) (by lcg_sub)); (case kk => omega); (case kb => omega); (case kc => omega); k_whole); (intro zqb9 zqt9 zqh9 zqtk9 zqo9 zqoc9 zqF9 zqN9 zqKB9 zqD9 zqE9); (replace zqN9 := KeepBut.news2 zqKB9 zqkN' (by k_updF) (by (intro _; (try dsimp only); k_updF)) zqN9); (clear zqkN' zqkD' zqkDn); (try dsimp only at zqN9); (try dsimp only); (try k_fold)))
  k_with "getMethod bytes" => ((with_reducible refine method_join ?_))
  k_with "call builtin:bytes.join" => ((with_reducible show wpAny _ _ (call (Value.builtin "bytes.join") _) _ _ _); refine Hold.stop ?_)
  k_with "call ref" => ((with_reducible show wpAny _ _ (call (Value.ref 105) [_, _]) _ _ _); k_dflt ((rename News _ _ _ _ => zqkN'); (rename DeckOK _ _ _ _ _ _ => zqkD'); (have zqkDn := DeckOK.ne zqkD'); (refine' pickI ?k1 ?k2 ?k3 ?k4 ?kA ?kd ?ku ?kN zqkD' ?kk ?ki ?kv ?kb ?kc ?ld ?lc ?_; (case k1 => k_asm); (case k2 => k_asm); (case k3 => k_asm); (case k4 => k_asm); (case kA => first | exact rfl | assumption); (case kd => (first | decide | ((try simp only [depth_deeper, units_deeper, units_in1, depth_in1, ktrTop, Nat.add_assoc, Nat.reduceAdd]); (refine room_lt ?_ ?_; assumption; decide)) | ((try simp only [depth_deeper, units_deeper, ktrTop]); omega))); (case ku => (first | decide | ((try simp only [depth_deeper, units_deeper, units_in1, depth_in1, ktrTop, Nat.add_assoc, Nat.reduceAdd]); (refine room_lt ?_ ?_; assumption; decide)) | ((try simp only [depth_deeper, units_deeper, ktrTop]); omega))); (case kN => exact cb_drop (by k_asm) (by lcg_sub)); (case kk => omega); (case ki => first | l_ints | l_intsW); (case kv => decide); (case kb => (simp only [List.length_append, List.length_cons, List.length_nil]; omega)); (case kc => (simp only [List.length_append, List.length_cons, List.length_nil]; omega)); (case ld => omega); (case lc => omega); k_whole); (intro zqr9 zqt9 zqh9 zqtk9 zqo9 zqoc9 zqF9 zqN9 zqKB9 zqD9 zqhm9 zqhr0 zqhr1); (replace zqN9 := KeepBut.news2 zqKB9 zqkN' (by k_updF) (by (intro _; (try dsimp only); k_updF)) (cb_drop zqN9 (by lcg_sub))); (clear zqkN' zqkD' zqkDn); (try dsimp only at zqN9); (try dsimp only); (try k_fold)))
  trivial
theorem fill_C8 (w : World) (h₀ : Heap) (hX : (hd.heap_39 w.params).In h₀) : (hd.heap_39 w.params).In h₀ ∧ PySem.Challenge.rw_pb0084_01 = PySem.Challenge.rw_pb0084_01 := by
  k_fill
  exact ⟨hX, rfl⟩
section
variable {w : World} {mg mb : Str → Option Value} {mean : ExcName → Option Value} {dp un : Nat} {gd : Option (List Code)} {cn : Str} {cs : Scope} {L a : Addr} {ccd : Value} {cl : List (Str × Addr)} {outer : List Env} {A₀ : Around} {base h₀ : Heap} {m : Str → Option Value} {s : Shared} {Q E : Value → Shared → Prop} {news : List (Addr × Obj)}


noncomputable def mustQ (n : Int) : Bool := decide (n < 32) || decide (126 < n) || decide (n = 34) || decide (n = 92)
theorem mustq (B : Below A₀ base outer h₀) (F : Fr h₀ L s.heap m) (X : (hd.heap_39 w.params).In h₀) (T : Top hd.view_39 LS mean mg mb h₀) (hk : cs.kind = .function) (hdp : dp + 20 < recursionLimit) (hun : un + 500 < cLine)
    {n : Int} {t : Tok} (N : News h₀ L s.heap []) (h0 : 0 ≤ n) (h1 : n < 256)
    (hret : ∀ (h' : Heap) (tk' : Nat), Fr h₀ L h' m → KeepBut s.heap h' [] → Q (.bool (mustQ n)) { s with heap := h', toks := tk' }) :
    wpAny (model PR w) (ktrTop dp un gd cn cs L a ccd cl outer) (call (.ref 69) [.int n t]) Q E s := by
  refine wpAny_call ?_
  k_dflt (refine' code_defG ?k1 ?k2 ?k3 ?k4 ?k5 ?kA ?kF ?kK ?k6 ?k7 ?k8 ?k9 ?kB ?_ ?c2 ?c3 ?c4 ?c5; (case kA => exact rfl); (case kF => exact rfl); (case kK => assumption); (case k1 => k_asm); (case k2 => k_asm); (case k3 => k_asm); (case k4 => k_asm); (case k5 => k_asm); (case k6 => k_is); (case k7 => k_is); (case k8 => ktr_room); (case k9 => exact BindsTo.of_eq rfl); (case c5 => decide); (case kB => exact locs rfl); (case c2 => exact rfl); (case c3 => exact rfl); (case c4 => exact rfl); k_whole; intro g' L' h' FG' F' N' B' X' T' kG'; (try dsimp only); (try k_fold))

  k_steps
  all_goals refine of_val (Q := Q) ?_ (hret _ _ (by k_asm) (by k_asm))
  all_goals (refine congrArg Value.bool ?_; rw [Bool.eq_iff_iff]; simp only [mustQ, Bool.or_eq_true, decide_eq_true_eq, ne_eq, beq_iff_eq]; omega)
theorem MethodCallG {M : Model} {A : Around} {E : Value → Shared → Prop} {s : Shared} {env : Env} {o : PySem.Expr} {name : Str} {apos pos : Pos} {args : List PySem.Expr} {pl : Sem Bool} {Q : Value → Shared → Prop}
    (h : wpAny M A (eval o env) (fun ov s₁ => wpAny M A (getMethod ov name pl) (fun fx s₂ => wpG M A (callWith pos fx.1 fx.2 (backTo pos (starEach args env)) []) Q E s₂) E s₁) E s)
    (he : eval (.Call (.Attribute o name apos) args [] pos) env = (do
      let ov ← eval o env
      standAt apos.atName
      let (f, first) ← holding [ov] (getMethod ov name pl)
      callWith pos f first (backTo pos (starEach args env)) []) := by rfl) : wpG M A (eval (.Call (.Attribute o name apos) args [] pos) env) Q E s := by
  rw [he]
  exact wpG_bind (wpG_any (wpAny_mono h (fun ov s₁ h₁ => wpG_bind (wpG_any (wpAny_standAt (wpG_bind (wpG_holding (wpG_any (wpAny_mono h₁ (fun fx s₂ h₂ => h₂) fun _ _ e => e))))))) fun _ _ e => e))
theorem callWithG_builtin {M : Model} {A : Around} {E : Value → Shared → Prop} {s : Shared} {pos : Pos} {id : String} {first : List Value} {args : List (Bool × Sem Value)} {Q : Value → Shared → Prop} (hplain : args.any (·.1) = false)
    (h : wpAny M A (evalArgs (.builtin id) true args []) (fun a s₁ => wpG M A (call (.builtin id) (first ++ a.pos) a.kw) Q E s₁) E s) : wpG M A (callWith pos (.builtin id) first args []) Q E s := by
  unfold callWith
  refine wpG_bind (wpG_holding (wpG_any (wpAny_mono h (fun a s₁ h₁ => wpG_bind (wpG_any (wpAny_standAt ?_))) fun _ _ x => x)))
  simp only [hplain, List.any_nil, Bool.or_false]
  refine wpG_bind (wpG_pure ?_)
  exact wpG_bind (wpG_mono h₁ (fun r s₂ hr => wpG_bind (wpG_holding (wpG_any (wpAny_point (wpG_pure hr))))) fun _ _ x => x)
theorem callWithG_type {M : Model} {A : Around} {E : Value → Shared → Prop} {s : Shared} {pos : Pos} {T : String} {first : List Value} {args : List (Bool × Sem Value)} {Q : Value → Shared → Prop} (hplain : args.any (·.1) = false)
    (h : wpAny M A (evalArgs (.type T) true args []) (fun a s₁ => wpG M A (call (.type T) (first ++ a.pos) a.kw) Q E s₁) E s) : wpG M A (callWith pos (.type T) first args []) Q E s := by
  unfold callWith
  refine wpG_bind (wpG_holding (wpG_any (wpAny_mono h (fun a s₁ h₁ => wpG_bind (wpG_any (wpAny_standAt ?_))) fun _ _ x => x)))
  simp only [hplain, List.any_nil, Bool.or_false]
  refine wpG_bind (wpG_pure ?_)
  exact wpG_bind (wpG_mono h₁ (fun r s₂ hr => wpG_bind (wpG_holding (wpG_any (wpAny_point (wpG_pure hr))))) fun _ _ x => x)
theorem callG_type {M : Model} {A : Around} {E : Value → Shared → Prop} {s : Shared} {env : Env} {pos : Pos} {T : String} {first : List Value} {e : PySem.Expr} {rest : List PySem.Expr} {Q : Value → Shared → Prop}
    (h : wpAny M A (spliced (backTo pos (starEach (e :: rest) env))) (fun vs s₁ => wpG M A (call (.type T) (first ++ vs)) Q E s₁) E s)
    (he : starEach (e :: rest) env = (false, eval e env) :: starEach rest env := by rfl)
    (hplain : (backTo pos (starEach rest env)).any (·.1) = false := by rfl) : wpG M A (callWith pos (.type T) first (backTo pos (starEach (e :: rest) env)) []) Q E s := by
  rw [he] at h ⊢
  exact callWithG_type (by show (false || (backTo pos (starEach rest env)).any (·.1)) = false; rw [hplain]; rfl) (Calls.evalArgs_plain h)
theorem callG_builtin {M : Model} {A : Around} {E : Value → Shared → Prop} {s : Shared} {env : Env} {pos : Pos} {id : String} {first : List Value} {e : PySem.Expr} {rest : List PySem.Expr} {Q : Value → Shared → Prop}
    (h : wpAny M A (spliced (backTo pos (starEach (e :: rest) env))) (fun vs s₁ => wpG M A (call (.builtin id) (first ++ vs)) Q E s₁) E s)
    (he : starEach (e :: rest) env = (false, eval e env) :: starEach rest env := by rfl)
    (hplain : (backTo pos (starEach rest env)).any (·.1) = false := by rfl) : wpG M A (callWith pos (.builtin id) first (backTo pos (starEach (e :: rest) env)) []) Q E s := by
  rw [he] at h ⊢
  exact callWithG_builtin (by show (false || (backTo pos (starEach rest env)).any (·.1)) = false; rw [hplain]; rfl) (Calls.evalArgs_plain h)
theorem callG_type0 {M : Model} {A : Around} {E : Value → Shared → Prop} {s : Shared} {env : Env} {pos : Pos} {T : String} {first : List Value} {Q : Value → Shared → Prop}
    (h : wpG M A (call (.type T) (first ++ [])) Q E s) : wpG M A (callWith pos (.type T) first (backTo pos (starEach [] env)) []) Q E s :=
  callWithG_type rfl (PyProof.Rows.evalArgs_nil3 h)
end
end PartC8
section PartC9e
theorem off_C9e : True := by
  w_top off
  k_with_none
  k_with "LeaveK" => (with_reducible show LeaveK _ _ _ _ _ _ _; (rename GSub _ _ _ => zqkG'); (refine leaveS (by k_asm) zqkG' ?_); clear zqkG'; intro zqkE'; walk_say "KEEPS")
  k_with "call ref" => ((with_reducible show wpAny _ _ (call (Value.ref 98) [_, _]) _ _ _); k_dflt ((rename News _ _ _ _ => zqkN'); (rename DeckOK _ _ _ _ _ _ => zqkD'); (have zqkDn := DeckOK.ne zqkD'); (refine' draw ?k1 ?k2 ?k3 ?k4 ?kA ?kd ?ku ?kN zqkD' ?kk ?kb ?kc ?_; (case k1 => k_asm); (case k2 => k_asm); (case k3 => k_asm); (case k4 => k_asm); (case kA => first | exact rfl | assumption); (case kd => (first | decide | ((try simp only [depth_deeper, units_deeper, units_in1, depth_in1, ktrTop, Nat.add_assoc, Nat.reduceAdd]); (refine room_lt ?_ ?_; assumption; decide)) | ((try simp only [depth_deeper, units_deeper, ktrTop]); omega))); (case ku => (first | decide | ((try simp only [depth_deeper, units_deeper, units_in1, depth_in1, ktrTop, Nat.add_assoc, Nat.reduceAdd]); (refine room_lt ?_ ?_; assumption; decide)) | ((try simp only [depth_deeper, units_deeper, ktrTop]); omega))); (case kN => exact cb_drop (by k_asm) (by lcg_sub)); (case kk => omega); (case kb => omega); (case kc => omega); k_whole); (intro zqr9 zqt9 zqh9 zqtk9 zqo9 zqoc9 zqF9 zqN9 zqKB9 zqD9 zqhr0 zqhr1); (replace zqN9 := KeepBut.news2 zqKB9 zqkN' (by k_updF) (by (intro _; (try dsimp only); k_updF)) zqN9); (clear zqkN' zqkD' zqkDn); (try dsimp only at zqN9); (try dsimp only); (try k_fold)))
  k_with "call ref" => ((with_reducible show wpAny _ _ (call (Value.ref 105) [_, _]) _ _ _); k_dflt ((rename News _ _ _ _ => zqkN'); (rename DeckOK _ _ _ _ _ _ => zqkD'); (have zqkDn := DeckOK.ne zqkD'); (refine' pick ?k1 ?k2 ?k3 ?k4 ?kA ?kd ?ku ?kN zqkD' ?kk ?kb ?kc ?ld ?lc ?_; (case k1 => k_asm); (case k2 => k_asm); (case k3 => k_asm); (case k4 => k_asm); (case kA => first | exact rfl | assumption); (case kd => (first | decide | ((try simp only [depth_deeper, units_deeper, units_in1, depth_in1, ktrTop, Nat.add_assoc, Nat.reduceAdd]); (refine room_lt ?_ ?_; assumption; decide)) | ((try simp only [depth_deeper, units_deeper, ktrTop]); omega))); (case ku => (first | decide | ((try simp only [depth_deeper, units_deeper, units_in1, depth_in1, ktrTop, Nat.add_assoc, Nat.reduceAdd]); (refine room_lt ?_ ?_; assumption; decide)) | ((try simp only [depth_deeper, units_deeper, ktrTop]); omega))); (case kN => exact cb_drop (by k_asm) (by lcg_sub)); (case kk => omega); (case kb => first | decide | (simp only [List.length_append, List.length_cons, List.length_nil]; omega)); (case kc => first | decide | (simp only [List.length_append, List.length_cons, List.length_nil]; omega)); (case ld => omega); (case lc => omega); k_whole); (intro zqi9 zqhi9 zqh9 zqtk9 zqo9 zqoc9 zqF9 zqN9 zqKB9 zqD9); (replace zqN9 := KeepBut.news2 zqKB9 zqkN' (by k_updF) (by (intro _; (try dsimp only); k_updF)) (cb_drop zqN9 (by lcg_sub))); (clear zqkN' zqkD' zqkDn); (try dsimp only at zqN9); (try dsimp only); (try k_fold)))
  k_with "call ref" => ((with_reducible show wpAny _ _ (call (Value.ref 119) [_]) _ _ _); k_dflt ((rename News _ _ _ _ => zqkN'); (rename DeckOK _ _ _ _ _ _ => zqkD'); (have zqkDn := DeckOK.ne zqkD'); (refine' octet ?k1 ?k2 ?k3 ?k4 ?kA ?kd ?ku ?kN zqkD' ?kk ?_; (case k1 => k_asm); (case k2 => k_asm); (case k3 => k_asm); (case k4 => k_asm); (case kA => first | exact rfl | assumption); (case kd => (first | decide | ((try simp only [depth_deeper, units_deeper, units_in1, depth_in1, ktrTop, Nat.add_assoc, Nat.reduceAdd]); (refine room_lt ?_ ?_; assumption; decide)) | ((try simp only [depth_deeper, units_deeper, ktrTop]); omega))); (case ku => (first | decide | ((try simp only [depth_deeper, units_deeper, units_in1, depth_in1, ktrTop, Nat.add_assoc, Nat.reduceAdd]); (refine room_lt ?_ ?_; assumption; decide)) | ((try simp only [depth_deeper, units_deeper, ktrTop]); omega))); (case kN => exact cb_drop (by k_asm) (by lcg_sub)); (case kk => omega); k_whole); (intro zqr9 zqt9 zqh9 zqtk9 zqo9 zqoc9 zqF9 zqN9 zqKB9 zqD9 zqhr0 zqhr1); (replace zqN9 := KeepBut.news2 zqKB9 zqkN' (by k_updF) (by (intro _; (try dsimp only); k_updF)) zqN9); (clear zqkN' zqkD' zqkDn); (try dsimp only at zqN9); (try dsimp only); (try k_fold)))
  k_with "call ref" => ((with_reducible show wpAny _ _ (call (Value.ref 126) [_]) _ _ _); k_dflt ((rename News _ _ _ _ => zqkN'); (refine' figures ?k1 ?k2 ?k3 ?k4 ?kA ?kd ?ku ?kN ?kb ?kc ?_; (case k1 => k_asm); (case k2 => k_asm); (case k3 => k_asm); (case k4 => k_asm); (case kA => first | exact rfl | assumption); (case kd => (first | decide | ((try simp only [depth_deeper, units_deeper, units_in1, depth_in1, ktrTop, Nat.add_assoc, Nat.reduceAdd]); (refine room_lt ?_ ?_; assumption; decide)) | ((try simp only [depth_deeper, units_deeper, ktrTop]); omega))); (case ku => (first | decide | ((try simp only [depth_deeper, units_deeper, units_in1, depth_in1, ktrTop, Nat.add_assoc, Nat.reduceAdd]); (refine room_lt ?_ ?_; assumption; decide)) | ((try simp only [depth_deeper, units_deeper, ktrTop]); omega))); (case kN => exact cb_drop (by k_asm) (by lcg_sub)); (case kb => omega); (case kc => omega); k_whole); (intro zqb9 zqt9 zqh9 zqtk9 zqF9 zqKB9 zqE9); (have zqN9 := KeepBut.news0 zqKB9 zqkN'); (clear zqkN'); (try dsimp only); (try k_fold)))
  k_with "call ref" => ((with_reducible show wpAny _ _ (call (Value.ref 133) [_]) _ _ _); k_dflt ((rename News _ _ _ _ => zqkN'); (refine' isplain ?k1 ?k2 ?k3 ?k4 ?kA ?kd ?ku ?kN ?kb ?kc ?_; (case k1 => k_asm); (case k2 => k_asm); (case k3 => k_asm); (case k4 => k_asm); (case kA => first | exact rfl | assumption); (case kd => (first | decide | ((try simp only [depth_deeper, units_deeper, units_in1, depth_in1, ktrTop, Nat.add_assoc, Nat.reduceAdd]); (refine room_lt ?_ ?_; assumption; decide)) | ((try simp only [depth_deeper, units_deeper, ktrTop]); omega))); (case ku => (first | decide | ((try simp only [depth_deeper, units_deeper, units_in1, depth_in1, ktrTop, Nat.add_assoc, Nat.reduceAdd]); (refine room_lt ?_ ?_; assumption; decide)) | ((try simp only [depth_deeper, units_deeper, ktrTop]); omega))); (case kN => exact cb_drop (by k_asm) (by lcg_sub)); (case kb => omega); (case kc => omega); k_whole); (intro zqh9 zqtk9 zqF9 zqKB9); (have zqN9 := KeepBut.news0 zqKB9 zqkN'); (clear zqkN'); (try dsimp only); (try k_fold)))
  k_with "call ref" => ((with_reducible show wpAny _ _ (call (Value.ref 138) [_]) _ _ _); k_dflt ((rename News _ _ _ _ => zqkN'); (refine' written ?k1 ?k2 ?k3 ?k4 ?kA ?kd ?ku ?kN ?kb ?kc ?_; (case k1 => k_asm); (case k2 => k_asm); (case k3 => k_asm); (case k4 => k_asm); (case kA => first | exact rfl | assumption); (case kd => (first | decide | ((try simp only [depth_deeper, units_deeper, units_in1, depth_in1, ktrTop, Nat.add_assoc, Nat.reduceAdd]); (refine room_lt ?_ ?_; assumption; decide)) | ((try simp only [depth_deeper, units_deeper, ktrTop]); omega))); (case ku => (first | decide | ((try simp only [depth_deeper, units_deeper, units_in1, depth_in1, ktrTop, Nat.add_assoc, Nat.reduceAdd]); (refine room_lt ?_ ?_; assumption; decide)) | ((try simp only [depth_deeper, units_deeper, ktrTop]); omega))); (case kN => exact cb_drop (by k_asm) (by lcg_sub)); (case kb => omega); (case kc => omega); k_whole); (intro zqb9 zqt9 zqh9 zqtk9 zqF9 zqKB9 zqE9); (have zqN9 := KeepBut.news0 zqKB9 zqkN'); (clear zqkN'); (try dsimp only); (try k_fold)))
  k_with "call ref" => ((with_reducible show wpAny _ _ (call (Value.ref 145) [_, _]) _ _ _); k_dflt ((rename News _ _ _ _ => zqkN'); (rename DeckOK _ _ _ _ _ _ => zqkD'); (have zqkDn := DeckOK.ne zqkD'); (refine' told ?k1 ?k2 ?k3 ?k4 ?kA ?kd ?ku ?kN zqkD' ?kk ?kb ?kc ?_; (case k1 => k_asm); (case k2 => k_asm); (case k3 => k_asm); (case k4 => k_asm); (case kA => first | exact rfl | assumption); (case kd => (first | decide | ((try simp only [depth_deeper, units_deeper, units_in1, depth_in1, ktrTop, Nat.add_assoc, Nat.reduceAdd]); (refine room_lt ?_ ?_; assumption; decide)) | ((try simp only [depth_deeper, units_deeper, ktrTop]); omega))); (case ku => (first | decide | ((try simp only [depth_deeper, units_deeper, units_in1, depth_in1, ktrTop, Nat.add_assoc, Nat.reduceAdd]); (refine room_lt ?_ ?_; assumption; decide)) | ((try simp only [depth_deeper, units_deeper, ktrTop]); omega))); (case kN => exact cb_drop (by k_asm) (by lcg_sub)); (case kk => omega); (case kb => omega); (case kc => omega); k_whole); (intro zqb9 zqt9 zqh9 zqtk9 zqo9 zqoc9 zqF9 zqN9 zqKB9 zqD9 zqE9); (replace zqN9 := KeepBut.news2 zqKB9 zqkN' (by k_updF) (by (intro _; (try dsimp only); k_updF)) zqN9); (clear zqkN' zqkD' zqkDn); (try dsimp only at zqN9); (try dsimp only); (try k_fold)))
  k_with "getMethod bytes" => ((with_reducible refine method_join ?_))
  k_with "call builtin:bytes.join" => ((with_reducible show wpAny _ _ (call (Value.builtin "bytes.join") _) _ _ _); refine Hold.stop ?_)
  k_with "call ref" => ((with_reducible show wpAny _ _ (call (Value.ref 105) [_, _]) _ _ _); k_dflt ((rename News _ _ _ _ => zqkN'); (rename DeckOK _ _ _ _ _ _ => zqkD'); (have zqkDn := DeckOK.ne zqkD'); (refine' pickI ?k1 ?k2 ?k3 ?k4 ?kA ?kd ?ku ?kN zqkD' ?kk ?ki ?kv ?kb ?kc ?ld ?lc ?_; (case k1 => k_asm); (case k2 => k_asm); (case k3 => k_asm); (case k4 => k_asm); (case kA => first | exact rfl | assumption); (case kd => (first | decide | ((try simp only [depth_deeper, units_deeper, units_in1, depth_in1, ktrTop, Nat.add_assoc, Nat.reduceAdd]); (refine room_lt ?_ ?_; assumption; decide)) | ((try simp only [depth_deeper, units_deeper, ktrTop]); omega))); (case ku => (first | decide | ((try simp only [depth_deeper, units_deeper, units_in1, depth_in1, ktrTop, Nat.add_assoc, Nat.reduceAdd]); (refine room_lt ?_ ?_; assumption; decide)) | ((try simp only [depth_deeper, units_deeper, ktrTop]); omega))); (case kN => exact cb_drop (by k_asm) (by lcg_sub)); (case kk => omega); (case ki => first | l_ints | l_intsW); (case kv => decide); (case kb => (simp only [List.length_append, List.length_cons, List.length_nil]; omega)); (case kc => (simp only [List.length_append, List.length_cons, List.length_nil]; omega)); (case ld => omega); (case lc => omega); k_whole); (intro zqr9 zqt9 zqh9 zqtk9 zqo9 zqoc9 zqF9 zqN9 zqKB9 zqD9 zqhm9 zqhr0 zqhr1); (replace zqN9 := KeepBut.news2 zqKB9 zqkN' (by k_updF) (by (intro _; (try dsimp only); k_updF)) (cb_drop zqN9 (by lcg_sub))); (clear zqkN' zqkD' zqkDn); (try dsimp only at zqN9); (try dsimp only); (try k_fold)))
  trivial
theorem fill_C9e (w : World) (h₀ : Heap) (hX : (hd.heap_39 w.params).In h₀) : (hd.heap_39 w.params).In h₀ ∧ PySem.Challenge.rw_pb0084_01 = PySem.Challenge.rw_pb0084_01 := by
  k_fill
  exact ⟨hX, rfl⟩
section
variable {w : World} {mg mb : Str → Option Value} {mean : ExcName → Option Value} {dp un : Nat} {gd : Option (List Code)} {cn : Str} {cs : Scope} {L a : Addr} {ccd : Value} {cl : List (Str × Addr)} {outer : List Env} {A₀ : Around} {base h₀ : Heap} {m : Str → Option Value} {s : Shared} {Q E : Value → Shared → Prop} {news : List (Addr × Obj)}


noncomputable def escPairs (t0 t1 t2 t3 t4 t5 t6 t7 t8 : Tok) : List (Int × Value) := [(7, .bytes #[97] t0), (8, .bytes #[98] t1), (9, .bytes #[116] t2), (10, .bytes #[110] t3), (11, .bytes #[118] t4), (12, .bytes #[102] t5), (13, .bytes #[114] t6), (34, .bytes #[34] t7), (92, .bytes #[92] t8)]
theorem esc_of {K : Frag} {o : Obj} {t0 t1 t2 t3 t4 t5 t6 t7 t8 : Tok} {h : Heap} (X : K.In h) (hl : K.lookup 62 = some o) (hk : o.IsDictOf (PySem.intKind PR w) (escPairs t0 t1 t2 t3 t4 t5 t6 t7 t8)) :
    ∃ o t0 t1 t2 t3 t4 t5 t6 t7 t8, h.get? 62 = some o ∧ o.IsDictOf (PySem.intKind PR w) (escPairs t0 t1 t2 t3 t4 t5 t6 t7 t8) := ⟨o, t0, t1, t2, t3, t4, t5, t6, t7, t8, X _ _ hl, hk⟩
theorem esc_keys {es : List DictEntry} : (∀ e ∈ es, ∃ (k : Int) (t : Tok), e.key = .int k t ∧ e.hash = hashInt k) → PySem.KeysOf (PySem.intKind PR w) es.toArray := fun h e he => by
  obtain ⟨k, t, e1, e2⟩ := h e (by simpa using he)
  exact ⟨k, by rw [e1]; simp [PySem.intKind, Value.isInt], e2⟩
theorem esc_dict {h : Heap} (X : (hd.heap_39 w.params).In h) : ∃ o t0 t1 t2 t3 t4 t5 t6 t7 t8, h.get? 62 = some o ∧ o.IsDictOf (PySem.intKind PR w) (escPairs t0 t1 t2 t3 t4 t5 t6 t7 t8) := by
  k_dflt (refine' esc_of X ?k ?h1; (case k => k_is))
  case h1 =>
    refine ⟨_, _, ⟨rfl, rfl, rfl⟩, rfl, esc_keys ?_, ?_, ?_⟩
    · intro e he
      simp only [List.mem_cons, List.not_mem_nil, or_false] at he
      rcases he with rfl | rfl | rfl | rfl | rfl | rfl | rfl | rfl | rfl
      all_goals exact ⟨_, _, rfl, by decide⟩
    · unfold escPairs
      exact .cons rfl rfl (.cons rfl rfl (.cons rfl rfl (.cons rfl rfl (.cons rfl rfl (.cons rfl rfl (.cons rfl rfl (.cons rfl rfl (.cons rfl rfl .nil))))))))
    · unfold escPairs
      simp
theorem escF (t0 t1 t2 t3 t4 t5 t6 t7 t8 : Tok) (k : Int) : match letterOf k with
  | none => PySem.valueAt (escPairs t0 t1 t2 t3 t4 t5 t6 t7 t8) k = none
  | some l => ∃ b t, PySem.valueAt (escPairs t0 t1 t2 t3 t4 t5 t6 t7 t8) k = some (.bytes b t) ∧ KBw.bInts b = [l] := by
  by_cases h1 : k = 7; · subst h1; exact ⟨_, _, rfl, rfl⟩
  by_cases h2 : k = 8; · subst h2; exact ⟨_, _, rfl, rfl⟩
  by_cases h3 : k = 9; · subst h3; exact ⟨_, _, rfl, rfl⟩
  by_cases h4 : k = 10; · subst h4; exact ⟨_, _, rfl, rfl⟩
  by_cases h5 : k = 11; · subst h5; exact ⟨_, _, rfl, rfl⟩
  by_cases h6 : k = 12; · subst h6; exact ⟨_, _, rfl, rfl⟩
  by_cases h7 : k = 13; · subst h7; exact ⟨_, _, rfl, rfl⟩
  by_cases h8 : k = 34; · subst h8; exact ⟨_, _, rfl, rfl⟩
  by_cases h9 : k = 92; · subst h9; exact ⟨_, _, rfl, rfl⟩
  have e : letterOf k = none := by
    simp [letterOf, List.lookup, beq_eq_false_iff_ne.mpr h1, beq_eq_false_iff_ne.mpr h2, beq_eq_false_iff_ne.mpr h3, beq_eq_false_iff_ne.mpr h4, beq_eq_false_iff_ne.mpr h5, beq_eq_false_iff_ne.mpr h6, beq_eq_false_iff_ne.mpr h7, beq_eq_false_iff_ne.mpr h8, beq_eq_false_iff_ne.mpr h9]
  rw [e]
  simp [PySem.valueAt, escPairs, Ne.symm h1, Ne.symm h2, Ne.symm h3, Ne.symm h4, Ne.symm h5, Ne.symm h6, Ne.symm h7, Ne.symm h8, Ne.symm h9]
section
variable {A : Around} {Ev : Value → Shared → Prop} {n l : Int} {tn : Tok} {Qv : Value → Shared → Prop}
theorem esc_in_some (F : Fr h₀ L s.heap m) (X : (hd.heap_39 w.params).In h₀) (hl : letterOf n = some l) (h : Qv (.bool true) { s with toks := s.toks + 1 }) : wpAny (model PR w) A (compareOp .In (.int n tn) (.ref 62)) Qv Ev s := by
  obtain ⟨o, t0, t1, t2, t3, t4, t5, t6, t7, t8, ho, hD⟩ := esc_dict (X.keeps F.keep)
  have hf := escF t0 t1 t2 t3 t4 t5 t6 t7 t8 n
  rw [hl] at hf
  obtain ⟨b, t, hb, _⟩ := hf
  refine wpAny_in_of (knd := PySem.intKind PR w) (k := n) (by simp [PySem.intKind, Value.isInt]) (by decide) (Heap.DictOf.mapOf (Heap.dictOf_iff.mpr ⟨o, ho, hD⟩)) ?_
  rw [hb]; exact h
theorem esc_in_none (F : Fr h₀ L s.heap m) (X : (hd.heap_39 w.params).In h₀) (hl : letterOf n = none) (h : Qv (.bool false) { s with toks := s.toks + 1 }) : wpAny (model PR w) A (compareOp .In (.int n tn) (.ref 62)) Qv Ev s := by
  obtain ⟨o, t0, t1, t2, t3, t4, t5, t6, t7, t8, ho, hD⟩ := esc_dict (X.keeps F.keep)
  have hf := escF t0 t1 t2 t3 t4 t5 t6 t7 t8 n
  rw [hl] at hf
  refine wpAny_in_of (knd := PySem.intKind PR w) (k := n) (by simp [PySem.intKind, Value.isInt]) (by decide) (Heap.DictOf.mapOf (Heap.dictOf_iff.mpr ⟨o, ho, hD⟩)) ?_
  rw [hf]; exact h
theorem esc_item {value slice : PySem.Expr} (F : Fr h₀ L s.heap m) (X : (hd.heap_39 w.params).In h₀) (hl : letterOf n = some l) (h : ∀ b t, KBw.bInts b = [l] → Qv (.bytes b t) { s with toks := s.toks + 1 })
    (hs : subscripted slice false (.ref 62) (.int n tn) = operate [.ref 62, .int n tn] (getItem (.ref 62) (.int n tn)) := by with_unfolding_all rfl) : wpAny (model PR w) A (subscriptTail value slice (.ref 62) (.int n tn)) Qv Ev s := by
  obtain ⟨o, t0, t1, t2, t3, t4, t5, t6, t7, t8, ho, hD⟩ := esc_dict (X.keeps F.keep)
  have hf := escF t0 t1 t2 t3 t4 t5 t6 t7 t8 n
  rw [hl] at hf
  obtain ⟨b, t, hb, hb2⟩ := hf
  have hm := Heap.DictOf.mapOf (Heap.dictOf_iff.mpr ⟨o, ho, hD⟩)
  exact tail_any hm.typeIs slot_dict_getitem.lookup (wpAny_getItem_of (knd := PySem.intKind PR w) (k := n) (by simp [PySem.intKind, Value.isInt]) hm hb (h b t hb2)) hs
end
end
end PartC9e
section PartC9
local macro_rules | `(tactic| walk_at "pyIter bytes") => `(tactic| ((with_reducible show wpAny _ _ (pyIter (Value.bytes _ _)) _ _ _); refine Hold.stop ?_))
theorem off_C9 : True := by
  w_top off
  k_with_none
  k_with "LeaveK" => (with_reducible show LeaveK _ _ _ _ _ _ _; (rename GSub _ _ _ => zqkG'); (refine leaveS (by k_asm) zqkG' ?_); clear zqkG'; intro zqkE'; walk_say "KEEPS")
  k_with "call ref" => ((with_reducible show wpAny _ _ (call (Value.ref 98) [_, _]) _ _ _); k_dflt ((rename News _ _ _ _ => zqkN'); (rename DeckOK _ _ _ _ _ _ => zqkD'); (have zqkDn := DeckOK.ne zqkD'); (refine' draw ?k1 ?k2 ?k3 ?k4 ?kA ?kd ?ku ?kN zqkD' ?kk ?kb ?kc ?_; (case k1 => k_asm); (case k2 => k_asm); (case k3 => k_asm); (case k4 => k_asm); (case kA => first | exact rfl | assumption); (case kd => (first | decide | ((try simp only [depth_deeper, units_deeper, units_in1, depth_in1, ktrTop, Nat.add_assoc, Nat.reduceAdd]); (refine room_lt ?_ ?_; assumption; decide)) | ((try simp only [depth_deeper, units_deeper, ktrTop]); omega))); (case ku => (first | decide | ((try simp only [depth_deeper, units_deeper, units_in1, depth_in1, ktrTop, Nat.add_assoc, Nat.reduceAdd]); (refine room_lt ?_ ?_; assumption; decide)) | ((try simp only [depth_deeper, units_deeper, ktrTop]); omega))); (case kN => exact cb_drop (by k_asm) (by lcg_sub)); (case kk => omega); (case kb => omega); (case kc => omega); k_whole); (intro zqr9 zqt9 zqh9 zqtk9 zqo9 zqoc9 zqF9 zqN9 zqKB9 zqD9 zqhr0 zqhr1); (replace zqN9 := KeepBut.news2 zqKB9 zqkN' (by k_updF) (by (intro _; (try dsimp only); k_updF)) zqN9); (clear zqkN' zqkD' zqkDn); (try dsimp only at zqN9); (try dsimp only); (try k_fold)))
  k_with "call ref" => ((with_reducible show wpAny _ _ (call (Value.ref 105) [_, _]) _ _ _); k_dflt ((rename News _ _ _ _ => zqkN'); (rename DeckOK _ _ _ _ _ _ => zqkD'); (have zqkDn := DeckOK.ne zqkD'); (refine' pick ?k1 ?k2 ?k3 ?k4 ?kA ?kd ?ku ?kN zqkD' ?kk ?kb ?kc ?ld ?lc ?_; (case k1 => k_asm); (case k2 => k_asm); (case k3 => k_asm); (case k4 => k_asm); (case kA => first | exact rfl | assumption); (case kd => (first | decide | ((try simp only [depth_deeper, units_deeper, units_in1, depth_in1, ktrTop, Nat.add_assoc, Nat.reduceAdd]); (refine room_lt ?_ ?_; assumption; decide)) | ((try simp only [depth_deeper, units_deeper, ktrTop]); omega))); (case ku => (first | decide | ((try simp only [depth_deeper, units_deeper, units_in1, depth_in1, ktrTop, Nat.add_assoc, Nat.reduceAdd]); (refine room_lt ?_ ?_; assumption; decide)) | ((try simp only [depth_deeper, units_deeper, ktrTop]); omega))); (case kN => exact cb_drop (by k_asm) (by lcg_sub)); (case kk => omega); (case kb => first | decide | (simp only [List.length_append, List.length_cons, List.length_nil]; omega)); (case kc => first | decide | (simp only [List.length_append, List.length_cons, List.length_nil]; omega)); (case ld => omega); (case lc => omega); k_whole); (intro zqi9 zqhi9 zqh9 zqtk9 zqo9 zqoc9 zqF9 zqN9 zqKB9 zqD9); (replace zqN9 := KeepBut.news2 zqKB9 zqkN' (by k_updF) (by (intro _; (try dsimp only); k_updF)) (cb_drop zqN9 (by lcg_sub))); (clear zqkN' zqkD' zqkDn); (try dsimp only at zqN9); (try dsimp only); (try k_fold)))
  k_with "call ref" => ((with_reducible show wpAny _ _ (call (Value.ref 119) [_]) _ _ _); k_dflt ((rename News _ _ _ _ => zqkN'); (rename DeckOK _ _ _ _ _ _ => zqkD'); (have zqkDn := DeckOK.ne zqkD'); (refine' octet ?k1 ?k2 ?k3 ?k4 ?kA ?kd ?ku ?kN zqkD' ?kk ?_; (case k1 => k_asm); (case k2 => k_asm); (case k3 => k_asm); (case k4 => k_asm); (case kA => first | exact rfl | assumption); (case kd => (first | decide | ((try simp only [depth_deeper, units_deeper, units_in1, depth_in1, ktrTop, Nat.add_assoc, Nat.reduceAdd]); (refine room_lt ?_ ?_; assumption; decide)) | ((try simp only [depth_deeper, units_deeper, ktrTop]); omega))); (case ku => (first | decide | ((try simp only [depth_deeper, units_deeper, units_in1, depth_in1, ktrTop, Nat.add_assoc, Nat.reduceAdd]); (refine room_lt ?_ ?_; assumption; decide)) | ((try simp only [depth_deeper, units_deeper, ktrTop]); omega))); (case kN => exact cb_drop (by k_asm) (by lcg_sub)); (case kk => omega); k_whole); (intro zqr9 zqt9 zqh9 zqtk9 zqo9 zqoc9 zqF9 zqN9 zqKB9 zqD9 zqhr0 zqhr1); (replace zqN9 := KeepBut.news2 zqKB9 zqkN' (by k_updF) (by (intro _; (try dsimp only); k_updF)) zqN9); (clear zqkN' zqkD' zqkDn); (try dsimp only at zqN9); (try dsimp only); (try k_fold)))
  k_with "call ref" => ((with_reducible show wpAny _ _ (call (Value.ref 126) [_]) _ _ _); k_dflt ((rename News _ _ _ _ => zqkN'); (refine' figures ?k1 ?k2 ?k3 ?k4 ?kA ?kd ?ku ?kN ?kb ?kc ?_; (case k1 => k_asm); (case k2 => k_asm); (case k3 => k_asm); (case k4 => k_asm); (case kA => first | exact rfl | assumption); (case kd => (first | decide | ((try simp only [depth_deeper, units_deeper, units_in1, depth_in1, ktrTop, Nat.add_assoc, Nat.reduceAdd]); (refine room_lt ?_ ?_; assumption; decide)) | ((try simp only [depth_deeper, units_deeper, ktrTop]); omega))); (case ku => (first | decide | ((try simp only [depth_deeper, units_deeper, units_in1, depth_in1, ktrTop, Nat.add_assoc, Nat.reduceAdd]); (refine room_lt ?_ ?_; assumption; decide)) | ((try simp only [depth_deeper, units_deeper, ktrTop]); omega))); (case kN => exact cb_drop (by k_asm) (by lcg_sub)); (case kb => omega); (case kc => omega); k_whole); (intro zqb9 zqt9 zqh9 zqtk9 zqF9 zqKB9 zqE9); (have zqN9 := KeepBut.news0 zqKB9 zqkN'); (clear zqkN'); (try dsimp only); (try k_fold)))
  k_with "call ref" => ((with_reducible show wpAny _ _ (call (Value.ref 133) [_]) _ _ _); k_dflt ((rename News _ _ _ _ => zqkN'); (refine' isplain ?k1 ?k2 ?k3 ?k4 ?kA ?kd ?ku ?kN ?kb ?kc ?_; (case k1 => k_asm); (case k2 => k_asm); (case k3 => k_asm); (case k4 => k_asm); (case kA => first | exact rfl | assumption); (case kd => (first | decide | ((try simp only [depth_deeper, units_deeper, units_in1, depth_in1, ktrTop, Nat.add_assoc, Nat.reduceAdd]); (refine room_lt ?_ ?_; assumption; decide)) | ((try simp only [depth_deeper, units_deeper, ktrTop]); omega))); (case ku => (first | decide | ((try simp only [depth_deeper, units_deeper, units_in1, depth_in1, ktrTop, Nat.add_assoc, Nat.reduceAdd]); (refine room_lt ?_ ?_; assumption; decide)) | ((try simp only [depth_deeper, units_deeper, ktrTop]); omega))); (case kN => exact cb_drop (by k_asm) (by lcg_sub)); (case kb => omega); (case kc => omega); k_whole); (intro zqh9 zqtk9 zqF9 zqKB9); (have zqN9 := KeepBut.news0 zqKB9 zqkN'); (clear zqkN'); (try dsimp only); (try k_fold)))
  k_with "call ref" => ((with_reducible show wpAny _ _ (call (Value.ref 138) [_]) _ _ _); k_dflt ((rename News _ _ _ _ => zqkN'); (refine' written ?k1 ?k2 ?k3 ?k4 ?kA ?kd ?ku ?kN ?kb ?kc ?_; (case k1 => k_asm); (case k2 => k_asm); (case k3 => k_asm); (case k4 => k_asm); (case kA => first | exact rfl | assumption); (case kd => (first | decide | ((try simp only [depth_deeper, units_deeper, units_in1, depth_in1, ktrTop, Nat.add_assoc, Nat.reduceAdd]); (refine room_lt ?_ ?_; assumption; decide)) | ((try simp only [depth_deeper, units_deeper, ktrTop]); omega))); (case ku => (first | decide | ((try simp only [depth_deeper, units_deeper, units_in1, depth_in1, ktrTop, Nat.add_assoc, Nat.reduceAdd]); (refine room_lt ?_ ?_; assumption; decide)) | ((try simp only [depth_deeper, units_deeper, ktrTop]); omega))); (case kN => exact cb_drop (by k_asm) (by lcg_sub)); (case kb => omega); (case kc => omega); k_whole); (intro zqb9 zqt9 zqh9 zqtk9 zqF9 zqKB9 zqE9); (have zqN9 := KeepBut.news0 zqKB9 zqkN'); (clear zqkN'); (try dsimp only); (try k_fold)))
  k_with "call ref" => ((with_reducible show wpAny _ _ (call (Value.ref 145) [_, _]) _ _ _); k_dflt ((rename News _ _ _ _ => zqkN'); (rename DeckOK _ _ _ _ _ _ => zqkD'); (have zqkDn := DeckOK.ne zqkD'); (refine' told ?k1 ?k2 ?k3 ?k4 ?kA ?kd ?ku ?kN zqkD' ?kk ?kb ?kc ?_; (case k1 => k_asm); (case k2 => k_asm); (case k3 => k_asm); (case k4 => k_asm); (case kA => first | exact rfl | assumption); (case kd => (first | decide | ((try simp only [depth_deeper, units_deeper, units_in1, depth_in1, ktrTop, Nat.add_assoc, Nat.reduceAdd]); (refine room_lt ?_ ?_; assumption; decide)) | ((try simp only [depth_deeper, units_deeper, ktrTop]); omega))); (case ku => (first | decide | ((try simp only [depth_deeper, units_deeper, units_in1, depth_in1, ktrTop, Nat.add_assoc, Nat.reduceAdd]); (refine room_lt ?_ ?_; assumption; decide)) | ((try simp only [depth_deeper, units_deeper, ktrTop]); omega))); (case kN => exact cb_drop (by k_asm) (by lcg_sub)); (case kk => omega); (case kb => omega); (case kc => omega); k_whole); (intro zqb9 zqt9 zqh9 zqtk9 zqo9 zqoc9 zqF9 zqN9 zqKB9 zqD9 zqE9); (replace zqN9 := KeepBut.news2 zqKB9 zqkN' (by k_updF) (by (intro _; (try dsimp only); k_updF)) zqN9); (clear zqkN' zqkD' zqkDn); (try dsimp only at zqN9); (try dsimp only); (try k_fold)))
  k_with "getMethod bytes" => ((with_reducible refine method_join ?_))
  k_with "call builtin:bytes.join" => ((with_reducible show wpAny _ _ (call (Value.builtin "bytes.join") _) _ _ _); refine Hold.stop ?_)
  k_with "call ref" => ((with_reducible show wpAny _ _ (call (Value.ref 105) [_, _]) _ _ _); k_dflt ((rename News _ _ _ _ => zqkN'); (rename DeckOK _ _ _ _ _ _ => zqkD'); (have zqkDn := DeckOK.ne zqkD'); (refine' pickI ?k1 ?k2 ?k3 ?k4 ?kA ?kd ?ku ?kN zqkD' ?kk ?ki ?kv ?kb ?kc ?ld ?lc ?_; (case k1 => k_asm); (case k2 => k_asm); (case k3 => k_asm); (case k4 => k_asm); (case kA => first | exact rfl | assumption); (case kd => (first | decide | ((try simp only [depth_deeper, units_deeper, units_in1, depth_in1, ktrTop, Nat.add_assoc, Nat.reduceAdd]); (refine room_lt ?_ ?_; assumption; decide)) | ((try simp only [depth_deeper, units_deeper, ktrTop]); omega))); (case ku => (first | decide | ((try simp only [depth_deeper, units_deeper, units_in1, depth_in1, ktrTop, Nat.add_assoc, Nat.reduceAdd]); (refine room_lt ?_ ?_; assumption; decide)) | ((try simp only [depth_deeper, units_deeper, ktrTop]); omega))); (case kN => exact cb_drop (by k_asm) (by lcg_sub)); (case kk => omega); (case ki => first | l_ints | l_intsW); (case kv => decide); (case kb => (simp only [List.length_append, List.length_cons, List.length_nil]; omega)); (case kc => (simp only [List.length_append, List.length_cons, List.length_nil]; omega)); (case ld => omega); (case lc => omega); k_whole); (intro zqr9 zqt9 zqh9 zqtk9 zqo9 zqoc9 zqF9 zqN9 zqKB9 zqD9 zqhm9 zqhr0 zqhr1); (replace zqN9 := KeepBut.news2 zqKB9 zqkN' (by k_updF) (by (intro _; (try dsimp only); k_updF)) (cb_drop zqN9 (by lcg_sub))); (clear zqkN' zqkD' zqkDn); (try dsimp only at zqN9); (try dsimp only); (try k_fold)))
  k_with "call ref" => ((with_reducible show wpAny _ _ (call (Value.ref 157) [_, _]) _ _ _); k_dflt ((rename News _ _ _ _ => zqkN'); (rename DeckOK _ _ _ _ _ _ => zqkD'); (have zqkDn := DeckOK.ne zqkD'); (refine' faulty ?k1 ?k2 ?k3 ?k4 ?kA ?kd ?ku ?kN zqkD' ?kk ?kb ?kc ?_; (case k1 => k_asm); (case k2 => k_asm); (case k3 => k_asm); (case k4 => k_asm); (case kA => first | exact rfl | assumption); (case kd => (first | decide | ((try simp only [depth_deeper, units_deeper, units_in1, depth_in1, ktrTop, Nat.add_assoc, Nat.reduceAdd]); (refine room_lt ?_ ?_; assumption; decide)) | ((try simp only [depth_deeper, units_deeper, ktrTop]); omega))); (case ku => (first | decide | ((try simp only [depth_deeper, units_deeper, units_in1, depth_in1, ktrTop, Nat.add_assoc, Nat.reduceAdd]); (refine room_lt ?_ ?_; assumption; decide)) | ((try simp only [depth_deeper, units_deeper, ktrTop]); omega))); (case kN => exact cb_drop (by k_asm) (by lcg_sub)); (case kk => omega); (case kb => assumption); (case kc => omega); k_whole); (intro zqb9 zqt9 zqh9 zqtk9 zqo9 zqoc9 zqF9 zqN9 zqKB9 zqD9 zqE9); (replace zqN9 := KeepBut.news2 zqKB9 zqkN' (by k_updF) (by (intro _; (try dsimp only); k_updF)) zqN9); (clear zqkN' zqkD' zqkDn); (try dsimp only at zqN9); (try dsimp only); (try k_fold)))
  k_with "call ref" => ((with_reducible show wpAny _ _ (call (Value.ref 69) [_]) _ _ _); k_dflt ((rename News _ _ _ _ => zqkN'); (refine' mustq ?k1 ?k2 ?k3 ?k4 ?kA ?kd ?ku ?kN ?kb ?kc ?_; (case k1 => k_asm); (case k2 => k_asm); (case k3 => k_asm); (case k4 => k_asm); (case kA => first | exact rfl | assumption); (case kd => (first | decide | ((try simp only [depth_deeper, units_deeper, units_in1, depth_in1, ktrTop, Nat.add_assoc, Nat.reduceAdd]); (refine room_lt ?_ ?_; assumption; decide)) | ((try simp only [depth_deeper, units_deeper, ktrTop]); omega))); (case ku => (first | decide | ((try simp only [depth_deeper, units_deeper, units_in1, depth_in1, ktrTop, Nat.add_assoc, Nat.reduceAdd]); (refine room_lt ?_ ?_; assumption; decide)) | ((try simp only [depth_deeper, units_deeper, ktrTop]); omega))); (case kN => exact cb_drop (by k_asm) (by lcg_sub)); (case kb => omega); (case kc => omega); k_whole); (intro zqh9 zqtk9 zqF9 zqKB9); (have zqN9 := KeepBut.news0 zqKB9 zqkN'); (clear zqkN'); (try dsimp only); (try k_fold)))
  k_with "compareOp In int ref" => ((with_reducible show wpAny _ _ (compareOp CmpOp.In (Value.int _ _) (Value.ref 62)) _ _ _); k_dflt (first | (refine esc_in_some (by k_asm) (by k_asm) (by assumption) ?_) | (refine esc_in_none (by k_asm) (by k_asm) (by assumption) ?_)))
  k_with "subscriptTail" => ((with_reducible show wpAny _ _ (subscriptTail _ _ (Value.ref 62) (Value.int _ _)) _ _ _); k_dflt ((refine esc_item (by k_asm) (by k_asm) (by assumption) ?_ (by with_unfolding_all rfl)); intro zqb9 zqt9 zqE9))
  k_with "getMethod ref" => ((with_reducible show wpAny _ _ (getMethod (Value.ref _) (PySem.Str.ofString "append") _) _ _ _); (rename News _ _ _ _ => zqkN'); k_dflt (refine method_append (b := _) ((zqkN' _ (by first | exact .head _ | exact .tail _ (.head _) | exact .tail _ (.tail _ (.head _)))).1) ?_))
  k_with "eval ListComp" => ((with_reducible show wpAny _ _ (eval (Expr.ListComp _ _ _ _) _) _ _ _); refine Hold.stop ?_)
  trivial
theorem fill_C9 (w : World) (h₀ : Heap) (hX : (hd.heap_39 w.params).In h₀) : (hd.heap_39 w.params).In h₀ ∧ PySem.Challenge.rw_pb0084_01 = PySem.Challenge.rw_pb0084_01 := by
  k_fill
  exact ⟨hX, rfl⟩
section
variable {w : World} {mg mb : Str → Option Value} {mean : ExcName → Option Value} {dp un : Nat} {gd : Option (List Code)} {cn : Str} {cs : Scope} {L a : Addr} {ccd : Value} {cl : List (Str × Addr)} {outer : List Env} {A₀ : Around} {base h₀ : Heap} {m : Str → Option Value} {s : Shared} {Q E : Value → Shared → Prop} {news : List (Addr × Obj)}


theorem bools_of {f : Int → Bool} : ∀ {ks : List Int} {ys : List Value}, Each (fun k y => y = Value.bool (f k)) ks ys → LSm.BoolsAre ys (ks.map f)
  | [], [], _ => .nil
  | k :: ks, y :: ys, h => by
    obtain ⟨rfl, h2⟩ := h
    exact .cons _ (bools_of h2)
  | [], _ :: _, h => False.elim h
  | _ :: _, [], h => False.elim h
theorem mustq_ite (x : Int) : (if x < 32 then decide (x < 32) else if 126 < x then decide (126 < x) else if x = 34 then x == 34 else x == 92) = mustQ x := by
  unfold mustQ
  by_cases h1 : x < 32
  · simp [h1]
  · by_cases h2 : 126 < x
    · simp [h1, h2]
    · by_cases h3 : x = 34
      · simp [h3]
      · by_cases h4 : x = 92
        · simp [h4]
        · have e : (x == 92) = false := beq_eq_false_iff_ne.mpr h4
          simp [h1, h2, h3, h4]
theorem any_map_id (ks : List Int) : (ks.map mustQ).any (_root_.id) = ks.any mustQ := by
  induction ks with
  | nil => rfl
  | cons k r ih => simp [List.any_cons, ih]
theorem writ_some {n l : Int} (h : letterOf n = some l) : writ n = [92, l] := by
  have hp : ¬ (32 ≤ n ∧ n ≤ 126 ∧ n ≠ 34 ∧ n ≠ 92) := by
    intro hc
    have h1 : letterOf n = none := by
      simp [letterOf, List.lookup, beq_eq_false_iff_ne.mpr (show n ≠ 7 by omega), beq_eq_false_iff_ne.mpr (show n ≠ 8 by omega), beq_eq_false_iff_ne.mpr (show n ≠ 9 by omega), beq_eq_false_iff_ne.mpr (show n ≠ 10 by omega), beq_eq_false_iff_ne.mpr (show n ≠ 11 by omega), beq_eq_false_iff_ne.mpr (show n ≠ 12 by omega), beq_eq_false_iff_ne.mpr (show n ≠ 13 by omega), beq_eq_false_iff_ne.mpr (show n ≠ 34 by omega), beq_eq_false_iff_ne.mpr (show n ≠ 92 by omega)]
    rw [h1] at h; cases h
  rw [writ, if_neg hp, h]
theorem must_plain {n : Int} : mustQ n = false ↔ (32 ≤ n ∧ n ≤ 126 ∧ n ≠ 34 ∧ n ≠ 92) := by
  simp only [mustQ, Bool.or_eq_false_iff, decide_eq_false_iff_not]; omega
theorem writ_must {n : Int} (h : letterOf n = none) (hm : mustQ n = true) : writ n = figs n := by
  rw [writ, if_neg (fun hc => by rw [must_plain.mpr hc] at hm; cases hm), h]
theorem writ_plain {n : Int} (hm : mustQ n = false) : writ n = [n] := by
  rw [writ, if_pos (must_plain.mp hm)]
theorem byte_back {n : Int} (h0 : 0 ≤ n) (h1 : n < 256) : ((n.toNat.toUInt8.toNat : Nat) : Int) = n := by
  have e := KBa.ints_make (ns := [n]) (by intro x hx; rw [List.mem_singleton.mp hx]; exact ⟨h0, h1⟩)
  have e2 : [((n.toNat.toUInt8.toNat : Nat) : Int)] = [n] := e
  exact List.head_eq_of_cons_eq e2
theorem push_ints {b : Array UInt8} {n : Int} (h0 : 0 ≤ n) (h1 : n < 256) : KBw.bInts (b.push n.toNat.toUInt8) = KBw.bInts b ++ [n] := by
  simp only [KBw.bInts, Array.toList_push, List.map_append, List.map_cons, List.map_nil, byte_back h0 h1]
theorem quote (B : Below A₀ base outer h₀) (F : Fr h₀ L s.heap m) (X : (hd.heap_39 w.params).In h₀) (T : Top hd.view_39 LS mean mg mb h₀) (hk : cs.kind = .function) (hdp : dp + 60 < recursionLimit) (hun : un + 1500 < cLine)
    {pb : Array UInt8} {ks : List Int} {t : Tok} (N : News h₀ L s.heap []) (hks : KBw.bInts pb = ks) (hkl : ks.length ≤ 8)
    (hret : ∀ (b : Array UInt8) (t : Tok) (h' : Heap) (tk' : Nat), Fr h₀ L h' m → KeepBut s.heap h' [] → KBw.bInts b = (if ks.any mustQ then 34 :: (ks.map writ).flatten ++ [34] else ks) → Q (.bytes b t) { s with heap := h', toks := tk' }) :
    wpG (model PR w) (ktrTop dp un gd cn cs L a ccd cl outer) (call (.ref 74) [.bytes pb t]) Q E s := by
  refine wpG_call ?_
  k_dflt (refine' enterG ?k1 ?k2 ?k3 ?k4 ?k5 ?kA ?kF ?kK ?k6 ?k7 ?k8 ?k9 ?kB ?_ ?c2 ?c3 ?c4 ?c5; (case kA => exact rfl); (case kF => exact rfl); (case kK => assumption); (case k1 => k_asm); (case k2 => k_asm); (case k3 => k_asm); (case k4 => k_asm); (case k5 => k_asm); (case k6 => k_is); (case k7 => k_is); (case k8 => ktr_room); (case k9 => exact BindsTo.of_eq rfl); (case c5 => decide); (case kB => exact locs rfl); (case c2 => exact rfl); (case c3 => exact rfl); (case c4 => exact rfl); k_whole; intro g' L' h' FG' F' N' B' X' T' kG'; (try dsimp only); (try k_fold))

  refine wpG_name ?_
  intro Q' E' hQ hE
  refine execsG_cons (IfG (wpG_any ?_))
  k_fold
  k_steps
  refine Hold.go ?_
  rename Fr _ _ _ _ => lF'
  rename News _ _ _ _ => lN'
  k_dflt (refine ListComp_B lF' (by rfl) (by decide) (by rfl) (by decide) (by rfl) ?_)
  k_steps
  refine SrcB.intro rfl (by k_asm) (by k_asm) (by rw [← KBw.ints_length, hks, sizeLine_eq]; omega) ?_
  intro gz
  refine comp_each ks (by rw [← hks]; exact KBw.ints_length pb) (PB.ks hks) (fun _ nw => nw = []) (fun k y => y = Value.bool (mustQ k)) ?_ ?_ _ 0 [] _ (by omega) rfl (by simp [Each])
  · intro i x tx I oI C oC Dl ys nw m₂ h tk E' Qv hJ hi hm hC hx lF lN off ne yes
    subst hJ
    have hx0 := (KBw.ints_in (hks ▸ hm)).1
    have hx1 := (KBw.ints_in (hks ▸ hm)).2
    k_steps
    exact yes _ _ _ _ (congrArg Value.bool (mustq_ite _)) rfl (by k_asm) (by k_asm) off
  intro ys nw he hJ
  subst hJ
  intro Dl h tk lF lN off
  have hbl := bools_of he
  k_steps
  refine LSm.any_bools lF lN rfl (News.isList lN (.head _)) hbl ?_
  intro h2 tk2 lF2 lN2
  rw [any_map_id]
  k_steps
  rotate_left
  · rename ks.any mustQ = false => hany
    refine execsG_any ?_
    k_steps
    refine hQ _ _ ?_
    k_steps
    exact hret _ _ _ _ (by k_asm) (by k_asm) (by rw [hany]; exact hks)
  rename ks.any mustQ = true => hany
  refine execsG_nil ?_
  try dsimp only
  refine execsG_cons (Assign_NameG ?_)
  refine Call_NameG ?_
  k_steps
  refine callG_type ?_
  k_steps
  rename Fr _ _ _ _ => lF3
  rename News _ _ _ _ => lN3
  refine call_ba1 (by k_asm) (by k_asm) (by rw [sizeLine_eq]; decide) ?_
  intro D h3 F3 N3 lt3
  k_steps
  have lt3' : Dl < D := lt3 _ (.head _)
  refine execsG_cons (ForG ?_)
  k_steps
  refine Hold.go ?_
  rename Fr _ _ _ _ => lF4
  rename News _ _ _ _ => lN4
  refine forBytesG (L := L') (fun i nw => ∃ buf, nw = [(D, baOf buf), (Dl, LCg.lst ys)] ∧ KBw.bInts buf = 34 :: ((ks.take i).map writ).flatten) rfl hks rfl (by rfl) (by rfl) lF4 lN4 ⟨_, rfl, by simp [KBw.bInts]⟩ ?_ ?_
  · intro i n u I oI nw h tk E'' Qn Qb Qr hn hJ lF lN off yes
    obtain ⟨buf, rfl, hbuf⟩ := hJ
    have hm := List.mem_of_getElem? hn
    have hn0 := (KBw.ints_in (hks ▸ hm)).1
    have hn1 := (KBw.ints_in (hks ▸ hm)).2
    have hDI : @Ne Nat D I := off _ (.head _)
    have hDlI : @Ne Nat Dl I := off _ (.tail _ (.head _))
    have hoff : ∀ b' : Array UInt8, ∀ p ∈ [(D, baOf b'), (Dl, LCg.lst ys)], @Ne Nat p.1 I := fun b' p hp => by
      rcases List.mem_cons.mp hp with rfl | hp
      · exact hDI
      · rw [List.mem_singleton.mp hp]; exact hDlI
    have hU : ∀ b b' : Array UInt8, Upd D (baOf b) (baOf b') [(I, oI), (D, baOf b), (Dl, LCg.lst ys)] [(I, oI), (D, baOf b'), (Dl, LCg.lst ys)] := fun b b' => .tail (fun e => hDI e.symm) (.head fun p hp => by rw [List.mem_singleton.mp hp]; exact (Nat.ne_of_lt lt3'))
    have htake : (ks.take (i + 1)).map writ = (ks.take i).map writ ++ [writ n] := by rw [List.take_add_one, hn]; simp
    have hbl2 : buf.size ≤ 40 := by
      have h7 := congrArg List.length hbuf
      rw [KBw.ints_length] at h7
      have h8 := writ_flat (ks.take i)
      have h9 := List.length_take_le i ks
      simp only [List.length_cons, List.length_take] at h7 h8 h9
      omega
    cases hL : letterOf n with
    | some l =>
      refine execsG_cons (IfG (wpG_any ?_))
      k_steps
      refine execsG_cons (AugAssign_NameG ?_)
      k_steps
      rename KBw.bInts _ = _ => kApp
      refine iadd_ba (by k_asm) (by k_asm) (hU _ _) (by have h7 := congrArg List.length kApp; rw [KBw.ints_length] at h7; simp only [List.length_append, List.length_map, List.length_cons, List.length_nil] at h7; omega) ?_
      intro h5 lF5 lN5
      k_steps
      refine execsG_nil ?_
      (try dsimp only)
      refine execsG_nil ?_
      (try dsimp only)
      refine yes _ _ _ (some (.int n u)) _ ?_ ⟨_, rfl, ?_⟩ (by k_asm) (cb_drop (by k_asm) (by lcg_sub)) (hoff _)
      · funext y
        by_cases h1 : y = Str.ofString "found"
        · subst h1; rfl
        · simp only [h1, if_false]
      · rw [htake, List.flatten_append]
        refine (KBw.ints_app hbuf kApp).trans ?_
        rw [writ_some hL]
        simp
    | none =>
      refine execsG_cons (IfG (wpG_any ?_))
      k_steps
      refine execsG_cons (IfG (wpG_any ?_))
      have hin : KBa.In [92, 48 + n.fdiv 64, 48 + (n.fdiv 8).fmod 8, 48 + n.fmod 8] := by
        intro x hx
        rw [Int.fdiv_eq_ediv_of_nonneg _ (by decide), Int.fdiv_eq_ediv_of_nonneg _ (by decide), Int.fmod_eq_emod_of_nonneg _ (by decide), Int.fmod_eq_emod_of_nonneg _ (by decide)] at hx
        simp only [List.mem_cons, List.not_mem_nil, or_false] at hx
        omega
      k_steps
      · rename ite _ _ _ = true => ha
        rw [mustq_ite] at ha
        refine execsG_cons (AugAssign_NameG ?_)
        k_steps
        refine iadd_ba (by k_asm) (cb_drop (by k_asm) (by lcg_sub)) (hU _ _) (by rw [PySem.byteArr_size]; simp only [List.length_cons, List.length_nil]; omega) ?_
        intro h5 lF5 lN5
        k_steps
        refine execsG_nil ?_
        (try dsimp only)
        refine execsG_nil ?_
        (try dsimp only)
        refine execsG_nil ?_
        (try dsimp only)
        refine yes _ _ _ (some (.int n u)) _ ?_ ⟨_, rfl, ?_⟩ (by k_asm) (cb_drop (by k_asm) (by lcg_sub)) (hoff _)
        · funext y
          by_cases h1 : y = Str.ofString "found"
          · subst h1; rfl
          · simp only [h1, if_false]
        · rw [htake, List.flatten_append]
          refine (KBw.ints_app hbuf (KBa.ints_make hin)).trans ?_
          rw [writ_must hL ha, figs]
          rw [Int.fdiv_eq_ediv_of_nonneg _ (by decide), Int.fdiv_eq_ediv_of_nonneg _ (by decide), Int.fmod_eq_emod_of_nonneg _ (by decide), Int.fmod_eq_emod_of_nonneg _ (by decide)]
          simp
      · rename ite _ _ _ = false => ha
        rw [mustq_ite] at ha
        refine execsG_cons (ExprG (MethodCallG ?_))
        k_steps
        rename News _ _ _ _ => lN6
        refine method_append (lN6 _ (.tail _ (.head _))).1 ?_
        refine callG_builtin ?_
        k_steps
        refine append_ba (by k_asm) (by k_asm) (hU _ _) hn0 hn1 (by omega) ?_
        intro h5 lF5 lN5
        (try dsimp only)
        refine execsG_nil ?_
        (try dsimp only)
        refine execsG_nil ?_
        (try dsimp only)
        refine execsG_nil ?_
        (try dsimp only)
        refine yes _ _ _ (some (.int n u)) _ rfl ⟨_, rfl, ?_⟩ (by k_asm) (cb_drop (by k_asm) (by lcg_sub)) (hoff _)
        rw [htake, List.flatten_append, push_ints hn0 hn1, hbuf, writ_plain ha]
        simp
  · intro h tk nw ov hJ lF lN
    obtain ⟨buf, rfl, hbuf⟩ := hJ
    refine execsG_any ?_
    k_steps
    rw [List.take_length] at hbuf
    have hbs : buf.size ≤ 40 := by
      have h7 := congrArg List.length hbuf
      rw [KBw.ints_length] at h7
      have h8 := writ_flat ks
      simp only [List.length_cons] at h7
      omega
    refine bytes_ba (lN _ (.head _)).1 (by omega) ?_
    intro t8 k8
    have hbufl : ((ks.map writ).flatten).length ≤ 40 := by
      have h8 := writ_flat ks
      omega
    k_steps
    rename KBw.bInts _ = _ => kApp
    refine hQ _ _ ?_
    k_steps
    exact hret _ _ _ _ (by k_asm) (by k_asm) (by rw [kApp, if_pos hany]; simp)
end
end PartC9
section PartD1b
theorem fill_D1b (w : World) (h₀ : Heap) (hX : (hd.heap_39 w.params).In h₀) : (hd.heap_39 w.params).In h₀ ∧ PySem.Challenge.rw_pb0084_01 = PySem.Challenge.rw_pb0084_01 := by
  k_fill
  exact ⟨hX, rfl⟩
section
variable {w : World} {mg mb : Str → Option Value} {mean : ExcName → Option Value} {dp un : Nat} {gd : Option (List Code)} {cn : Str} {cs : Scope} {L a : Addr} {ccd : Value} {cl : List (Str × Addr)} {outer : List Env} {A₀ : Around} {base h₀ : Heap} {m : Str → Option Value} {s : Shared} {Q E : Value → Shared → Prop} {news : List (Addr × Obj)}


noncomputable def namesKV : List (Int × Int) := [(97, 7), (98, 8), (116, 9), (110, 10), (118, 11), (102, 12), (114, 13), (34, 34), (92, 92)]
noncomputable def nameOf (k : Int) : Option Int := List.lookup k namesKV
inductive NV : List (Int × Int) → List (Int × Value) → Prop
  | nil : NV [] []
  | cons {k v : Int} {u : Tok} {l : List (Int × Int)} {kvs : List (Int × Value)} : NV l kvs → NV ((k, v) :: l) ((k, .int v u) :: kvs)
theorem NV.snoc : ∀ {l : List (Int × Int)} {kvs : List (Int × Value)} {k v : Int} {u : Tok}, NV l kvs → NV (l ++ [(k, v)]) (kvs ++ [(k, .int v u)])
  | _, _, _, _, _, .nil => .cons .nil
  | _, _, _, _, _, .cons h => .cons (NV.snoc h)
theorem NV.keys : ∀ {l : List (Int × Int)} {kvs : List (Int × Value)}, NV l kvs → kvs.map (·.1) = l.map (·.1)
  | _, _, .nil => rfl
  | _, _, .cons h => by simp [NV.keys h]
theorem NV.value : ∀ {l : List (Int × Int)} {kvs : List (Int × Value)}, NV l kvs → ∀ k, match List.lookup k l with
    | none => PySem.valueAt kvs k = none
    | some v => ∃ u, PySem.valueAt kvs k = some (.int v u)
  | _, _, .nil, k => rfl
  | _, _, .cons (k := k') (v := v) (u := u) (l := l) (kvs := kvs) h, k => by
    by_cases e : k = k'
    · subst e
      simp [List.lookup, PySem.valueAt]
    · have ih := NV.value h k
      rw [List.lookup_cons, show (k == k') = false from beq_eq_false_iff_ne.mpr e]
      have e2 : PySem.valueAt ((k', Value.int v u) :: kvs) k = PySem.valueAt kvs k := by
        unfold PySem.valueAt
        rw [List.find?_cons_of_neg (by simpa using Ne.symm e)]
      rw [e2]
      exact ih
abbrev escKs : List Int := [7, 8, 9, 10, 11, 12, 13, 34, 92]
theorem esc_at : ∀ (i : Nat) (k : Int), escKs[i]? = some k → ∃ l, letterOf k = some l ∧ namesKV[i]? = some (l, k)
  | 0, k, h => by injection h with h; subst h; exact ⟨_, rfl, rfl⟩
  | 1, k, h => by injection h with h; subst h; exact ⟨_, rfl, rfl⟩
  | 2, k, h => by injection h with h; subst h; exact ⟨_, rfl, rfl⟩
  | 3, k, h => by injection h with h; subst h; exact ⟨_, rfl, rfl⟩
  | 4, k, h => by injection h with h; subst h; exact ⟨_, rfl, rfl⟩
  | 5, k, h => by injection h with h; subst h; exact ⟨_, rfl, rfl⟩
  | 6, k, h => by injection h with h; subst h; exact ⟨_, rfl, rfl⟩
  | 7, k, h => by injection h with h; subst h; exact ⟨_, rfl, rfl⟩
  | 8, k, h => by injection h with h; subst h; exact ⟨_, rfl, rfl⟩
  | n + 9, k, h => by simp at h
theorem esc_ks (t0 t1 t2 t3 t4 t5 t6 t7 t8 : Tok) : ∀ (i : Nat) (k : Int) (x : Value), (escPairs t0 t1 t2 t3 t4 t5 t6 t7 t8)[i]? = some (k, x) → escKs[i]? = some k
  | 0, k, x, h => by injection h with h; injection h with h1 h2; subst h1; rfl
  | 1, k, x, h => by injection h with h; injection h with h1 h2; subst h1; rfl
  | 2, k, x, h => by injection h with h; injection h with h1 h2; subst h1; rfl
  | 3, k, x, h => by injection h with h; injection h with h1 h2; subst h1; rfl
  | 4, k, x, h => by injection h with h; injection h with h1 h2; subst h1; rfl
  | 5, k, x, h => by injection h with h; injection h with h1 h2; subst h1; rfl
  | 6, k, x, h => by injection h with h; injection h with h1 h2; subst h1; rfl
  | 7, k, x, h => by injection h with h; injection h with h1 h2; subst h1; rfl
  | 8, k, x, h => by injection h with h; injection h with h1 h2; subst h1; rfl
  | n + 9, k, x, h => by simp [escPairs] at h
theorem esc_P (t0 t1 t2 t3 t4 t5 t6 t7 t8 : Tok) : ∀ i v, i < 9 → (∃ k x, (escPairs t0 t1 t2 t3 t4 t5 t6 t7 t8)[i]? = some (k, x) ∧ Value.isInt k v = true) → ∃ k t, escKs[i]? = some k ∧ v = .int k t := by
  rintro i v _ ⟨k, x, e1, e2⟩
  obtain ⟨t, rfl⟩ := Value.isInt_shape e2
  exact ⟨k, t, esc_ks t0 t1 t2 t3 t4 t5 t6 t7 t8 i k x e1, rfl⟩
noncomputable def NamesJ (i : Nat) (ys : List Value) (nw : List (Addr × Obj)) : Prop :=
  ∃ kvs, NV (namesKV.take i) kvs ∧ ys.length = kvs.length ∧ (∀ j, j < kvs.length → ∃ a k t v, ys[j]? = some (.ref a) ∧ kvs[j]? = some (k, v) ∧ (a, tup2 k t v) ∈ nw)
theorem NamesJ.next {i : Nat} {ys : List Value} {nw : List (Addr × Obj)} {a : Addr} {k v : Int} {t u : Tok} (h : NamesJ i ys nw) (hk : namesKV[i]? = some (k, v)) : NamesJ (i + 1) (ys ++ [.ref a]) ((a, tup2 k t (.int v u)) :: nw) := by
  obtain ⟨kvs, h1, h2, h3⟩ := h
  refine ⟨kvs ++ [(k, .int v u)], ?_, by simp [h2], fun j hj => ?_⟩
  · rw [List.take_add_one, hk]
    exact h1.snoc
  · rw [List.length_append, List.length_singleton] at hj
    by_cases hlt : j < kvs.length
    · obtain ⟨a', k', t', v', q1, q2, q3⟩ := h3 j hlt
      exact ⟨a', k', t', v', by rw [List.getElem?_append_left (by omega)]; exact q1, by rw [List.getElem?_append_left hlt]; exact q2, .tail _ q3⟩
    · obtain rfl : j = kvs.length := by omega
      refine ⟨a, k, t, .int v u, ?_, ?_, .head _⟩
      · rw [← h2, List.getElem?_append_right (Nat.le_refl _)]; simp
      · rw [List.getElem?_append_right (Nat.le_refl _)]; simp
theorem news_rot {h₀ h : Heap} {L : Addr} {x a b c : Addr × Obj} {nw : List (Addr × Obj)} (N : News h₀ L h (x :: a :: b :: c :: nw)) : News h₀ L h (a :: b :: c :: x :: nw) := fun p hp => N p (by
  simp only [List.mem_cons] at hp ⊢; rcases hp with h | h | h | h | h <;> simp [h])
noncomputable def unq : Nat → List Int → Option (List Int × List Int)
  | 0, _ => none
  | _ + 1, [] => none
  | n + 1, c :: r => if c = 34 then some ([], r) else if c ≠ 92 then (unq n r).map fun p => (c :: p.1, p.2) else
    match r.head?.bind nameOf with
    | some v => (unq n (r.drop 1)).map fun p => (v :: p.1, p.2)
    | none => match octNum (r.take 3) with
      | some v => if (r.take 3).length = 3 ∧ v ≤ 255 then (unq n (r.drop 3)).map fun p => (v :: p.1, p.2) else none
      | none => none
theorem slice_A {A : Around} {Ev : Value → Shared → Prop} {value slice : PySem.Expr} {b : Array UInt8} {t : Tok} {nw : List (Addr × Obj)} {ks : List Int} {x y : Int} {u1 u2 : Tok} {a : Nat} {Qv : Value → Shared → Prop} (n : Nat) (hF : Fr h₀ L s.heap m) (hN : News h₀ L s.heap nw) (hk : KBw.bInts b = ks) (hz : ks.length ≤ 16777216)
    (hx : x = (a : Int) + 1) (hy : y = (a : Int) + 1 + (n : Int))
    (h : ∀ b' h' t' k, Fr h₀ L h' m → News h₀ L h' nw → KBw.bInts b' = (ks.drop (a + 1)).take n → Qv (.bytes b' t') { s with heap := h', toks := k })
    (hs : subscripted slice false (.bytes b t) (.ref s.heap.objs.size) = operate [.ref s.heap.objs.size, .bytes b t] (getItem (.bytes b t) (.ref s.heap.objs.size)) := by with_unfolding_all rfl)
    (ht : ∀ r, letTemporaryGo value (.bytes b t) r = pure () := by intro _; with_unfolding_all rfl) :
    wpAny (model PR w) A (subscriptTail value slice (.bytes b t) (.ref s.heap.objs.size)) Qv Ev { s with heap := s.heap.push { cls := .type "slice", data := .fields #[.int x u1, .int y u2, .none] } } := by
  refine KBc.slice_K (lo := some x) (hi := some y) hF hN hk (by constructor) (by constructor) hz (fun h' t' k F' N' hp => ?_) hs ht
  refine h _ h' t' k F' N' (hp.trans ?_)
  subst hx hy
  have e1 : clipAt ks.length ((a : Int) + 1) = min (a + 1) ks.length := clipAt_nat ks.length (a + 1)
  have e2 : clipAt ks.length ((a : Int) + 1 + (n : Int)) = min (a + 1 + n) ks.length := clipAt_nat ks.length (a + 1 + n)
  simp only [Option.elim, e1, e2]
  by_cases hle : a + 1 ≤ ks.length
  · rw [Nat.min_eq_left hle]
    rw [List.take_eq_take_iff, List.length_drop]
    omega
  · rw [Nat.min_eq_right (by omega : ks.length ≤ a + 1), List.drop_of_length_le (Nat.le_refl _), List.drop_of_length_le (by omega : ks.length ≤ a + 1)]
    simp
theorem ne_empty {b' : Array UInt8} {l : List Int} (h : KBw.bInts b' = l) : (b'.toList != (#[] : Array UInt8).toList) = decide (l ≠ []) := by
  subst h
  rcases b' with ⟨l⟩
  cases l <;> simp [KBw.bInts]
theorem octal2 (B : Below A₀ base outer h₀) (F : Fr h₀ L s.heap m) (X : (hd.heap_39 w.params).In h₀) (T : Top hd.view_39 LS mean mg mb h₀) (hk : cs.kind = .function) (hdp : dp + 40 < recursionLimit) (hun : un + 1000 < cLine)
    {pb : Array UInt8} {ks : List Int} {t : Tok} {r : Option Int} (N : News h₀ L s.heap []) (hks : KBw.bInts pb = ks) (hkl : ks.length ≤ 3) (hO : octNum ks = r)
    (hret : ∀ (u : Tok) (h' : Heap) (tk' : Nat), Fr h₀ L h' m → KeepBut s.heap h' [] → Q (optV r u) { s with heap := h', toks := tk' }) :
    wpAny (model PR w) (ktrTop dp un gd cn cs L a ccd cl outer) (call (.ref 61) [.bytes pb t]) Q E s := by
  subst hO
  exact octal B F X T hk hdp hun N hks hkl hret
theorem octGo_pos : ∀ {l : List Int} {v w : Int}, 0 ≤ v → octGo v l = some w → 0 ≤ w
  | [], v, w, h0, h => by injection h with h; subst h; exact h0
  | k :: r, v, w, h0, h => by
    unfold octGo at h
    split at h
    · exact octGo_pos (by omega) h
    · cases h
theorem octNum_pos {l : List Int} {w : Int} (h : octNum l = some w) : 0 ≤ w := by
  cases l with
  | nil => cases h
  | cons k r => exact octGo_pos (Int.le_refl 0) h
section
variable {A : Around} {Ev : Value → Shared → Prop} {x v : Int} {tx : Tok} {Qv : Value → Shared → Prop} {nw : List (Addr × Obj)} {dn : Addr} {on : Obj} {kvs : List (Int × Value)}
theorem names_in_some (N : News h₀ L s.heap nw) (hm : (dn, on) ∈ nw) (lo : (dn == sysModules) = false) (hD : on.IsDictOf (PySem.intKind PR w) kvs) (hnv : NV namesKV kvs) (hx : nameOf x = some v) (h : Qv (.bool true) { s with toks := s.toks + 1 }) :
    wpAny (model PR w) A (compareOp .In (.int x tx) (.ref dn)) Qv Ev s := by
  have hf := hnv.value x
  rw [show List.lookup x namesKV = some v from hx] at hf
  obtain ⟨u, hu⟩ := hf
  refine wpAny_in_of (knd := PySem.intKind PR w) (k := x) (by simp [PySem.intKind, Value.isInt]) lo (Heap.DictOf.mapOf (Heap.dictOf_iff.mpr ⟨on, (N _ hm).1, hD⟩)) ?_
  rw [hu]; exact h
theorem names_in_none (N : News h₀ L s.heap nw) (hm : (dn, on) ∈ nw) (lo : (dn == sysModules) = false) (hD : on.IsDictOf (PySem.intKind PR w) kvs) (hnv : NV namesKV kvs) (hx : nameOf x = none) (h : Qv (.bool false) { s with toks := s.toks + 1 }) :
    wpAny (model PR w) A (compareOp .In (.int x tx) (.ref dn)) Qv Ev s := by
  have hf := hnv.value x
  rw [show List.lookup x namesKV = none from hx] at hf
  refine wpAny_in_of (knd := PySem.intKind PR w) (k := x) (by simp [PySem.intKind, Value.isInt]) lo (Heap.DictOf.mapOf (Heap.dictOf_iff.mpr ⟨on, (N _ hm).1, hD⟩)) ?_
  rw [hf]; exact h
theorem names_item {value slice : PySem.Expr} (N : News h₀ L s.heap nw) (hm : (dn, on) ∈ nw) (hD : on.IsDictOf (PySem.intKind PR w) kvs) (hnv : NV namesKV kvs) (hx : nameOf x = some v) (h : ∀ u, Qv (.int v u) { s with toks := s.toks + 1 })
    (hs : subscripted slice false (.ref dn) (.int x tx) = operate [.ref dn, .int x tx] (getItem (.ref dn) (.int x tx)) := by with_unfolding_all rfl) : wpAny (model PR w) A (subscriptTail value slice (.ref dn) (.int x tx)) Qv Ev s := by
  have hf := hnv.value x
  rw [show List.lookup x namesKV = some v from hx] at hf
  obtain ⟨u, hu⟩ := hf
  have hm := Heap.DictOf.mapOf (Heap.dictOf_iff.mpr ⟨on, (N _ hm).1, hD⟩)
  exact tail_any hm.typeIs slot_dict_getitem.lookup (wpAny_getItem_of (knd := PySem.intKind PR w) (k := x) (by simp [PySem.intKind, Value.isInt]) hm hu (h u)) hs
end
theorem nameOf_in {x v : Int} (h : nameOf x = some v) : 0 ≤ v ∧ v < 256 := by
  unfold nameOf namesKV at h
  simp only [List.lookup] at h
  repeat' split at h
  all_goals first | (injection h with h; subst h; decide) | cases h
theorem unq_plain {n : Nat} {c : Int} {r : List Int} (h1 : c ≠ 34) (h2 : c ≠ 92) : unq (n + 1) (c :: r) = (unq n r).map fun p => (c :: p.1, p.2) := by
  simp only [unq, if_neg h1, if_pos h2]
theorem unq_name {n : Nat} {v : Int} {r : List Int} (h : r.head?.bind nameOf = some v) : unq (n + 1) (92 :: r) = (unq n (r.drop 1)).map fun p => (v :: p.1, p.2) := by
  simp [unq, h]
theorem unq_oct {n : Nat} {r : List Int} (h : r.head?.bind nameOf = none) : unq (n + 1) (92 :: r) = match octNum (r.take 3) with
      | some v => if (r.take 3).length = 3 ∧ v ≤ 255 then (unq n (r.drop 3)).map fun p => (v :: p.1, p.2) else none
      | none => none := by
  simp [unq, h]
theorem map_app {o : Option (List Int × List Int)} {acc : List Int} {c : Int} : ((o.map fun p => (c :: p.1, p.2)).map fun p => (acc ++ p.1, p.2)) = o.map fun p => ((acc ++ [c]) ++ p.1, p.2) := by
  cases o <;> simp
theorem at_next {g h : Heap} {L : Addr} {x : Int} {u : Tok} {w : Option Value} {m0 : Str → Option Value} {n : Nat} (F : Fr g L h (fun y => if y = Str.ofString "at" then some (.int x u) else if y = Str.ofString "at" then w else m0 y)) (hx : x = (n : Int)) :
    ∃ u, Fr g L h (fun y => if y = Str.ofString "at" then some (.int (n : Int) u) else m0 y) := by
  subst hx
  refine ⟨u, ?_⟩
  have e : (fun y => if y = Str.ofString "at" then some (Value.int (n : Int) u) else if y = Str.ofString "at" then w else m0 y) = (fun y => if y = Str.ofString "at" then some (Value.int (n : Int) u) else m0 y) := by
    funext y; by_cases h : y = Str.ofString "at" <;> simp [h]
  rw [← e]; exact F
theorem at_next2 {g h : Heap} {L : Addr} {x : Int} {u : Tok} {w nv nv' : Option Value} {m0 : Str → Option Value} {n : Nat} (F : Fr g L h (fun y => if y = Str.ofString "at" then some (.int x u) else if y = Str.ofString "number" then nv' else if y = Str.ofString "at" then w else if y = Str.ofString "number" then nv else m0 y)) (hx : x = (n : Int)) :
    ∃ u, Fr g L h (fun y => if y = Str.ofString "at" then some (.int (n : Int) u) else if y = Str.ofString "number" then nv' else m0 y) := by
  subst hx
  refine ⟨u, ?_⟩
  have e : (fun y => if y = Str.ofString "at" then some (Value.int (n : Int) u) else if y = Str.ofString "number" then nv' else if y = Str.ofString "at" then w else if y = Str.ofString "number" then nv else m0 y) = (fun y => if y = Str.ofString "at" then some (Value.int (n : Int) u) else if y = Str.ofString "number" then nv' else m0 y) := by
    funext y; by_cases h : y = Str.ofString "at"
    · simp [h]
    · by_cases h2 : y = Str.ofString "number"
      · simp [h2]
      · simp [h, h2]
  rw [← e]; exact F
theorem opt_or {α : Type} (o : Option α) : o = none ∨ ∃ v, o = some v := by
  cases o
  · exact .inl rfl
  · exact .inr ⟨_, rfl⟩
theorem at_start {g h : Heap} {L : Addr} {x : Int} {u : Tok} {w : Value} {D dn : Addr} {n : Nat} {pb : Array UInt8} {t : Tok} (F : Fr g L h (fun y => if y = Str.ofString "at" then some (.int x u) else if y = Str.ofString "found" then some (.ref D) else if y = Str.ofString "names" then some (.ref dn) else [(Str.ofString "at", w), (Str.ofString "octets", Value.bytes pb t)].lookup y)) (hx : x = (n : Int)) :
    ∃ u, Fr g L h (fun y => if y = Str.ofString "at" then some (.int (n : Int) u) else if y = Str.ofString "number" then none else if y = Str.ofString "found" then some (.ref D) else if y = Str.ofString "names" then some (.ref dn) else if y = Str.ofString "octets" then some (.bytes pb t) else none) := by
  subst hx
  refine ⟨u, ?_⟩
  have e : (fun y => if y = Str.ofString "at" then some (Value.int (n : Int) u) else if y = Str.ofString "found" then some (.ref D) else if y = Str.ofString "names" then some (.ref dn) else [(Str.ofString "at", w), (Str.ofString "octets", Value.bytes pb t)].lookup y) = (fun y => if y = Str.ofString "at" then some (Value.int (n : Int) u) else if y = Str.ofString "number" then none else if y = Str.ofString "found" then some (.ref D) else if y = Str.ofString "names" then some (.ref dn) else if y = Str.ofString "octets" then some (.bytes pb t) else none) := by
    funext y
    by_cases h1 : y = Str.ofString "at"
    · simp [h1]
    · by_cases h2 : y = Str.ofString "number"
      · subst h2; rfl
      · by_cases h3 : y = Str.ofString "octets"
        · subst h3; rfl
        · simp only [h1, h2, h3, if_false, List.lookup_cons, beq_eq_false_iff_ne.mpr h1, beq_eq_false_iff_ne.mpr h3, List.lookup_nil]
  rw [← e]; exact F
end
end PartD1b
section PartP1
theorem nameOf_digit {d : Int} (h0 : 48 ≤ d) (h1 : d < 56) : nameOf d = none := by
  have hd : d = 48 ∨ d = 49 ∨ d = 50 ∨ d = 51 ∨ d = 52 ∨ d = 53 ∨ d = 54 ∨ d = 55 := by omega
  rcases hd with rfl | rfl | rfl | rfl | rfl | rfl | rfl | rfl <;> rfl
theorem oct3 {k : Int} (h0 : 0 ≤ k) (h1 : k < 256) : octNum [48 + k / 64, 48 + k / 8 % 8, 48 + k % 8] = some k := by
  simp only [octNum, octGo]
  rw [if_pos (by omega), if_pos (by omega), if_pos (by omega)]
  congr 1
  omega
theorem unq_figs {f : Nat} {k : Int} {rest : List Int} (h0 : 0 ≤ k) (h1 : k < 256) : unq (f + 1) (figs k ++ rest) = (unq f rest).map fun p => (k :: p.1, p.2) := by
  show unq (f + 1) (92 :: ((48 + k / 64) :: (48 + k / 8 % 8) :: (48 + k % 8) :: rest)) = _
  rw [unq_oct (by show nameOf (48 + k / 64) = none; exact nameOf_digit (by omega) (by omega))]
  have e : ((48 + k / 64) :: (48 + k / 8 % 8) :: (48 + k % 8) :: rest).take 3 = [48 + k / 64, 48 + k / 8 % 8, 48 + k % 8] := rfl
  rw [e, oct3 h0 h1]
  dsimp only
  rw [if_pos ⟨rfl, by omega⟩]
  rfl
theorem letter_name {k l : Int} (h : letterOf k = some l) : nameOf l = some k := by
  unfold letterOf at h
  simp only [List.lookup] at h
  repeat' split at h
  all_goals first | (rename_i e; injection h with h; subst h; rw [eq_of_beq e]; rfl) | cases h
theorem unq_writ {f : Nat} {k : Int} {rest : List Int} (h0 : 0 ≤ k) (h1 : k < 256) : unq (f + 1) (writ k ++ rest) = (unq f rest).map fun p => (k :: p.1, p.2) := by
  by_cases hp : 32 ≤ k ∧ k ≤ 126 ∧ k ≠ 34 ∧ k ≠ 92
  · rw [writ, if_pos hp]
    exact unq_plain hp.2.2.1 hp.2.2.2
  · rcases opt_or (letterOf k) with hl | ⟨l, hl⟩
    · rw [writ, if_neg hp, hl]
      exact unq_figs h0 h1
    · rw [writ_some hl]
      exact unq_name (r := l :: rest) (letter_name hl)
theorem unq_told {f : Nat} {k : Int} {p rest : List Int} (h0 : 0 ≤ k) (h1 : k < 256) (h : toldIs k p) : unq (f + 1) (p ++ rest) = (unq f rest).map fun q => (k :: q.1, q.2) := by
  rcases h with rfl | ⟨rfl, a, b⟩ | rfl
  · exact unq_figs h0 h1
  · exact unq_plain a b
  · exact unq_writ h0 h1
theorem told_pos {k : Int} {p : List Int} (h : toldIs k p) : 0 < p.length := by
  rcases h with rfl | ⟨rfl, _, _⟩ | rfl
  · simp [figs]
  · simp
  · unfold writ
    split
    · simp
    · split <;> simp [figs]
theorem unq_parts : ∀ {ks : List Int} {ps : List (List Int)} {f : Nat} {r : List Int}, Parts toldIs ks ps → (∀ k ∈ ks, 0 ≤ k ∧ k < 256) → ps.flatten.length < f → unq f (ps.flatten ++ 34 :: r) = some (ks, r)
  | [], [], f, r, _, _, hf => by
    obtain ⟨f', rfl⟩ : ∃ f', f = f' + 1 := ⟨f - 1, by simp at hf; omega⟩
    simp [unq]
  | k :: ks, p :: ps, f, r, h, hb, hf => by
    obtain ⟨h1, h2⟩ := h
    obtain ⟨f', rfl⟩ : ∃ f', f = f' + 1 := ⟨f - 1, by omega⟩
    have hk := hb k (.head _)
    have hp := told_pos h1
    rw [List.flatten_cons, List.append_assoc, unq_told hk.1 hk.2 h1, unq_parts h2 (fun x hx => hb x (.tail _ hx)) (by simp only [List.flatten_cons, List.length_append] at hf; omega)]
    rfl
  | [], _ :: _, _, _, h, _, _ => False.elim h
  | _ :: _, [], _, _, h, _, _ => False.elim h
theorem writ_parts : ∀ (ks : List Int), Parts toldIs ks (ks.map writ)
  | [] => trivial
  | k :: r => ⟨.inr (.inr rfl), writ_parts r⟩
/-- unquote_path, on lists of octets -/
noncomputable def readS (v : List Int) : Option (List Int) := if v.head? = some 34 then (match unq (v.length + 1) (v.drop 1) with
    | some (p, []) => some p
    | _ => none) else some v
theorem read_told {ks : List Int} {ps : List (List Int)} (h : Parts toldIs ks ps) (hb : ∀ k ∈ ks, 0 ≤ k ∧ k < 256) : readS (34 :: ps.flatten ++ [34]) = some ks := by
  have e : unq ((34 :: ps.flatten ++ [34]).length + 1) (ps.flatten ++ 34 :: []) = some (ks, []) := unq_parts h hb (by simp; omega)
  unfold readS
  have hh : (34 :: ps.flatten ++ [34] : List Int).head? = some 34 := rfl
  rw [if_pos hh]
  show (match unq _ (ps.flatten ++ [34]) with | some (p, []) => some p | _ => none) = some ks
  rw [e]
theorem unq_inner : ∀ {ks : List Int} {f : Nat} {rest : List Int}, (∀ k ∈ ks, 0 ≤ k ∧ k < 256) → unq (f + ks.length) ((ks.map writ).flatten ++ rest) = (unq f rest).map fun p => (ks ++ p.1, p.2)
  | [], f, rest, _ => by simp
  | k :: ks, f, rest, hb => by
    have hk := hb k (.head _)
    have ih := unq_inner (ks := ks) (f := f) (rest := rest) fun x hx => hb x (.tail _ hx)
    rw [List.map_cons, List.flatten_cons, List.append_assoc]
    show unq (f + ks.length + 1) _ = _
    rw [unq_writ hk.1 hk.2, ih]
    cases unq f rest <;> simp
/-- more fuel than needed changes nothing -/
theorem unq_none_inner {ks rest : List Int} (hb : ∀ k ∈ ks, 0 ≤ k ∧ k < 256) (h : ∀ f, unq f rest = none ∨ ∃ p x r, unq f rest = some (p, x :: r)) {f : Nat} (hf : ks.length ≤ f) :
    unq f ((ks.map writ).flatten ++ rest) = none ∨ ∃ p x r, unq f ((ks.map writ).flatten ++ rest) = some (p, x :: r) := by
  have e := unq_inner (ks := ks) (f := f - ks.length) (rest := rest) hb
  rw [Nat.sub_add_cancel hf] at e
  rw [e]
  rcases h (f - ks.length) with h | ⟨p, x, r, h⟩
  · rw [h]; exact .inl rfl
  · rw [h]; exact .inr ⟨_, x, r, rfl⟩
theorem flat_len : ∀ (ks : List Int), ks.length ≤ ((ks.map writ).flatten).length
  | [] => by simp
  | k :: r => by
    have := flat_len r
    have h := told_pos (k := k) (p := writ k) (.inr (.inr rfl))
    simp only [List.map_cons, List.flatten_cons, List.length_append, List.length_cons]; omega
theorem read_none {ks rest : List Int} (hb : ∀ k ∈ ks, 0 ≤ k ∧ k < 256) (h : ∀ f, unq f rest = none ∨ ∃ p x r, unq f rest = some (p, x :: r)) : readS (34 :: ((ks.map writ).flatten ++ rest)) = none := by
  unfold readS
  have hh : (34 :: ((ks.map writ).flatten ++ rest) : List Int).head? = some 34 := rfl
  rw [if_pos hh]
  show (match unq _ ((ks.map writ).flatten ++ rest) with | some (p, []) => some p | _ => none) = none
  have hl := flat_len ks
  rcases unq_none_inner hb h (f := (34 :: ((ks.map writ).flatten ++ rest)).length + 1) (by simp only [List.length_cons, List.length_append]; omega) with e | ⟨p, x, r, e⟩
  · rw [e]
  · rw [e]
theorem read_fault {ks v : List Int} (hb : ∀ k ∈ ks, 0 ≤ k ∧ k < 256) (h : faultIs ks v) : readS v = none := by
  obtain ⟨inner, rfl, h⟩ := h
  rcases h with rfl | ⟨x, rfl⟩ | ⟨x, hx, rfl⟩ | rfl | rfl | rfl
  · have e := read_none (rest := []) hb fun f => by cases f <;> exact .inl rfl
    simpa using e
  · rw [List.cons_append]
    refine read_none hb fun f => ?_
    cases f with
    | zero => exact .inl rfl
    | succ f => exact .inr ⟨[], x, [], by simp [unq]⟩
  · rw [List.cons_append]
    refine read_none hb fun f => .inl ?_
    cases f with
    | zero => rfl
    | succ f => rcases hx with rfl | rfl | rfl | rfl | rfl <;> rfl
  · rw [List.cons_append]
    refine read_none hb fun f => .inl ?_
    cases f with
    | zero => rfl
    | succ f => rfl
  · rw [List.cons_append]
    refine read_none hb fun f => .inl ?_
    cases f with
    | zero => rfl
    | succ f => rfl
  · rw [List.cons_append]
    refine read_none hb fun f => .inl ?_
    cases f with
    | zero => rfl
    | succ f => rfl
end PartP1
section PartR1
section
variable {M : Model} {A : Around} {E : Value → Shared → Prop} {env : Env}
variable {nm q : Str} {C N : Addr} {bs bm : List Value} {hdct : Bool} {sn : List Str} {sub : List Value} {ab : Bool} {col : Option Bool} {dd : Option Addr} {k0 k1 k2 k3 k5 : Option Value} {newId : String}
/-- raise with an object of an own class, whatever its own dict holds -/
theorem raise_gen {s : Shared} {x : Sem Value} {Q : Flow → Shared → Prop} (hbase : bm.contains (.type "BaseException") = true) (hh : A.handled = none)
    (h : wpAny M A x (fun v s₁ => ∃ e oe t, v = .ref e ∧ s₁.heap.get? C = some (excClassObj nm q C N bs bm hdct sn sub ab col dd k0 k1 k2 k3 k5 newId) ∧
      s₁.heap.get? e = some oe ∧ oe.cls = .ref C ∧ oe.data = .fields #[.ref t, .none, .none, .none, .bool false, .none] ∧ E (.ref e) s₁) E s) :
    wpAny M A (raiseStmt env (some x) none) Q E s := by
  have hcB : (Value.ref C :: bm).contains (.type "BaseException") = true := by rw [List.contains_cons, hbase, Bool.or_true]
  unfold raiseStmt
  refine wpAny_bind (wpAny_mono h (fun v s₁ h₁ => ?_) fun _ _ x => x)
  obtain ⟨e, ⟨oc, od, odat, osl⟩, t, rfl, hC, he, hcls, hdat, hE⟩ := h₁
  simp only at hcls hdat
  subst hcls hdat
  obtain ⟨hp, g, d, tk, os⟩ := s₁
  repeat (first | with_reducible refine wpAny_loadPart_at he ?_ | with_reducible refine wpAny_loadPart_at hC ?_ | (with_reducible refine wpAny_isSubtype_exc hC ?_; rw [hcB]) | wp_step)
  exact wpAny_raiseNew_none hh hE
end
section
variable {prog : Program} {w : World} {A : Around} {E : Value → Shared → Prop} {R : Result → Shared → Prop} {h : Heap} {g : Array GenState} {d : Drawn} {t : Nat} {os : OsState}
variable {nm q : Str} {C N : Addr} {bs bm bmB : List Value} {hdct : Bool} {sn : List Str} {sub : List Value} {ab : Bool} {col : Option Bool} {dd : Option Addr} {k0 k1 k2 k3 k5 : Option Value} {B newId initId : String}
theorem check_new_own (F : ExcBaseFacts B newId initId bmB) (hb : bm.contains (.type B) = true) {M : Model} {rest : List Value} {Q : Unit → Shared → Prop} (hC : h.get? C = some (excClassObj nm q C N bs bm hdct sn sub ab col dd k0 k1 k2 k3 k5 newId))
    (hq : Q () ⟨h, g, d, t, os⟩) : wpAny M A (checkBuiltinCall newId ⟨.ref C :: rest, []⟩) Q E ⟨h, g, d, t, os⟩ := by
  have hcont : (Value.ref C :: bm).contains (.type B) = true := by rw [List.contains_cons, hb, Bool.or_true]
  have hstar := F.noStar
  simp only [checkBuiltinCall, F.newKind, F.newSplit, F.newRow]
  repeat (first | refine wpAny_loadPart_at hC ?_ | (refine wpAny_isSubtype_exc hC ?_; rw [hcont]) | refine wpAny_staticBase_exc hC ?_ | refine wpAny_madeBy_exc hC ?_ | simp only [bne_self_eq_false, Bool.false_eq_true, if_false] | wp_step)
  exact hq
theorem new_own (F : ExcBaseFacts B newId initId bmB) (hb : bm.contains (.type B) = true) (ha : bm.contains (.type "AttributeError") = false) (hn : bm.contains (.type "NameError") = false) {rest : List Value} (hC : h.get? C = some (excClassObj nm q C N bs bm hdct sn sub ab col dd k0 k1 k2 k3 k5 newId))
    (hq : R (.ok (.ret (.ref (h.objs.size + 1)))) ⟨(h.push { cls := .type "tuple", data := .seq rest.toArray }).push
      { cls := .ref C, data := .fields #[.ref h.objs.size, .none, .none, .none, .bool false, .none] }, g, d, t, os⟩) (hrest : rest.length ≤ sizeLine) :
    codeAny (model prog w) A (.builtin newId ⟨.ref C :: rest, []⟩) R ⟨h, g, d, t, os⟩ := by
  have hends := F.ends
  have hcB : (Value.ref C :: bm).contains (.type B) = true := by rw [List.contains_cons, hb, Bool.or_true]
  have hcA : (Value.ref C :: bm).contains (.type "AttributeError") = false := by rw [List.contains_cons, ha]; rfl
  have hcN : (Value.ref C :: bm).contains (.type "NameError") = false := by rw [List.contains_cons, hn]; rfl
  refine codeAny_builtinAt F.entry ?_
  unfold Builtin.«BaseException.__new__»
  refine PySem.wpAt_bind ?_
  show PySem.wpAt _ _ _ (stack >>= _) _ _ _
  refine PySem.wpAt_bind (PySem.wpAt_stack fun p below => PySem.wpAt_of_wpAny ?_)
  wp_walk
  refine PySem.wpAt_of_wpAny ?_
  rw [F.owner]
  repeat (first | with_reducible refine wpAny_madeHere_exc F.canon hC ?_ | with_reducible refine wpAny_loadPart_at hC ?_ | (with_reducible refine wpAny_isSubtype_exc hC ?_; first | rw [hcB] | rw [hcA] | rw [hcN]) | wp_step)
  show R _ _
  rw [Heap.size_push]
  exact hq
/-- the class called: a new object, then its own __init__ (a def that it inherits) -/
theorem type_call_own (F : ExcBaseFacts B newId initId bmB) (hb : bm.contains (.type B) = true) (ha : bm.contains (.type "AttributeError") = false) (hn : bm.contains (.type "NameError") = false) {rest : List Value} {Q : PySem.Fin → Shared → Prop}
    (hC : h.get? C = some (excClassObj nm q C N bs bm hdct sn sub ab col dd k0 k1 k2 k3 k5 newId)) (hrest : rest.length ≤ sizeLine)
    (hinit : ∀ h₁ e tp, h₁ = (h.push { cls := .type "tuple", data := .seq rest.toArray }).push { cls := .ref C, data := .fields #[.ref h.objs.size, .none, .none, .none, .bool false, .none] } → e = h.objs.size + 1 → tp = h.objs.size →
      wpAny (model prog w) A (callSpecial? (.ref e) "__init__" rest []) (fun r s' => r = some .none ∧ Q (.done (.ret (.ref e))) s') E ⟨h₁, g, d, t, os⟩) :
    wpAny (model prog w) A (Builtin.«type.__call__» ⟨.ref C :: rest, []⟩) Q E ⟨h, g, d, t, os⟩ := by
  repeat (first | with_reducible refine wpAny_loadPart_at hC ?_ | with_reducible refine wpAny_madeBy_exc hC ?_ | wp_step)
  refine codeAny_call_builtin_code (Code.quiet_builtin _ F.quiet) (check_new_own F hb hC ?_)
  refine new_own F hb ha hn hC ?_ hrest
  show wpAny _ _ _ _ _ _
  have hC₁ := Heap.get?_push_of_some { cls := .ref C, data := .fields #[.ref h.objs.size, .none, .none, .none, .bool false, .none] }
    (Heap.get?_push_of_some { cls := .type "tuple", data := .seq rest.toArray } hC)
  have hget : ((h.push { cls := .type "tuple", data := .seq rest.toArray }).push
      { cls := .ref C, data := .fields #[.ref h.objs.size, .none, .none, .none, .bool false, .none] }).get? (h.objs.size + 1) = some
      { cls := .ref C, data := .fields #[.ref h.objs.size, .none, .none, .none, .bool false, .none] } := by heap_get
  have hcC : (Value.ref C :: bm).contains (.ref C) = true := by simp
  have hi := hinit _ _ _ rfl rfl rfl
  have hty : wpAny (model prog w) A (isInstance (.ref (h.objs.size + 1)) (.ref C)) (fun b s' => b = true ∧ s' = ⟨(h.push { cls := .type "tuple", data := .seq rest.toArray }).push { cls := .ref C, data := .fields #[.ref h.objs.size, .none, .none, .none, .bool false, .none] }, g, d, t, os⟩) E
      ⟨(h.push { cls := .type "tuple", data := .seq rest.toArray }).push { cls := .ref C, data := .fields #[.ref h.objs.size, .none, .none, .none, .bool false, .none] }, g, d, t, os⟩ := by
    unfold isInstance
    repeat (first | with_reducible refine wpAny_loadPart_at hget ?_ | (with_reducible refine wpAny_isSubtype_exc hC₁ ?_; rw [hcC]) | wp_step)
    exact ⟨rfl, rfl⟩
  refine wpAny_bind (wpAny_mono hty (fun b s' hb => ?_) fun _ _ e => e)
  obtain ⟨rfl, rfl⟩ := hb
  rw [if_neg (by decide)]
  refine wpAny_bind (wpAny_holding (wpAny_mono hi (fun r s' hr => ?_) fun _ _ e => e))
  obtain ⟨rfl, hr⟩ := hr
  dsimp only
  rw [if_neg (by decide)]
  exact wpAny_pure hr
theorem call_own (F : ExcBaseFacts B newId initId bmB) (hb : bm.contains (.type B) = true) (ha : bm.contains (.type "AttributeError") = false) (hn : bm.contains (.type "NameError") = false) {rest : List Value} {Q : Value → Shared → Prop}
    (hC : h.get? C = some (excClassObj nm q C N bs bm hdct sn sub ab col dd k0 k1 k2 k3 k5 newId)) (hrest : rest.length ≤ sizeLine)
    (hinit : ∀ h₁ e tp, h₁ = (h.push { cls := .type "tuple", data := .seq rest.toArray }).push { cls := .ref C, data := .fields #[.ref h.objs.size, .none, .none, .none, .bool false, .none] } → e = h.objs.size + 1 → tp = h.objs.size →
      wpAny (model prog w) (A.under (Code.builtin "type.__call__" ⟨Value.ref C :: rest, []⟩)) (callSpecial? (.ref e) "__init__" rest []) (fun r s' => r = some .none ∧ Q (.ref e) s') E ⟨h₁, g, d, t, os⟩) :
    wpAny (model prog w) A (call (.ref C) rest) Q E ⟨h, g, d, t, os⟩ := by
  have f1 := tc_lookup
  have f2 := tc_bind (.ref C)
  have hT : (⟨h, g, d, t, os⟩ : Shared).TypeIs (.ref C) "type" := ⟨_, hC, rfl⟩
  refine wpAny_call (codeAny_of_tree ?_)
  show wpAny _ _ (callAny (.ref C) _) _ _ _
  repeat (any_goals (first | assumption | with_reducible refine wpAny_loadPart_at hC ?_ | wp_step))
  refine ⟨rfl, ?_⟩
  refine codeAny_call_builtin_at (Code.quiet_builtin _ (by decide +kernel)) entry_typeCall (wpAny_check_type_call_sub hC (type_call_own F hb ha hn hC hrest fun h₁ e tp a b c => ?_))
  exact hinit h₁ e tp a b c
/-- the own __init__, found in the base -/
theorem init_own {G f N2 : Addr} {tl : List Value} {c0 : Value} {dg : Option Addr} {cd : ClassData} {sl : Array (Option Value)} {mC mG : Str → Option Value} {e : Addr} {oe of : Obj} {rest : List Value} {Q : Option Value → Shared → Prop}
    (hC : h.get? C = some (excClassObj nm q C N bs (.ref G :: tl) hdct sn sub ab col dd k0 k1 k2 k3 k5 newId)) (hnC : h.Ns N mC) (hmC : mC "__init__" = none)
    (hG : h.get? G = some { cls := c0, dict := dg, data := .cls cd, slots := sl }) (hnG : h.Ns cd.ns mG) (hmG : mG "__init__" = some (.ref f)) (he : h.get? e = some oe) (hcls : oe.cls = .ref C) (hf : h.get? f = some of) (hfc : of.cls = .type "function")
    (hcall : wpAny (model prog w) A (call (.ref f) (.ref e :: rest)) (fun v s' => Q (some v) s') E ⟨h, g, d, t, os⟩) : wpAny (model prog w) A (callSpecial? (.ref e) "__init__" rest []) Q E ⟨h, g, d, t, os⟩ := by
  unfold callSpecial?
  have hsp : wpAny (model prog w) A (specialOf (.ref e) "__init__") (fun r s' => r = some (.ref f) ∧ s' = ⟨h, g, d, t, os⟩) E ⟨h, g, d, t, os⟩ := by
    unfold specialOf
    have hty : wpAny (model prog w) A (typeOf (.ref e)) (fun r s' => r = .ref C ∧ s' = ⟨h, g, d, t, os⟩) E ⟨h, g, d, t, os⟩ := by
      obtain ⟨oc, od, odat, osl⟩ := oe
      simp only at hcls
      subst hcls
      repeat (first | with_reducible refine wpAny_loadPart_at he ?_ | wp_step)
      exact ⟨rfl, rfl⟩
    refine wpAny_bind (wpAny_mono hty (fun r s' hr => ?_) fun _ _ e => e)
    obtain ⟨rfl, rfl⟩ := hr
    rw [typeLookup_eq]
    refine wpAny_bind (wpAny_mroOf_exc hC ?_)
    rw [lookupAlong_cons]
    refine wpAny_bind (wpAny_classOwn_exc hC hnC ?_)
    rw [hmC]
    dsimp only
    rw [lookupAlong_cons]
    refine wpAny_bind (wpAny_classOwn_cls hG hnG ?_)
    rw [hmG]
    exact wpAny_pure ⟨rfl, rfl⟩
  refine wpAny_bind (wpAny_mono hsp (fun r s' hr => ?_) fun _ _ e => e)
  obtain ⟨rfl, rfl⟩ := hr
  dsimp only
  refine wpAny_holding (wpAny_bind (wpAny_bindSpecial_def (s := ⟨h, g, d, t, os⟩) hf hfc ?_))
  dsimp only
  exact wpAny_bind (wpAny_mono hcall (fun v s' hv => wpAny_pure hv) fun _ _ e => e)
end
theorem sa_lookup : typeLookup (.type "Exception") "__setattr__" = pure (some (.builtin "object.__setattr__")) := by rw [typeLookup_type, builtinLookup_eq_fast]; kernel_rfl
theorem sa_entry : entryFor table "object.__setattr__" = some Builtin.«object.__setattr__» := by
  first | exact entryFor_of_fast (by kernel_rfl) | exact entryFor_of_tree (by kernel_rfl)
theorem sa_told : typeLookup (.type "Exception") "told" = pure none := am_miss_of_fast (by kernel_rfl)
theorem sa_slot : Slot "Exception" "__setattr__" "object.__setattr__" :=
  .of (owner := "object") (n := "__setattr__") sa_lookup (by decide +kernel) (by decide +kernel) (by decide +kernel)
    (by first | exact .inl (by decide +kernel) | exact .inr (by decide +kernel)) (by rw [isSubtype_type]; kernel_rfl)
theorem sa_args (a b c : Value) : argsOk "object.__setattr__" ⟨[a, b, c], []⟩ := by unfold argsOk; kernel_rfl
section
variable {prog : Program} {w : World} {A : Around} {E : Value → Shared → Prop} {R : Result → Shared → Prop} {h : Heap} {g : Array GenState} {d : Drawn} {t : Nat} {os : OsState}
variable {nm q : Str} {C N : Addr} {bs bm bmB : List Value} {hdct : Bool} {sn : List Str} {sub : List Value} {ab : Bool} {col : Option Bool} {dd : Option Addr} {k0 k1 k2 k3 k5 : Option Value} {B newId initId : String}
/-- a name looked up along two own classes that lack it, then along Exception -/
theorem lookup_own {G : Addr} {name : Str} {r : Option Value} {c0 : Value} {dg : Option Addr} {cd : ClassData} {sl : Array (Option Value)} {mC mG : Str → Option Value} {M : Model} {Q : Option Value → Shared → Prop}
    (hC : h.get? C = some (excClassObj nm q C N bs (.ref G :: [.type "Exception", .type "BaseException", .type "object"]) hdct sn sub ab col dd k0 k1 k2 k3 k5 newId)) (hnC : h.Ns N mC) (hmC : mC name = none)
    (hG : h.get? G = some { cls := c0, dict := dg, data := .cls cd, slots := sl }) (hnG : h.Ns cd.ns mG) (hmG : mG name = none) (hr : typeLookup (.type "Exception") name = pure r)
    (hq : Q r ⟨h, g, d, t, os⟩) : wpAny M A (typeLookup (.ref C) name) Q E ⟨h, g, d, t, os⟩ := by
  have hrest : lookupAlong [.type "Exception", .type "BaseException", .type "object"] name = pure r := by rw [typeLookup_eq, PySem.F.excBase_Exception.mroIs] at hr; exact hr
  rw [typeLookup_eq]
  refine wpAny_bind (wpAny_mroOf_exc hC ?_)
  rw [lookupAlong_cons]
  refine wpAny_bind (wpAny_classOwn_exc hC hnC ?_)
  rw [hmC]
  dsimp only
  rw [lookupAlong_cons]
  refine wpAny_bind (wpAny_classOwn_cls hG hnG ?_)
  rw [hmG]
  dsimp only
  rw [hrest]
  exact wpAny_pure hq
end
end PartR1
section PartR3
section
open PySem.Builtin PySem.Builtin.ObjectAttr
abbrev excMro : List Value := [.type "Exception", .type "BaseException", .type "object"]
variable {prog : Program} {w : World} {A : Around} {E : Value → Shared → Prop} {h : Heap} {g : Array GenState} {d : Drawn} {t : Nat} {os : OsState}
variable {nm q : Str} {C N G x : Addr} {bs : List Value} {hdct : Bool} {sn : List Str} {sub : List Value} {ab : Bool} {col : Option Bool} {dd : Option Addr} {k0 k1 k2 k3 k5 : Option Value} {newId : String}
  {mN mG : Str → Option Value} {name : Str} {v : Value} {c0 : Value} {dg : Option Addr} {cd : ClassData} {sl : Array (Option Value)}
theorem check_sa2 {M : Model} {o : Obj} {nameV : Value} {Q : Unit → Shared → Prop}
    (hC : h.get? C = some (excClassObj nm q C N bs (.ref G :: excMro) true sn sub ab col dd k0 k1 k2 k3 k5 newId)) (hx : h.get? x = some o) (hc : o.cls = .ref C) (hq : Q () ⟨h, g, d, t, os⟩) :
    wpAny M A (checkBuiltinCall "object.__setattr__" ⟨[.ref x, nameV, v], []⟩) Q E ⟨h, g, d, t, os⟩ := by
  have hcB : (Value.ref C :: .ref G :: excMro).contains (.type "object") = true := by
    rw [List.contains_cons, List.contains_cons, show excMro.contains (.type "object") = true from by decide +kernel, Bool.or_true, Bool.or_true]
  have ha := PySem.F.store_Exception.args (.ref x) nameV v
  simp only [checkBuiltinCall, PySem.F.store_Exception.kind, PySem.F.store_Exception.split]
  refine wpAny_bind ?_
  · unfold isInstance
    repeat (first | (with_reducible refine wpAny_loadPart_at hx ?_; rw [hc]) | (with_reducible refine wpAny_isSubtype_exc hC ?_; rw [hcB]) | wp_step)
    exact hq
theorem store_entry2 {tk : Tok} {Q : PySem.Fin → Shared → Prop} {o : Obj}
    (hC : h.get? C = some (excClassObj nm q C N bs (.ref G :: excMro) true sn sub ab col dd k0 k1 k2 k3 k5 newId)) (hn : h.Ns N mN) (hna : mN name = none)
    (hG : h.get? G = some { cls := c0, dict := dg, data := .cls cd, slots := sl }) (hnG : h.Ns cd.ns mG) (hmG : mG name = none)
    (hB : typeLookup (.type "Exception") name = pure none) (hx : h.get? x = some o) (hc : o.cls = .ref C) (hnc : ∀ c, o.data ≠ .cls c) (hdn : o.dict = none)
    (hq : ∀ h' tk', (∃ dx, h'.get? x = some { cls := o.cls, dict := some dx, data := o.data, slots := o.slots }) → (∀ b o, b ≠ x → h.get? b = some o → h'.get? b = some o) → Q (.done (.ret .none)) ⟨h', g, d, tk', os⟩) :
    wpAny (model prog w) A (Builtin.«object.__setattr__» ⟨[.ref x, .str name tk, v], []⟩) Q E ⟨h, g, d, t, os⟩ := by
  have hpass := PySem.F.store_Exception.passes (.ref x)
  unfold Builtin.«object.__setattr__»
  repeat (first | rw [refuse_eq] | (rw [refuseLoop_ref, refuseLoop_ref, hpass]) | (with_reducible refine wpAny_loadPart_at hx ?_; rw [hc]) | with_reducible refine wpAny_mroOf_exc hC ?_ | (with_reducible refine lookup_own hC hn hna hG hnG hmG hB ?_) | wp_step)
  rw [hdn, if_neg (by simp [typeHasDict])]
  split
  · rename_i hcd
    cases hcd
  split
  · rename_i c hcd
    exact absurd hcd (hnc c)
  · have hx₁ : (h.push { cls := .type "dict", data := .dict #[] }).get? x = some o := Heap.get?_push_of_some _ hx
    have hxs : x ≠ h.objs.size := Nat.ne_of_lt (Heap.lt_size hx)
    refine wpAny_bind (wpAny_alloc' ?_)
    refine wpAny_bind (wpAny_update' hx₁ ?_)
    refine wpAny_pure ?_
    have hgd : ((h.push { cls := .type "dict", data := .dict #[] }).update x fun o => { cls := o.cls, dict := some h.objs.size, data := o.data, slots := o.slots }).get? h.objs.size
        = some { cls := .type "dict", data := .dict #[] } :=
      (Heap.get?_update_ne _ _ _ _ hxs.symm).trans (Heap.get?_push_at rfl rfl)
    have hnd : ((h.push { cls := .type "dict", data := .dict #[] }).update x fun o => { cls := o.cls, dict := some h.objs.size, data := o.data, slots := o.slots }).Ns h.objs.size (fun _ => none) :=
      ⟨_, #[], _, hgd, rfl, fun e he => absurd he (by simp), fun _ => rfl⟩
    show wpAny _ _ (storeInDict h.objs.size (.str name tk) name v) _ _ _
    unfold storeInDict newKeyGuard
    refine wpAny_bind (wpAny_pure (wpAny_bind (wpAny_nsSet1 (Heap.Ns1.of_empty hnd) fun h' hn' hs => ?_)))
    obtain ⟨oD, esD, epD, hoD, hdD, hcD⟩ := hn'.count (Within.cons name v Within.nil)
    refine wpAny_bind (wpAny_lookBehind hoD (by rw [hdD]; exact pastItsLine_dict (Nat.le_trans hcD (by rw [List.length_cons, List.length_nil, sizeLine_eq]; omega))) ?_)
    wp_walk
    have hx' : h'.get? x = some { cls := o.cls, dict := some h.objs.size, data := o.data, slots := o.slots } := ?_
    refine hq h' _ ⟨_, hx'⟩ (fun b ob hbx hb => ?_)
    · exact (hs.2 b (Nat.ne_of_lt (Heap.lt_size hb))).trans ((Heap.get?_update_ne _ _ _ _ hbx).trans (Heap.get?_push_of_some _ hb))
    · refine (hs.2 x hxs).trans (Heap.get?_update_self _ hx₁ ?_)
      have hfr := (Heap.get?_some_iff.mp hx).2
      obtain ⟨oc, od, odt, osl⟩ := o
      cases odt <;> first | rfl | exact hfr
theorem store_attr2 {Q : Unit → Shared → Prop} {o : Obj}
    (hC : h.get? C = some (excClassObj nm q C N bs (.ref G :: excMro) true sn sub ab col dd k0 k1 k2 k3 k5 newId)) (hn : h.Ns N mN) (hns : mN "__setattr__" = none) (hna : mN name = none)
    (hG : h.get? G = some { cls := c0, dict := dg, data := .cls cd, slots := sl }) (hnG : h.Ns cd.ns mG) (hmGs : mG "__setattr__" = none) (hmG : mG name = none)
    (hB : typeLookup (.type "Exception") name = pure none) (hx : h.get? x = some o) (hc : o.cls = .ref C) (hnc : ∀ c, o.data ≠ .cls c) (hdn : o.dict = none)
    (hq : ∀ h' tk', (∃ dx, h'.get? x = some { cls := o.cls, dict := some dx, data := o.data, slots := o.slots }) → (∀ b o, b ≠ x → h.get? b = some o → h'.get? b = some o) → Q () ⟨h', g, d, tk', os⟩) :
    wpAny (model prog w) A (setAttr (.ref x) name v) Q E ⟨h, g, d, t, os⟩ := by
  have f3 := PySem.F.store_Exception.slot.bind (.ref x)
  unfold setAttr callSpecial? specialOf
  repeat (any_goals (first | assumption | (with_reducible refine wpAny_loadPart_at hx ?_; rw [hc]) | (with_reducible refine lookup_own hC hn hns hG hnG hmGs sa_lookup ?_) | wp_step))
  refine codeAny_call_builtin PySem.F.store_Exception.slot.plain PySem.F.store_Exception.entry (check_sa2 hC hx hc (store_entry2 hC hn hna hG hnG hmG hB hx hc hnc hdn (fun h' tk' hx' hk => ?_)))
  repeat (any_goals (first | assumption | wp_step))
  exact hq h' tk' hx' hk
end
end PartR3
section PartR4
local macro_rules | `(tactic| walk_at "pyIter bytes") => `(tactic| ((with_reducible show wpAny _ _ (pyIter (Value.bytes _ _)) _ _ _); refine Hold.stop ?_))
theorem off_R4 : True := by
  w_top off
  k_with_none
  k_with "LeaveK" => (with_reducible show LeaveK _ _ _ _ _ _ _; (rename GSub _ _ _ => zqkG'); (refine leaveS (by k_asm) zqkG' ?_); clear zqkG'; intro zqkE'; walk_say "KEEPS")
  k_with "call ref" => ((with_reducible show wpAny _ _ (call (Value.ref 98) [_, _]) _ _ _); k_dflt ((rename News _ _ _ _ => zqkN'); (rename DeckOK _ _ _ _ _ _ => zqkD'); (have zqkDn := DeckOK.ne zqkD'); (refine' draw ?k1 ?k2 ?k3 ?k4 ?kA ?kd ?ku ?kN zqkD' ?kk ?kb ?kc ?_; (case k1 => k_asm); (case k2 => k_asm); (case k3 => k_asm); (case k4 => k_asm); (case kA => first | exact rfl | assumption); (case kd => (first | decide | ((try simp only [depth_deeper, units_deeper, units_in1, depth_in1, ktrTop, Nat.add_assoc, Nat.reduceAdd]); (refine room_lt ?_ ?_; assumption; decide)) | ((try simp only [depth_deeper, units_deeper, ktrTop]); omega))); (case ku => (first | decide | ((try simp only [depth_deeper, units_deeper, units_in1, depth_in1, ktrTop, Nat.add_assoc, Nat.reduceAdd]); (refine room_lt ?_ ?_; assumption; decide)) | ((try simp only [depth_deeper, units_deeper, ktrTop]); omega))); (case kN => exact cb_drop (by k_asm) (by lcg_sub)); (case kk => omega); (case kb => omega); (case kc => omega); k_whole); (intro zqr9 zqt9 zqh9 zqtk9 zqo9 zqoc9 zqF9 zqN9 zqKB9 zqD9 zqhr0 zqhr1); (replace zqN9 := KeepBut.news2 zqKB9 zqkN' (by k_updF) (by (intro _; (try dsimp only); k_updF)) zqN9); (clear zqkN' zqkD' zqkDn); (try dsimp only at zqN9); (try dsimp only); (try k_fold)))
  k_with "call ref" => ((with_reducible show wpAny _ _ (call (Value.ref 105) [_, _]) _ _ _); k_dflt ((rename News _ _ _ _ => zqkN'); (rename DeckOK _ _ _ _ _ _ => zqkD'); (have zqkDn := DeckOK.ne zqkD'); (refine' pick ?k1 ?k2 ?k3 ?k4 ?kA ?kd ?ku ?kN zqkD' ?kk ?kb ?kc ?ld ?lc ?_; (case k1 => k_asm); (case k2 => k_asm); (case k3 => k_asm); (case k4 => k_asm); (case kA => first | exact rfl | assumption); (case kd => (first | decide | ((try simp only [depth_deeper, units_deeper, units_in1, depth_in1, ktrTop, Nat.add_assoc, Nat.reduceAdd]); (refine room_lt ?_ ?_; assumption; decide)) | ((try simp only [depth_deeper, units_deeper, ktrTop]); omega))); (case ku => (first | decide | ((try simp only [depth_deeper, units_deeper, units_in1, depth_in1, ktrTop, Nat.add_assoc, Nat.reduceAdd]); (refine room_lt ?_ ?_; assumption; decide)) | ((try simp only [depth_deeper, units_deeper, ktrTop]); omega))); (case kN => exact cb_drop (by k_asm) (by lcg_sub)); (case kk => omega); (case kb => first | decide | (simp only [List.length_append, List.length_cons, List.length_nil]; omega)); (case kc => first | decide | (simp only [List.length_append, List.length_cons, List.length_nil]; omega)); (case ld => omega); (case lc => omega); k_whole); (intro zqi9 zqhi9 zqh9 zqtk9 zqo9 zqoc9 zqF9 zqN9 zqKB9 zqD9); (replace zqN9 := KeepBut.news2 zqKB9 zqkN' (by k_updF) (by (intro _; (try dsimp only); k_updF)) (cb_drop zqN9 (by lcg_sub))); (clear zqkN' zqkD' zqkDn); (try dsimp only at zqN9); (try dsimp only); (try k_fold)))
  k_with "call ref" => ((with_reducible show wpAny _ _ (call (Value.ref 119) [_]) _ _ _); k_dflt ((rename News _ _ _ _ => zqkN'); (rename DeckOK _ _ _ _ _ _ => zqkD'); (have zqkDn := DeckOK.ne zqkD'); (refine' octet ?k1 ?k2 ?k3 ?k4 ?kA ?kd ?ku ?kN zqkD' ?kk ?_; (case k1 => k_asm); (case k2 => k_asm); (case k3 => k_asm); (case k4 => k_asm); (case kA => first | exact rfl | assumption); (case kd => (first | decide | ((try simp only [depth_deeper, units_deeper, units_in1, depth_in1, ktrTop, Nat.add_assoc, Nat.reduceAdd]); (refine room_lt ?_ ?_; assumption; decide)) | ((try simp only [depth_deeper, units_deeper, ktrTop]); omega))); (case ku => (first | decide | ((try simp only [depth_deeper, units_deeper, units_in1, depth_in1, ktrTop, Nat.add_assoc, Nat.reduceAdd]); (refine room_lt ?_ ?_; assumption; decide)) | ((try simp only [depth_deeper, units_deeper, ktrTop]); omega))); (case kN => exact cb_drop (by k_asm) (by lcg_sub)); (case kk => omega); k_whole); (intro zqr9 zqt9 zqh9 zqtk9 zqo9 zqoc9 zqF9 zqN9 zqKB9 zqD9 zqhr0 zqhr1); (replace zqN9 := KeepBut.news2 zqKB9 zqkN' (by k_updF) (by (intro _; (try dsimp only); k_updF)) zqN9); (clear zqkN' zqkD' zqkDn); (try dsimp only at zqN9); (try dsimp only); (try k_fold)))
  k_with "call ref" => ((with_reducible show wpAny _ _ (call (Value.ref 126) [_]) _ _ _); k_dflt ((rename News _ _ _ _ => zqkN'); (refine' figures ?k1 ?k2 ?k3 ?k4 ?kA ?kd ?ku ?kN ?kb ?kc ?_; (case k1 => k_asm); (case k2 => k_asm); (case k3 => k_asm); (case k4 => k_asm); (case kA => first | exact rfl | assumption); (case kd => (first | decide | ((try simp only [depth_deeper, units_deeper, units_in1, depth_in1, ktrTop, Nat.add_assoc, Nat.reduceAdd]); (refine room_lt ?_ ?_; assumption; decide)) | ((try simp only [depth_deeper, units_deeper, ktrTop]); omega))); (case ku => (first | decide | ((try simp only [depth_deeper, units_deeper, units_in1, depth_in1, ktrTop, Nat.add_assoc, Nat.reduceAdd]); (refine room_lt ?_ ?_; assumption; decide)) | ((try simp only [depth_deeper, units_deeper, ktrTop]); omega))); (case kN => exact cb_drop (by k_asm) (by lcg_sub)); (case kb => omega); (case kc => omega); k_whole); (intro zqb9 zqt9 zqh9 zqtk9 zqF9 zqKB9 zqE9); (have zqN9 := KeepBut.news0 zqKB9 zqkN'); (clear zqkN'); (try dsimp only); (try k_fold)))
  k_with "call ref" => ((with_reducible show wpAny _ _ (call (Value.ref 133) [_]) _ _ _); k_dflt ((rename News _ _ _ _ => zqkN'); (refine' isplain ?k1 ?k2 ?k3 ?k4 ?kA ?kd ?ku ?kN ?kb ?kc ?_; (case k1 => k_asm); (case k2 => k_asm); (case k3 => k_asm); (case k4 => k_asm); (case kA => first | exact rfl | assumption); (case kd => (first | decide | ((try simp only [depth_deeper, units_deeper, units_in1, depth_in1, ktrTop, Nat.add_assoc, Nat.reduceAdd]); (refine room_lt ?_ ?_; assumption; decide)) | ((try simp only [depth_deeper, units_deeper, ktrTop]); omega))); (case ku => (first | decide | ((try simp only [depth_deeper, units_deeper, units_in1, depth_in1, ktrTop, Nat.add_assoc, Nat.reduceAdd]); (refine room_lt ?_ ?_; assumption; decide)) | ((try simp only [depth_deeper, units_deeper, ktrTop]); omega))); (case kN => exact cb_drop (by k_asm) (by lcg_sub)); (case kb => omega); (case kc => omega); k_whole); (intro zqh9 zqtk9 zqF9 zqKB9); (have zqN9 := KeepBut.news0 zqKB9 zqkN'); (clear zqkN'); (try dsimp only); (try k_fold)))
  k_with "call ref" => ((with_reducible show wpAny _ _ (call (Value.ref 138) [_]) _ _ _); k_dflt ((rename News _ _ _ _ => zqkN'); (refine' written ?k1 ?k2 ?k3 ?k4 ?kA ?kd ?ku ?kN ?kb ?kc ?_; (case k1 => k_asm); (case k2 => k_asm); (case k3 => k_asm); (case k4 => k_asm); (case kA => first | exact rfl | assumption); (case kd => (first | decide | ((try simp only [depth_deeper, units_deeper, units_in1, depth_in1, ktrTop, Nat.add_assoc, Nat.reduceAdd]); (refine room_lt ?_ ?_; assumption; decide)) | ((try simp only [depth_deeper, units_deeper, ktrTop]); omega))); (case ku => (first | decide | ((try simp only [depth_deeper, units_deeper, units_in1, depth_in1, ktrTop, Nat.add_assoc, Nat.reduceAdd]); (refine room_lt ?_ ?_; assumption; decide)) | ((try simp only [depth_deeper, units_deeper, ktrTop]); omega))); (case kN => exact cb_drop (by k_asm) (by lcg_sub)); (case kb => omega); (case kc => omega); k_whole); (intro zqb9 zqt9 zqh9 zqtk9 zqF9 zqKB9 zqE9); (have zqN9 := KeepBut.news0 zqKB9 zqkN'); (clear zqkN'); (try dsimp only); (try k_fold)))
  k_with "call ref" => ((with_reducible show wpAny _ _ (call (Value.ref 145) [_, _]) _ _ _); k_dflt ((rename News _ _ _ _ => zqkN'); (rename DeckOK _ _ _ _ _ _ => zqkD'); (have zqkDn := DeckOK.ne zqkD'); (refine' told ?k1 ?k2 ?k3 ?k4 ?kA ?kd ?ku ?kN zqkD' ?kk ?kb ?kc ?_; (case k1 => k_asm); (case k2 => k_asm); (case k3 => k_asm); (case k4 => k_asm); (case kA => first | exact rfl | assumption); (case kd => (first | decide | ((try simp only [depth_deeper, units_deeper, units_in1, depth_in1, ktrTop, Nat.add_assoc, Nat.reduceAdd]); (refine room_lt ?_ ?_; assumption; decide)) | ((try simp only [depth_deeper, units_deeper, ktrTop]); omega))); (case ku => (first | decide | ((try simp only [depth_deeper, units_deeper, units_in1, depth_in1, ktrTop, Nat.add_assoc, Nat.reduceAdd]); (refine room_lt ?_ ?_; assumption; decide)) | ((try simp only [depth_deeper, units_deeper, ktrTop]); omega))); (case kN => exact cb_drop (by k_asm) (by lcg_sub)); (case kk => omega); (case kb => omega); (case kc => omega); k_whole); (intro zqb9 zqt9 zqh9 zqtk9 zqo9 zqoc9 zqF9 zqN9 zqKB9 zqD9 zqE9); (replace zqN9 := KeepBut.news2 zqKB9 zqkN' (by k_updF) (by (intro _; (try dsimp only); k_updF)) zqN9); (clear zqkN' zqkD' zqkDn); (try dsimp only at zqN9); (try dsimp only); (try k_fold)))
  k_with "getMethod bytes" => ((with_reducible refine method_join ?_))
  k_with "call builtin:bytes.join" => ((with_reducible show wpAny _ _ (call (Value.builtin "bytes.join") _) _ _ _); refine Hold.stop ?_)
  k_with "call ref" => ((with_reducible show wpAny _ _ (call (Value.ref 105) [_, _]) _ _ _); k_dflt ((rename News _ _ _ _ => zqkN'); (rename DeckOK _ _ _ _ _ _ => zqkD'); (have zqkDn := DeckOK.ne zqkD'); (refine' pickI ?k1 ?k2 ?k3 ?k4 ?kA ?kd ?ku ?kN zqkD' ?kk ?ki ?kv ?kb ?kc ?ld ?lc ?_; (case k1 => k_asm); (case k2 => k_asm); (case k3 => k_asm); (case k4 => k_asm); (case kA => first | exact rfl | assumption); (case kd => (first | decide | ((try simp only [depth_deeper, units_deeper, units_in1, depth_in1, ktrTop, Nat.add_assoc, Nat.reduceAdd]); (refine room_lt ?_ ?_; assumption; decide)) | ((try simp only [depth_deeper, units_deeper, ktrTop]); omega))); (case ku => (first | decide | ((try simp only [depth_deeper, units_deeper, units_in1, depth_in1, ktrTop, Nat.add_assoc, Nat.reduceAdd]); (refine room_lt ?_ ?_; assumption; decide)) | ((try simp only [depth_deeper, units_deeper, ktrTop]); omega))); (case kN => exact cb_drop (by k_asm) (by lcg_sub)); (case kk => omega); (case ki => first | l_ints | l_intsW); (case kv => decide); (case kb => (simp only [List.length_append, List.length_cons, List.length_nil]; omega)); (case kc => (simp only [List.length_append, List.length_cons, List.length_nil]; omega)); (case ld => omega); (case lc => omega); k_whole); (intro zqr9 zqt9 zqh9 zqtk9 zqo9 zqoc9 zqF9 zqN9 zqKB9 zqD9 zqhm9 zqhr0 zqhr1); (replace zqN9 := KeepBut.news2 zqKB9 zqkN' (by k_updF) (by (intro _; (try dsimp only); k_updF)) (cb_drop zqN9 (by lcg_sub))); (clear zqkN' zqkD' zqkDn); (try dsimp only at zqN9); (try dsimp only); (try k_fold)))
  k_with "call ref" => ((with_reducible show wpAny _ _ (call (Value.ref 157) [_, _]) _ _ _); k_dflt ((rename News _ _ _ _ => zqkN'); (rename DeckOK _ _ _ _ _ _ => zqkD'); (have zqkDn := DeckOK.ne zqkD'); (refine' faulty ?k1 ?k2 ?k3 ?k4 ?kA ?kd ?ku ?kN zqkD' ?kk ?kb ?kc ?_; (case k1 => k_asm); (case k2 => k_asm); (case k3 => k_asm); (case k4 => k_asm); (case kA => first | exact rfl | assumption); (case kd => (first | decide | ((try simp only [depth_deeper, units_deeper, units_in1, depth_in1, ktrTop, Nat.add_assoc, Nat.reduceAdd]); (refine room_lt ?_ ?_; assumption; decide)) | ((try simp only [depth_deeper, units_deeper, ktrTop]); omega))); (case ku => (first | decide | ((try simp only [depth_deeper, units_deeper, units_in1, depth_in1, ktrTop, Nat.add_assoc, Nat.reduceAdd]); (refine room_lt ?_ ?_; assumption; decide)) | ((try simp only [depth_deeper, units_deeper, ktrTop]); omega))); (case kN => exact cb_drop (by k_asm) (by lcg_sub)); (case kk => omega); (case kb => assumption); (case kc => omega); k_whole); (intro zqb9 zqt9 zqh9 zqtk9 zqo9 zqoc9 zqF9 zqN9 zqKB9 zqD9 zqE9); (replace zqN9 := KeepBut.news2 zqKB9 zqkN' (by k_updF) (by (intro _; (try dsimp only); k_updF)) zqN9); (clear zqkN' zqkD' zqkDn); (try dsimp only at zqN9); (try dsimp only); (try k_fold)))
  k_with "call ref" => ((with_reducible show wpAny _ _ (call (Value.ref 69) [_]) _ _ _); k_dflt ((rename News _ _ _ _ => zqkN'); (refine' mustq ?k1 ?k2 ?k3 ?k4 ?kA ?kd ?ku ?kN ?kb ?kc ?_; (case k1 => k_asm); (case k2 => k_asm); (case k3 => k_asm); (case k4 => k_asm); (case kA => first | exact rfl | assumption); (case kd => (first | decide | ((try simp only [depth_deeper, units_deeper, units_in1, depth_in1, ktrTop, Nat.add_assoc, Nat.reduceAdd]); (refine room_lt ?_ ?_; assumption; decide)) | ((try simp only [depth_deeper, units_deeper, ktrTop]); omega))); (case ku => (first | decide | ((try simp only [depth_deeper, units_deeper, units_in1, depth_in1, ktrTop, Nat.add_assoc, Nat.reduceAdd]); (refine room_lt ?_ ?_; assumption; decide)) | ((try simp only [depth_deeper, units_deeper, ktrTop]); omega))); (case kN => exact cb_drop (by k_asm) (by lcg_sub)); (case kb => omega); (case kc => omega); k_whole); (intro zqh9 zqtk9 zqF9 zqKB9); (have zqN9 := KeepBut.news0 zqKB9 zqkN'); (clear zqkN'); (try dsimp only); (try k_fold)))
  k_with "compareOp In int ref" => ((with_reducible show wpAny _ _ (compareOp CmpOp.In (Value.int _ _) (Value.ref 62)) _ _ _); k_dflt (first | (refine esc_in_some (by k_asm) (by k_asm) (by assumption) ?_) | (refine esc_in_none (by k_asm) (by k_asm) (by assumption) ?_)))
  k_with "subscriptTail" => ((with_reducible show wpAny _ _ (subscriptTail _ _ (Value.ref 62) (Value.int _ _)) _ _ _); k_dflt ((refine esc_item (by k_asm) (by k_asm) (by assumption) ?_ (by with_unfolding_all rfl)); intro zqb9 zqt9 zqE9))
  k_with "getMethod ref" => ((with_reducible show wpAny _ _ (getMethod (Value.ref _) (PySem.Str.ofString "append") _) _ _ _); (rename News _ _ _ _ => zqkN'); k_dflt (refine method_append (b := _) ((zqkN' _ (by first | exact .head _ | exact .tail _ (.head _) | exact .tail _ (.tail _ (.head _)))).1) ?_))
  trivial
theorem fill_R4 (w : World) (h₀ : Heap) (hX : (hd.heap_39 w.params).In h₀) : (hd.heap_39 w.params).In h₀ ∧ PySem.Challenge.rw_pb0084_01 = PySem.Challenge.rw_pb0084_01 := by
  k_fill
  exact ⟨hX, rfl⟩
section
variable {w : World} {mg mb : Str → Option Value} {mean : ExcName → Option Value} {dp un : Nat} {gd : Option (List Code)} {cn : Str} {cs : Scope} {L a : Addr} {ccd : Value} {cl : List (Str × Addr)} {outer : List Env} {A₀ : Around} {base h₀ : Heap} {m : Str → Option Value} {s : Shared} {Q E : Value → Shared → Prop} {news : List (Addr × Obj)}


theorem ns_some_of' {K : Frag} {h : Heap} {N : Addr} {mg : Str → Option Value} {n : Str} {v : Value} (X : K.In h) (G : h.Ns N mg) (e : nsIn K N n = some (some v)) : mg n = some v := by
  obtain ⟨o, es, ep, ho, hd, _, hf⟩ := G
  unfold nsIn at e
  split at e
  · rename_i c d es' n' sl q
    have := X _ _ q
    rw [ho] at this
    cases this
    cases hd
    split at e
    · rename_i en he
      cases e
      rw [← hf]
      unfold nsFind findBy
      rw [← Array.find?_toList, he]
      rfl
    · split at e <;> cases e
  · cases e
structure BadCls (h : Heap) : Prop where
  cls : ∃ nm q bs sn sub ab col dd k0 k1 k2 k3 k5, h.get? 45 = some (excClassObj nm q 45 44 bs (.ref 32 :: excMro) true sn sub ab col dd k0 k1 k2 k3 k5 "Exception.__new__")
  base : ∃ c0 dg cd sl, h.get? 32 = some { cls := c0, dict := dg, data := .cls cd, slots := sl } ∧ cd.ns = 31
  nsC : h.Ns 44 (h.nsMap 44)
  nsG : h.Ns 31 (h.nsMap 31)
  initC : h.nsMap 44 "__init__" = none
  saC : h.nsMap 44 "__setattr__" = none
  toldC : h.nsMap 44 "told" = none
  initG : h.nsMap 31 "__init__" = some (.ref 29)
  saG : h.nsMap 31 "__setattr__" = none
  toldG : h.nsMap 31 "told" = none
theorem bad_of {K : Frag} {h : Heap} {o45 o32 : Obj} (X : K.In h) (h1 : K.lookup 45 = some o45) (h2 : K.lookup 32 = some o32) (n1 : nsOkIn K 44 = true) (n2 : nsOkIn K 31 = true)
    (a1 : nsIn K 44 "__init__" = some none) (a2 : nsIn K 44 "__setattr__" = some none) (a3 : nsIn K 44 "told" = some none) (b1 : nsIn K 31 "__init__" = some (some (.ref 29))) (b2 : nsIn K 31 "__setattr__" = some none) (b3 : nsIn K 31 "told" = some none)
    (c1 : ∃ nm q bs sn sub ab col dd k0 k1 k2 k3 k5, o45 = excClassObj nm q 45 44 bs (.ref 32 :: excMro) true sn sub ab col dd k0 k1 k2 k3 k5 "Exception.__new__")
    (c2 : ∃ c0 dg cd sl, o32 = { cls := c0, dict := dg, data := .cls cd, slots := sl } ∧ cd.ns = 31) : BadCls h where
  cls := by obtain ⟨nm, q, bs, sn, sub, ab, col, dd, k0, k1, k2, k3, k5, rfl⟩ := c1; exact ⟨nm, q, bs, sn, sub, ab, col, dd, k0, k1, k2, k3, k5, X _ _ h1⟩
  base := by obtain ⟨c0, dg, cd, sl, rfl, e⟩ := c2; exact ⟨c0, dg, cd, sl, X _ _ h2, e⟩
  nsC := .of_isNs (isNs_of_in X n1)
  nsG := .of_isNs (isNs_of_in X n2)
  initC := nsMap_none_of_in X n1 a1
  saC := nsMap_none_of_in X n1 a2
  toldC := nsMap_none_of_in X n1 a3
  initG := ns_some_of' X (.of_isNs (isNs_of_in X n2)) b1
  saG := nsMap_none_of_in X n2 b2
  toldG := nsMap_none_of_in X n2 b3
theorem bad_cls {h : Heap} (X : (hd.heap_39 w.params).In h) : BadCls h := by
  k_dflt (refine' bad_of X ?k1 ?k2 ?n1 ?n2 ?a1 ?a2 ?a3 ?b1 ?b2 ?b3 ?c1 ?c2; (case k1 => k_is); (case k2 => k_is); (case n1 => first | rfl | kernel_rfl | with_unfolding_all rfl); (case n2 => first | rfl | kernel_rfl | with_unfolding_all rfl); (case a1 => k_is); (case a2 => k_is); (case a3 => k_is); (case b1 => k_is); (case b2 => k_is); (case b3 => k_is))
  case c1 => exact ⟨_, _, _, _, _, _, _, _, _, _, _, _, _, rfl⟩
  case c2 => exact ⟨_, _, _, _, rfl, rfl⟩
theorem gitinit (B : Below A₀ base outer h₀) (F : Fr h₀ L s.heap m) (X : (hd.heap_39 w.params).In h₀) (T : Top hd.view_39 LS mean mg mb h₀) (hk : cs.kind = .function) (hdp : dp + 20 < recursionLimit) (hun : un + 500 < cLine)
    {e : Addr} {oe : Obj} {t : Tok} {msg : Str} (N : News h₀ L s.heap [(e, oe)]) (hcls : oe.cls = .ref 45) (hnc : ∀ c, oe.data ≠ .cls c) (hdn : oe.dict = none)
    (hret : ∀ (h' : Heap) (tk' : Nat) (dx : Addr), Fr h₀ L h' m → KeepBut s.heap h' [e] → h'.get? e = some { cls := oe.cls, dict := some dx, data := oe.data, slots := oe.slots } → Q .none { s with heap := h', toks := tk' }) :
    wpAny (model PR w) ((ktrTop dp un gd cn cs L a ccd cl outer).under (Code.builtin "type.__call__" ⟨[.ref 45, .str msg t], []⟩)) (call (.ref 29) [.ref e, .str msg t]) Q E s := by
  refine wpAny_call ?_
  k_dflt (refine' code_defG ?k1 ?k2 ?k3 ?k4 ?k5 ?kA ?kF ?kK ?k6 ?k7 ?k8 ?k9 ?kB ?_ ?c2 ?c3 ?c4 ?c5; (case kA => exact rfl); (case kF => exact rfl); (case kK => assumption); (case k1 => k_asm); (case k2 => k_asm); (case k3 => k_asm); (case k4 => k_asm); (case k5 => k_asm); (case k6 => k_is); (case k7 => k_is); (case k8 => ktr_room); (case k9 => first | exact BindsTo.of_eq rfl | exact binds_K (by k_in) rfl (by k_is) rfl rfl rfl | exact binds_K (X.keeps F.keep) rfl (by k_is) rfl rfl rfl); (case c5 => decide); (case kB => exact locs rfl); (case c2 => exact rfl); (case c3 => exact rfl); (case c4 => exact rfl); k_whole; intro g' L' h' FG' F' N' B' X' T' kG'; (try dsimp only); (try k_fold))
  k_steps
  rename Fr g' _ _ _ => lF'
  rename News g' _ _ _ => lN'
  obtain ⟨⟨nm, q, bs, sn, sub, ab, col, dd, k0, k1, k2, k3, k5, hC⟩, ⟨c0, dg, cd, sl, hG, hns⟩, nsC, nsG, i1, i2, i3, i4, i5, i6⟩ := bad_cls (X'.keeps lF'.keep)
  refine store_attr2 hC nsC i2 i3 hG (hns ▸ nsG) i5 i6 sa_told (lN' _ (.head _)).1 hcls hnc hdn ?_
  intro h2 tk2 ⟨dx, hdx⟩ hkeep
  have z := (lN' _ (.head _)).2
  have F2 : Fr g' L' h2 _ := ⟨lF'.ns.at' fun o eo => hkeep _ _ (Ne.symm z.1) eo, fun b o eo => hkeep _ _ (fun q => by rw [q, z.2] at eo; cases eo) (lF'.keep b o eo), lF'.above⟩
  have N2 : News g' L' h2 [(e, { cls := oe.cls, dict := some dx, data := oe.data, slots := oe.slots })] := fun p hp => by rw [List.mem_singleton.mp hp]; exact ⟨hdx, z⟩
  clear lN' lF' z
  k_steps
  exact hret _ _ dx (by k_asm) (by k_asm) hdx
end
end PartR4
section PartR5
theorem fill_R5 (w : World) (h₀ : Heap) (hX : (hd.heap_39 w.params).In h₀) : (hd.heap_39 w.params).In h₀ ∧ PySem.Challenge.rw_pb0084_01 = PySem.Challenge.rw_pb0084_01 := by
  k_fill
  exact ⟨hX, rfl⟩
section
variable {w : World} {mg mb : Str → Option Value} {mean : ExcName → Option Value} {dp un : Nat} {gd : Option (List Code)} {cn : Str} {cs : Scope} {L a : Addr} {ccd : Value} {cl : List (Str × Addr)} {outer : List Env} {A₀ : Around} {base h₀ : Heap} {m : Str → Option Value} {s : Shared} {Q E : Value → Shared → Prop} {news : List (Addr × Obj)}


section
variable {A : Around} {Ev : Value → Shared → Prop} {env : Env}
variable {nm q : Str} {C NN : Addr} {bs bm : List Value} {hdct : Bool} {sn : List Str} {sub : List Value} {ab : Bool} {col : Option Bool} {dd : Option Addr} {k0 k1 k2 k3 k5 : Option Value} {newId : String}
theorem raise_call {x : Str} {np cpos pos : Pos} {args : List PySem.Expr} {Qf : Flow → Shared → Prop} (hbase : bm.contains (.type "BaseException") = true) (hh : A.handled = none) (hplain : (backTo cpos (starEach args env)).any (·.1) = false)
    (h : wpAny (model PR w) A (eval (.Name x np) env) (fun f s₁ => f = .ref C ∧ wpAny (model PR w) A (evalArgs (.ref C) true (backTo cpos (starEach args env)) [])
      (fun a s₂ => a.kw = [] ∧ s₂.heap.get? C = some (excClassObj nm q C NN bs bm hdct sn sub ab col dd k0 k1 k2 k3 k5 newId) ∧ wpAny (model PR w) A (call (.ref C) a.pos) (fun v s₃ => ∃ e oe t, v = .ref e ∧ s₃.heap.get? C = some (excClassObj nm q C NN bs bm hdct sn sub ab col dd k0 k1 k2 k3 k5 newId) ∧
        s₃.heap.get? e = some oe ∧ oe.cls = .ref C ∧ oe.data = .fields #[.ref t, .none, .none, .none, .bool false, .none] ∧ Ev (.ref e) s₃) Ev s₂) Ev s₁) Ev s) :
    wpAny (model PR w) A (exec (.Raise (some (.Call (.Name x np) args [] cpos)) none pos) env) Qf Ev s := by
  rw [arm_exec_Raise]
  first
    | refine wpAny_bind (wpAny_standAt (raise_gen (C := C) (nm := nm) (q := q) (N := NN) (bs := bs) (bm := bm) (hdct := hdct) (sn := sn) (sub := sub) (ab := ab) (col := col) (dd := dd) (k0 := k0) (k1 := k1) (k2 := k2) (k3 := k3) (k5 := k5) (newId := newId) hbase hh (wpAny_bind (wpAny_mono (wpAny_Call_ofName (wpAny_mono h (fun f s₁ h₁ => ?_) fun _ _ x => x)) (fun v s₃ h₃ => wpAny_bind (wpAny_standAt (wpAny_pure h₃))) fun _ _ x => x))))
    | (simp only [evalOpt, Option.map]; refine wpAny_bind (wpAny_standAt (raise_gen (C := C) (nm := nm) (q := q) (N := NN) (bs := bs) (bm := bm) (hdct := hdct) (sn := sn) (sub := sub) (ab := ab) (col := col) (dd := dd) (k0 := k0) (k1 := k1) (k2 := k2) (k3 := k3) (k5 := k5) (newId := newId) hbase hh (wpAny_bind (wpAny_mono (wpAny_Call_ofName (wpAny_mono h (fun f s₁ h₁ => ?_) fun _ _ x => x)) (fun v s₃ h₃ => wpAny_bind (wpAny_standAt (wpAny_pure h₃))) fun _ _ x => x)))))
  obtain ⟨rfl, h₁⟩ := h₁
  unfold callWith
  refine wpAny_bind (wpAny_holding (wpAny_mono h₁ (fun a s₂ h₂ => wpAny_bind (wpAny_standAt ?_)) fun _ _ x => x))
  obtain ⟨apos, akw⟩ := a
  obtain ⟨hkw, hC, h₂⟩ := h₂
  obtain rfl : akw = [] := hkw
  obtain ⟨hp, g, d, tk, os⟩ := s₂
  simp only [hplain]
  refine wpAny_bind (wpAny_keeperOf_exc hC ?_)
  exact wpAny_bind (wpAny_mono h₂ (fun v s₃ h₃ => wpAny_bind (wpAny_holding (wpAny_point (wpAny_pure h₃)))) fun _ _ x => x)
end
end
end PartR5
section PartR6
theorem fill_R6 (w : World) (h₀ : Heap) (hX : (hd.heap_39 w.params).In h₀) : (hd.heap_39 w.params).In h₀ ∧ PySem.Challenge.rw_pb0084_01 = PySem.Challenge.rw_pb0084_01 := by
  k_fill
  exact ⟨hX, rfl⟩
section
variable {w : World} {mg mb : Str → Option Value} {mean : ExcName → Option Value} {dp un : Nat} {gd : Option (List Code)} {cn : Str} {cs : Scope} {L a : Addr} {ccd : Value} {cl : List (Str × Addr)} {outer : List Env} {A₀ : Around} {base h₀ : Heap} {m : Str → Option Value} {s : Shared} {Q E : Value → Shared → Prop} {news : List (Addr × Obj)}


theorem git_of {K : Frag} {o : Obj} {h : Heap} (X : K.In h) (hl : K.lookup 29 = some o) (hp : o.cls = .type "function") : ∃ o : Obj, h.get? 29 = some o ∧ o.cls = .type "function" := ⟨o, X _ _ hl, hp⟩
theorem git_fn {h : Heap} (X : (hd.heap_39 w.params).In h) : ∃ o : Obj, h.get? 29 = some o ∧ o.cls = .type "function" := by
  k_dflt (refine' git_of X ?k ?h1; (case k => k_is))
  case h1 => rfl
theorem badcall (B : Below A₀ base outer h₀) (F : Fr h₀ L s.heap m) (X : (hd.heap_39 w.params).In h₀) (T : Top hd.view_39 LS mean mg mb h₀) (hk : cs.kind = .function) (hdp : dp + 40 < recursionLimit) (hun : un + 1000 < cLine)
    {t : Tok} {msg : Str} {news : List (Addr × Obj)} (N : News h₀ L s.heap news)
    (hret : ∀ (e dx tp : Addr) (h' : Heap) (tk' : Nat), Fr h₀ L h' m → News h₀ L h' news → KeepBut s.heap h' [] → s.heap.get? e = none → h'.get? e = some { cls := .ref 45, dict := some dx, data := .fields #[.ref tp, .none, .none, .none, .bool false, .none] } → Q (.ref e) { s with heap := h', toks := tk' }) :
    wpAny (model PR w) (ktrTop dp un gd cn cs L a ccd cl outer) (call (.ref 45) [.str msg t]) Q E s := by
  obtain ⟨⟨nm, q, bs, sn, sub, ab, col, dd, k0, k1, k2, k3, k5, hC⟩, ⟨c0, dg, cd, sl, hG, hns⟩, nsC, nsG, i1, i2, i3, i4, i5, i6⟩ := bad_cls (X.keeps F.keep)
  obtain ⟨hp, g, d, tk, os⟩ := s
  refine call_own PySem.F.excBase_Exception (by decide +kernel) (by decide +kernel) (by decide +kernel) hC (by rw [sizeLine_eq]; exact (by decide : 1 ≤ 16777216)) ?_
  rintro h₁ e tp rfl rfl rfl
  have up : ∀ b o, hp.get? b = some o → ((hp.push { cls := .type "tuple", data := .seq [Value.str msg t].toArray }).push { cls := .ref 45, data := .fields #[.ref hp.objs.size, .none, .none, .none, .bool false, .none] }).get? b = some o := fun b o eo => Heap.get?_push_of_some _ (Heap.get?_push_of_some _ eo)
  have hsz : (hp.push { cls := .type "tuple", data := .seq [Value.str msg t].toArray }).objs.size = hp.objs.size + 1 := Heap.size_push _ _
  have hget : ((hp.push { cls := .type "tuple", data := .seq [Value.str msg t].toArray }).push { cls := .ref 45, data := .fields #[.ref hp.objs.size, .none, .none, .none, .bool false, .none] }).get? (hp.objs.size + 1) = some
      { cls := .ref 45, data := .fields #[.ref hp.objs.size, .none, .none, .none, .bool false, .none] } := by heap_get
  have fresh : hp.get? (hp.objs.size + 1) = none := Heap.get?_none_of_le (Nat.le_succ _)
  have fresh₀ : h₀.get? (hp.objs.size + 1) = none := by
    cases q : h₀.get? (hp.objs.size + 1) with
    | none => rfl
    | some o => have := F.keep _ _ q; rw [fresh] at this; cases this
  have hLe : @Ne Nat (hp.objs.size + 1) L := fun eo => absurd F.ns.lt (by rw [← eo]; exact Nat.not_lt.mpr (Nat.le_succ _))
  obtain ⟨of, hf, hfc⟩ : ∃ of : Obj, hp.get? 29 = some of ∧ of.cls = .type "function" := git_fn (X.keeps F.keep)
  have nsG' : hp.Ns cd.ns (hp.nsMap 31) := by rw [hns]; exact nsG
  refine init_own (N2 := (0 : Nat)) (mC := hp.nsMap 44) (mG := hp.nsMap 31) (up _ _ hC) (nsC.keeps up) i1 (up _ _ hG) (nsG'.keeps up) i4 hget rfl (up _ _ hf) hfc ?_
  refine gitinit (oe := { cls := .ref 45, data := .fields #[.ref hp.objs.size, .none, .none, .none, .bool false, .none] }) B (F.keeps up) X T hk (by omega) (by omega) (fun p hp' => by rw [List.mem_singleton.mp hp']; exact ⟨hget, hLe, fresh₀⟩) rfl (fun c hc => by cases hc) rfl ?_
  intro h' tk' dx F' K' he'
  refine ⟨rfl, ?_⟩
  have kk : KeepBut hp h' [] := fun b o eo _ => K' b o (up b o eo) (by rw [List.mem_singleton]; exact fun q => by rw [q, fresh] at eo; cases eo)
  exact hret _ dx _ h' tk' F' (kk.news0 N) kk fresh he'
end
end PartR6
section PartR9
theorem fill_R9 (w : World) (h₀ : Heap) (hX : (hd.heap_39 w.params).In h₀) : (hd.heap_39 w.params).In h₀ ∧ PySem.Challenge.rw_pb0084_01 = PySem.Challenge.rw_pb0084_01 := by
  k_fill
  exact ⟨hX, rfl⟩
section
variable {w : World} {mg mb : Str → Option Value} {mean : ExcName → Option Value} {dp un : Nat} {gd : Option (List Code)} {cn : Str} {cs : Scope} {L a : Addr} {ccd : Value} {cl : List (Str × Addr)} {outer : List Env} {A₀ : Around} {base h₀ : Heap} {m : Str → Option Value} {s : Shared} {Q E : Value → Shared → Prop} {news : List (Addr × Obj)}


theorem evalArgs_back {M : Model} {A : Around} {E : Value → Shared → Prop} {s : Shared} {env : Env} {pos : Pos} {f : Value} {e : PySem.Expr} {rest : List PySem.Expr} {Q : Args → Shared → Prop}
    (h : wpAny M A (spliced (backTo pos (starEach (e :: rest) env))) (fun vs s₁ => Q ⟨vs, []⟩ s₁) E s)
    (he : starEach (e :: rest) env = (false, eval e env) :: starEach rest env := by rfl) :
    wpAny M A (evalArgs f true (backTo pos (starEach (e :: rest) env)) []) Q E s := by
  rw [he] at h ⊢
  exact evalArgs_plain h
end
end PartR9
section PartR10
theorem fill_R10 (w : World) (h₀ : Heap) (hX : (hd.heap_39 w.params).In h₀) : (hd.heap_39 w.params).In h₀ ∧ PySem.Challenge.rw_pb0084_01 = PySem.Challenge.rw_pb0084_01 := by
  k_fill
  exact ⟨hX, rfl⟩
section
variable {w : World} {mg mb : Str → Option Value} {mean : ExcName → Option Value} {dp un : Nat} {gd : Option (List Code)} {cn : Str} {cs : Scope} {L a : Addr} {ccd : Value} {cl : List (Str × Addr)} {outer : List Env} {A₀ : Around} {base h₀ : Heap} {m : Str → Option Value} {s : Shared} {Q E : Value → Shared → Prop} {news : List (Addr × Obj)}


theorem wpG_nameP {α : Type} {M : Model} {A A' : Around} {env : Env} {t : Sem α} {Q : α → Shared → Prop} {E : Value → Shared → Prop} {s : Shared} (hP : PassesOwn M A' env E)
    (h : ∀ (Q' : α → Shared → Prop) (E' : Value → Shared → Prop), (∀ a s', Q a s' → Q' a s') → (∀ e s', E e s' → E' e s') → PassesOwn M A' env E' → wpG M A t Q' E' s) : wpG M A t Q E s :=
  h Q E (fun _ _ x => x) (fun _ _ x => x) hP
theorem IfG_cut {M : Model} {A : Around} {env : Env} {E : Value → Shared → Prop} {s : Shared} {test : PySem.Expr} {body orelse : List Stmt} {pos : Pos} {Q : Flow → Shared → Prop} (I J : Shared → Prop)
    (h : wpAny M A (isTrue test env (eval test env)) (fun b s₂ => if b then I s₂ else J s₂) E s)
    (hI : ∀ s₂, I s₂ → wpG M A (execs body env) Q E s₂) (hJ : ∀ s₂, J s₂ → wpG M A (execs orelse env) Q E s₂) : wpG M A (exec (.If test body orelse pos) env) Q E s := by
  refine IfG (wpG_any (wpAny_mono h (fun b s₂ h₂ => ?_) fun _ _ x => x))
  cases b
  · exact hJ _ h₂
  · exact hI _ h₂
theorem back_one {e : PySem.Expr} {env : Env} {pos : Pos} {M : Model} {A : Around} {E : Value → Shared → Prop} {s : Shared} {Q : List Value → Shared → Prop}
    (h : wpAny M A (spliced [(false, eval e env)]) Q E s)
    (he : backTo pos (starEach [e] env) = [(false, eval e env)] := by rfl) : wpAny M A (spliced (backTo pos (starEach [e] env))) Q E s := by rw [he]; exact h
/-- «raise BadPatch(text)» in a frame: the new exception -/
theorem raise_bad (B : Below A₀ base outer h₀) (F : Fr h₀ L s.heap m) (X : (hd.heap_39 w.params).In h₀) (T : Top hd.view_39 LS mean mg mb h₀) (hk : cs.kind = .function) (hdp : dp + 40 < recursionLimit) (hun : un + 1000 < cLine)
    {news : List (Addr × Obj)} (N : News h₀ L s.heap news) {x : Str} {np cpos pos ap : Pos} {msg : Str} {ak : Nat} {Qf : Flow → Shared → Prop}
    (ex : nsIn (hd.heap_39 w.params) mainGlobals x = some (some (.ref 45))) (hx : (envOf cn cs L a ccd).kindOf x = some .globalImplicit) (hd' : (x == ("__debug__" : Str)) = false)
    (hret : ∀ (e : Addr) (oe : Obj) (tp : Addr) (h' : Heap) (tk' : Nat), Fr h₀ L h' m → News h₀ L h' news → KeepBut s.heap h' [] → s.heap.get? e = none → h'.get? e = some oe → oe.cls = .ref 45 → oe.data = .fields #[.ref tp, .none, .none, .none, .bool false, .none] → E (.ref e) { s with heap := h', toks := tk' }) :
    wpAny (model PR w) (ktrTop dp un gd cn cs L a ccd cl outer) (exec (.Raise (some (.Call (.Name x np) [.Constant (.str msg) ak ap] [] cpos)) none pos) (envOf cn cs L a ccd)) Qf E s := by
  obtain ⟨⟨nm, q, bs, sn, sub, ab, col, dd, k0, k1, k2, k3, k5, hC⟩, -⟩ := bad_cls X
  refine raise_call (C := 45) (NN := 44) (nm := nm) (q := q) (bs := bs) (hdct := true) (sn := sn) (sub := sub) (ab := ab) (col := col) (dd := dd) (k0 := k0) (k1 := k1) (k2 := k2) (k3 := k3) (k5 := k5) (newId := "Exception.__new__") (bm := .ref 32 :: excMro) (by decide) rfl rfl ?_
  refine name_K F X (topRead_of T) ex ⟨rfl, ?_⟩ hk hx hd'
  refine evalArgs_back ?_
  refine back_one ?_
  refine Calls.spliced_cons (Calls.Constant_str (Calls.spliced_nil ⟨rfl, F.keep 45 _ hC, ?_⟩))
  refine badcall (s := { s with toks := s.toks + 1 }) B F X T hk hdp hun N ?_
  intro e9 dx9 tp9 h9 tk9 F9 N9 KB9 fr9 he9
  exact ⟨e9, _, tp9, rfl, F9.keep 45 _ hC, he9, rfl, rfl, hret _ _ _ _ _ F9 N9 KB9 fr9 he9 rfl rfl⟩
theorem callG_K {M : Model} {A : Around} {E : Value → Shared → Prop} {s : Shared} {K : Frag} {env : Env} {pos : Pos} {f : Value} {first : List Value} {Q : Value → Shared → Prop} {e : PySem.Expr} {rest : List PySem.Expr} (hk : keepIn K f = true)
    (h : wpAny M A (spliced (backTo pos (starEach (e :: rest) env))) (fun vs s₁ => K.In s₁.heap ∧ wpG M A (call f (first ++ vs)) Q E s₁) E s)
    (he : starEach (e :: rest) env = (false, eval e env) :: starEach rest env := by rfl) (hplain : (backTo pos (starEach rest env)).any (·.1) = false := by rfl) :
    wpG M A (callWith pos f first (backTo pos (starEach (e :: rest) env)) []) Q E s := by
  rw [he] at h ⊢
  exact callWithG_of (by show ((false || (backTo pos (starEach rest env)).any (·.1)) || false) = false; rw [hplain]; rfl) (keeps_K hk) (wpG_any (Calls.evalArgs_plain h))
/-- the same, an argument calm -/
theorem splicedG_one {M : Model} {A : Around} {E : Value → Shared → Prop} {s : Shared} {x : Sem Value} {Q : List Value → Shared → Prop}
    (h : wpG M A x (fun v s₁ => Q [v] s₁) E s) : wpG M A (spliced [(false, x)]) Q E s := by
  rw [spliced]
  refine wpG_bind (wpG_mono h (fun v s₁ h₁ => ?_) fun _ _ x => x)
  simp only [Bool.false_eq_true, if_false]
  exact wpG_bind (wpG_pure (wpG_bind (wpG_any (wpAny_holding (Calls.spliced_nil (wpG_pure h₁))))))
end
end PartR10
section PartR11
theorem fill_R11 (w : World) (h₀ : Heap) (hX : (hd.heap_39 w.params).In h₀) : (hd.heap_39 w.params).In h₀ ∧ PySem.Challenge.rw_pb0084_01 = PySem.Challenge.rw_pb0084_01 := by
  k_fill
  exact ⟨hX, rfl⟩
section
variable {w : World} {mg mb : Str → Option Value} {mean : ExcName → Option Value} {dp un : Nat} {gd : Option (List Code)} {cn : Str} {cs : Scope} {L a : Addr} {ccd : Value} {cl : List (Str × Addr)} {outer : List Env} {A₀ : Around} {base h₀ : Heap} {m : Str → Option Value} {s : Shared} {Q E : Value → Shared → Prop} {news : List (Addr × Obj)}


section
variable {M : Model} {A : Around} {Eb : Value → Shared → Prop} {s' : Shared} {base' g g₂ h : Heap} {outer' : List Env} {L' a' e : Addr} {m' : Str → Option Value} {name : Str} {scope : Scope} {cd : Value} {Qu : Unit → Shared → Prop} {news : List (Addr × Obj)}
/-- the frame left with a new exception of an own class; the ground stays but for the frames -/
theorem leave_badS {cls : Value} {oe : Obj} {tp : Value} (K : Below A base' outer' g) (hkeep : ∀ b o, h.get? b = some o → s'.heap.get? b = some o) (hnew : h.get? e = none) (he : s'.heap.get? e = some oe) (hcls : oe.cls = cls) (hd : oe.data = .fields #[tp, .none, .none, .none, .bool false, .none])
    (F : Fr g L' h m')
    (hQ : ∀ h', RaisedSN base' g outer' e cls [] h' → g.UpToSlots h' → Qu () { s' with heap := h' }) (hk : scope.kind = .function := by rfl) :
    wpAny M (A.deeper (envOf name scope L' a' cd)) (leaving (envOf name scope L' a' cd) (.ref e)) Qu Eb s' := by
  have K' := K.push (name := name) (a := a') (cd := cd) F hk
  have hin : ∀ env ∈ (envOf name scope L' a' cd :: outer'), ∀ b, env.frame = some b → b ∈ (envOf name scope L' a' cd :: outer').filterMap (·.frame) := fun env he b hb => List.mem_filterMap.mpr ⟨env, he, hb⟩
  have st : base'.StaysIn (hideAll h ((envOf name scope L' a' cd :: outer').filterMap (·.frame))) := fun b o q => hideAll_get _ (K'.stays b o q) fun hm => by
    rw [(K'.frames.mem hm).1] at q; cases q
  have sg : ∀ b o, g.get? b = some o → b ∉ outer'.filterMap (·.frame) → (hideAll h ((envOf name scope L' a' cd :: outer').filterMap (·.frame))).get? b = some o := fun b o q nm => hideAll_get _ (F.keep b o q) fun hm => by
    rcases kts_mem hm with z | z
    · rw [z, kts_self F] at q
      cases q
    · exact nm z
  have hen : (hideAll h ((envOf name scope L' a' cd :: outer').filterMap (·.frame))).get? e = none := by
    cases q : (hideAll h ((envOf name scope L' a' cd :: outer').filterMap (·.frame))).get? e with
    | none => rfl
    | some o => have := of_hideAll _ q; rw [hnew] at this; cases this
  refine wpAny_leaving_firstW (a0 := tp) K'.stack ((funFrames_hide K'.frames hin).of_keeps fun b o hb _ => ⟨o, hkeep b o hb, rfl⟩) rfl he (fun b o hb => hkeep b o (of_hideAll _ hb)) hen hd rfl rfl fun h' hL => ?_
  obtain ⟨k1, ⟨_, _, k2⟩, k3, k4⟩ := hL
  have R : RaisedSN base' g outer' e cls [] h' := ⟨_, tp, st, sg, (fun q hq => absurd hq List.not_mem_nil), k1, hen, k2, by rw [← hcls]; exact k3⟩
  exact hQ h' R (((Heap.UpToSlots.of_keeps F.keep).trans (Heap.UpToSlots.of_keeps hkeep)).trans k4)
end
section
variable {prog : Program} {A₁ : Around} {Ec : Value → Shared → Prop} {s' : Shared} {base' g G : Heap} {outer' : List Env} {L' a' e : Addr} {m' : Str → Option Value} {name : Str} {scope : Scope} {cd : Value}
  {n : Str} {b₀ : Stmt} {suite : List Stmt} {pos np : Pos} {rest : List ExceptHandler} {Qf : Flow → Shared → Prop}
  {p : Program} {loose : List Str} {x : Str}
/-- «except BadPatch» of a called def's own try -/
theorem caught_badS (R : RaisedSN base' G (envOf name scope L' a' cd :: outer') e (.ref 45) [] s'.heap) (F : Fr g L' G m') (K : Below A₁ base' outer' g) (hsm : G.UpToSlots s'.heap)
    (X : (hd.heap_39 w.params).In base') (T : Top p loose mean mg mb base') (ex : nsIn (hd.heap_39 w.params) mainGlobals x = some (some (.ref 45)))
    (k : ∀ h' g', KtsTurn (outer'.filterMap (·.frame)) g g' → Fr g' L' h' m' →
      wpAny (model prog w) ((A₁.deeper (envOf name scope L' a' cd)).mark (some (.ref e))) (execs (b₀ :: suite) (envOf name scope L' a' cd)) Qf Ec { s' with heap := h' })
    (hk : scope.kind = .function := by rfl) (hx : (envOf name scope L' a' cd).kindOf x = some .globalImplicit := by rfl) (hd : (x == ("__debug__" : Str)) = false := by decide)
    (hE : PassesOwnAt (model prog w) ((A₁.deeper (envOf name scope L' a' cd)).mark (some (.ref e))) (A₁.deeper (envOf name scope L' a' cd)) (envOf name scope L' a' cd) Ec := by passes_own) :
    wpAny (model prog w) (A₁.deeper (envOf name scope L' a' cd)) (noteFrame (.ref e) (envOf name scope L' a' cd))
      (fun _ s₂ => wpAny (model prog w) (A₁.deeper (envOf name scope L' a' cd)) (setFlight (.ref e) none) (fun _ s₃ =>
        wpAny (model prog w) (A₁.deeper (envOf name scope L' a' cd)) (handleBy (.ref e) (envOf name scope L' a' cd) (.ExceptHandler (some (.Name x np)) none (b₀ :: suite) pos :: rest)) Qf Ec s₃) Ec s₂) Ec s' := by
  obtain ⟨B, a0, hB, hBG, hl, hfl⟩ := R
  refine wpAny_looks_onW (Around.frames_deeper K.stack) rfl hfl fun h₄ hheld₄ hsm₄ => ?_
  refine wpAny_landsW hheld₄ fun h₅ hheld hsm₅' => ?_
  have hsm₅ := hsm₄.trans hsm₅'
  obtain ⟨g₅, T₅, F₅, K₅⟩ := kts_ground K F hBG hheld.1 (hsm.trans hsm₅)
  have X₅ : (Mine.hd.heap_39 w.params).In g₅ := X.keeps K₅.stays
  have P₅ : TopRead p loose mg mb g₅ := topRead_of (T.keeps K₅.stays)
  obtain ⟨ob, hob, hobc⟩ := hheld.there
  refine wpAny_handleBy_cons (codeAny_handlers_test (name_K F₅ X₅ P₅ ex ?_ hk hx hd)) (by intro q; cases q)
  obtain ⟨nm, q, bs, sn, sub, ab, col, dd, k0, k1, k2, k3, k5, hC⟩ := (bad_cls (X₅.keeps F₅.keep)).cls
  refine wpAny_excMatches_sub_self hC hob hobc (by decide +kernel) (codeAny_handlers_suite ?_)
  refine lands_againW hheld fun h₆ hfl₆ hsm₆ => ?_
  obtain ⟨g₆, T₆, F₆, K₆⟩ := kts_ground K F hBG hfl₆.1 ((hsm.trans hsm₅).trans hsm₆)
  exact wpAny_passesOwnAt hE (k h₆ g₆ T₆ F₆)
end
section
variable {A : Around} {R : Result → Shared → Prop} {env : Env} {K : Frag} {p : Program} {loose : List Str}
  {name qual : Str} {params : Arguments} {body : List Stmt} {scope : Scope} {dV kV doc pm cdv ct oc : Value} {an od : Option Addr} {osl : Array (Option Value)} {f : Addr} {args : Args} {binds : List (Str × Value)}
/-- a def entered in calm contexts, its end told as it is -/
theorem enterG0
    (B : Below A₀ base outer h₀) (F : Fr h₀ L s.heap m) (X₀ : K.In h₀) (N : News h₀ L s.heap news) (T : Top p loose mean mg mb h₀) (hA : A.frames = some (env :: outer)) (hf : env.frame = some L) (hke : env.scope.kind = .function)
    (ho : K.lookup f = some ⟨oc, od, .func (fnOf name qual params body scope dV kV doc pm an cdv ct), osl⟩) (hcd : codeIn K cdv qual = true) (hroom : A.depth < recursionLimit)
    (hbind : BindsTo s (fnOf name qual params body scope dV kV doc pm an cdv ct) args binds) (hloc : ∀ y ∈ binds, scope.names.lookup y.1 = some .local)
    (h : ∀ g L' h₁, Fr h₀ L g m → Fr g L' h₁ (fun y => binds.reverse.lookup y) → News g L' h₁ news → Below A base (env :: outer) g → K.In g → Top p loose mean mg mb g → GSub s.heap g (news.map (·.1)) →
      wpG (model PR w) (A.deeper (envOf qual scope L' f cdv)) (execs body (envOf qual scope L' f cdv))
        (fun fl s' => R (.ok (.ret (match fl with | .ret v => v | _ => .none))) s')
        (fun e s' => wpAny (model PR w) (A.deeper (envOf qual scope L' f cdv)) (leaving (envOf qual scope L' f cdv) e) (fun _ s'' => R (.error e) s'') (fun e' s'' => R (.error e') s'') s')
        { s with heap := h₁, toks := s.toks + binds.length })
    (hco : scope.isCoroutine = false) (hgen : scope.isGenerator = false) (hk : scope.kind = .function)
    (hcell : ∀ x ∈ scope.names, x.2 ≠ .cell) : codeG (model PR w) A (.call (.ref f) args) R s := by
  obtain ⟨FG, BG, st, lv⟩ := groundX (R := R) B F N hA hf hke
  refine codeG_call_function hroom ((X₀.keeps F.keep) _ _ ho) rfl hco hgen rfl (codeRec_of (X₀.keeps F.keep) hcd) (hbind _ _ _ _ ?_)
  refine wpAny_newFunctionEnv hcell hloc (fun h₁ hns hsb => ⟨(T.nolimit.keeps F.keep).fresh _ hsb, codeG_func ?_⟩) hk
  have hk₁ : ∀ b o, s.heap.get? b = some o → h₁.get? b = some o := fun b o e => hsb.extBut b o (Nat.ne_of_lt (Heap.lt_size e)) (Heap.get?_push_of_some _ e)
  exact h _ s.heap.objs.size h₁ FG ⟨hns, fun b o e => hk₁ b o (of_hideAll _ e), Nat.le_of_eq (hideAll_size _ _)⟩
    (fun p hp => ⟨hk₁ _ _ (N p hp).1, Nat.ne_of_lt (Heap.lt_size (N p hp).1), hideAll_none _ (List.mem_map_of_mem hp)⟩) BG (X₀.keeps st) (T.keeps st) (fun b o e n => hideAll_get _ e n)
end
end
end PartR11
section PartD2
local macro_rules | `(tactic| walk_at "pyIter bytes") => `(tactic| ((with_reducible show wpAny _ _ (pyIter (Value.bytes _ _)) _ _ _); refine Hold.stop ?_))
theorem off_D2 : True := by
  w_top off
  k_with_none
  k_with "LeaveK" => (with_reducible show LeaveK _ _ _ _ _ _ _; (rename GSub _ _ _ => zqkG'); (refine leaveS (by k_asm) zqkG' ?_); clear zqkG'; intro zqkE'; walk_say "KEEPS")
  k_with "call ref" => ((with_reducible show wpAny _ _ (call (Value.ref 98) [_, _]) _ _ _); k_dflt ((rename News _ _ _ _ => zqkN'); (rename DeckOK _ _ _ _ _ _ => zqkD'); (have zqkDn := DeckOK.ne zqkD'); (refine' draw ?k1 ?k2 ?k3 ?k4 ?kA ?kd ?ku ?kN zqkD' ?kk ?kb ?kc ?_; (case k1 => k_asm); (case k2 => k_asm); (case k3 => k_asm); (case k4 => k_asm); (case kA => first | exact rfl | assumption); (case kd => (first | decide | ((try simp only [depth_deeper, units_deeper, units_in1, depth_in1, ktrTop, Nat.add_assoc, Nat.reduceAdd]); (refine room_lt ?_ ?_; assumption; decide)) | ((try simp only [depth_deeper, units_deeper, ktrTop]); omega))); (case ku => (first | decide | ((try simp only [depth_deeper, units_deeper, units_in1, depth_in1, ktrTop, Nat.add_assoc, Nat.reduceAdd]); (refine room_lt ?_ ?_; assumption; decide)) | ((try simp only [depth_deeper, units_deeper, ktrTop]); omega))); (case kN => exact cb_drop (by k_asm) (by lcg_sub)); (case kk => omega); (case kb => omega); (case kc => omega); k_whole); (intro zqr9 zqt9 zqh9 zqtk9 zqo9 zqoc9 zqF9 zqN9 zqKB9 zqD9 zqhr0 zqhr1); (replace zqN9 := KeepBut.news2 zqKB9 zqkN' (by k_updF) (by (intro _; (try dsimp only); k_updF)) zqN9); (clear zqkN' zqkD' zqkDn); (try dsimp only at zqN9); (try dsimp only); (try k_fold)))
  k_with "call ref" => ((with_reducible show wpAny _ _ (call (Value.ref 105) [_, _]) _ _ _); k_dflt ((rename News _ _ _ _ => zqkN'); (rename DeckOK _ _ _ _ _ _ => zqkD'); (have zqkDn := DeckOK.ne zqkD'); (refine' pick ?k1 ?k2 ?k3 ?k4 ?kA ?kd ?ku ?kN zqkD' ?kk ?kb ?kc ?ld ?lc ?_; (case k1 => k_asm); (case k2 => k_asm); (case k3 => k_asm); (case k4 => k_asm); (case kA => first | exact rfl | assumption); (case kd => (first | decide | ((try simp only [depth_deeper, units_deeper, units_in1, depth_in1, ktrTop, Nat.add_assoc, Nat.reduceAdd]); (refine room_lt ?_ ?_; assumption; decide)) | ((try simp only [depth_deeper, units_deeper, ktrTop]); omega))); (case ku => (first | decide | ((try simp only [depth_deeper, units_deeper, units_in1, depth_in1, ktrTop, Nat.add_assoc, Nat.reduceAdd]); (refine room_lt ?_ ?_; assumption; decide)) | ((try simp only [depth_deeper, units_deeper, ktrTop]); omega))); (case kN => exact cb_drop (by k_asm) (by lcg_sub)); (case kk => omega); (case kb => first | decide | (simp only [List.length_append, List.length_cons, List.length_nil]; omega)); (case kc => first | decide | (simp only [List.length_append, List.length_cons, List.length_nil]; omega)); (case ld => omega); (case lc => omega); k_whole); (intro zqi9 zqhi9 zqh9 zqtk9 zqo9 zqoc9 zqF9 zqN9 zqKB9 zqD9); (replace zqN9 := KeepBut.news2 zqKB9 zqkN' (by k_updF) (by (intro _; (try dsimp only); k_updF)) (cb_drop zqN9 (by lcg_sub))); (clear zqkN' zqkD' zqkDn); (try dsimp only at zqN9); (try dsimp only); (try k_fold)))
  k_with "call ref" => ((with_reducible show wpAny _ _ (call (Value.ref 119) [_]) _ _ _); k_dflt ((rename News _ _ _ _ => zqkN'); (rename DeckOK _ _ _ _ _ _ => zqkD'); (have zqkDn := DeckOK.ne zqkD'); (refine' octet ?k1 ?k2 ?k3 ?k4 ?kA ?kd ?ku ?kN zqkD' ?kk ?_; (case k1 => k_asm); (case k2 => k_asm); (case k3 => k_asm); (case k4 => k_asm); (case kA => first | exact rfl | assumption); (case kd => (first | decide | ((try simp only [depth_deeper, units_deeper, units_in1, depth_in1, ktrTop, Nat.add_assoc, Nat.reduceAdd]); (refine room_lt ?_ ?_; assumption; decide)) | ((try simp only [depth_deeper, units_deeper, ktrTop]); omega))); (case ku => (first | decide | ((try simp only [depth_deeper, units_deeper, units_in1, depth_in1, ktrTop, Nat.add_assoc, Nat.reduceAdd]); (refine room_lt ?_ ?_; assumption; decide)) | ((try simp only [depth_deeper, units_deeper, ktrTop]); omega))); (case kN => exact cb_drop (by k_asm) (by lcg_sub)); (case kk => omega); k_whole); (intro zqr9 zqt9 zqh9 zqtk9 zqo9 zqoc9 zqF9 zqN9 zqKB9 zqD9 zqhr0 zqhr1); (replace zqN9 := KeepBut.news2 zqKB9 zqkN' (by k_updF) (by (intro _; (try dsimp only); k_updF)) zqN9); (clear zqkN' zqkD' zqkDn); (try dsimp only at zqN9); (try dsimp only); (try k_fold)))
  k_with "call ref" => ((with_reducible show wpAny _ _ (call (Value.ref 126) [_]) _ _ _); k_dflt ((rename News _ _ _ _ => zqkN'); (refine' figures ?k1 ?k2 ?k3 ?k4 ?kA ?kd ?ku ?kN ?kb ?kc ?_; (case k1 => k_asm); (case k2 => k_asm); (case k3 => k_asm); (case k4 => k_asm); (case kA => first | exact rfl | assumption); (case kd => (first | decide | ((try simp only [depth_deeper, units_deeper, units_in1, depth_in1, ktrTop, Nat.add_assoc, Nat.reduceAdd]); (refine room_lt ?_ ?_; assumption; decide)) | ((try simp only [depth_deeper, units_deeper, ktrTop]); omega))); (case ku => (first | decide | ((try simp only [depth_deeper, units_deeper, units_in1, depth_in1, ktrTop, Nat.add_assoc, Nat.reduceAdd]); (refine room_lt ?_ ?_; assumption; decide)) | ((try simp only [depth_deeper, units_deeper, ktrTop]); omega))); (case kN => exact cb_drop (by k_asm) (by lcg_sub)); (case kb => omega); (case kc => omega); k_whole); (intro zqb9 zqt9 zqh9 zqtk9 zqF9 zqKB9 zqE9); (have zqN9 := KeepBut.news0 zqKB9 zqkN'); (clear zqkN'); (try dsimp only); (try k_fold)))
  k_with "call ref" => ((with_reducible show wpAny _ _ (call (Value.ref 133) [_]) _ _ _); k_dflt ((rename News _ _ _ _ => zqkN'); (refine' isplain ?k1 ?k2 ?k3 ?k4 ?kA ?kd ?ku ?kN ?kb ?kc ?_; (case k1 => k_asm); (case k2 => k_asm); (case k3 => k_asm); (case k4 => k_asm); (case kA => first | exact rfl | assumption); (case kd => (first | decide | ((try simp only [depth_deeper, units_deeper, units_in1, depth_in1, ktrTop, Nat.add_assoc, Nat.reduceAdd]); (refine room_lt ?_ ?_; assumption; decide)) | ((try simp only [depth_deeper, units_deeper, ktrTop]); omega))); (case ku => (first | decide | ((try simp only [depth_deeper, units_deeper, units_in1, depth_in1, ktrTop, Nat.add_assoc, Nat.reduceAdd]); (refine room_lt ?_ ?_; assumption; decide)) | ((try simp only [depth_deeper, units_deeper, ktrTop]); omega))); (case kN => exact cb_drop (by k_asm) (by lcg_sub)); (case kb => omega); (case kc => omega); k_whole); (intro zqh9 zqtk9 zqF9 zqKB9); (have zqN9 := KeepBut.news0 zqKB9 zqkN'); (clear zqkN'); (try dsimp only); (try k_fold)))
  k_with "call ref" => ((with_reducible show wpAny _ _ (call (Value.ref 138) [_]) _ _ _); k_dflt ((rename News _ _ _ _ => zqkN'); (refine' written ?k1 ?k2 ?k3 ?k4 ?kA ?kd ?ku ?kN ?kb ?kc ?_; (case k1 => k_asm); (case k2 => k_asm); (case k3 => k_asm); (case k4 => k_asm); (case kA => first | exact rfl | assumption); (case kd => (first | decide | ((try simp only [depth_deeper, units_deeper, units_in1, depth_in1, ktrTop, Nat.add_assoc, Nat.reduceAdd]); (refine room_lt ?_ ?_; assumption; decide)) | ((try simp only [depth_deeper, units_deeper, ktrTop]); omega))); (case ku => (first | decide | ((try simp only [depth_deeper, units_deeper, units_in1, depth_in1, ktrTop, Nat.add_assoc, Nat.reduceAdd]); (refine room_lt ?_ ?_; assumption; decide)) | ((try simp only [depth_deeper, units_deeper, ktrTop]); omega))); (case kN => exact cb_drop (by k_asm) (by lcg_sub)); (case kb => omega); (case kc => omega); k_whole); (intro zqb9 zqt9 zqh9 zqtk9 zqF9 zqKB9 zqE9); (have zqN9 := KeepBut.news0 zqKB9 zqkN'); (clear zqkN'); (try dsimp only); (try k_fold)))
  k_with "call ref" => ((with_reducible show wpAny _ _ (call (Value.ref 145) [_, _]) _ _ _); k_dflt ((rename News _ _ _ _ => zqkN'); (rename DeckOK _ _ _ _ _ _ => zqkD'); (have zqkDn := DeckOK.ne zqkD'); (refine' told ?k1 ?k2 ?k3 ?k4 ?kA ?kd ?ku ?kN zqkD' ?kk ?kb ?kc ?_; (case k1 => k_asm); (case k2 => k_asm); (case k3 => k_asm); (case k4 => k_asm); (case kA => first | exact rfl | assumption); (case kd => (first | decide | ((try simp only [depth_deeper, units_deeper, units_in1, depth_in1, ktrTop, Nat.add_assoc, Nat.reduceAdd]); (refine room_lt ?_ ?_; assumption; decide)) | ((try simp only [depth_deeper, units_deeper, ktrTop]); omega))); (case ku => (first | decide | ((try simp only [depth_deeper, units_deeper, units_in1, depth_in1, ktrTop, Nat.add_assoc, Nat.reduceAdd]); (refine room_lt ?_ ?_; assumption; decide)) | ((try simp only [depth_deeper, units_deeper, ktrTop]); omega))); (case kN => exact cb_drop (by k_asm) (by lcg_sub)); (case kk => omega); (case kb => omega); (case kc => omega); k_whole); (intro zqb9 zqt9 zqh9 zqtk9 zqo9 zqoc9 zqF9 zqN9 zqKB9 zqD9 zqE9); (replace zqN9 := KeepBut.news2 zqKB9 zqkN' (by k_updF) (by (intro _; (try dsimp only); k_updF)) zqN9); (clear zqkN' zqkD' zqkDn); (try dsimp only at zqN9); (try dsimp only); (try k_fold)))
  k_with "getMethod bytes" => ((with_reducible refine method_join ?_))
  k_with "call builtin:bytes.join" => ((with_reducible show wpAny _ _ (call (Value.builtin "bytes.join") _) _ _ _); refine Hold.stop ?_)
  k_with "call ref" => ((with_reducible show wpAny _ _ (call (Value.ref 105) [_, _]) _ _ _); k_dflt ((rename News _ _ _ _ => zqkN'); (rename DeckOK _ _ _ _ _ _ => zqkD'); (have zqkDn := DeckOK.ne zqkD'); (refine' pickI ?k1 ?k2 ?k3 ?k4 ?kA ?kd ?ku ?kN zqkD' ?kk ?ki ?kv ?kb ?kc ?ld ?lc ?_; (case k1 => k_asm); (case k2 => k_asm); (case k3 => k_asm); (case k4 => k_asm); (case kA => first | exact rfl | assumption); (case kd => (first | decide | ((try simp only [depth_deeper, units_deeper, units_in1, depth_in1, ktrTop, Nat.add_assoc, Nat.reduceAdd]); (refine room_lt ?_ ?_; assumption; decide)) | ((try simp only [depth_deeper, units_deeper, ktrTop]); omega))); (case ku => (first | decide | ((try simp only [depth_deeper, units_deeper, units_in1, depth_in1, ktrTop, Nat.add_assoc, Nat.reduceAdd]); (refine room_lt ?_ ?_; assumption; decide)) | ((try simp only [depth_deeper, units_deeper, ktrTop]); omega))); (case kN => exact cb_drop (by k_asm) (by lcg_sub)); (case kk => omega); (case ki => first | l_ints | l_intsW); (case kv => decide); (case kb => (simp only [List.length_append, List.length_cons, List.length_nil]; omega)); (case kc => (simp only [List.length_append, List.length_cons, List.length_nil]; omega)); (case ld => omega); (case lc => omega); k_whole); (intro zqr9 zqt9 zqh9 zqtk9 zqo9 zqoc9 zqF9 zqN9 zqKB9 zqD9 zqhm9 zqhr0 zqhr1); (replace zqN9 := KeepBut.news2 zqKB9 zqkN' (by k_updF) (by (intro _; (try dsimp only); k_updF)) (cb_drop zqN9 (by lcg_sub))); (clear zqkN' zqkD' zqkDn); (try dsimp only at zqN9); (try dsimp only); (try k_fold)))
  k_with "call ref" => ((with_reducible show wpAny _ _ (call (Value.ref 157) [_, _]) _ _ _); k_dflt ((rename News _ _ _ _ => zqkN'); (rename DeckOK _ _ _ _ _ _ => zqkD'); (have zqkDn := DeckOK.ne zqkD'); (refine' faulty ?k1 ?k2 ?k3 ?k4 ?kA ?kd ?ku ?kN zqkD' ?kk ?kb ?kc ?_; (case k1 => k_asm); (case k2 => k_asm); (case k3 => k_asm); (case k4 => k_asm); (case kA => first | exact rfl | assumption); (case kd => (first | decide | ((try simp only [depth_deeper, units_deeper, units_in1, depth_in1, ktrTop, Nat.add_assoc, Nat.reduceAdd]); (refine room_lt ?_ ?_; assumption; decide)) | ((try simp only [depth_deeper, units_deeper, ktrTop]); omega))); (case ku => (first | decide | ((try simp only [depth_deeper, units_deeper, units_in1, depth_in1, ktrTop, Nat.add_assoc, Nat.reduceAdd]); (refine room_lt ?_ ?_; assumption; decide)) | ((try simp only [depth_deeper, units_deeper, ktrTop]); omega))); (case kN => exact cb_drop (by k_asm) (by lcg_sub)); (case kk => omega); (case kb => assumption); (case kc => omega); k_whole); (intro zqb9 zqt9 zqh9 zqtk9 zqo9 zqoc9 zqF9 zqN9 zqKB9 zqD9 zqE9); (replace zqN9 := KeepBut.news2 zqKB9 zqkN' (by k_updF) (by (intro _; (try dsimp only); k_updF)) zqN9); (clear zqkN' zqkD' zqkDn); (try dsimp only at zqN9); (try dsimp only); (try k_fold)))
  k_with "call ref" => ((with_reducible show wpAny _ _ (call (Value.ref 69) [_]) _ _ _); k_dflt ((rename News _ _ _ _ => zqkN'); (refine' mustq ?k1 ?k2 ?k3 ?k4 ?kA ?kd ?ku ?kN ?kb ?kc ?_; (case k1 => k_asm); (case k2 => k_asm); (case k3 => k_asm); (case k4 => k_asm); (case kA => first | exact rfl | assumption); (case kd => (first | decide | ((try simp only [depth_deeper, units_deeper, units_in1, depth_in1, ktrTop, Nat.add_assoc, Nat.reduceAdd]); (refine room_lt ?_ ?_; assumption; decide)) | ((try simp only [depth_deeper, units_deeper, ktrTop]); omega))); (case ku => (first | decide | ((try simp only [depth_deeper, units_deeper, units_in1, depth_in1, ktrTop, Nat.add_assoc, Nat.reduceAdd]); (refine room_lt ?_ ?_; assumption; decide)) | ((try simp only [depth_deeper, units_deeper, ktrTop]); omega))); (case kN => exact cb_drop (by k_asm) (by lcg_sub)); (case kb => omega); (case kc => omega); k_whole); (intro zqh9 zqtk9 zqF9 zqKB9); (have zqN9 := KeepBut.news0 zqKB9 zqkN'); (clear zqkN'); (try dsimp only); (try k_fold)))
  k_with "compareOp In int ref" => ((with_reducible show wpAny _ _ (compareOp CmpOp.In (Value.int _ _) (Value.ref 62)) _ _ _); k_dflt (first | (refine esc_in_some (by k_asm) (by k_asm) (by assumption) ?_) | (refine esc_in_none (by k_asm) (by k_asm) (by assumption) ?_)))
  k_with "subscriptTail" => ((with_reducible show wpAny _ _ (subscriptTail _ _ (Value.ref 62) (Value.int _ _)) _ _ _); k_dflt ((refine esc_item (by k_asm) (by k_asm) (by assumption) ?_ (by with_unfolding_all rfl)); intro zqb9 zqt9 zqE9))
  k_with "getMethod ref" => ((with_reducible show wpAny _ _ (getMethod (Value.ref _) (PySem.Str.ofString "append") _) _ _ _); (rename News _ _ _ _ => zqkN'); k_dflt (refine method_append (b := _) ((zqkN' _ (by first | exact .head _ | exact .tail _ (.head _) | exact .tail _ (.tail _ (.head _)))).1) ?_))
  k_with "call ref" => ((with_reducible show wpAny _ _ (call (Value.ref 61) [_]) _ _ _); k_dflt ((rename News _ _ _ _ => zqkN'); (refine' octal2 ?k1 ?k2 ?k3 ?k4 ?kA ?kd ?ku ?kN ?kb ?kc ?kO ?_; (case k1 => k_asm); (case k2 => k_asm); (case k3 => k_asm); (case k4 => k_asm); (case kA => first | exact rfl | assumption); (case kd => (first | decide | ((try simp only [depth_deeper, units_deeper, units_in1, depth_in1, ktrTop, Nat.add_assoc, Nat.reduceAdd]); (refine room_lt ?_ ?_; assumption; decide)) | ((try simp only [depth_deeper, units_deeper, ktrTop]); omega))); (case ku => (first | decide | ((try simp only [depth_deeper, units_deeper, units_in1, depth_in1, ktrTop, Nat.add_assoc, Nat.reduceAdd]); (refine room_lt ?_ ?_; assumption; decide)) | ((try simp only [depth_deeper, units_deeper, ktrTop]); omega))); (case kN => exact cb_drop (by k_asm) (by lcg_sub)); (case kb => assumption); (case kc => first | omega | (simp only [List.length_take, List.length_drop]; omega)); (case kO => assumption); k_whole); (intro zqt9 zqh9 zqtk9 zqF9 zqKB9); (have zqN9 := KeepBut.news0 zqKB9 zqkN'); (clear zqkN'); (try dsimp only [optV]); (try k_fold)))
  k_with "compareOp In int ref" => ((with_reducible show wpAny _ _ (compareOp CmpOp.In (Value.int _ _) (Value.ref _)) _ _ _); k_dflt (first | (refine names_in_some (by k_asm) (by k_mem) (by assumption) (by assumption) (by assumption) (by assumption) ?_) | (refine names_in_none (by k_asm) (by k_mem) (by assumption) (by assumption) (by assumption) (by assumption) ?_)))
  k_with "subscriptTail" => ((with_reducible show wpAny _ _ (subscriptTail _ _ (Value.ref _) (Value.int _ _)) _ _ _); k_dflt ((refine names_item (by k_asm) (by k_mem) (by assumption) (by assumption) (by assumption) ?_ (by with_unfolding_all rfl)); intro zqu9))
  k_with "subscriptTail" => ((with_reducible show wpAny _ _ (subscriptTail _ (Expr.Slice (some _) (some _) none _) (Value.bytes _ _) (Value.ref _)) _ _ _); (with_reducible rename Fr _ _ _ _ => zqF'); (with_reducible rename News _ _ _ _ => zqN'); k_dflt ((first | refine slice_A (s := ⟨_, _, _, _, _⟩) 1 zqF' zqN' (by kba_ints) (by kba_size) rfl (by omega) ?_ (by with_unfolding_all rfl) (by intro _; with_unfolding_all rfl) | refine slice_A (s := ⟨_, _, _, _, _⟩) 3 zqF' zqN' (by kba_ints) (by kba_size) rfl (by omega) ?_ (by with_unfolding_all rfl) (by intro _; with_unfolding_all rfl)); intro zqb9 zqh9 zqt9 zqk9 zqF9 zqN9 zqE9; (try (rename List.take 3 _ = _ => zqhr3'; rw [zqhr3'] at zqE9))))
  k_with "exec Raise some none" => ((with_reducible show wpAny _ _ (exec (Stmt.Raise _ _ _) _) _ _ _); refine Hold.stop ?_)
  k_with "eval ListComp" => ((with_reducible show wpAny _ _ (eval (Expr.ListComp _ _ _ _) _) _ _ _); refine Hold.stop ?_)
  trivial
theorem fill_D2m (w : World) (h₀ : Heap) (hX : (hd.heap_39 w.params).In h₀) : (hd.heap_39 w.params).In h₀ ∧ PySem.Challenge.rw_pb0084_01 = PySem.Challenge.rw_pb0084_01 := by
  k_fill
  exact ⟨hX, rfl⟩
section
variable {w : World} {mg mb : Str → Option Value} {mean : ExcName → Option Value} {dp un : Nat} {gd : Option (List Code)} {cn : Str} {cs : Scope} {L a : Addr} {ccd : Value} {cl : List (Str × Addr)} {outer : List Env} {A₀ : Around} {base h₀ : Heap} {m : Str → Option Value} {s : Shared} {Q E : Value → Shared → Prop} {news : List (Addr × Obj)}


/-- what holds at each turn of the while loop -/
noncomputable def PInv (g' : Heap) (L' : Addr) (s : Shared) (D dn : Addr) (on : Obj) (pb : Array UInt8) (t : Tok) (ks : List Int) (st : Option (List Int × List Int)) (k : Nat) (s' : Shared) : Prop :=
  ∃ (h' : Heap) (tk : Nat) (a f : Nat) (u : Tok) (buf : Array UInt8) (acc : List Int) (nv : Option Value) (m' : Str → Option Value), s' = { s with heap := h', toks := tk } ∧ k = ks.length + 1 - a ∧ a ≤ ks.length ∧ ks.length - a < f ∧
      m' = (fun y => if y = Str.ofString "at" then some (.int (a : Int) u) else if y = Str.ofString "number" then nv else if y = Str.ofString "found" then some (.ref D) else if y = Str.ofString "names" then some (.ref dn) else if y = Str.ofString "octets" then some (.bytes pb t) else none) ∧
      Fr g' L' h' m' ∧ News g' L' h' [(D, baOf buf), (dn, on)] ∧ KBw.bInts buf = acc ∧ acc.length ≤ a ∧ st = (unq f (ks.drop a)).map fun p => (acc ++ p.1, p.2)
theorem patch (B : Below A₀ base outer h₀) (F : Fr h₀ L s.heap m) (X : (hd.heap_39 w.params).In h₀) (T : Top hd.view_39 LS mean mg mb h₀) (hk : cs.kind = .function) (hdp : dp + 80 < recursionLimit) (hun : un + 2000 < cLine)
    {pb : Array UInt8} {ks : List Int} {t ta : Tok} {at0 : Int} (N : News h₀ L s.heap []) (hks : KBw.bInts pb = ks) (hkl : ks.length ≤ 100) (ha0 : 0 ≤ at0) (ha1 : at0 + 1 ≤ ks.length)
    (hret : ∀ (p r : List Int) (pos : Int) (b : Array UInt8) (u v : Tok) (D' : Addr) (h' : Heap) (tk' : Nat), unq (ks.length + 1) (ks.drop (at0.toNat + 1)) = some (p, r) → pos = (ks.length : Int) - r.length → Fr h₀ L h' m → News h₀ L h' [(D', { cls := .type "tuple", data := .seq #[.bytes b u, .int pos v] })] → KeepBut s.heap h' [] → KBw.bInts b = p → Q (.ref D') { s with heap := h', toks := tk' }) 
    (hexc : unq (ks.length + 1) (ks.drop (at0.toNat + 1)) = none → ∀ e g₁ h' tk', GSub s.heap g₁ [] → Fr h₀ L g₁ m → g₁.UpToSlots h' → RaisedSN base g₁ (envX cn cs L a ccd cl :: outer) e (.ref 45) [] h' → E (.ref e) { s with heap := h', toks := tk' }) :
    wpG (model PR w) (ktrTop dp un gd cn cs L a ccd cl outer) (call (.ref 79) [.bytes pb t, .int at0 ta]) Q E s := by
  refine wpG_call ?_
  k_dflt (refine' enterG ?k1 ?k2 ?k3 ?k4 ?k5 ?kA ?kF ?kK ?k6 ?k7 ?k8 ?k9 ?kB ?_ ?c2 ?c3 ?c4 ?c5; (case kA => exact rfl); (case kF => exact rfl); (case kK => assumption); (case k1 => k_asm); (case k2 => k_asm); (case k3 => k_asm); (case k4 => k_asm); (case k5 => k_asm); (case k6 => k_is); (case k7 => k_is); (case k8 => ktr_room); (case k9 => exact BindsTo.of_eq rfl); (case c5 => decide); (case kB => exact locs rfl); (case c2 => exact rfl); (case c3 => exact rfl); (case c4 => exact rfl); k_whole; intro g' L' h' FG' F' N' B' X' T' kG'; (try dsimp only); (try k_fold))

  refine wpG_nameP PassesOwn.leaving ?_
  intro Q' E' hQ hE hP
  refine execsG_any ?_
  k_fold
  k_steps
  refine Hold.go ?_
  rename Fr _ _ _ _ => lF'
  rename News _ _ _ _ => lN'
  k_dflt (refine ListComp_D lF' (by rfl) (by decide) (by rfl) (by decide) (by rfl) ?_)
  k_steps
  obtain ⟨o62, t0, t1, t2, t3, t4, t5, t6, t7, t8, ho62, hD62⟩ := esc_dict X'
  obtain ⟨ep62, hat62⟩ := (Heap.dictOf_iff.mpr ⟨o62, ho62, hD62⟩).dictAt
  refine ⟨62, escPairs t0 t1 t2 t3 t4 t5 t6 t7 t8, ep62, [], rfl, rfl, by decide, hat62, by k_asm, by k_asm, by rw [sizeLine_eq]; exact (by decide : 9 ≤ 16777216), ?_⟩
  intro gz
  refine comp_inv escKs rfl (esc_P t0 t1 t2 t3 t4 t5 t6 t7 t8) (fun _ => True) (fun _ => trivial) NamesJ ?_ ?_ _ 0 [] _ rfl ⟨[], .nil, rfl, fun j hj => absurd hj (Nat.not_lt_zero _)⟩
  · intro i k tk0 I oI C oC Dl ys nw m₂ h tk E'' Qv hJ hi hk0 hC hx lF lN off ne yes
    obtain ⟨l, hl, hkv⟩ := esc_at i k hk0
    k_steps
    rename KBw.bInts _ = _ => hE
    refine KBw.item_K hE (by simp) (by decide) (by simp) ?_
    k_steps
    rename News _ _ _ _ => kN9
    rename (_ < _) ∧ _ => kl
    exact yes _ _ _ _ (hJ.next hkv) (by k_asm) (news_rot kN9) ⟨⟨Nat.ne_of_gt kl.1, Nat.ne_of_gt kl.2.1, Nat.ne_of_gt kl.2.2.1⟩, off⟩
  · intro ys nw hJ Dl h tk lF lN off
    obtain ⟨kvs, hnv, hyl, hat⟩ := hJ
    rw [show namesKV.take escKs.length = namesKV from rfl] at hnv
    have hkeys := hnv.keys
    have hnlen : kvs.length = 9 := by have z := congrArg List.length hkeys; simpa [namesKV] using z
    k_steps
    refine dict_pairs (by k_asm) lN rfl (modules_low (Top.nolimit T')) (.head _) hyl (by rw [hkeys]; decide) (by omega) (fun j hj => by
      obtain ⟨a, k, t, v, q1, q2, q3⟩ := hat j hj
      exact ⟨a, k, t, v, q1, q2, .tail _ q3⟩) ?_
    intro dn on hn2 tkn lF2 lN2 ltn lon hDn
    have lN3 : News g' L' hn2 [(dn, on)] := fun p hp => by rw [List.mem_singleton.mp hp]; exact lN2 _ (.head _)
    clear lN2 ltn lN
    k_steps
    refine execsG_cons (Assign_NameG ?_)
    refine Call_NameG ?_
    k_steps
    refine callG_type0 ?_
    refine call_ba0 (by k_asm) (by k_asm) ?_
    intro D h3 F3 N3 lt3
    have lt3' : dn < D := lt3 _ (.head _)
    k_steps
    refine execsG_any ?_
    k_steps
    rename Fr _ _ _ _ => lF5
    rename News _ _ _ _ => lN5
    have hUp : ∀ b b' : Array UInt8, Upd D (baOf b) (baOf b') [(D, baOf b), (dn, on)] [(D, baOf b'), (dn, on)] := fun b b' => .head fun p hp => by rw [List.mem_singleton.mp hp]; exact (Nat.ne_of_lt lt3')
    refine execsG_cons (WhileG (codeG_whileLoop (PInv g' L' s D dn on pb t ks (unq (ks.length + 1) (ks.drop (at0.toNat + 1)))) ?_ (ks.length + 1 - (at0.toNat + 1)) ?_))
    · intro k s' hI
      obtain ⟨h', tk, a, f, u, buf, acc, nv, m', rfl, rfl, ha, hf, hm', lF6, lN6, hbuf, hacc, hR⟩ := hI
      subst hm'
      refine wpAny_name ?_
      intro QT ET hQT hET
      k_steps
      · refine hQT _ _ ?_
        (try dsimp only)
        rw [if_pos rfl]
        refine wpG_name ?_
        intro Q2 E2 hQ2 hE2
        rename List.getD _ _ _ ≠ 34 => hc34
        rename (a : Int) < _ => hlt
        have hlt' : a < ks.length := by omega
        have hdrop : ks.drop a = ks.getD a 0 :: ks.drop (a + 1) := by rw [List.drop_eq_getElem_cons hlt', List.getD_eq_getElem?_getD]; simp [hlt']
        obtain ⟨f', rfl⟩ : ∃ f', f = f' + 1 := ⟨f - 1, by omega⟩
        rw [hdrop] at hR
        rw [Int.toNat_natCast] at hc34
        have hcin : 0 ≤ ks.getD a 0 ∧ ks.getD a 0 < 256 := KBw.getD_in fun k hk => KBw.ints_in (hks ▸ hk)
        refine execsG_cons (IfG (wpG_any ?_))
        k_steps
        · rename List.getD _ _ _ ≠ 92 => hc92
          rw [Int.toNat_natCast] at hc92
          refine execsG_cons (ExprG (MethodCallG ?_))
          k_steps
          refine callG_builtin ?_
          k_steps
          refine append_ba (by k_asm) (by k_asm) (hUp _ _) (by assumption) (by assumption) (by have z := congrArg List.length hbuf; rw [KBw.ints_length] at z; omega) ?_
          intro h8 lF8 lN8
          (try dsimp only)
          refine execsG_any ?_
          k_steps
          refine execsG_nil ?_
          (try dsimp only)
          refine execsG_nil ?_
          (try dsimp only)
          refine hQ2 _ _ ?_
          (try dsimp only)
          refine ⟨ks.length + 1 - (a + 1), by omega, ?_⟩
          rename Fr _ _ _ _ => lF9
          rename News _ _ _ _ => lN9
          obtain ⟨u9, lF9'⟩ := at_next (n := a + 1) lF9 rfl
          refine ⟨_, _, a + 1, f', u9, buf.push (ks.getD a 0).toNat.toUInt8, acc ++ [ks.getD a 0], nv, _, rfl, rfl, by omega, by omega, rfl, lF9', lN9, ?_, ?_, ?_⟩
          · exact (push_ints hcin.1 hcin.2).trans (by rw [hbuf])
          · simp only [List.length_append, List.length_singleton]; omega
          · rw [hR, unq_plain hc34 hc92, map_app]
        · rename List.getD _ _ _ = 92 => hc92
          rw [Int.toNat_natCast] at hc92
          have hgx : (ks.drop (a + 1)).head? = ks[a + 1]? := by rw [List.head?_drop]
          cases hnm : (ks.drop (a + 1)).head?.bind nameOf with
          | some v =>
            have hlt2 : a + 1 < ks.length := by
              rw [hgx] at hnm
              cases hq : ks[a + 1]? with
              | none => rw [hq] at hnm; cases hnm
              | some x => exact (List.getElem?_eq_some_iff.mp hq).1
            have hnm2 : nameOf (ks.getD (a + 1) 0) = some v := by
              rw [hgx, List.getElem?_eq_getElem hlt2] at hnm
              rw [List.getD_eq_getElem?_getD, List.getElem?_eq_getElem hlt2]
              exact hnm
            have hnm3 : nameOf (ks.getD ((a : Int) + 1).toNat 0) = some v := hnm2
            refine execsG_cons (IfG (wpG_any ?_))
            k_steps
            · refine execsG_cons (ExprG (MethodCallG ?_))
              k_steps
              refine callG_builtin ?_
              k_steps
              rename News _ _ _ _ => lN9
              refine append_ba (by k_asm) (by k_asm) (hUp _ _) (nameOf_in hnm2).1 (nameOf_in hnm2).2 (by have z := congrArg List.length hbuf; rw [KBw.ints_length] at z; omega) ?_
              intro h8 lF8 lN8
              (try dsimp only)
              refine execsG_any ?_
              k_steps
              refine execsG_nil ?_
              (try dsimp only)
              refine execsG_nil ?_
              (try dsimp only)
              refine execsG_nil ?_
              (try dsimp only)
              refine hQ2 _ _ ?_
              (try dsimp only)
              refine ⟨ks.length + 1 - (a + 2), by omega, ?_⟩
              rename Fr _ _ _ _ => lF10
              rename News _ _ _ _ => lN10
              obtain ⟨u9, lF9'⟩ := at_next (n := a + 2) lF10 rfl
              refine ⟨_, _, a + 2, f', u9, buf.push v.toNat.toUInt8, acc ++ [v], nv, _, rfl, rfl, by omega, by omega, rfl, lF9', lN10, ?_, ?_, ?_⟩
              · exact (push_ints (nameOf_in hnm2).1 (nameOf_in hnm2).2).trans (by rw [hbuf])
              · simp only [List.length_append, List.length_singleton]; omega
              · rw [hR, hc92, unq_name hnm, map_app, List.drop_drop]
            · rename (_ != _) = false => hx
              rename KBw.bInts _ = List.take 1 _ => hE
              exfalso
              rw [ne_empty hE] at hx
              simp at hx
              omega
          | none =>
            refine execsG_cons (IfG_cut (fun _ => False) (fun s' => Hold (∃ (h : Heap) (tk : Nat), s' = { s with heap := h, toks := tk } ∧ Fr g' L' h (fun y => if y = Str.ofString "at" then some (.int (a : Int) u) else if y = Str.ofString "number" then nv else if y = Str.ofString "found" then some (.ref D) else if y = Str.ofString "names" then some (.ref dn) else if y = Str.ofString "octets" then some (.bytes pb t) else none) ∧ News g' L' h [(D, baOf buf), (dn, on)])) ?_ (fun _ x => x.elim) ?_)
            · k_steps
              · rename (_ != _) = true => hx
                rename KBw.bInts _ = List.take 1 _ => hE'
                rw [ne_empty hE'] at hx
                have hlt2 : a + 1 < ks.length := by
                  have hx' := of_decide_eq_true hx
                  by_cases hq : a + 1 < ks.length
                  · exact hq
                  · exact absurd (by rw [List.drop_of_length_le (by omega)]; rfl) hx'
                have hnm2 : nameOf (ks.getD (a + 1) 0) = none := by
                  rw [hgx, List.getElem?_eq_getElem hlt2] at hnm
                  rw [List.getD_eq_getElem?_getD, List.getElem?_eq_getElem hlt2]
                  exact hnm
                have hnm3 : nameOf (ks.getD ((a : Int) + 1).toNat 0) = none := hnm2
                k_steps
                exact Hold.go ⟨_, _, rfl, by k_asm, by k_asm⟩
              · exact Hold.go ⟨_, _, rfl, by k_asm, by k_asm⟩
            clear lF6 lN6
            intro s2 hh
            obtain ⟨h2, tk2, rfl, lF6, lN6⟩ := Hold.stop hh
            obtain ⟨r3, hr3⟩ : ∃ r, (ks.drop (a + 1)).take 3 = r := ⟨_, rfl⟩
            have hl3 : r3.length ≤ 3 := by rw [← hr3]; exact List.length_take_le _ _
            have hR2 : unq (ks.length + 1) (ks.drop (at0.toNat + 1)) = (Option.map (fun (p : List Int × List Int) => (acc ++ p.1, p.2)) (match octNum r3 with
                  | some v => if r3.length = 3 ∧ v ≤ 255 then (unq f' ((ks.drop (a + 1)).drop 3)).map (fun (p : List Int × List Int) => (v :: p.1, p.2)) else none
                  | none => none)) := by
                  rw [hR, hc92, unq_oct hnm, hr3]
                  try congr 1
            rcases opt_or (octNum r3) with hO | ⟨v, hO⟩
            · have hnone : unq (ks.length + 1) (ks.drop (at0.toNat + 1)) = none := by rw [hR2, hO]; rfl
              refine execsG_any ?_
              k_steps
              refine execsG_cons (IfG_cut (fun s' => Hold (∃ (h : Heap) (tk : Nat) (m' : Str → Option Value), s' = { s with heap := h, toks := tk } ∧ Fr g' L' h m' ∧ News g' L' h [(D, baOf buf), (dn, on)])) (fun _ => False) ?_ ?_ (fun _ x => x.elim))
              · k_steps
                all_goals exact Hold.go ⟨_, _, _, rfl, by k_asm, by k_asm⟩
              intro s3 hh
              obtain ⟨h3, tk3, m3, rfl, rF, rN⟩ := Hold.stop hh
              refine execsG_cons (wpG_any ?_)
              refine raise_bad B' rF X' T' rfl (by (first | decide | ((try simp only [depth_deeper, units_deeper, units_in1, depth_in1, ktrTop, Nat.add_assoc, Nat.reduceAdd]); (refine room_lt ?_ ?_; assumption; decide)) | ((try simp only [depth_deeper, units_deeper, ktrTop]); omega))) (by (first | decide | ((try simp only [depth_deeper, units_deeper, units_in1, depth_in1, ktrTop, Nat.add_assoc, Nat.reduceAdd]); (refine room_lt ?_ ?_; assumption; decide)) | ((try simp only [depth_deeper, units_deeper, ktrTop]); omega))) rN (by k_is) rfl (by decide) ?_
              intro e9 oe9 tp9 h9 tk9 F9 N9 KB9 fr9 he9 hc9 hd9
              refine hE2 _ _ (hP _ _ (hE _ _ ?_))
              refine leave_badS B' (fun b o q => KB9 b o q (by simp)) fr9 he9 hc9 hd9 rF ?_
              intro h10 R10 U10
              exact hexc hnone _ _ _ _ kG' FG' U10 R10
            · have hv0 := octNum_pos hO
              have hlt4' : r3.length = 3 → a + 4 ≤ ks.length := fun h3 => by
                have z := congrArg List.length hr3
                rw [h3, List.length_take, List.length_drop] at z
                omega
              refine execsG_any ?_
              k_steps
              by_cases hok : r3.length = 3 ∧ v ≤ 255
              · refine execsG_cons (IfG_cut (fun _ => False) (fun s' => Hold (∃ (h : Heap) (tk : Nat) (u9 : Tok), s' = { s with heap := h, toks := tk } ∧ Fr g' L' h (fun y => if y = Str.ofString "number" then some (.int v u9) else if y = Str.ofString "at" then some (.int (a : Int) u) else if y = Str.ofString "number" then nv else if y = Str.ofString "found" then some (.ref D) else if y = Str.ofString "names" then some (.ref dn) else if y = Str.ofString "octets" then some (.bytes pb t) else none) ∧ News g' L' h [(D, baOf buf), (dn, on)])) ?_ (fun _ x => x.elim) ?_)
                · k_steps
                  all_goals first | omega | skip
                  exact Hold.go ⟨_, _, _, rfl, by k_asm, by k_asm⟩
                try clear lF6
                try clear lN6
                intro s3 hh
                obtain ⟨h3, tk3, u8, rfl, lF6, lN6⟩ := Hold.stop hh
                have hR3 : unq (ks.length + 1) (ks.drop (at0.toNat + 1)) = (unq f' (ks.drop (a + 4))).map fun p => ((acc ++ [v]) ++ p.1, p.2) := by
                  rw [hR2, hO]; dsimp only; rw [if_pos hok, map_app, List.drop_drop]
                have hlt4 : a + 4 ≤ ks.length := hlt4' hok.1
                refine execsG_nil ?_
                (try dsimp only)
                refine execsG_cons (ExprG (MethodCallG ?_))
                k_steps
                refine callG_builtin ?_
                k_steps
                refine append_ba (by k_asm) (by k_asm) (hUp _ _) hv0 (by omega) (by have z := congrArg List.length hbuf; rw [KBw.ints_length] at z; omega) ?_
                intro h8 lF8 lN8
                (try dsimp only)
                refine execsG_any ?_
                k_steps
                refine execsG_nil ?_
                (try dsimp only)
                refine execsG_nil ?_
                (try dsimp only)
                refine execsG_nil ?_
                (try dsimp only)
                refine hQ2 _ _ ?_
                (try dsimp only)
                refine ⟨ks.length + 1 - (a + 4), by omega, ?_⟩
                rename Fr _ _ _ _ => lF10
                rename News _ _ _ _ => lN10
                obtain ⟨u9, lF9'⟩ := at_next2 (n := a + 4) lF10 rfl
                refine ⟨_, _, a + 4, f', u9, buf.push v.toNat.toUInt8, acc ++ [v], _, _, rfl, rfl, by omega, by omega, rfl, lF9', lN10, ?_, ?_, hR3⟩
                · exact (push_ints hv0 (by omega)).trans (by rw [hbuf])
                · simp only [List.length_append, List.length_singleton]; omega
              · have hnone : unq (ks.length + 1) (ks.drop (at0.toNat + 1)) = none := by rw [hR2, hO]; dsimp only; rw [if_neg hok]; rfl
                refine execsG_cons (IfG_cut (fun s' => Hold (∃ (h : Heap) (tk : Nat) (m' : Str → Option Value), s' = { s with heap := h, toks := tk } ∧ Fr g' L' h m' ∧ News g' L' h [(D, baOf buf), (dn, on)])) (fun _ => False) ?_ ?_ (fun _ x => x.elim))
                · k_steps
                  all_goals first | exact Hold.go ⟨_, _, _, rfl, by k_asm, by k_asm⟩ | omega
                intro s3 hh
                obtain ⟨h3, tk3, m3, rfl, rF, rN⟩ := Hold.stop hh
                refine execsG_cons (wpG_any ?_)
                refine raise_bad B' rF X' T' rfl (by (first | decide | ((try simp only [depth_deeper, units_deeper, units_in1, depth_in1, ktrTop, Nat.add_assoc, Nat.reduceAdd]); (refine room_lt ?_ ?_; assumption; decide)) | ((try simp only [depth_deeper, units_deeper, ktrTop]); omega))) (by (first | decide | ((try simp only [depth_deeper, units_deeper, units_in1, depth_in1, ktrTop, Nat.add_assoc, Nat.reduceAdd]); (refine room_lt ?_ ?_; assumption; decide)) | ((try simp only [depth_deeper, units_deeper, ktrTop]); omega))) rN (by k_is) rfl (by decide) ?_
                intro e9 oe9 tp9 h9 tk9 F9 N9 KB9 fr9 he9 hc9 hd9
                refine hE2 _ _ (hP _ _ (hE _ _ ?_))
                refine leave_badS B' (fun b o q => KB9 b o q (by simp)) fr9 he9 hc9 hd9 rF ?_
                intro h10 R10 U10
                exact hexc hnone _ _ _ _ kG' FG' U10 R10
      · refine hQT _ _ ?_
        (try dsimp only)
        rw [if_neg (by decide)]
        k_steps
        rename List.getD _ _ _ = 34 => hc34
        rename (a : Int) < _ => hlt
        have hlt' : a < ks.length := by omega
        have hdrop : ks.drop a = ks.getD a 0 :: ks.drop (a + 1) := by rw [List.drop_eq_getElem_cons hlt', List.getD_eq_getElem?_getD]; simp [hlt']
        obtain ⟨f', rfl⟩ : ∃ f', f = f' + 1 := ⟨f - 1, by omega⟩
        rw [Int.toNat_natCast] at hc34
        have hR2 : unq (ks.length + 1) (ks.drop (at0.toNat + 1)) = some (acc, ks.drop (a + 1)) := by
          rw [hR, hdrop, hc34]; simp [unq]
        (try dsimp only)
        refine execsG_cons (IfG (wpG_any ?_))
        k_steps
        refine execsG_nil ?_
        (try dsimp only)
        refine execsG_any ?_
        k_steps
        rename News _ _ _ _ => lN7
        refine bytes_ba (lN7 _ (.head _)).1 (by have z := congrArg List.length hbuf; rw [KBw.ints_length] at z; omega) ?_
        intro t8 k8
        k_steps
        refine hQ _ _ ?_
        k_steps
        refine hret acc _ _ buf _ _ _ _ _ hR2 ?_ (by k_asm) (cb_drop (by k_asm) (by lcg_sub)) (by k_asm) hbuf
        simp only [List.length_drop]; omega
      · refine hQT _ _ ?_
        (try dsimp only)
        rw [if_neg (by decide)]
        k_steps
        rename ¬ (a : Int) < _ => hlt
        have hnone : unq (ks.length + 1) (ks.drop (at0.toNat + 1)) = none := by
          rw [hR, List.drop_of_length_le (by omega)]
          cases f <;> rfl
        (try dsimp only)
        refine execsG_cons (IfG (wpG_any ?_))
        k_steps
        rename Fr _ _ _ _ => rF
        rename News _ _ _ _ => rN
        refine execsG_cons (wpG_any ?_)
        refine raise_bad B' rF X' T' rfl (by (first | decide | ((try simp only [depth_deeper, units_deeper, units_in1, depth_in1, ktrTop, Nat.add_assoc, Nat.reduceAdd]); (refine room_lt ?_ ?_; assumption; decide)) | ((try simp only [depth_deeper, units_deeper, ktrTop]); omega))) (by (first | decide | ((try simp only [depth_deeper, units_deeper, units_in1, depth_in1, ktrTop, Nat.add_assoc, Nat.reduceAdd]); (refine room_lt ?_ ?_; assumption; decide)) | ((try simp only [depth_deeper, units_deeper, ktrTop]); omega))) rN (by k_is) rfl (by decide) ?_
        intro e9 oe9 tp9 h9 tk9 F9 N9 KB9 fr9 he9 hc9 hd9
        refine hE _ _ ?_
        refine leave_badS B' (fun b o q => KB9 b o q (by simp)) fr9 he9 hc9 hd9 rF ?_
        intro h10 R10 U10
        exact hexc hnone _ _ _ _ kG' FG' U10 R10
    · obtain ⟨u9, lF9'⟩ := at_start (n := at0.toNat + 1) lF5 (by omega)
      refine ⟨_, _, at0.toNat + 1, ks.length + 1, u9, #[], [], none, _, rfl, rfl, by omega, by omega, rfl, lF9', lN5, rfl, by simp, ?_⟩
      cases unq (ks.length + 1) (ks.drop (at0.toNat + 1)) <;> simp
end
end PartD2
section PartU1
local macro_rules | `(tactic| walk_at "pyIter bytes") => `(tactic| ((with_reducible show wpAny _ _ (pyIter (Value.bytes _ _)) _ _ _); refine Hold.stop ?_))
theorem off_U1 : True := by
  w_top off
  k_with_none
  k_with "LeaveK" => (with_reducible show LeaveK _ _ _ _ _ _ _; (rename GSub _ _ _ => zqkG'); (refine leaveS (by k_asm) zqkG' ?_); clear zqkG'; intro zqkE'; walk_say "KEEPS")
  k_with "call ref" => ((with_reducible show wpAny _ _ (call (Value.ref 98) [_, _]) _ _ _); k_dflt ((rename News _ _ _ _ => zqkN'); (rename DeckOK _ _ _ _ _ _ => zqkD'); (have zqkDn := DeckOK.ne zqkD'); (refine' draw ?k1 ?k2 ?k3 ?k4 ?kA ?kd ?ku ?kN zqkD' ?kk ?kb ?kc ?_; (case k1 => k_asm); (case k2 => k_asm); (case k3 => k_asm); (case k4 => k_asm); (case kA => first | exact rfl | assumption); (case kd => (first | decide | ((try simp only [depth_deeper, units_deeper, units_in1, depth_in1, ktrTop, Nat.add_assoc, Nat.reduceAdd]); (refine room_lt ?_ ?_; assumption; decide)) | ((try simp only [depth_deeper, units_deeper, ktrTop]); omega))); (case ku => (first | decide | ((try simp only [depth_deeper, units_deeper, units_in1, depth_in1, ktrTop, Nat.add_assoc, Nat.reduceAdd]); (refine room_lt ?_ ?_; assumption; decide)) | ((try simp only [depth_deeper, units_deeper, ktrTop]); omega))); (case kN => exact cb_drop (by k_asm) (by lcg_sub)); (case kk => omega); (case kb => omega); (case kc => omega); k_whole); (intro zqr9 zqt9 zqh9 zqtk9 zqo9 zqoc9 zqF9 zqN9 zqKB9 zqD9 zqhr0 zqhr1); (replace zqN9 := KeepBut.news2 zqKB9 zqkN' (by k_updF) (by (intro _; (try dsimp only); k_updF)) zqN9); (clear zqkN' zqkD' zqkDn); (try dsimp only at zqN9); (try dsimp only); (try k_fold)))
  k_with "call ref" => ((with_reducible show wpAny _ _ (call (Value.ref 105) [_, _]) _ _ _); k_dflt ((rename News _ _ _ _ => zqkN'); (rename DeckOK _ _ _ _ _ _ => zqkD'); (have zqkDn := DeckOK.ne zqkD'); (refine' pick ?k1 ?k2 ?k3 ?k4 ?kA ?kd ?ku ?kN zqkD' ?kk ?kb ?kc ?ld ?lc ?_; (case k1 => k_asm); (case k2 => k_asm); (case k3 => k_asm); (case k4 => k_asm); (case kA => first | exact rfl | assumption); (case kd => (first | decide | ((try simp only [depth_deeper, units_deeper, units_in1, depth_in1, ktrTop, Nat.add_assoc, Nat.reduceAdd]); (refine room_lt ?_ ?_; assumption; decide)) | ((try simp only [depth_deeper, units_deeper, ktrTop]); omega))); (case ku => (first | decide | ((try simp only [depth_deeper, units_deeper, units_in1, depth_in1, ktrTop, Nat.add_assoc, Nat.reduceAdd]); (refine room_lt ?_ ?_; assumption; decide)) | ((try simp only [depth_deeper, units_deeper, ktrTop]); omega))); (case kN => exact cb_drop (by k_asm) (by lcg_sub)); (case kk => omega); (case kb => first | decide | (simp only [List.length_append, List.length_cons, List.length_nil]; omega)); (case kc => first | decide | (simp only [List.length_append, List.length_cons, List.length_nil]; omega)); (case ld => omega); (case lc => omega); k_whole); (intro zqi9 zqhi9 zqh9 zqtk9 zqo9 zqoc9 zqF9 zqN9 zqKB9 zqD9); (replace zqN9 := KeepBut.news2 zqKB9 zqkN' (by k_updF) (by (intro _; (try dsimp only); k_updF)) (cb_drop zqN9 (by lcg_sub))); (clear zqkN' zqkD' zqkDn); (try dsimp only at zqN9); (try dsimp only); (try k_fold)))
  k_with "call ref" => ((with_reducible show wpAny _ _ (call (Value.ref 119) [_]) _ _ _); k_dflt ((rename News _ _ _ _ => zqkN'); (rename DeckOK _ _ _ _ _ _ => zqkD'); (have zqkDn := DeckOK.ne zqkD'); (refine' octet ?k1 ?k2 ?k3 ?k4 ?kA ?kd ?ku ?kN zqkD' ?kk ?_; (case k1 => k_asm); (case k2 => k_asm); (case k3 => k_asm); (case k4 => k_asm); (case kA => first | exact rfl | assumption); (case kd => (first | decide | ((try simp only [depth_deeper, units_deeper, units_in1, depth_in1, ktrTop, Nat.add_assoc, Nat.reduceAdd]); (refine room_lt ?_ ?_; assumption; decide)) | ((try simp only [depth_deeper, units_deeper, ktrTop]); omega))); (case ku => (first | decide | ((try simp only [depth_deeper, units_deeper, units_in1, depth_in1, ktrTop, Nat.add_assoc, Nat.reduceAdd]); (refine room_lt ?_ ?_; assumption; decide)) | ((try simp only [depth_deeper, units_deeper, ktrTop]); omega))); (case kN => exact cb_drop (by k_asm) (by lcg_sub)); (case kk => omega); k_whole); (intro zqr9 zqt9 zqh9 zqtk9 zqo9 zqoc9 zqF9 zqN9 zqKB9 zqD9 zqhr0 zqhr1); (replace zqN9 := KeepBut.news2 zqKB9 zqkN' (by k_updF) (by (intro _; (try dsimp only); k_updF)) zqN9); (clear zqkN' zqkD' zqkDn); (try dsimp only at zqN9); (try dsimp only); (try k_fold)))
  k_with "call ref" => ((with_reducible show wpAny _ _ (call (Value.ref 126) [_]) _ _ _); k_dflt ((rename News _ _ _ _ => zqkN'); (refine' figures ?k1 ?k2 ?k3 ?k4 ?kA ?kd ?ku ?kN ?kb ?kc ?_; (case k1 => k_asm); (case k2 => k_asm); (case k3 => k_asm); (case k4 => k_asm); (case kA => first | exact rfl | assumption); (case kd => (first | decide | ((try simp only [depth_deeper, units_deeper, units_in1, depth_in1, ktrTop, Nat.add_assoc, Nat.reduceAdd]); (refine room_lt ?_ ?_; assumption; decide)) | ((try simp only [depth_deeper, units_deeper, ktrTop]); omega))); (case ku => (first | decide | ((try simp only [depth_deeper, units_deeper, units_in1, depth_in1, ktrTop, Nat.add_assoc, Nat.reduceAdd]); (refine room_lt ?_ ?_; assumption; decide)) | ((try simp only [depth_deeper, units_deeper, ktrTop]); omega))); (case kN => exact cb_drop (by k_asm) (by lcg_sub)); (case kb => omega); (case kc => omega); k_whole); (intro zqb9 zqt9 zqh9 zqtk9 zqF9 zqKB9 zqE9); (have zqN9 := KeepBut.news0 zqKB9 zqkN'); (clear zqkN'); (try dsimp only); (try k_fold)))
  k_with "call ref" => ((with_reducible show wpAny _ _ (call (Value.ref 133) [_]) _ _ _); k_dflt ((rename News _ _ _ _ => zqkN'); (refine' isplain ?k1 ?k2 ?k3 ?k4 ?kA ?kd ?ku ?kN ?kb ?kc ?_; (case k1 => k_asm); (case k2 => k_asm); (case k3 => k_asm); (case k4 => k_asm); (case kA => first | exact rfl | assumption); (case kd => (first | decide | ((try simp only [depth_deeper, units_deeper, units_in1, depth_in1, ktrTop, Nat.add_assoc, Nat.reduceAdd]); (refine room_lt ?_ ?_; assumption; decide)) | ((try simp only [depth_deeper, units_deeper, ktrTop]); omega))); (case ku => (first | decide | ((try simp only [depth_deeper, units_deeper, units_in1, depth_in1, ktrTop, Nat.add_assoc, Nat.reduceAdd]); (refine room_lt ?_ ?_; assumption; decide)) | ((try simp only [depth_deeper, units_deeper, ktrTop]); omega))); (case kN => exact cb_drop (by k_asm) (by lcg_sub)); (case kb => omega); (case kc => omega); k_whole); (intro zqh9 zqtk9 zqF9 zqKB9); (have zqN9 := KeepBut.news0 zqKB9 zqkN'); (clear zqkN'); (try dsimp only); (try k_fold)))
  k_with "call ref" => ((with_reducible show wpAny _ _ (call (Value.ref 138) [_]) _ _ _); k_dflt ((rename News _ _ _ _ => zqkN'); (refine' written ?k1 ?k2 ?k3 ?k4 ?kA ?kd ?ku ?kN ?kb ?kc ?_; (case k1 => k_asm); (case k2 => k_asm); (case k3 => k_asm); (case k4 => k_asm); (case kA => first | exact rfl | assumption); (case kd => (first | decide | ((try simp only [depth_deeper, units_deeper, units_in1, depth_in1, ktrTop, Nat.add_assoc, Nat.reduceAdd]); (refine room_lt ?_ ?_; assumption; decide)) | ((try simp only [depth_deeper, units_deeper, ktrTop]); omega))); (case ku => (first | decide | ((try simp only [depth_deeper, units_deeper, units_in1, depth_in1, ktrTop, Nat.add_assoc, Nat.reduceAdd]); (refine room_lt ?_ ?_; assumption; decide)) | ((try simp only [depth_deeper, units_deeper, ktrTop]); omega))); (case kN => exact cb_drop (by k_asm) (by lcg_sub)); (case kb => omega); (case kc => omega); k_whole); (intro zqb9 zqt9 zqh9 zqtk9 zqF9 zqKB9 zqE9); (have zqN9 := KeepBut.news0 zqKB9 zqkN'); (clear zqkN'); (try dsimp only); (try k_fold)))
  k_with "call ref" => ((with_reducible show wpAny _ _ (call (Value.ref 145) [_, _]) _ _ _); k_dflt ((rename News _ _ _ _ => zqkN'); (rename DeckOK _ _ _ _ _ _ => zqkD'); (have zqkDn := DeckOK.ne zqkD'); (refine' told ?k1 ?k2 ?k3 ?k4 ?kA ?kd ?ku ?kN zqkD' ?kk ?kb ?kc ?_; (case k1 => k_asm); (case k2 => k_asm); (case k3 => k_asm); (case k4 => k_asm); (case kA => first | exact rfl | assumption); (case kd => (first | decide | ((try simp only [depth_deeper, units_deeper, units_in1, depth_in1, ktrTop, Nat.add_assoc, Nat.reduceAdd]); (refine room_lt ?_ ?_; assumption; decide)) | ((try simp only [depth_deeper, units_deeper, ktrTop]); omega))); (case ku => (first | decide | ((try simp only [depth_deeper, units_deeper, units_in1, depth_in1, ktrTop, Nat.add_assoc, Nat.reduceAdd]); (refine room_lt ?_ ?_; assumption; decide)) | ((try simp only [depth_deeper, units_deeper, ktrTop]); omega))); (case kN => exact cb_drop (by k_asm) (by lcg_sub)); (case kk => omega); (case kb => omega); (case kc => omega); k_whole); (intro zqb9 zqt9 zqh9 zqtk9 zqo9 zqoc9 zqF9 zqN9 zqKB9 zqD9 zqE9); (replace zqN9 := KeepBut.news2 zqKB9 zqkN' (by k_updF) (by (intro _; (try dsimp only); k_updF)) zqN9); (clear zqkN' zqkD' zqkDn); (try dsimp only at zqN9); (try dsimp only); (try k_fold)))
  k_with "getMethod bytes" => ((with_reducible refine method_join ?_))
  k_with "call builtin:bytes.join" => ((with_reducible show wpAny _ _ (call (Value.builtin "bytes.join") _) _ _ _); refine Hold.stop ?_)
  k_with "call ref" => ((with_reducible show wpAny _ _ (call (Value.ref 105) [_, _]) _ _ _); k_dflt ((rename News _ _ _ _ => zqkN'); (rename DeckOK _ _ _ _ _ _ => zqkD'); (have zqkDn := DeckOK.ne zqkD'); (refine' pickI ?k1 ?k2 ?k3 ?k4 ?kA ?kd ?ku ?kN zqkD' ?kk ?ki ?kv ?kb ?kc ?ld ?lc ?_; (case k1 => k_asm); (case k2 => k_asm); (case k3 => k_asm); (case k4 => k_asm); (case kA => first | exact rfl | assumption); (case kd => (first | decide | ((try simp only [depth_deeper, units_deeper, units_in1, depth_in1, ktrTop, Nat.add_assoc, Nat.reduceAdd]); (refine room_lt ?_ ?_; assumption; decide)) | ((try simp only [depth_deeper, units_deeper, ktrTop]); omega))); (case ku => (first | decide | ((try simp only [depth_deeper, units_deeper, units_in1, depth_in1, ktrTop, Nat.add_assoc, Nat.reduceAdd]); (refine room_lt ?_ ?_; assumption; decide)) | ((try simp only [depth_deeper, units_deeper, ktrTop]); omega))); (case kN => exact cb_drop (by k_asm) (by lcg_sub)); (case kk => omega); (case ki => first | l_ints | l_intsW); (case kv => decide); (case kb => (simp only [List.length_append, List.length_cons, List.length_nil]; omega)); (case kc => (simp only [List.length_append, List.length_cons, List.length_nil]; omega)); (case ld => omega); (case lc => omega); k_whole); (intro zqr9 zqt9 zqh9 zqtk9 zqo9 zqoc9 zqF9 zqN9 zqKB9 zqD9 zqhm9 zqhr0 zqhr1); (replace zqN9 := KeepBut.news2 zqKB9 zqkN' (by k_updF) (by (intro _; (try dsimp only); k_updF)) (cb_drop zqN9 (by lcg_sub))); (clear zqkN' zqkD' zqkDn); (try dsimp only at zqN9); (try dsimp only); (try k_fold)))
  k_with "call ref" => ((with_reducible show wpAny _ _ (call (Value.ref 157) [_, _]) _ _ _); k_dflt ((rename News _ _ _ _ => zqkN'); (rename DeckOK _ _ _ _ _ _ => zqkD'); (have zqkDn := DeckOK.ne zqkD'); (refine' faulty ?k1 ?k2 ?k3 ?k4 ?kA ?kd ?ku ?kN zqkD' ?kk ?kb ?kc ?_; (case k1 => k_asm); (case k2 => k_asm); (case k3 => k_asm); (case k4 => k_asm); (case kA => first | exact rfl | assumption); (case kd => (first | decide | ((try simp only [depth_deeper, units_deeper, units_in1, depth_in1, ktrTop, Nat.add_assoc, Nat.reduceAdd]); (refine room_lt ?_ ?_; assumption; decide)) | ((try simp only [depth_deeper, units_deeper, ktrTop]); omega))); (case ku => (first | decide | ((try simp only [depth_deeper, units_deeper, units_in1, depth_in1, ktrTop, Nat.add_assoc, Nat.reduceAdd]); (refine room_lt ?_ ?_; assumption; decide)) | ((try simp only [depth_deeper, units_deeper, ktrTop]); omega))); (case kN => exact cb_drop (by k_asm) (by lcg_sub)); (case kk => omega); (case kb => assumption); (case kc => omega); k_whole); (intro zqb9 zqt9 zqh9 zqtk9 zqo9 zqoc9 zqF9 zqN9 zqKB9 zqD9 zqE9); (replace zqN9 := KeepBut.news2 zqKB9 zqkN' (by k_updF) (by (intro _; (try dsimp only); k_updF)) zqN9); (clear zqkN' zqkD' zqkDn); (try dsimp only at zqN9); (try dsimp only); (try k_fold)))
  k_with "call ref" => ((with_reducible show wpAny _ _ (call (Value.ref 69) [_]) _ _ _); k_dflt ((rename News _ _ _ _ => zqkN'); (refine' mustq ?k1 ?k2 ?k3 ?k4 ?kA ?kd ?ku ?kN ?kb ?kc ?_; (case k1 => k_asm); (case k2 => k_asm); (case k3 => k_asm); (case k4 => k_asm); (case kA => first | exact rfl | assumption); (case kd => (first | decide | ((try simp only [depth_deeper, units_deeper, units_in1, depth_in1, ktrTop, Nat.add_assoc, Nat.reduceAdd]); (refine room_lt ?_ ?_; assumption; decide)) | ((try simp only [depth_deeper, units_deeper, ktrTop]); omega))); (case ku => (first | decide | ((try simp only [depth_deeper, units_deeper, units_in1, depth_in1, ktrTop, Nat.add_assoc, Nat.reduceAdd]); (refine room_lt ?_ ?_; assumption; decide)) | ((try simp only [depth_deeper, units_deeper, ktrTop]); omega))); (case kN => exact cb_drop (by k_asm) (by lcg_sub)); (case kb => omega); (case kc => omega); k_whole); (intro zqh9 zqtk9 zqF9 zqKB9); (have zqN9 := KeepBut.news0 zqKB9 zqkN'); (clear zqkN'); (try dsimp only); (try k_fold)))
  k_with "compareOp In int ref" => ((with_reducible show wpAny _ _ (compareOp CmpOp.In (Value.int _ _) (Value.ref 62)) _ _ _); k_dflt (first | (refine esc_in_some (by k_asm) (by k_asm) (by assumption) ?_) | (refine esc_in_none (by k_asm) (by k_asm) (by assumption) ?_)))
  k_with "subscriptTail" => ((with_reducible show wpAny _ _ (subscriptTail _ _ (Value.ref 62) (Value.int _ _)) _ _ _); k_dflt ((refine esc_item (by k_asm) (by k_asm) (by assumption) ?_ (by with_unfolding_all rfl)); intro zqb9 zqt9 zqE9))
  k_with "getMethod ref" => ((with_reducible show wpAny _ _ (getMethod (Value.ref _) (PySem.Str.ofString "append") _) _ _ _); (rename News _ _ _ _ => zqkN'); k_dflt (refine method_append (b := _) ((zqkN' _ (by first | exact .head _ | exact .tail _ (.head _) | exact .tail _ (.tail _ (.head _)))).1) ?_))
  k_with "call ref" => ((with_reducible show wpAny _ _ (call (Value.ref 61) [_]) _ _ _); k_dflt ((rename News _ _ _ _ => zqkN'); (refine' octal2 ?k1 ?k2 ?k3 ?k4 ?kA ?kd ?ku ?kN ?kb ?kc ?kO ?_; (case k1 => k_asm); (case k2 => k_asm); (case k3 => k_asm); (case k4 => k_asm); (case kA => first | exact rfl | assumption); (case kd => (first | decide | ((try simp only [depth_deeper, units_deeper, units_in1, depth_in1, ktrTop, Nat.add_assoc, Nat.reduceAdd]); (refine room_lt ?_ ?_; assumption; decide)) | ((try simp only [depth_deeper, units_deeper, ktrTop]); omega))); (case ku => (first | decide | ((try simp only [depth_deeper, units_deeper, units_in1, depth_in1, ktrTop, Nat.add_assoc, Nat.reduceAdd]); (refine room_lt ?_ ?_; assumption; decide)) | ((try simp only [depth_deeper, units_deeper, ktrTop]); omega))); (case kN => exact cb_drop (by k_asm) (by lcg_sub)); (case kb => assumption); (case kc => first | omega | (simp only [List.length_take, List.length_drop]; omega)); (case kO => assumption); k_whole); (intro zqt9 zqh9 zqtk9 zqF9 zqKB9); (have zqN9 := KeepBut.news0 zqKB9 zqkN'); (clear zqkN'); (try dsimp only [optV]); (try k_fold)))
  k_with "compareOp In int ref" => ((with_reducible show wpAny _ _ (compareOp CmpOp.In (Value.int _ _) (Value.ref _)) _ _ _); k_dflt (first | (refine names_in_some (by k_asm) (by k_mem) (by assumption) (by assumption) (by assumption) (by assumption) ?_) | (refine names_in_none (by k_asm) (by k_mem) (by assumption) (by assumption) (by assumption) (by assumption) ?_)))
  k_with "subscriptTail" => ((with_reducible show wpAny _ _ (subscriptTail _ _ (Value.ref _) (Value.int _ _)) _ _ _); k_dflt ((refine names_item (by k_asm) (by k_mem) (by assumption) (by assumption) (by assumption) ?_ (by with_unfolding_all rfl)); intro zqu9))
  k_with "subscriptTail" => ((with_reducible show wpAny _ _ (subscriptTail _ (Expr.Slice (some _) (some _) none _) (Value.bytes _ _) (Value.ref _)) _ _ _); (with_reducible rename Fr _ _ _ _ => zqF'); (with_reducible rename News _ _ _ _ => zqN'); k_dflt ((first | refine slice_A (s := ⟨_, _, _, _, _⟩) 1 zqF' zqN' (by kba_ints) (by kba_size) rfl (by omega) ?_ (by with_unfolding_all rfl) (by intro _; with_unfolding_all rfl) | refine slice_A (s := ⟨_, _, _, _, _⟩) 3 zqF' zqN' (by kba_ints) (by kba_size) rfl (by omega) ?_ (by with_unfolding_all rfl) (by intro _; with_unfolding_all rfl)); intro zqb9 zqh9 zqt9 zqk9 zqF9 zqN9 zqE9; (try (rename List.take 3 _ = _ => zqhr3'; rw [zqhr3'] at zqE9))))
  k_with "exec Raise some none" => ((with_reducible show wpAny _ _ (exec (Stmt.Raise _ _ _) _) _ _ _); refine Hold.stop ?_)
  trivial
theorem fill_U1 (w : World) (h₀ : Heap) (hX : (hd.heap_39 w.params).In h₀) : (hd.heap_39 w.params).In h₀ ∧ PySem.Challenge.rw_pb0084_01 = PySem.Challenge.rw_pb0084_01 := by
  k_fill
  exact ⟨hX, rfl⟩
section
variable {w : World} {mg mb : Str → Option Value} {mean : ExcName → Option Value} {dp un : Nat} {gd : Option (List Code)} {cn : Str} {cs : Scope} {L a : Addr} {ccd : Value} {cl : List (Str × Addr)} {outer : List Env} {A₀ : Around} {base h₀ : Heap} {m : Str → Option Value} {s : Shared} {Q E : Value → Shared → Prop} {news : List (Addr × Obj)}


theorem first_is {b : Array UInt8} {ks : List Int} (h : KBw.bInts b = ks.take (clipAt ks.length 1)) : (b.toList != [34]) = !decide (ks.head? = some 34) := by
  have e1 : clipAt ks.length (1 : Int) = min 1 ks.length := clipAt_nat ks.length 1
  rw [e1] at h
  rcases b with ⟨l⟩
  cases ks with
  | nil =>
    cases l with
    | nil => rfl
    | cons c r => simp [KBw.bInts] at h
  | cons k r =>
    cases l with
    | nil => simp [KBw.bInts] at h
    | cons c l =>
      cases l with
      | cons c2 l => simp [KBw.bInts] at h
      | nil =>
        simp only [KBw.bInts, List.map_cons, List.map_nil, List.length_cons] at h
        rw [show min 1 (r.length + 1) = 1 by omega] at h
        simp only [List.take_succ_cons, List.take_zero, List.cons.injEq, and_true] at h
        subst h
        by_cases hc : c = 34
        · subst hc; rfl
        · have h2 : (c.toNat : Int) ≠ 34 := fun q => hc (by
            have : c.toNat = 34 := by omega
            exact UInt8.toNat_inj.mp this)
          simp [bne, hc, h2]
theorem readS_some {ks p : List Int} (h : ks.head? = some 34) (hu : unq (ks.length + 1) (ks.drop 1) = some (p, [])) : readS ks = some p := by
  unfold readS; rw [if_pos h, hu]
theorem readS_none {ks : List Int} (h : ks.head? = some 34) (hu : unq (ks.length + 1) (ks.drop 1) = none) : readS ks = none := by
  unfold readS; rw [if_pos h, hu]
theorem readS_behind {ks p r : List Int} (h : ks.head? = some 34) (hu : unq (ks.length + 1) (ks.drop 1) = some (p, r)) (hr : r ≠ []) : readS ks = none := by
  unfold readS; rw [if_pos h, hu]
  cases r with
  | nil => exact absurd rfl hr
  | cons x r => rfl
theorem Assign_Tuple2G {prog : Program} {A : Around} {env : Env} {elts k tpos value pos} {Q : Flow → Shared → Prop} {E : Value → Shared → Prop} {s : Shared}
    (h : wpG (model prog w) A (eval value env) (fun v s₁ => wpAny (model prog w) A (assign (.Tuple elts k tpos) env v) (fun _ => Q .next) E s₁) E s)
    (hs : swapsWithSole [.Tuple elts k tpos] value pos.line env = pure false := by rfl)
    (hw : swappedStores [.Tuple elts k tpos] value env = pure none := by rfl) :
    wpG (model prog w) A (exec (.Assign [.Tuple elts k tpos] value pos) env) Q E s := by
  rw [exec_Assign]
  refine wpG_bind (wpG_any (wpAny_standAt ?_))
  rw [hs]
  refine wpG_bind (wpG_pure ?_)
  rw [if_neg (by decide)]
  refine wpG_bind (wpG_mono h (fun v s₁ h₁ => ?_) fun _ _ x => x)
  rw [hw]
  refine wpG_bind (wpG_pure ?_)
  show wpG (model prog w) A (do assignAll v [assign (.Tuple elts k tpos) env]; pure .next) Q E s₁
  exact wpG_any (wpAny_bind (wpAny_mono h₁ (fun _ _ x => wpAny_pure x) fun _ _ x => x))
theorem callG_K2 {M : Model} {A : Around} {E : Value → Shared → Prop} {s : Shared} {K : Frag} {env : Env} {pos : Pos} {f : Value} {first : List Value} {Q : Value → Shared → Prop} {e : PySem.Expr} {rest : List PySem.Expr} {g₀ : Heap} (_X : K.In g₀) (hk : keepIn K f = true)
    (h : wpAny M A (spliced (backTo pos (starEach (e :: rest) env))) (fun vs s₁ => K.In s₁.heap ∧ wpG M A (call f (first ++ vs)) Q E s₁) E s)
    (he : starEach (e :: rest) env = (false, eval e env) :: starEach rest env := by rfl) (hplain : (backTo pos (starEach rest env)).any (·.1) = false := by rfl) :
    wpG M A (callWith pos f first (backTo pos (starEach (e :: rest) env)) []) Q E s := callG_K hk h he hplain
theorem unquote (B : Below A₀ base outer h₀) (F : Fr h₀ L s.heap m) (X : (hd.heap_39 w.params).In h₀) (T : Top hd.view_39 LS mean mg mb h₀) (hk : cs.kind = .function) (hdp : dp + 100 < recursionLimit) (hun : un + 2500 < cLine)
    {pb : Array UInt8} {ks : List Int} {t : Tok} (N : News h₀ L s.heap []) (hks : KBw.bInts pb = ks) (hkl : ks.length ≤ 100)
    (hret : ∀ (p : List Int) (b : Array UInt8) (u : Tok) (h' : Heap) (tk' : Nat), readS ks = some p → Fr h₀ L h' m → KeepBut s.heap h' [] → KBw.bInts b = p → Q (.bytes b u) { s with heap := h', toks := tk' })
    (hexc : readS ks = none → ∀ e g₁ h' tk', GSub s.heap g₁ [] → Fr h₀ L g₁ m → g₁.UpToSlots h' → RaisedSN base g₁ (envX cn cs L a ccd cl :: outer) e (.ref 45) [] h' → E (.ref e) { s with heap := h', toks := tk' }) :
    wpG (model PR w) (ktrTop dp un gd cn cs L a ccd cl outer) (call (.ref 86) [.bytes pb t]) Q E s := by
  refine wpG_call ?_
  k_dflt (refine' enterG ?k1 ?k2 ?k3 ?k4 ?k5 ?kA ?kF ?kK ?k6 ?k7 ?k8 ?k9 ?kB ?_ ?c2 ?c3 ?c4 ?c5; (case kA => exact rfl); (case kF => exact rfl); (case kK => assumption); (case k1 => k_asm); (case k2 => k_asm); (case k3 => k_asm); (case k4 => k_asm); (case k5 => k_asm); (case k6 => k_is); (case k7 => k_is); (case k8 => ktr_room); (case k9 => exact BindsTo.of_eq rfl); (case c5 => decide); (case kB => exact locs rfl); (case c2 => exact rfl); (case c3 => exact rfl); (case c4 => exact rfl); k_whole; intro g' L' h' FG' F' N' B' X' T' kG'; (try dsimp only); (try k_fold))
  refine wpG_nameP PassesOwn.leaving ?_
  intro Q' E' hQ hE hP
  refine execsG_cons (IfG (wpG_any ?_))
  k_fold
  k_steps
  · rename KBw.bInts _ = _ => hE1
    rename (_ != _) = true => hx
    rw [first_is hE1] at hx
    have hh : ¬ ks.head? = some 34 := by simpa using hx
    refine execsG_any ?_
    k_steps
    refine hQ _ _ ?_
    k_steps
    exact hret ks _ _ _ _ (by rw [readS, if_neg hh]) (by k_asm) (by k_asm) hks
  rename KBw.bInts _ = _ => hE1
  rename (_ != _) = false => hx
  rw [first_is hE1] at hx
  have hh : ks.head? = some 34 := by simpa using hx
  have hk1 : 1 ≤ ks.length := by
    cases ks with
    | nil => cases hh
    | cons k r => simp
  refine execsG_nil ?_
  (try dsimp only)
  refine execsG_cons (Assign_Tuple2G (Call_NameG ?_))
  k_steps
  k_dflt (refine' callG_K2 ?k1 ?k2 ?_; (case k1 => k_asm); (case k2 => k_is); k_whole)
  k_steps
  refine' patch (at0 := 0) ?k1 ?k2 ?k3 ?k4 ?kA ?kd ?ku ?kN ?kb ?kc ?ka ?kz ?_ ?_
  (case k1 => k_asm); (case k2 => k_asm); (case k3 => k_asm); (case k4 => k_asm); (case kA => exact rfl); (case kd => (first | decide | ((try simp only [depth_deeper, units_deeper, units_in1, depth_in1, ktrTop, Nat.add_assoc, Nat.reduceAdd]); (refine room_lt ?_ ?_; assumption; decide)) | ((try simp only [depth_deeper, units_deeper, ktrTop]); omega))); (case ku => (first | decide | ((try simp only [depth_deeper, units_deeper, units_in1, depth_in1, ktrTop, Nat.add_assoc, Nat.reduceAdd]); (refine room_lt ?_ ?_; assumption; decide)) | ((try simp only [depth_deeper, units_deeper, ktrTop]); omega))); (case kN => exact cb_drop (by k_asm) (by lcg_sub)); (case kb => exact hks); (case kc => exact hkl); (case ka => decide); (case kz => omega)
  · intro p r pos b u v D' h8 tk8 hu hpos F8 N8 KB8 hb
    (try dsimp only)
    k_steps
    refine execsG_cons (IfG (wpG_any ?_))
    k_steps
    · rename (_ : Int) ≠ _ => hne
      rename Fr _ _ _ _ => rF
      rename News _ _ _ _ => rN
      have hr : r ≠ [] := fun q => hne (by rw [hpos, q]; simp)
      refine execsG_cons (wpG_any ?_)
      refine raise_bad B' rF X' T' rfl (by (first | decide | ((try simp only [depth_deeper, units_deeper, units_in1, depth_in1, ktrTop, Nat.add_assoc, Nat.reduceAdd]); (refine room_lt ?_ ?_; assumption; decide)) | ((try simp only [depth_deeper, units_deeper, ktrTop]); omega))) (by (first | decide | ((try simp only [depth_deeper, units_deeper, units_in1, depth_in1, ktrTop, Nat.add_assoc, Nat.reduceAdd]); (refine room_lt ?_ ?_; assumption; decide)) | ((try simp only [depth_deeper, units_deeper, ktrTop]); omega))) rN (by k_is) rfl (by decide) ?_
      intro e9 oe9 tp9 h9 tk9 F9 N9 KB9 fr9 he9 hc9 hd9
      refine hE _ _ ?_
      refine leave_badS B' (fun b o q => KB9 b o q (by simp)) fr9 he9 hc9 hd9 rF ?_
      intro h10 R10 U10
      exact hexc (readS_behind hh hu hr) _ _ _ _ kG' FG' U10 R10
    · rename (_ : Int) = _ => hne
      have hr : r = [] := by
        cases r with
        | nil => rfl
        | cons x r => exfalso; rw [hpos] at hne; simp only [List.length_cons] at hne; omega
      subst hr
      refine execsG_nil ?_
      (try dsimp only)
      refine execsG_any ?_
      k_steps
      refine hQ _ _ ?_
      k_steps
      exact hret p _ _ _ _ (readS_some hh hu) (by k_asm) (by k_asm) hb
  · intro hu e9 g9 h9 tk9 G9 F9 U9 R9
    refine hE _ _ ?_
    refine leave_onSN B' F9 R9 U9 ?_
    intro h10 R10 _ U10
    exact hexc (readS_none hh hu) _ _ _ _ kG' FG' U10 R10
end
end PartU1
section PartU2
local macro_rules | `(tactic| walk_at "pyIter bytes") => `(tactic| ((with_reducible show wpAny _ _ (pyIter (Value.bytes _ _)) _ _ _); refine Hold.stop ?_))
theorem off_U2 : True := by
  w_top off
  k_with_none
  k_with "LeaveK" => (with_reducible show LeaveK _ _ _ _ _ _ _; (rename GSub _ _ _ => zqkG'); (refine leaveS (by k_asm) zqkG' ?_); clear zqkG'; intro zqkE'; walk_say "KEEPS")
  k_with "call ref" => ((with_reducible show wpAny _ _ (call (Value.ref 98) [_, _]) _ _ _); k_dflt ((rename News _ _ _ _ => zqkN'); (rename DeckOK _ _ _ _ _ _ => zqkD'); (have zqkDn := DeckOK.ne zqkD'); (refine' draw ?k1 ?k2 ?k3 ?k4 ?kA ?kd ?ku ?kN zqkD' ?kk ?kb ?kc ?_; (case k1 => k_asm); (case k2 => k_asm); (case k3 => k_asm); (case k4 => k_asm); (case kA => first | exact rfl | assumption); (case kd => (first | decide | ((try simp only [depth_deeper, units_deeper, units_in1, depth_in1, ktrTop, Nat.add_assoc, Nat.reduceAdd]); (refine room_lt ?_ ?_; assumption; decide)) | ((try simp only [depth_deeper, units_deeper, ktrTop]); omega))); (case ku => (first | decide | ((try simp only [depth_deeper, units_deeper, units_in1, depth_in1, ktrTop, Nat.add_assoc, Nat.reduceAdd]); (refine room_lt ?_ ?_; assumption; decide)) | ((try simp only [depth_deeper, units_deeper, ktrTop]); omega))); (case kN => exact cb_drop (by k_asm) (by lcg_sub)); (case kk => omega); (case kb => omega); (case kc => omega); k_whole); (intro zqr9 zqt9 zqh9 zqtk9 zqo9 zqoc9 zqF9 zqN9 zqKB9 zqD9 zqhr0 zqhr1); (replace zqN9 := KeepBut.news2 zqKB9 zqkN' (by k_updF) (by (intro _; (try dsimp only); k_updF)) zqN9); (clear zqkN' zqkD' zqkDn); (try dsimp only at zqN9); (try dsimp only); (try k_fold)))
  k_with "call ref" => ((with_reducible show wpAny _ _ (call (Value.ref 105) [_, _]) _ _ _); k_dflt ((rename News _ _ _ _ => zqkN'); (rename DeckOK _ _ _ _ _ _ => zqkD'); (have zqkDn := DeckOK.ne zqkD'); (refine' pick ?k1 ?k2 ?k3 ?k4 ?kA ?kd ?ku ?kN zqkD' ?kk ?kb ?kc ?ld ?lc ?_; (case k1 => k_asm); (case k2 => k_asm); (case k3 => k_asm); (case k4 => k_asm); (case kA => first | exact rfl | assumption); (case kd => (first | decide | ((try simp only [depth_deeper, units_deeper, units_in1, depth_in1, ktrTop, Nat.add_assoc, Nat.reduceAdd]); (refine room_lt ?_ ?_; assumption; decide)) | ((try simp only [depth_deeper, units_deeper, ktrTop]); omega))); (case ku => (first | decide | ((try simp only [depth_deeper, units_deeper, units_in1, depth_in1, ktrTop, Nat.add_assoc, Nat.reduceAdd]); (refine room_lt ?_ ?_; assumption; decide)) | ((try simp only [depth_deeper, units_deeper, ktrTop]); omega))); (case kN => exact cb_drop (by k_asm) (by lcg_sub)); (case kk => omega); (case kb => first | decide | (simp only [List.length_append, List.length_cons, List.length_nil]; omega)); (case kc => first | decide | (simp only [List.length_append, List.length_cons, List.length_nil]; omega)); (case ld => omega); (case lc => omega); k_whole); (intro zqi9 zqhi9 zqh9 zqtk9 zqo9 zqoc9 zqF9 zqN9 zqKB9 zqD9); (replace zqN9 := KeepBut.news2 zqKB9 zqkN' (by k_updF) (by (intro _; (try dsimp only); k_updF)) (cb_drop zqN9 (by lcg_sub))); (clear zqkN' zqkD' zqkDn); (try dsimp only at zqN9); (try dsimp only); (try k_fold)))
  k_with "call ref" => ((with_reducible show wpAny _ _ (call (Value.ref 119) [_]) _ _ _); k_dflt ((rename News _ _ _ _ => zqkN'); (rename DeckOK _ _ _ _ _ _ => zqkD'); (have zqkDn := DeckOK.ne zqkD'); (refine' octet ?k1 ?k2 ?k3 ?k4 ?kA ?kd ?ku ?kN zqkD' ?kk ?_; (case k1 => k_asm); (case k2 => k_asm); (case k3 => k_asm); (case k4 => k_asm); (case kA => first | exact rfl | assumption); (case kd => (first | decide | ((try simp only [depth_deeper, units_deeper, units_in1, depth_in1, ktrTop, Nat.add_assoc, Nat.reduceAdd]); (refine room_lt ?_ ?_; assumption; decide)) | ((try simp only [depth_deeper, units_deeper, ktrTop]); omega))); (case ku => (first | decide | ((try simp only [depth_deeper, units_deeper, units_in1, depth_in1, ktrTop, Nat.add_assoc, Nat.reduceAdd]); (refine room_lt ?_ ?_; assumption; decide)) | ((try simp only [depth_deeper, units_deeper, ktrTop]); omega))); (case kN => exact cb_drop (by k_asm) (by lcg_sub)); (case kk => omega); k_whole); (intro zqr9 zqt9 zqh9 zqtk9 zqo9 zqoc9 zqF9 zqN9 zqKB9 zqD9 zqhr0 zqhr1); (replace zqN9 := KeepBut.news2 zqKB9 zqkN' (by k_updF) (by (intro _; (try dsimp only); k_updF)) zqN9); (clear zqkN' zqkD' zqkDn); (try dsimp only at zqN9); (try dsimp only); (try k_fold)))
  k_with "call ref" => ((with_reducible show wpAny _ _ (call (Value.ref 126) [_]) _ _ _); k_dflt ((rename News _ _ _ _ => zqkN'); (refine' figures ?k1 ?k2 ?k3 ?k4 ?kA ?kd ?ku ?kN ?kb ?kc ?_; (case k1 => k_asm); (case k2 => k_asm); (case k3 => k_asm); (case k4 => k_asm); (case kA => first | exact rfl | assumption); (case kd => (first | decide | ((try simp only [depth_deeper, units_deeper, units_in1, depth_in1, ktrTop, Nat.add_assoc, Nat.reduceAdd]); (refine room_lt ?_ ?_; assumption; decide)) | ((try simp only [depth_deeper, units_deeper, ktrTop]); omega))); (case ku => (first | decide | ((try simp only [depth_deeper, units_deeper, units_in1, depth_in1, ktrTop, Nat.add_assoc, Nat.reduceAdd]); (refine room_lt ?_ ?_; assumption; decide)) | ((try simp only [depth_deeper, units_deeper, ktrTop]); omega))); (case kN => exact cb_drop (by k_asm) (by lcg_sub)); (case kb => omega); (case kc => omega); k_whole); (intro zqb9 zqt9 zqh9 zqtk9 zqF9 zqKB9 zqE9); (have zqN9 := KeepBut.news0 zqKB9 zqkN'); (clear zqkN'); (try dsimp only); (try k_fold)))
  k_with "call ref" => ((with_reducible show wpAny _ _ (call (Value.ref 133) [_]) _ _ _); k_dflt ((rename News _ _ _ _ => zqkN'); (refine' isplain ?k1 ?k2 ?k3 ?k4 ?kA ?kd ?ku ?kN ?kb ?kc ?_; (case k1 => k_asm); (case k2 => k_asm); (case k3 => k_asm); (case k4 => k_asm); (case kA => first | exact rfl | assumption); (case kd => (first | decide | ((try simp only [depth_deeper, units_deeper, units_in1, depth_in1, ktrTop, Nat.add_assoc, Nat.reduceAdd]); (refine room_lt ?_ ?_; assumption; decide)) | ((try simp only [depth_deeper, units_deeper, ktrTop]); omega))); (case ku => (first | decide | ((try simp only [depth_deeper, units_deeper, units_in1, depth_in1, ktrTop, Nat.add_assoc, Nat.reduceAdd]); (refine room_lt ?_ ?_; assumption; decide)) | ((try simp only [depth_deeper, units_deeper, ktrTop]); omega))); (case kN => exact cb_drop (by k_asm) (by lcg_sub)); (case kb => omega); (case kc => omega); k_whole); (intro zqh9 zqtk9 zqF9 zqKB9); (have zqN9 := KeepBut.news0 zqKB9 zqkN'); (clear zqkN'); (try dsimp only); (try k_fold)))
  k_with "call ref" => ((with_reducible show wpAny _ _ (call (Value.ref 138) [_]) _ _ _); k_dflt ((rename News _ _ _ _ => zqkN'); (refine' written ?k1 ?k2 ?k3 ?k4 ?kA ?kd ?ku ?kN ?kb ?kc ?_; (case k1 => k_asm); (case k2 => k_asm); (case k3 => k_asm); (case k4 => k_asm); (case kA => first | exact rfl | assumption); (case kd => (first | decide | ((try simp only [depth_deeper, units_deeper, units_in1, depth_in1, ktrTop, Nat.add_assoc, Nat.reduceAdd]); (refine room_lt ?_ ?_; assumption; decide)) | ((try simp only [depth_deeper, units_deeper, ktrTop]); omega))); (case ku => (first | decide | ((try simp only [depth_deeper, units_deeper, units_in1, depth_in1, ktrTop, Nat.add_assoc, Nat.reduceAdd]); (refine room_lt ?_ ?_; assumption; decide)) | ((try simp only [depth_deeper, units_deeper, ktrTop]); omega))); (case kN => exact cb_drop (by k_asm) (by lcg_sub)); (case kb => omega); (case kc => omega); k_whole); (intro zqb9 zqt9 zqh9 zqtk9 zqF9 zqKB9 zqE9); (have zqN9 := KeepBut.news0 zqKB9 zqkN'); (clear zqkN'); (try dsimp only); (try k_fold)))
  k_with "call ref" => ((with_reducible show wpAny _ _ (call (Value.ref 145) [_, _]) _ _ _); k_dflt ((rename News _ _ _ _ => zqkN'); (rename DeckOK _ _ _ _ _ _ => zqkD'); (have zqkDn := DeckOK.ne zqkD'); (refine' told ?k1 ?k2 ?k3 ?k4 ?kA ?kd ?ku ?kN zqkD' ?kk ?kb ?kc ?_; (case k1 => k_asm); (case k2 => k_asm); (case k3 => k_asm); (case k4 => k_asm); (case kA => first | exact rfl | assumption); (case kd => (first | decide | ((try simp only [depth_deeper, units_deeper, units_in1, depth_in1, ktrTop, Nat.add_assoc, Nat.reduceAdd]); (refine room_lt ?_ ?_; assumption; decide)) | ((try simp only [depth_deeper, units_deeper, ktrTop]); omega))); (case ku => (first | decide | ((try simp only [depth_deeper, units_deeper, units_in1, depth_in1, ktrTop, Nat.add_assoc, Nat.reduceAdd]); (refine room_lt ?_ ?_; assumption; decide)) | ((try simp only [depth_deeper, units_deeper, ktrTop]); omega))); (case kN => exact cb_drop (by k_asm) (by lcg_sub)); (case kk => omega); (case kb => omega); (case kc => omega); k_whole); (intro zqb9 zqt9 zqh9 zqtk9 zqo9 zqoc9 zqF9 zqN9 zqKB9 zqD9 zqE9); (replace zqN9 := KeepBut.news2 zqKB9 zqkN' (by k_updF) (by (intro _; (try dsimp only); k_updF)) zqN9); (clear zqkN' zqkD' zqkDn); (try dsimp only at zqN9); (try dsimp only); (try k_fold)))
  k_with "getMethod bytes" => ((with_reducible refine method_join ?_))
  k_with "call builtin:bytes.join" => ((with_reducible show wpAny _ _ (call (Value.builtin "bytes.join") _) _ _ _); refine Hold.stop ?_)
  k_with "call ref" => ((with_reducible show wpAny _ _ (call (Value.ref 105) [_, _]) _ _ _); k_dflt ((rename News _ _ _ _ => zqkN'); (rename DeckOK _ _ _ _ _ _ => zqkD'); (have zqkDn := DeckOK.ne zqkD'); (refine' pickI ?k1 ?k2 ?k3 ?k4 ?kA ?kd ?ku ?kN zqkD' ?kk ?ki ?kv ?kb ?kc ?ld ?lc ?_; (case k1 => k_asm); (case k2 => k_asm); (case k3 => k_asm); (case k4 => k_asm); (case kA => first | exact rfl | assumption); (case kd => (first | decide | ((try simp only [depth_deeper, units_deeper, units_in1, depth_in1, ktrTop, Nat.add_assoc, Nat.reduceAdd]); (refine room_lt ?_ ?_; assumption; decide)) | ((try simp only [depth_deeper, units_deeper, ktrTop]); omega))); (case ku => (first | decide | ((try simp only [depth_deeper, units_deeper, units_in1, depth_in1, ktrTop, Nat.add_assoc, Nat.reduceAdd]); (refine room_lt ?_ ?_; assumption; decide)) | ((try simp only [depth_deeper, units_deeper, ktrTop]); omega))); (case kN => exact cb_drop (by k_asm) (by lcg_sub)); (case kk => omega); (case ki => first | l_ints | l_intsW); (case kv => decide); (case kb => (simp only [List.length_append, List.length_cons, List.length_nil]; omega)); (case kc => (simp only [List.length_append, List.length_cons, List.length_nil]; omega)); (case ld => omega); (case lc => omega); k_whole); (intro zqr9 zqt9 zqh9 zqtk9 zqo9 zqoc9 zqF9 zqN9 zqKB9 zqD9 zqhm9 zqhr0 zqhr1); (replace zqN9 := KeepBut.news2 zqKB9 zqkN' (by k_updF) (by (intro _; (try dsimp only); k_updF)) (cb_drop zqN9 (by lcg_sub))); (clear zqkN' zqkD' zqkDn); (try dsimp only at zqN9); (try dsimp only); (try k_fold)))
  k_with "call ref" => ((with_reducible show wpAny _ _ (call (Value.ref 157) [_, _]) _ _ _); k_dflt ((rename News _ _ _ _ => zqkN'); (rename DeckOK _ _ _ _ _ _ => zqkD'); (have zqkDn := DeckOK.ne zqkD'); (refine' faulty ?k1 ?k2 ?k3 ?k4 ?kA ?kd ?ku ?kN zqkD' ?kk ?kb ?kc ?_; (case k1 => k_asm); (case k2 => k_asm); (case k3 => k_asm); (case k4 => k_asm); (case kA => first | exact rfl | assumption); (case kd => (first | decide | ((try simp only [depth_deeper, units_deeper, units_in1, depth_in1, ktrTop, Nat.add_assoc, Nat.reduceAdd]); (refine room_lt ?_ ?_; assumption; decide)) | ((try simp only [depth_deeper, units_deeper, ktrTop]); omega))); (case ku => (first | decide | ((try simp only [depth_deeper, units_deeper, units_in1, depth_in1, ktrTop, Nat.add_assoc, Nat.reduceAdd]); (refine room_lt ?_ ?_; assumption; decide)) | ((try simp only [depth_deeper, units_deeper, ktrTop]); omega))); (case kN => exact cb_drop (by k_asm) (by lcg_sub)); (case kk => omega); (case kb => assumption); (case kc => omega); k_whole); (intro zqb9 zqt9 zqh9 zqtk9 zqo9 zqoc9 zqF9 zqN9 zqKB9 zqD9 zqE9); (replace zqN9 := KeepBut.news2 zqKB9 zqkN' (by k_updF) (by (intro _; (try dsimp only); k_updF)) zqN9); (clear zqkN' zqkD' zqkDn); (try dsimp only at zqN9); (try dsimp only); (try k_fold)))
  k_with "call ref" => ((with_reducible show wpAny _ _ (call (Value.ref 69) [_]) _ _ _); k_dflt ((rename News _ _ _ _ => zqkN'); (refine' mustq ?k1 ?k2 ?k3 ?k4 ?kA ?kd ?ku ?kN ?kb ?kc ?_; (case k1 => k_asm); (case k2 => k_asm); (case k3 => k_asm); (case k4 => k_asm); (case kA => first | exact rfl | assumption); (case kd => (first | decide | ((try simp only [depth_deeper, units_deeper, units_in1, depth_in1, ktrTop, Nat.add_assoc, Nat.reduceAdd]); (refine room_lt ?_ ?_; assumption; decide)) | ((try simp only [depth_deeper, units_deeper, ktrTop]); omega))); (case ku => (first | decide | ((try simp only [depth_deeper, units_deeper, units_in1, depth_in1, ktrTop, Nat.add_assoc, Nat.reduceAdd]); (refine room_lt ?_ ?_; assumption; decide)) | ((try simp only [depth_deeper, units_deeper, ktrTop]); omega))); (case kN => exact cb_drop (by k_asm) (by lcg_sub)); (case kb => omega); (case kc => omega); k_whole); (intro zqh9 zqtk9 zqF9 zqKB9); (have zqN9 := KeepBut.news0 zqKB9 zqkN'); (clear zqkN'); (try dsimp only); (try k_fold)))
  k_with "compareOp In int ref" => ((with_reducible show wpAny _ _ (compareOp CmpOp.In (Value.int _ _) (Value.ref 62)) _ _ _); k_dflt (first | (refine esc_in_some (by k_asm) (by k_asm) (by assumption) ?_) | (refine esc_in_none (by k_asm) (by k_asm) (by assumption) ?_)))
  k_with "subscriptTail" => ((with_reducible show wpAny _ _ (subscriptTail _ _ (Value.ref 62) (Value.int _ _)) _ _ _); k_dflt ((refine esc_item (by k_asm) (by k_asm) (by assumption) ?_ (by with_unfolding_all rfl)); intro zqb9 zqt9 zqE9))
  k_with "getMethod ref" => ((with_reducible show wpAny _ _ (getMethod (Value.ref _) (PySem.Str.ofString "append") _) _ _ _); (rename News _ _ _ _ => zqkN'); k_dflt (refine method_append (b := _) ((zqkN' _ (by first | exact .head _ | exact .tail _ (.head _) | exact .tail _ (.tail _ (.head _)))).1) ?_))
  k_with "call ref" => ((with_reducible show wpAny _ _ (call (Value.ref 61) [_]) _ _ _); k_dflt ((rename News _ _ _ _ => zqkN'); (refine' octal2 ?k1 ?k2 ?k3 ?k4 ?kA ?kd ?ku ?kN ?kb ?kc ?kO ?_; (case k1 => k_asm); (case k2 => k_asm); (case k3 => k_asm); (case k4 => k_asm); (case kA => first | exact rfl | assumption); (case kd => (first | decide | ((try simp only [depth_deeper, units_deeper, units_in1, depth_in1, ktrTop, Nat.add_assoc, Nat.reduceAdd]); (refine room_lt ?_ ?_; assumption; decide)) | ((try simp only [depth_deeper, units_deeper, ktrTop]); omega))); (case ku => (first | decide | ((try simp only [depth_deeper, units_deeper, units_in1, depth_in1, ktrTop, Nat.add_assoc, Nat.reduceAdd]); (refine room_lt ?_ ?_; assumption; decide)) | ((try simp only [depth_deeper, units_deeper, ktrTop]); omega))); (case kN => exact cb_drop (by k_asm) (by lcg_sub)); (case kb => assumption); (case kc => first | omega | (simp only [List.length_take, List.length_drop]; omega)); (case kO => assumption); k_whole); (intro zqt9 zqh9 zqtk9 zqF9 zqKB9); (have zqN9 := KeepBut.news0 zqKB9 zqkN'); (clear zqkN'); (try dsimp only [optV]); (try k_fold)))
  k_with "compareOp In int ref" => ((with_reducible show wpAny _ _ (compareOp CmpOp.In (Value.int _ _) (Value.ref _)) _ _ _); k_dflt (first | (refine names_in_some (by k_asm) (by k_mem) (by assumption) (by assumption) (by assumption) (by assumption) ?_) | (refine names_in_none (by k_asm) (by k_mem) (by assumption) (by assumption) (by assumption) (by assumption) ?_)))
  k_with "subscriptTail" => ((with_reducible show wpAny _ _ (subscriptTail _ _ (Value.ref _) (Value.int _ _)) _ _ _); k_dflt ((refine names_item (by k_asm) (by k_mem) (by assumption) (by assumption) (by assumption) ?_ (by with_unfolding_all rfl)); intro zqu9))
  k_with "subscriptTail" => ((with_reducible show wpAny _ _ (subscriptTail _ (Expr.Slice (some _) (some _) none _) (Value.bytes _ _) (Value.ref _)) _ _ _); (with_reducible rename Fr _ _ _ _ => zqF'); (with_reducible rename News _ _ _ _ => zqN'); k_dflt ((first | refine slice_A (s := ⟨_, _, _, _, _⟩) 1 zqF' zqN' (by kba_ints) (by kba_size) rfl (by omega) ?_ (by with_unfolding_all rfl) (by intro _; with_unfolding_all rfl) | refine slice_A (s := ⟨_, _, _, _, _⟩) 3 zqF' zqN' (by kba_ints) (by kba_size) rfl (by omega) ?_ (by with_unfolding_all rfl) (by intro _; with_unfolding_all rfl)); intro zqb9 zqh9 zqt9 zqk9 zqF9 zqN9 zqE9; (try (rename List.take 3 _ = _ => zqhr3'; rw [zqhr3'] at zqE9))))
  k_with "exec Raise some none" => ((with_reducible show wpAny _ _ (exec (Stmt.Raise _ _ _) _) _ _ _); refine Hold.stop ?_)
  trivial
theorem fill_U2 (w : World) (h₀ : Heap) (hX : (hd.heap_39 w.params).In h₀) : (hd.heap_39 w.params).In h₀ ∧ PySem.Challenge.rw_pb0084_01 = PySem.Challenge.rw_pb0084_01 := by
  k_fill
  exact ⟨hX, rfl⟩
section
variable {w : World} {mg mb : Str → Option Value} {mean : ExcName → Option Value} {dp un : Nat} {gd : Option (List Code)} {cn : Str} {cs : Scope} {L a : Addr} {ccd : Value} {cl : List (Str × Addr)} {outer : List Env} {A₀ : Around} {base h₀ : Heap} {m : Str → Option Value} {s : Shared} {Q E : Value → Shared → Prop} {news : List (Addr × Obj)}


theorem readq (B : Below A₀ h₀ [] h₀) (F : Fr h₀ L s.heap m) (X : (hd.heap_39 w.params).In h₀) (T : Top hd.view_39 LS mean mg mb h₀) (hk : cs.kind = .function) (hdp : dp + 120 < recursionLimit) (hun : un + 3000 < cLine)
    {pb : Array UInt8} {ks : List Int} {t : Tok} (N : News h₀ L s.heap []) (hks : KBw.bInts pb = ks) (hkl : ks.length ≤ 100)
    (hret : ∀ (p : List Int) (b : Array UInt8) (u : Tok) (h' : Heap) (tk' : Nat), readS ks = some p → Fr h₀ L h' m → KeepBut s.heap h' [L] → KBw.bInts b = p → Q (.bytes b u) { s with heap := h', toks := tk' })
    (hnone : ∀ (h' : Heap) (tk' : Nat), readS ks = none → Fr h₀ L h' m → KeepBut s.heap h' [L] → Q .none { s with heap := h', toks := tk' }) :
    wpG (model PR w) (ktrTop dp un gd cn cs L a ccd cl []) (call (.ref 152) [.bytes pb t]) Q E s := by
  refine wpG_call ?_
  k_dflt (refine' enterG0 ?k1 ?k2 ?k3 ?k4 ?k5 ?kA ?kF ?kK ?k6 ?k7 ?k8 ?k9 ?kB ?_ ?c2 ?c3 ?c4 ?c5; (case kA => exact rfl); (case kF => exact rfl); (case kK => assumption); (case k1 => k_asm); (case k2 => k_asm); (case k3 => k_asm); (case k4 => k_asm); (case k5 => k_asm); (case k6 => k_is); (case k7 => k_is); (case k8 => ktr_room); (case k9 => exact BindsTo.of_eq rfl); (case c5 => decide); (case kB => exact locs rfl); (case c2 => exact rfl); (case c3 => exact rfl); (case c4 => exact rfl); k_whole; intro g' L' h' FG' F' N' B' X' T' kG'; (try dsimp only); (try k_fold))
  refine execsG_cons (TryG ?_)
  refine execsG_cons (Return_someG (Call_NameG ?_))
  k_fold
  k_steps
  k_dflt (refine' callG_K2 ?k1 ?k2 ?_; (case k1 => k_asm); (case k2 => k_is); k_whole)
  k_steps
  refine' unquote ?k1 ?k2 ?k3 ?k4 ?kA ?kd ?ku ?kN ?kb ?kc ?_ ?_
  (case k1 => k_asm); (case k2 => k_asm); (case k3 => k_asm); (case k4 => k_asm); (case kA => exact rfl); (case kd => (first | decide | ((try simp only [depth_deeper, units_deeper, units_in1, depth_in1, ktrTop, Nat.add_assoc, Nat.reduceAdd]); (refine room_lt ?_ ?_; assumption; decide)) | ((try simp only [depth_deeper, units_deeper, ktrTop]); omega))); (case ku => (first | decide | ((try simp only [depth_deeper, units_deeper, units_in1, depth_in1, ktrTop, Nat.add_assoc, Nat.reduceAdd]); (refine room_lt ?_ ?_; assumption; decide)) | ((try simp only [depth_deeper, units_deeper, ktrTop]); omega))); (case kN => exact cb_drop (by k_asm) (by lcg_sub)); (case kb => exact hks); (case kc => exact hkl)
  · intro p b u h8 tk8 hu F8 KB8 hb
    (try dsimp only)
    refine hret p _ _ _ _ hu (FG'.keeps F8.keep) (fun b' o q _ => F8.keep b' o (kG' b' o q List.not_mem_nil)) hb
  · intro hu e9 g9 h9 tk9 G9 F9 U9 R9
    refine caught_badS R9 F9 B' U9 X T (by k_is) ?_
    intro h10 g10 T10 F10
    have hT : KtsTurn [L] g' g10 := T10
    have F11 : Fr h₀ L h10 m := by
      obtain ⟨oL, es, ep, hL, hLd, hLk, hLf⟩ := FG'.ns
      obtain ⟨sl, hs⟩ := hT.frame L oL hL (.head _)
      refine ⟨⟨_, es, ep, F10.keep _ _ hs, hLd, hLk, hLf⟩, fun b o q => F10.keep b o (hT.other b o (FG'.keep b o q) fun hm => ?_), FG'.above⟩
      rw [List.mem_singleton.mp hm, kts_self FG'] at q
      cases q
    have K11 : KeepBut s.heap h10 [L] := fun b o q n => F10.keep b o (hT.other b o (kG' b o q List.not_mem_nil) n)
    k_steps
    exact hnone _ _ hu F11 K11
theorem read_is {ks p : List Int} (hS : readS ks = some p) (B : Below A₀ h₀ [] h₀) (F : Fr h₀ L s.heap m) (X : (hd.heap_39 w.params).In h₀) (T : Top hd.view_39 LS mean mg mb h₀) (hk : cs.kind = .function) (hdp : dp + 120 < recursionLimit) (hun : un + 3000 < cLine)
    {pb : Array UInt8} {t : Tok} (N : News h₀ L s.heap []) (hks : KBw.bInts pb = ks) (hkl : ks.length ≤ 100)
    (hret : ∀ (b : Array UInt8) (u : Tok) (h' : Heap) (tk' : Nat), Fr h₀ L h' m → KeepBut s.heap h' [L] → KBw.bInts b = p → Q (.bytes b u) { s with heap := h', toks := tk' }) :
    wpG (model PR w) (ktrTop dp un gd cn cs L a ccd cl []) (call (.ref 152) [.bytes pb t]) Q E s :=
  readq B F X T hk hdp hun N hks hkl (fun p' b u h' tk' h F' K' hb => hret b u h' tk' F' K' (by rw [hS] at h; cases h; exact hb)) fun h' tk' h _ _ => by rw [hS] at h; cases h
theorem read_no {ks : List Int} (hS : readS ks = none) (B : Below A₀ h₀ [] h₀) (F : Fr h₀ L s.heap m) (X : (hd.heap_39 w.params).In h₀) (T : Top hd.view_39 LS mean mg mb h₀) (hk : cs.kind = .function) (hdp : dp + 120 < recursionLimit) (hun : un + 3000 < cLine)
    {pb : Array UInt8} {t : Tok} (N : News h₀ L s.heap []) (hks : KBw.bInts pb = ks) (hkl : ks.length ≤ 100)
    (hret : ∀ (h' : Heap) (tk' : Nat), Fr h₀ L h' m → KeepBut s.heap h' [L] → Q .none { s with heap := h', toks := tk' }) :
    wpG (model PR w) (ktrTop dp un gd cn cs L a ccd cl []) (call (.ref 152) [.bytes pb t]) Q E s :=
  readq B F X T hk hdp hun N hks hkl (fun p' b u h' tk' h F' K' hb => by rw [hS] at h; cases h) fun h' tk' _ F' K' => hret h' tk' F' K'
/-- what a call keeps but for the caller's frame, the caller's own news -/
theorem KeepBut.newsL {h₀ h h' : Heap} {L : Addr} {news : List (Addr × Obj)} (k : KeepBut h h' [L]) (N : News h₀ L h news) : News h₀ L h' news :=
  fun p hp => ⟨k _ _ (N p hp).1 (by rw [List.mem_singleton]; exact (N p hp).2.1), (N p hp).2⟩
end
end PartU2
section PartW0
theorem fill_W0 (w : World) (h₀ : Heap) (hX : (hd.heap_39 w.params).In h₀) : (hd.heap_39 w.params).In h₀ ∧ PySem.Challenge.rw_pb0084_01 = PySem.Challenge.rw_pb0084_01 := by
  k_fill
  exact ⟨hX, rfl⟩
section
variable {w : World} {mg mb : Str → Option Value} {mean : ExcName → Option Value} {dp un : Nat} {gd : Option (List Code)} {cn : Str} {cs : Scope} {L a : Addr} {ccd : Value} {cl : List (Str × Addr)} {outer : List Env} {A₀ : Around} {base h₀ : Heap} {m : Str → Option Value} {s : Shared} {Q E : Value → Shared → Prop} {news : List (Addr × Obj)}


/-- a list of short bytes -/
noncomputable def AllBy : List Value → Prop
  | [] => True
  | v :: r => (∃ b t, v = Value.bytes b t ∧ b.size ≤ 3) ∧ AllBy r
theorem AllBy.at : ∀ {vs : List Value} {i : Nat} (_ : AllBy vs) (h : i < vs.length), ∃ b t, vs[i] = Value.bytes b t ∧ b.size ≤ 3
  | v :: r, 0, a, _ => a.1
  | v :: r, i + 1, a, h => by
    obtain ⟨b, t, e, z⟩ := AllBy.at (i := i) a.2 (Nat.lt_of_succ_lt_succ h)
    exact ⟨b, t, e, z⟩
theorem pickB (B : Below A₀ base outer h₀) (F : Fr h₀ L s.heap m) (X : (hd.heap_39 w.params).In h₀) (T : Top hd.view_39 LS mean mg mb h₀) (hk : cs.kind = .function) (hdp : dp + 40 < recursionLimit) (hun : un + 1000 < cLine)
    {d c l : Addr} {o oc : Obj} {k : Int} {vs : List Value} {n : Nat} (N : News h₀ L s.heap [(l, listOf vs.toArray n), (d, o), (c, oc)]) (D : DeckOK w d c k o oc) (hk1 : k < 1000000) (hi : AllBy vs) (hl0 : 0 < vs.length) (hl1 : vs.length < 1000)
    (hld : @Ne Nat l d) (hlc : @Ne Nat l c)
    (hret : ∀ (b : Array UInt8) (ns : List Int) (t : Tok) (h' : Heap) (tk' : Nat) (o' oc' : Obj), Fr h₀ L h' m → News h₀ L h' [(l, listOf vs.toArray n), (d, o'), (c, oc')] → KeepBut s.heap h' [d, c] → DeckOK w d c (k + 1) o' oc' → KBw.bInts b = ns → ns.length ≤ 3 → Q (.bytes b t) { s with heap := h', toks := tk' }) :
    wpAny (model PR w) (ktrTop dp un gd cn cs L a ccd cl outer) (call (.ref 105) [.ref d, .ref l]) Q E s :=
  pick B F X T hk hdp hun N D hk1 hl0 hl1 hld hlc fun i h h' tk' o' oc' F' N' K' D' => by
    obtain ⟨b, t, e, hm⟩ := hi.at h
    refine of_val (Q := Q) e ?_
    exact hret b _ t h' tk' o' oc' F' N' K' D' rfl (by rw [KBw.ints_length]; exact hm)
theorem eqAt_bytes {A : Around} {s : Shared} (b : Array UInt8) (t : Tok) (c : Array UInt8) (u : Tok) : SeqAt.EqAt A s (.bytes b t) (.bytes c u) (b.toList == c.toList) := fun prog w E Q hq => by
  unfold eqBool
  refine wpAny_holding ?_
  refine wpAny_ite_split (fun hab => ?_) (fun _ => ?_)
  · have e := eq_of_beq hab
    injection e with e1 e2
    subst e1
    rw [beq_self_eq_true] at hq
    exact fun _ _ _ => hq
  · have r : SeqAt.RcAt A s (.bytes b t) (.bytes c u) (b.toList == c.toList) := fun prog w E Q h => eq_bytes (prog := prog) (w := w) (A := A) (E := E) h
    exact wpAny_bind (r prog w E _ (wpAny_truthy_bool hq))
theorem eq_pair {prog : Program} {A : Around} {Ev : Value → Shared → Prop} {a b : Addr} {b1 b2 : Array UInt8} {t1 t2 u1 u2 : Tok} {i1 i2 : Int} {Qv : Value → Shared → Prop}
    (ha : s.heap.IsTuple a #[.bytes b1 t1, .int i1 u1]) (hb : s.heap.IsTuple b #[.bytes b2 t2, .int i2 u2]) (hu : A.units < cLine) (h1 : KBw.bInts b1 = KBw.bInts b2) (h2 : i1 = i2) (h : Qv (.bool true) s) :
    wpAny (model prog w) A (compareOp .Eq (.ref a) (.ref b)) Qv Ev s := by
  have e1 : (b1.toList == b2.toList) = true := by
    rw [beq_iff_eq]
    unfold KBw.bInts at h1
    exact (List.map_inj_right (fun x y e => UInt8.toNat_inj.mp (by omega))).mp h1
  have r := SeqAt.RcAt.tuples (A := A) (s := s) ha hb hu (e := fun j => true) (fun j j1 j2 => by
    match j, j1, j2 with
    | 0, _, _ => have z := eqAt_bytes (A := A.in1) (s := s) b1 t1 b2 t2; rw [e1] at z; exact z
    | 1, _, _ => have z := SeqAt.EqAt.int_int (A := A.in1) (s := s) i1 u1 i2 u2; rw [h2, beq_self_eq_true] at z; rw [h2]; exact z
    | n + 2, j1, _ => exact absurd (show n + 2 < 2 from j1) (by omega))
  exact r prog w Ev Qv h
end
end PartW0
section PartW1
local macro_rules | `(tactic| walk_at "pyIter bytes") => `(tactic| ((with_reducible show wpAny _ _ (pyIter (Value.bytes _ _)) _ _ _); refine Hold.stop ?_))
theorem off_W1 : True := by
  w_top off
  k_with_none
  k_with "LeaveK" => (with_reducible show LeaveK _ _ _ _ _ _ _; (rename GSub _ _ _ => zqkG'); (refine leaveS (by k_asm) zqkG' ?_); clear zqkG'; intro zqkE'; walk_say "KEEPS")
  k_with "call ref" => ((with_reducible show wpAny _ _ (call (Value.ref 98) [_, _]) _ _ _); k_dflt ((rename News _ _ _ _ => zqkN'); (rename DeckOK _ _ _ _ _ _ => zqkD'); (have zqkDn := DeckOK.ne zqkD'); (refine' draw ?k1 ?k2 ?k3 ?k4 ?kA ?kd ?ku ?kN zqkD' ?kk ?kb ?kc ?_; (case k1 => k_asm); (case k2 => k_asm); (case k3 => k_asm); (case k4 => k_asm); (case kA => first | exact rfl | assumption); (case kd => (first | decide | ((try simp only [depth_deeper, units_deeper, units_in1, depth_in1, ktrTop, Nat.add_assoc, Nat.reduceAdd]); (refine room_lt ?_ ?_; assumption; decide)) | ((try simp only [depth_deeper, units_deeper, ktrTop]); omega))); (case ku => (first | decide | ((try simp only [depth_deeper, units_deeper, units_in1, depth_in1, ktrTop, Nat.add_assoc, Nat.reduceAdd]); (refine room_lt ?_ ?_; assumption; decide)) | ((try simp only [depth_deeper, units_deeper, ktrTop]); omega))); (case kN => exact cb_drop (by k_asm) (by lcg_sub)); (case kk => omega); (case kb => omega); (case kc => omega); k_whole); (intro zqr9 zqt9 zqh9 zqtk9 zqo9 zqoc9 zqF9 zqN9 zqKB9 zqD9 zqhr0 zqhr1); (replace zqN9 := KeepBut.news2 zqKB9 zqkN' (by k_updF) (by (intro _; (try dsimp only); k_updF)) zqN9); (clear zqkN' zqkD' zqkDn); (try dsimp only at zqN9); (try dsimp only); (try k_fold)))
  k_with "call ref" => ((with_reducible show wpAny _ _ (call (Value.ref 105) [_, _]) _ _ _); k_dflt ((rename News _ _ _ _ => zqkN'); (rename DeckOK _ _ _ _ _ _ => zqkD'); (have zqkDn := DeckOK.ne zqkD'); (refine' pick ?k1 ?k2 ?k3 ?k4 ?kA ?kd ?ku ?kN zqkD' ?kk ?kb ?kc ?ld ?lc ?_; (case k1 => k_asm); (case k2 => k_asm); (case k3 => k_asm); (case k4 => k_asm); (case kA => first | exact rfl | assumption); (case kd => (first | decide | ((try simp only [depth_deeper, units_deeper, units_in1, depth_in1, ktrTop, Nat.add_assoc, Nat.reduceAdd]); (refine room_lt ?_ ?_; assumption; decide)) | ((try simp only [depth_deeper, units_deeper, ktrTop]); omega))); (case ku => (first | decide | ((try simp only [depth_deeper, units_deeper, units_in1, depth_in1, ktrTop, Nat.add_assoc, Nat.reduceAdd]); (refine room_lt ?_ ?_; assumption; decide)) | ((try simp only [depth_deeper, units_deeper, ktrTop]); omega))); (case kN => exact cb_drop (by k_asm) (by lcg_sub)); (case kk => omega); (case kb => first | decide | (simp only [List.length_append, List.length_cons, List.length_nil]; omega)); (case kc => first | decide | (simp only [List.length_append, List.length_cons, List.length_nil]; omega)); (case ld => omega); (case lc => omega); k_whole); (intro zqi9 zqhi9 zqh9 zqtk9 zqo9 zqoc9 zqF9 zqN9 zqKB9 zqD9); (replace zqN9 := KeepBut.news2 zqKB9 zqkN' (by k_updF) (by (intro _; (try dsimp only); k_updF)) (cb_drop zqN9 (by lcg_sub))); (clear zqkN' zqkD' zqkDn); (try dsimp only at zqN9); (try dsimp only); (try k_fold)))
  k_with "call ref" => ((with_reducible show wpAny _ _ (call (Value.ref 119) [_]) _ _ _); k_dflt ((rename News _ _ _ _ => zqkN'); (rename DeckOK _ _ _ _ _ _ => zqkD'); (have zqkDn := DeckOK.ne zqkD'); (refine' octet ?k1 ?k2 ?k3 ?k4 ?kA ?kd ?ku ?kN zqkD' ?kk ?_; (case k1 => k_asm); (case k2 => k_asm); (case k3 => k_asm); (case k4 => k_asm); (case kA => first | exact rfl | assumption); (case kd => (first | decide | ((try simp only [depth_deeper, units_deeper, units_in1, depth_in1, ktrTop, Nat.add_assoc, Nat.reduceAdd]); (refine room_lt ?_ ?_; assumption; decide)) | ((try simp only [depth_deeper, units_deeper, ktrTop]); omega))); (case ku => (first | decide | ((try simp only [depth_deeper, units_deeper, units_in1, depth_in1, ktrTop, Nat.add_assoc, Nat.reduceAdd]); (refine room_lt ?_ ?_; assumption; decide)) | ((try simp only [depth_deeper, units_deeper, ktrTop]); omega))); (case kN => exact cb_drop (by k_asm) (by lcg_sub)); (case kk => omega); k_whole); (intro zqr9 zqt9 zqh9 zqtk9 zqo9 zqoc9 zqF9 zqN9 zqKB9 zqD9 zqhr0 zqhr1); (replace zqN9 := KeepBut.news2 zqKB9 zqkN' (by k_updF) (by (intro _; (try dsimp only); k_updF)) zqN9); (clear zqkN' zqkD' zqkDn); (try dsimp only at zqN9); (try dsimp only); (try k_fold)))
  k_with "call ref" => ((with_reducible show wpAny _ _ (call (Value.ref 126) [_]) _ _ _); k_dflt ((rename News _ _ _ _ => zqkN'); (refine' figures ?k1 ?k2 ?k3 ?k4 ?kA ?kd ?ku ?kN ?kb ?kc ?_; (case k1 => k_asm); (case k2 => k_asm); (case k3 => k_asm); (case k4 => k_asm); (case kA => first | exact rfl | assumption); (case kd => (first | decide | ((try simp only [depth_deeper, units_deeper, units_in1, depth_in1, ktrTop, Nat.add_assoc, Nat.reduceAdd]); (refine room_lt ?_ ?_; assumption; decide)) | ((try simp only [depth_deeper, units_deeper, ktrTop]); omega))); (case ku => (first | decide | ((try simp only [depth_deeper, units_deeper, units_in1, depth_in1, ktrTop, Nat.add_assoc, Nat.reduceAdd]); (refine room_lt ?_ ?_; assumption; decide)) | ((try simp only [depth_deeper, units_deeper, ktrTop]); omega))); (case kN => exact cb_drop (by k_asm) (by lcg_sub)); (case kb => omega); (case kc => omega); k_whole); (intro zqb9 zqt9 zqh9 zqtk9 zqF9 zqKB9 zqE9); (have zqN9 := KeepBut.news0 zqKB9 zqkN'); (clear zqkN'); (try dsimp only); (try k_fold)))
  k_with "call ref" => ((with_reducible show wpAny _ _ (call (Value.ref 133) [_]) _ _ _); k_dflt ((rename News _ _ _ _ => zqkN'); (refine' isplain ?k1 ?k2 ?k3 ?k4 ?kA ?kd ?ku ?kN ?kb ?kc ?_; (case k1 => k_asm); (case k2 => k_asm); (case k3 => k_asm); (case k4 => k_asm); (case kA => first | exact rfl | assumption); (case kd => (first | decide | ((try simp only [depth_deeper, units_deeper, units_in1, depth_in1, ktrTop, Nat.add_assoc, Nat.reduceAdd]); (refine room_lt ?_ ?_; assumption; decide)) | ((try simp only [depth_deeper, units_deeper, ktrTop]); omega))); (case ku => (first | decide | ((try simp only [depth_deeper, units_deeper, units_in1, depth_in1, ktrTop, Nat.add_assoc, Nat.reduceAdd]); (refine room_lt ?_ ?_; assumption; decide)) | ((try simp only [depth_deeper, units_deeper, ktrTop]); omega))); (case kN => exact cb_drop (by k_asm) (by lcg_sub)); (case kb => omega); (case kc => omega); k_whole); (intro zqh9 zqtk9 zqF9 zqKB9); (have zqN9 := KeepBut.news0 zqKB9 zqkN'); (clear zqkN'); (try dsimp only); (try k_fold)))
  k_with "call ref" => ((with_reducible show wpAny _ _ (call (Value.ref 138) [_]) _ _ _); k_dflt ((rename News _ _ _ _ => zqkN'); (refine' written ?k1 ?k2 ?k3 ?k4 ?kA ?kd ?ku ?kN ?kb ?kc ?_; (case k1 => k_asm); (case k2 => k_asm); (case k3 => k_asm); (case k4 => k_asm); (case kA => first | exact rfl | assumption); (case kd => (first | decide | ((try simp only [depth_deeper, units_deeper, units_in1, depth_in1, ktrTop, Nat.add_assoc, Nat.reduceAdd]); (refine room_lt ?_ ?_; assumption; decide)) | ((try simp only [depth_deeper, units_deeper, ktrTop]); omega))); (case ku => (first | decide | ((try simp only [depth_deeper, units_deeper, units_in1, depth_in1, ktrTop, Nat.add_assoc, Nat.reduceAdd]); (refine room_lt ?_ ?_; assumption; decide)) | ((try simp only [depth_deeper, units_deeper, ktrTop]); omega))); (case kN => exact cb_drop (by k_asm) (by lcg_sub)); (case kb => omega); (case kc => omega); k_whole); (intro zqb9 zqt9 zqh9 zqtk9 zqF9 zqKB9 zqE9); (have zqN9 := KeepBut.news0 zqKB9 zqkN'); (clear zqkN'); (try dsimp only); (try k_fold)))
  k_with "call ref" => ((with_reducible show wpAny _ _ (call (Value.ref 145) [_, _]) _ _ _); k_dflt ((rename News _ _ _ _ => zqkN'); (rename DeckOK _ _ _ _ _ _ => zqkD'); (have zqkDn := DeckOK.ne zqkD'); (refine' told ?k1 ?k2 ?k3 ?k4 ?kA ?kd ?ku ?kN zqkD' ?kk ?kb ?kc ?_; (case k1 => k_asm); (case k2 => k_asm); (case k3 => k_asm); (case k4 => k_asm); (case kA => first | exact rfl | assumption); (case kd => (first | decide | ((try simp only [depth_deeper, units_deeper, units_in1, depth_in1, ktrTop, Nat.add_assoc, Nat.reduceAdd]); (refine room_lt ?_ ?_; assumption; decide)) | ((try simp only [depth_deeper, units_deeper, ktrTop]); omega))); (case ku => (first | decide | ((try simp only [depth_deeper, units_deeper, units_in1, depth_in1, ktrTop, Nat.add_assoc, Nat.reduceAdd]); (refine room_lt ?_ ?_; assumption; decide)) | ((try simp only [depth_deeper, units_deeper, ktrTop]); omega))); (case kN => exact cb_drop (by k_asm) (by lcg_sub)); (case kk => omega); (case kb => omega); (case kc => omega); k_whole); (intro zqb9 zqt9 zqh9 zqtk9 zqo9 zqoc9 zqF9 zqN9 zqKB9 zqD9 zqE9); (replace zqN9 := KeepBut.news2 zqKB9 zqkN' (by k_updF) (by (intro _; (try dsimp only); k_updF)) zqN9); (clear zqkN' zqkD' zqkDn); (try dsimp only at zqN9); (try dsimp only); (try k_fold)))
  k_with "getMethod bytes" => ((with_reducible refine method_join ?_))
  k_with "call builtin:bytes.join" => ((with_reducible show wpAny _ _ (call (Value.builtin "bytes.join") _) _ _ _); refine Hold.stop ?_)
  k_with "call ref" => ((with_reducible show wpAny _ _ (call (Value.ref 105) [_, _]) _ _ _); k_dflt ((rename News _ _ _ _ => zqkN'); (rename DeckOK _ _ _ _ _ _ => zqkD'); (have zqkDn := DeckOK.ne zqkD'); (refine' pickI ?k1 ?k2 ?k3 ?k4 ?kA ?kd ?ku ?kN zqkD' ?kk ?ki ?kv ?kb ?kc ?ld ?lc ?_; (case k1 => k_asm); (case k2 => k_asm); (case k3 => k_asm); (case k4 => k_asm); (case kA => first | exact rfl | assumption); (case kd => (first | decide | ((try simp only [depth_deeper, units_deeper, units_in1, depth_in1, ktrTop, Nat.add_assoc, Nat.reduceAdd]); (refine room_lt ?_ ?_; assumption; decide)) | ((try simp only [depth_deeper, units_deeper, ktrTop]); omega))); (case ku => (first | decide | ((try simp only [depth_deeper, units_deeper, units_in1, depth_in1, ktrTop, Nat.add_assoc, Nat.reduceAdd]); (refine room_lt ?_ ?_; assumption; decide)) | ((try simp only [depth_deeper, units_deeper, ktrTop]); omega))); (case kN => exact cb_drop (by k_asm) (by lcg_sub)); (case kk => omega); (case ki => first | l_ints | l_intsW); (case kv => decide); (case kb => (simp only [List.length_append, List.length_cons, List.length_nil]; omega)); (case kc => (simp only [List.length_append, List.length_cons, List.length_nil]; omega)); (case ld => omega); (case lc => omega); k_whole); (intro zqr9 zqt9 zqh9 zqtk9 zqo9 zqoc9 zqF9 zqN9 zqKB9 zqD9 zqhm9 zqhr0 zqhr1); (replace zqN9 := KeepBut.news2 zqKB9 zqkN' (by k_updF) (by (intro _; (try dsimp only); k_updF)) (cb_drop zqN9 (by lcg_sub))); (clear zqkN' zqkD' zqkDn); (try dsimp only at zqN9); (try dsimp only); (try k_fold)))
  k_with "call ref" => ((with_reducible show wpAny _ _ (call (Value.ref 157) [_, _]) _ _ _); k_dflt ((rename News _ _ _ _ => zqkN'); (rename DeckOK _ _ _ _ _ _ => zqkD'); (have zqkDn := DeckOK.ne zqkD'); (refine' faulty ?k1 ?k2 ?k3 ?k4 ?kA ?kd ?ku ?kN zqkD' ?kk ?kb ?kc ?_; (case k1 => k_asm); (case k2 => k_asm); (case k3 => k_asm); (case k4 => k_asm); (case kA => first | exact rfl | assumption); (case kd => (first | decide | ((try simp only [depth_deeper, units_deeper, units_in1, depth_in1, ktrTop, Nat.add_assoc, Nat.reduceAdd]); (refine room_lt ?_ ?_; assumption; decide)) | ((try simp only [depth_deeper, units_deeper, ktrTop]); omega))); (case ku => (first | decide | ((try simp only [depth_deeper, units_deeper, units_in1, depth_in1, ktrTop, Nat.add_assoc, Nat.reduceAdd]); (refine room_lt ?_ ?_; assumption; decide)) | ((try simp only [depth_deeper, units_deeper, ktrTop]); omega))); (case kN => exact cb_drop (by k_asm) (by lcg_sub)); (case kk => omega); (case kb => assumption); (case kc => omega); k_whole); (intro zqb9 zqt9 zqh9 zqtk9 zqo9 zqoc9 zqF9 zqN9 zqKB9 zqD9 zqE9); (replace zqN9 := KeepBut.news2 zqKB9 zqkN' (by k_updF) (by (intro _; (try dsimp only); k_updF)) zqN9); (clear zqkN' zqkD' zqkDn); (try dsimp only at zqN9); (try dsimp only); (try k_fold)))
  k_with "call ref" => ((with_reducible show wpAny _ _ (call (Value.ref 69) [_]) _ _ _); k_dflt ((rename News _ _ _ _ => zqkN'); (refine' mustq ?k1 ?k2 ?k3 ?k4 ?kA ?kd ?ku ?kN ?kb ?kc ?_; (case k1 => k_asm); (case k2 => k_asm); (case k3 => k_asm); (case k4 => k_asm); (case kA => first | exact rfl | assumption); (case kd => (first | decide | ((try simp only [depth_deeper, units_deeper, units_in1, depth_in1, ktrTop, Nat.add_assoc, Nat.reduceAdd]); (refine room_lt ?_ ?_; assumption; decide)) | ((try simp only [depth_deeper, units_deeper, ktrTop]); omega))); (case ku => (first | decide | ((try simp only [depth_deeper, units_deeper, units_in1, depth_in1, ktrTop, Nat.add_assoc, Nat.reduceAdd]); (refine room_lt ?_ ?_; assumption; decide)) | ((try simp only [depth_deeper, units_deeper, ktrTop]); omega))); (case kN => exact cb_drop (by k_asm) (by lcg_sub)); (case kb => omega); (case kc => omega); k_whole); (intro zqh9 zqtk9 zqF9 zqKB9); (have zqN9 := KeepBut.news0 zqKB9 zqkN'); (clear zqkN'); (try dsimp only); (try k_fold)))
  k_with "compareOp In int ref" => ((with_reducible show wpAny _ _ (compareOp CmpOp.In (Value.int _ _) (Value.ref 62)) _ _ _); k_dflt (first | (refine esc_in_some (by k_asm) (by k_asm) (by assumption) ?_) | (refine esc_in_none (by k_asm) (by k_asm) (by assumption) ?_)))
  k_with "subscriptTail" => ((with_reducible show wpAny _ _ (subscriptTail _ _ (Value.ref 62) (Value.int _ _)) _ _ _); k_dflt ((refine esc_item (by k_asm) (by k_asm) (by assumption) ?_ (by with_unfolding_all rfl)); intro zqb9 zqt9 zqE9))
  k_with "getMethod ref" => ((with_reducible show wpAny _ _ (getMethod (Value.ref _) (PySem.Str.ofString "append") _) _ _ _); (rename News _ _ _ _ => zqkN'); k_dflt (refine method_append (b := _) ((zqkN' _ (by first | exact .head _ | exact .tail _ (.head _) | exact .tail _ (.tail _ (.head _)))).1) ?_))
  k_with "call ref" => ((with_reducible show wpAny _ _ (call (Value.ref 61) [_]) _ _ _); k_dflt ((rename News _ _ _ _ => zqkN'); (refine' octal2 ?k1 ?k2 ?k3 ?k4 ?kA ?kd ?ku ?kN ?kb ?kc ?kO ?_; (case k1 => k_asm); (case k2 => k_asm); (case k3 => k_asm); (case k4 => k_asm); (case kA => first | exact rfl | assumption); (case kd => (first | decide | ((try simp only [depth_deeper, units_deeper, units_in1, depth_in1, ktrTop, Nat.add_assoc, Nat.reduceAdd]); (refine room_lt ?_ ?_; assumption; decide)) | ((try simp only [depth_deeper, units_deeper, ktrTop]); omega))); (case ku => (first | decide | ((try simp only [depth_deeper, units_deeper, units_in1, depth_in1, ktrTop, Nat.add_assoc, Nat.reduceAdd]); (refine room_lt ?_ ?_; assumption; decide)) | ((try simp only [depth_deeper, units_deeper, ktrTop]); omega))); (case kN => exact cb_drop (by k_asm) (by lcg_sub)); (case kb => assumption); (case kc => first | omega | (simp only [List.length_take, List.length_drop]; omega)); (case kO => assumption); k_whole); (intro zqt9 zqh9 zqtk9 zqF9 zqKB9); (have zqN9 := KeepBut.news0 zqKB9 zqkN'); (clear zqkN'); (try dsimp only [optV]); (try k_fold)))
  k_with "compareOp In int ref" => ((with_reducible show wpAny _ _ (compareOp CmpOp.In (Value.int _ _) (Value.ref _)) _ _ _); k_dflt (first | (refine names_in_some (by k_asm) (by k_mem) (by assumption) (by assumption) (by assumption) (by assumption) ?_) | (refine names_in_none (by k_asm) (by k_mem) (by assumption) (by assumption) (by assumption) (by assumption) ?_)))
  k_with "subscriptTail" => ((with_reducible show wpAny _ _ (subscriptTail _ _ (Value.ref _) (Value.int _ _)) _ _ _); k_dflt ((refine names_item (by k_asm) (by k_mem) (by assumption) (by assumption) (by assumption) ?_ (by with_unfolding_all rfl)); intro zqu9))
  k_with "subscriptTail" => ((with_reducible show wpAny _ _ (subscriptTail _ (Expr.Slice (some _) (some _) none _) (Value.bytes _ _) (Value.ref _)) _ _ _); (with_reducible rename Fr _ _ _ _ => zqF'); (with_reducible rename News _ _ _ _ => zqN'); k_dflt ((first | refine slice_A (s := ⟨_, _, _, _, _⟩) 1 zqF' zqN' (by kba_ints) (by kba_size) rfl (by omega) ?_ (by with_unfolding_all rfl) (by intro _; with_unfolding_all rfl) | refine slice_A (s := ⟨_, _, _, _, _⟩) 3 zqF' zqN' (by kba_ints) (by kba_size) rfl (by omega) ?_ (by with_unfolding_all rfl) (by intro _; with_unfolding_all rfl)); intro zqb9 zqh9 zqt9 zqk9 zqF9 zqN9 zqE9; (try (rename List.take 3 _ = _ => zqhr3'; rw [zqhr3'] at zqE9))))
  k_with "exec Raise some none" => ((with_reducible show wpAny _ _ (exec (Stmt.Raise _ _ _) _) _ _ _); refine Hold.stop ?_)
  k_with "call ref" => ((with_reducible show wpAny _ _ (call (Value.ref 105) [_, _]) _ _ _); k_dflt ((rename News _ _ _ _ => zqkN'); (rename DeckOK _ _ _ _ _ _ => zqkD'); (have zqkDn := DeckOK.ne zqkD'); (refine' pickB ?k1 ?k2 ?k3 ?k4 ?kA ?kd ?ku ?kN zqkD' ?kk ?ki ?kb ?kc ?ld ?lc ?_; (case k1 => k_asm); (case k2 => k_asm); (case k3 => k_asm); (case k4 => k_asm); (case kA => first | exact rfl | assumption); (case kd => (first | decide | ((try simp only [depth_deeper, units_deeper, units_in1, depth_in1, ktrTop, Nat.add_assoc, Nat.reduceAdd]); (refine room_lt ?_ ?_; assumption; decide)) | ((try simp only [depth_deeper, units_deeper, ktrTop]); omega))); (case ku => (first | decide | ((try simp only [depth_deeper, units_deeper, units_in1, depth_in1, ktrTop, Nat.add_assoc, Nat.reduceAdd]); (refine room_lt ?_ ?_; assumption; decide)) | ((try simp only [depth_deeper, units_deeper, ktrTop]); omega))); (case kN => exact cb_drop (by k_asm) (by lcg_sub)); (case kk => omega); (case ki => exact (by (repeat (refine ⟨⟨_, _, rfl, by decide⟩, ?_⟩)); exact trivial)); (case kb => (simp only [List.length_append, List.length_cons, List.length_nil]; omega)); (case kc => (simp only [List.length_append, List.length_cons, List.length_nil]; omega)); (case ld => (first | omega | (rename (_ < _) ∧ _ => zqkl9; first | exact Nat.ne_of_gt zqkl9.2.1 | exact Nat.ne_of_gt zqkl9.2.2 | exact Nat.ne_of_gt zqkl9.2.2.1 | exact Nat.ne_of_gt zqkl9.2.2.2))); (case lc => (first | omega | (rename (_ < _) ∧ _ => zqkl9; first | exact Nat.ne_of_gt zqkl9.2.1 | exact Nat.ne_of_gt zqkl9.2.2 | exact Nat.ne_of_gt zqkl9.2.2.1 | exact Nat.ne_of_gt zqkl9.2.2.2))); k_whole); (intro zqb9 zqns9 zqt9 zqh9 zqtk9 zqo9 zqoc9 zqF9 zqN9 zqKB9 zqD9 zqhE9 zqhl9); (replace zqN9 := KeepBut.news2 zqKB9 zqkN' (by k_updF) (by (intro _; (try dsimp only); k_updF)) (cb_drop zqN9 (by lcg_sub))); (clear zqkN' zqkD' zqkDn); (try dsimp only at zqN9); (try dsimp only); (try k_fold)))
  k_with "call type:tuple" => ((with_reducible show wpAny _ _ (call (Value.type "tuple") _) _ _ _); refine Hold.stop ?_)
  k_with "compareOp Eq ref ref" => ((with_reducible show wpAny _ _ (compareOp CmpOp.Eq (Value.ref _) (Value.ref _)) _ _ _); refine Hold.stop ?_)
  k_with "eval ListComp" => ((with_reducible show wpAny _ _ (eval (Expr.ListComp _ _ _ _) (envOfC _ _ _ _ _)) _ _ _); refine Hold.stop ?_)
  trivial
theorem fill_W1 (w : World) (h₀ : Heap) (hX : (hd.heap_39 w.params).In h₀) : (hd.heap_39 w.params).In h₀ ∧ PySem.Challenge.rw_pb0084_01 = PySem.Challenge.rw_pb0084_01 := by
  k_fill
  exact ⟨hX, rfl⟩
section
variable {w : World} {mg mb : Str → Option Value} {mean : ExcName → Option Value} {dp un : Nat} {gd : Option (List Code)} {cn : Str} {cs : Scope} {L a : Addr} {ccd : Value} {cl : List (Str × Addr)} {outer : List Env} {A₀ : Around} {base h₀ : Heap} {m : Str → Option Value} {s : Shared} {Q E : Value → Shared → Prop} {news : List (Addr × Obj)}


theorem told_len {n : Int} {v : List Int} (h : toldIs n v) : v.length ≤ 4 := by
  rcases h with rfl | ⟨rfl, _⟩ | rfl
  · simp [figs]
  · simp
  · exact writ_len n
theorem parts_len : ∀ {ks : List Int} {ps : List (List Int)}, Parts toldIs ks ps → ps.flatten.length ≤ 4 * ks.length
  | [], [], _ => by simp
  | k :: ks, p :: ps, h => by
    have h1 := told_len h.1
    have h2 := parts_len h.2
    simp only [List.flatten_cons, List.length_append, List.length_cons]; omega
  | [], _ :: _, h => False.elim h
  | _ :: _, [], h => False.elim h
theorem right_unq {n1 n2 inner ks : List Int} {ps : List (List Int)} (hp : Parts toldIs ks ps) (hin : inner = ps.flatten) (hb : ∀ k ∈ ks, 0 ≤ k ∧ k < 256) :
    unq ((n1 ++ [34] ++ inner ++ [34] ++ n2).length + 1) ((n1 ++ [34] ++ inner ++ [34] ++ n2).drop ((n1.length : Int).toNat + 1)) = some (ks, n2) := by
  have e : (n1 ++ [34] ++ inner ++ [34] ++ n2).drop ((n1.length : Int).toNat + 1) = inner ++ 34 :: n2 := by
    rw [Int.toNat_natCast, ← List.drop_drop]
    simp [List.append_assoc, List.drop_append]
  rw [e, hin]
  exact unq_parts hp hb (by simp only [List.length_append]; omega)
theorem within (B : Below A₀ base outer h₀) (F : Fr h₀ L s.heap m) (X : (hd.heap_39 w.params).In h₀) (T : Top hd.view_39 LS mean mg mb h₀) (hk : cs.kind = .function) (hdp : dp + 150 < recursionLimit) (hun : un + 4000 < cLine)
    {d c : Addr} {o oc : Obj} {k : Int} {pb : Array UInt8} {ks : List Int} {t : Tok} (N : News h₀ L s.heap [(d, o), (c, oc)]) (D : DeckOK w d c k o oc) (hk1 : k < 999000) (hks : KBw.bInts pb = ks) (hkl : ks.length ≤ 8)
    (hret : ∀ (h' : Heap) (tk' : Nat), Fr h₀ L h' m → KeepBut s.heap h' [d, c] → Q (.bool true) { s with heap := h', toks := tk' }) :
    wpG (model PR w) (ktrTop dp un gd cn cs L a ccd cl outer) (call (.ref 162) [.ref d, .bytes pb t]) Q E s := by
  refine wpG_call ?_
  k_dflt (refine' enterGC ?k1 ?k2 ?k3 ?k4 ?k5 ?kA ?kF ?kK ?k6 ?k7 ?k8 ?k9 ?kB ?kD ?_ ?c2 ?c3 ?c4; (case kA => exact rfl); (case kF => exact rfl); (case kK => assumption); (case k1 => k_asm); (case k2 => k_asm); (case k3 => k_asm); (case k4 => k_asm); (case k5 => k_asm); (case k6 => k_is); (case k7 => k_is); (case k8 => ktr_room); (case k9 => exact BindsTo.of_eq rfl); (case kB => rfl); (case kD => decide); (case c2 => exact rfl); (case c3 => exact rfl); (case c4 => exact rfl); k_whole; intro g' L' h' tk' cells' FG' F' N' X0' B' X' T' hlt' kG'; cells_open X0'; (try simp only [List.append_nil, List.cons_append, List.nil_append] at N'); (try dsimp only); (try k_fold))
  rename Obj => co
  have hdL : @LT.lt Nat _ d L' := hlt' (d, o) (.head _)
  have hcL : @LT.lt Nat _ c L' := hlt' (c, oc) (.tail _ (.head _))
  have hdL1 : @Ne Nat d (L' + 1) := Nat.ne_of_lt (Nat.lt_succ_of_lt hdL)
  have hcL1 : @Ne Nat c (L' + 1) := Nat.ne_of_lt (Nat.lt_succ_of_lt hcL)
  refine wpG_name ?_
  intro Q' E' hQ hE
  refine execsG_any ?_
  k_fold
  k_steps
  rename Fr _ _ _ _ => lF'
  rename News _ _ _ _ => lN'
  rename DeckOK _ _ _ _ _ _ => lD'
  obtain ⟨o3, oc3, lN3, lD3⟩ : ∃ o3 oc3, News g' L' _ [(L' + 1, co), (d, o3), (c, oc3)] ∧ DeckOK w d c (k + 1 + 1) o3 oc3 := ⟨_, _, cb_drop lN' (by lcg_sub), lD'⟩
  clear lN' lD'
  rename KBw.bInts _ = _ => hE2
  rename List.length _ ≤ 3 => hl2
  revert hE2 hl2
  rename KBw.bInts _ = _ => hE1
  rename List.length _ ≤ 3 => hl1
  intro hE2 hl2
  refine execsG_any ?_
  k_steps
  refine Hold.go ?_
  k_dflt (refine ListComp_B lF' (by rfl) (by decide) (by rfl) (by decide) (by rfl) ?_)
  k_steps
  have hps : pb.size ≤ 8 := by rw [← KBw.ints_length, hks]; exact hkl
  refine SrcB.intro rfl (by k_asm) lN3 (by rw [← KBw.ints_length, hks, sizeLine_eq]; omega) ?_
  intro gz
  refine comp_each ks (by rw [← hks]; exact KBw.ints_length pb) (PB.ks hks) (fun i nw => ∃ o' oc', nw = [(L' + 1, co), (d, o'), (c, oc')] ∧ DeckOK w d c (k + 1 + 1 + (i : Int)) o' oc') (fun k y => ∃ b t, y = Value.bytes b t ∧ toldIs k (KBw.bInts b)) ?_ ?_ _ 0 [] _ (by omega) ⟨_, _, rfl, by simpa using lD3⟩ (by simp [Each])
  · intro i x tx I oI C oC Dl ys nw m₂ h tk E' Qv hJ hi hm hC hx lF lN off ne yes
    obtain ⟨o', oc', rfl, lD⟩ := hJ
    have hx0 := (KBw.ints_in (hks ▸ hm)).1
    have hx1 := (KBw.ints_in (hks ▸ hm)).2
    obtain ⟨od1, od2, od3⟩ : @Ne Nat d I ∧ @Ne Nat d C ∧ @Ne Nat d Dl := off.2.1
    obtain ⟨oc1, oc2, oc3⟩ : @Ne Nat c I ∧ @Ne Nat c C ∧ @Ne Nat c Dl := off.2.2.1
    k_steps
    rename DeckOK _ _ _ _ _ _ => lD9
    exact yes _ _ _ _ ⟨_, _, rfl, by assumption⟩ ⟨_, _, rfl, DeckOK.mono (by omega) lD9⟩ (by k_asm) (by k_asm) off
  intro ys nw he hJ
  obtain ⟨o4, oc4, rfl, lD4⟩ := hJ
  intro Dl h tk lF lN off
  obtain ⟨bs, hbs, hparts⟩ := joinAll he
  k_steps
  refine Hold.go ?_
  have hil := parts_len hparts
  refine join_K (News.isList lN (.head _)) hbs (by omega) ?_
  intro ib it ik hib
  obtain ⟨inner, hin⟩ : ∃ inner, inner = (bs.map KBw.bInts).flatten := ⟨_, rfl⟩
  rw [← hin] at hib hil
  k_steps
  refine execsG_cons (Assign_NameG (Call_NameG ?_))
  k_steps
  k_dflt (refine' callG_K2 ?k1 ?k2 ?_; (case k1 => k_asm); (case k2 => k_is); k_whole)
  k_steps
  rename KBw.bInts _ = _ => hApp
  have hkb : ∀ x ∈ ks, 0 ≤ x ∧ x < 256 := fun x hx => KBw.ints_in (hks ▸ hx)
  have hU := fun n1 n2 => right_unq (n1 := n1) (n2 := n2) hparts hin hkb
  refine' patch ?k1 ?k2 ?k3 ?k4 ?kA ?kd ?ku ?kN ?kb ?kc ?ka ?kz ?_ ?_
  (case kb => exact hApp)
  (case k1 => k_asm); (case k2 => k_asm); (case k3 => k_asm); (case k4 => k_asm); (case kA => exact rfl); (case kd => (first | decide | ((try simp only [depth_deeper, units_deeper, units_in1, depth_in1, ktrTop, Nat.add_assoc, Nat.reduceAdd]); (refine room_lt ?_ ?_; assumption; decide)) | ((try simp only [depth_deeper, units_deeper, ktrTop]); omega))); (case ku => (first | decide | ((try simp only [depth_deeper, units_deeper, units_in1, depth_in1, ktrTop, Nat.add_assoc, Nat.reduceAdd]); (refine room_lt ?_ ?_; assumption; decide)) | ((try simp only [depth_deeper, units_deeper, ktrTop]); omega))); (case kN => exact cb_drop (by k_asm) (by lcg_sub)); (case kc => (simp only [List.length_append, List.length_map, List.length_cons, List.length_nil]; omega)); (case ka => omega); (case kz => (simp only [List.length_append, List.length_map, List.length_cons, List.length_nil]; omega))
  · intro p r pos b u v D' h8 tk8 hu hpos F8 N8 KB8 hb
    have hu2 := (hU _ _).symm.trans hu
    obtain ⟨rfl, rfl⟩ : ks = p ∧ _ = r := by
      injection hu2 with hu2
      injection hu2 with q1 q2
      exact ⟨q1, q2⟩
    (try dsimp only)
    simp only [List.length_append, List.length_map, List.length_cons, List.length_nil] at hpos
    k_steps
    rename News _ _ _ _ => lN9
    refine execsG_any ?_
    k_steps
    refine call_tuple_tup (News.isTup (by k_asm) (.head _)) ?_
    k_steps
    refine Hold.go ?_
    rename News _ _ _ _ => lN10
    refine eq_pair ⟨_, (lN10 _ (.tail _ (.head _))).1, rfl, _, rfl⟩ ⟨_, (lN10 _ (.head _)).1, rfl, _, rfl⟩ (by (first | decide | ((try simp only [depth_deeper, units_deeper, units_in1, depth_in1, ktrTop, Nat.add_assoc, Nat.reduceAdd]); (refine room_lt ?_ ?_; assumption; decide)) | ((try simp only [depth_deeper, units_deeper, ktrTop]); omega))) (hb.trans hks.symm) (by rw [hpos]; omega) ?_
    k_steps
    refine hQ _ _ ?_
    k_steps
    exact hret _ _ (by k_asm) (by k_asm)
  · intro hu
    have hu2 := (hU _ _).symm.trans hu
    cases hu2
end
end PartW1
section PartL0
theorem fill_L0 (w : World) (h₀ : Heap) (hX : (hd.heap_39 w.params).In h₀) : (hd.heap_39 w.params).In h₀ ∧ PySem.Challenge.rw_pb0084_01 = PySem.Challenge.rw_pb0084_01 := by
  k_fill
  exact ⟨hX, rfl⟩
section
variable {w : World} {mg mb : Str → Option Value} {mean : ExcName → Option Value} {dp un : Nat} {gd : Option (List Code)} {cn : Str} {cs : Scope} {L a : Addr} {ccd : Value} {cl : List (Str × Addr)} {outer : List Env} {A₀ : Around} {base h₀ : Heap} {m : Str → Option Value} {s : Shared} {Q E : Value → Shared → Prop} {news : List (Addr × Obj)}


theorem deck_nums (l : List Int) : ∀ x ∈ ((l.map fun k' => k'.fmod (10 ^ Int.toNat 40)).reverse), 0 ≤ x ∧ x < 10 ^ 40 := by
  intro x hx
  rw [List.mem_reverse, List.mem_map] at hx
  obtain ⟨y, _, rfl⟩ := hx
  exact ⟨Int.fmod_nonneg_of_pos _ (by decide), Int.fmod_lt_of_pos _ (by decide)⟩
theorem octs_of : ∀ {ks : List Int} {ys : List Value}, Each (fun _ y => ∃ v t, y = Value.int v t ∧ 0 ≤ v ∧ v < 256) ks ys → ∃ ns, IntsAre ys ns ∧ (∀ x ∈ ns, 0 ≤ x ∧ x < 256) ∧ ns.length = ks.length
  | [], [], _ => ⟨[], .nil, by simp, rfl⟩
  | k :: ks, y :: ys, h => by
    obtain ⟨⟨v, t, rfl, h0, h1⟩, h2⟩ := h
    obtain ⟨ns, a, b, e⟩ := octs_of h2
    exact ⟨v :: ns, .cons _ _ a, fun x hx => by rcases List.mem_cons.mp hx with rfl | hx; exact ⟨h0, h1⟩; exact b x hx, by simp [e]⟩
  | [], _ :: _, h => False.elim h
  | _ :: _, [], h => False.elim h
theorem upto_get {n i : Nat} (h : i < n) : ((List.range n).map fun i : Nat => (i : Int))[i]? = some (i : Int) := by
  simp [h]
theorem must_true {n : Int} : mustQ n = true ↔ ¬ (32 ≤ n ∧ n ≤ 126 ∧ n ≠ 34 ∧ n ≠ 92) := by
  rw [← must_plain]; simp
theorem filter_any (ks : List Int) : decide (ks.filter mustQ = []) = !ks.any mustQ := by
  induction ks with
  | nil => rfl
  | cons k r ih =>
    cases hk : mustQ k with
    | true => simp [List.filter_cons, hk]
    | false => simpa [List.filter_cons, hk] using ih
theorem bytes_inj {b c : Array UInt8} (h : KBw.bInts b = KBw.bInts c) : b.toList = c.toList := by
  unfold KBw.bInts at h
  exact (List.map_inj_right (fun x y e => UInt8.toNat_inj.mp (by omega))).mp h
theorem bytes_ne_false {b c : Array UInt8} (h : KBw.bInts b = KBw.bInts c) : (b.toList != c.toList) = false := by
  rw [bytes_inj h]; simp
theorem wpG_cut {α : Type} {M : Model} {A : Around} {t : Sem α} {Q : α → Shared → Prop} {E : Value → Shared → Prop} {s : Shared} (I : α → Shared → Prop) (h : wpG M A t I E s) (k : ∀ a s', I a s' → Q a s') : wpG M A t Q E s :=
  wpG_mono h k fun _ _ x => x
theorem IfG_cutG {M : Model} {A : Around} {env : Env} {E : Value → Shared → Prop} {s : Shared} {test : PySem.Expr} {body orelse : List Stmt} {pos : Pos} {Q : Flow → Shared → Prop} (J : Shared → Prop)
    (h : wpG M A (isTrue test env (eval test env)) (fun b s₂ => b = false ∧ J s₂) E s)
    (hJ : ∀ s₂, J s₂ → wpG M A (execs orelse env) Q E s₂) : wpG M A (exec (.If test body orelse pos) env) Q E s := by
  refine IfG (wpG_mono h (fun b s₂ h₂ => ?_) fun _ _ x => x)
  obtain ⟨rfl, h₂⟩ := h₂
  exact hJ _ h₂
theorem orG_cut {M : Model} {A : Around} {env : Env} {E : Value → Shared → Prop} {s : Shared} {x : PySem.Expr} {rest : List PySem.Expr} {pos : Pos} {whole : Sem Value} {Q : Bool → Shared → Prop} (J : Shared → Prop)
    (h : wpG M A (isTrue x env (eval x env)) (fun c s' => c = false ∧ J s') E s) (hJ : ∀ s₂, J s₂ → wpG M A (isTrue (.BoolOp .Or rest pos) env whole) Q E s₂) :
    wpG M A (isTrue (.BoolOp .Or (x :: rest) pos) env whole) Q E s := by
  refine isTrue_orG (wpG_mono h (fun c s' h' => ?_) fun _ _ x => x)
  obtain ⟨rfl, h'⟩ := h'
  exact hJ _ h'
theorem orG_last {M : Model} {A : Around} {env : Env} {E : Value → Shared → Prop} {s : Shared} {x : PySem.Expr} {pos : Pos} {whole : Sem Value} {Q : Bool → Shared → Prop}
    (h : wpG M A (isTrue x env (eval x env)) Q E s) : wpG M A (isTrue (.BoolOp .Or [x] pos) env whole) Q E s := by
  refine isTrue_orG (wpG_mono h (fun c s' h' => ?_) fun _ _ x => x)
  cases c with
  | true => exact h'
  | false => exact wpG_pure h'
theorem IfG_cutF {M : Model} {A : Around} {env : Env} {E : Value → Shared → Prop} {s : Shared} {test : PySem.Expr} {body orelse : List Stmt} {pos : Pos} {Q : Flow → Shared → Prop} {h₀ : Heap} {L : Addr} {m : Str → Option Value} {nw : List (Addr × Obj)} (_F : Fr h₀ L s.heap m) (_N : News h₀ L s.heap nw)
    (h : wpG M A (isTrue test env (eval test env)) (fun b s₂ => b = false ∧ Hold (∃ (h : Heap) (tk : Nat), s₂ = { s with heap := h, toks := tk } ∧ Fr h₀ L h m ∧ News h₀ L h nw)) E s)
    (hJ : ∀ (h : Heap) (tk : Nat), Fr h₀ L h m → News h₀ L h nw → wpG M A (execs orelse env) Q E { s with heap := h, toks := tk }) : wpG M A (exec (.If test body orelse pos) env) Q E s :=
  IfG_cutG _ h fun s₂ hh => by
    obtain ⟨h, tk, rfl, F, N⟩ := Hold.stop hh
    exact hJ h tk F N
theorem orG_cutF {M : Model} {A : Around} {env : Env} {E : Value → Shared → Prop} {s : Shared} {x : PySem.Expr} {rest : List PySem.Expr} {pos : Pos} {whole : Sem Value} {Q : Bool → Shared → Prop} {h₀ : Heap} {L : Addr} {m : Str → Option Value} {nw : List (Addr × Obj)} (_F : Fr h₀ L s.heap m) (_N : News h₀ L s.heap nw)
    (h : wpG M A (isTrue x env (eval x env)) (fun b s₂ => b = false ∧ Hold (∃ (h : Heap) (tk : Nat), s₂ = { s with heap := h, toks := tk } ∧ Fr h₀ L h m ∧ News h₀ L h nw)) E s)
    (hJ : ∀ (h : Heap) (tk : Nat), Fr h₀ L h m → News h₀ L h nw → wpG M A (isTrue (.BoolOp .Or rest pos) env whole) Q E { s with heap := h, toks := tk }) : wpG M A (isTrue (.BoolOp .Or (x :: rest) pos) env whole) Q E s :=
  orG_cut _ h fun s₂ hh => by
    obtain ⟨h, tk, rfl, F, N⟩ := Hold.stop hh
    exact hJ h tk F N
theorem must_eq (n : Int) : (mustQ n == decide (32 ≤ n ∧ n ≤ 126 ∧ n ≠ 34 ∧ n ≠ 92)) = false := by
  cases h : mustQ n with
  | true => rw [decide_eq_false (must_true.mp h)]; rfl
  | false => rw [decide_eq_true (must_plain.mp h)]; rfl
theorem andG_last {M : Model} {A : Around} {env : Env} {E : Value → Shared → Prop} {s : Shared} {x : PySem.Expr} {pos : Pos} {whole : Sem Value} {Q : Bool → Shared → Prop}
    (h : wpG M A (isTrue x env (eval x env)) Q E s) : wpG M A (isTrue (.BoolOp .And [x] pos) env whole) Q E s := by
  refine isTrue_andG (wpG_mono h (fun c s' h' => ?_) fun _ _ x => x)
  cases c with
  | false => exact h'
  | true => exact wpG_pure h'
theorem fault_len {ks v : List Int} (h : faultIs ks v) : v.length ≤ 4 * ks.length + 6 := by
  obtain ⟨inner, rfl, h⟩ := h
  have hl := writ_flat ks
  rcases h with rfl | ⟨x, rfl⟩ | ⟨x, _, rfl⟩ | rfl | rfl | rfl <;> (simp only [List.cons_append, List.length_append, List.length_cons, List.length_nil]; omega)
theorem readS_plain {ks : List Int} (h : ¬ ks.head? = some 34) : readS ks = some ks := by rw [readS, if_neg h]
end
end PartL0
section PartLf
theorem fill_Lf (w : World) (h₀ : Heap) (hX : (hd.heap_39 w.params).In h₀) : (hd.heap_39 w.params).In h₀ ∧ PySem.Challenge.rw_pb0084_01 = PySem.Challenge.rw_pb0084_01 := by
  k_fill
  exact ⟨hX, rfl⟩
section
variable {w : World} {mg mb : Str → Option Value} {mean : ExcName → Option Value} {dp un : Nat} {gd : Option (List Code)} {cn : Str} {cs : Scope} {L a : Addr} {ccd : Value} {cl : List (Str × Addr)} {outer : List Env} {A₀ : Around} {base h₀ : Heap} {m : Str → Option Value} {s : Shared} {Q E : Value → Shared → Prop} {news : List (Addr × Obj)}


section
variable {prog : Program} {A : Around} {Ev : Value → Shared → Prop} {env : Env} {m0 : Str → Option Value} {nw0 : List (Addr × Obj)}
theorem ints_at : ∀ {vs : List Value} {ns : List Int} (_ : IntsAre vs ns) (i : Nat) (v : Value), vs[i]? = some v → ∃ n t, v = Value.int n t ∧ n ∈ ns
  | _, _, .nil, i, v, h => by simp at h
  | _, _, .cons n t r, 0, v, h => by simp at h; exact ⟨n, t, h.symm, .head _⟩
  | _, _, .cons n t r, i + 1, v, h => by
    obtain ⟨n', t', e, hm⟩ := ints_at r i v (by simpa using h)
    exact ⟨n', t', e, .tail _ hm⟩
theorem forIntsG {x z : Str} {px : Pos} {body : List Stmt} {ax : Addr} {ys : List Value} {ns : List Int} {Q : Flow → Shared → Prop}
    (hh : A.handled = none) (hi : IntsAre ys ns) (hloc : env.locals = L) (hkx : env.kindOf x = some .local) (hcls : (env.scope.kind == .class || (env.scope.kind == .module && env.locals != env.globals)) = false)
    (F : Fr h₀ L s.heap m0) (N : News h₀ L s.heap nw0) (hl : ∀ h, News h₀ L h nw0 → h.IsList ax ys.toArray) 
    (turn : ∀ (k : Int) (u : Tok) (I : Addr) (oI : Obj) h tk (tv : Option Value) (E' : Value → Shared → Prop) (Qn : Shared → Prop) (Qb : Shared → Prop) (Qr : Value → Shared → Prop), k ∈ ns → Fr h₀ L h (fun y => if y = x then some (.int k u) else if y = z then tv else m0 y) → News h₀ L h ((I, oI) :: nw0) →
      (∀ h' tk' ov tv' m', m' = (fun y => if y = x then ov else if y = z then tv' else m0 y) → Fr h₀ L h' m' → News h₀ L h' ((I, oI) :: nw0) → Qn { s with heap := h', toks := tk' }) →
      wpG (model prog w) A (execs body env) (fun f s' => match f with | .next | .cont => Qn s' | .brk => Qb s' | .ret v => Qr v s') E' { s with heap := h, toks := tk })
    (done : ∀ h tk ov tv, Fr h₀ L h (fun y => if y = x then ov else if y = z then tv else m0 y) → News h₀ L h nw0 → Q .next { s with heap := h, toks := tk }) :
    wpAny (model prog w) A (pyIter (.ref ax)) (fun it s₂ => codeG (model prog w) A (.forLoop (.Name x px) it body [] env) (fun r s' => match r with | .ok f => Q f s' | .error e => cameBackBy (model prog w) A env Ev e s') s₂) Ev s := by
  subst hloc
  have hls := hl _ N
  have hlt : ax < s.heap.objs.size := by obtain ⟨_, e, _⟩ := hls; exact Heap.lt_size e
  refine wpAny_pyIter_list hls ?_
  have hIL : @Ne Nat s.heap.objs.size env.locals := fun e => Nat.lt_irrefl _ (e ▸ F.ns.lt)
  have hI0 := next_is_new F
  have key : ∀ b o, s.heap.get? b = some o → (s.heap.push { cls := .type "list_iterator", data := .fields #[.ref ax, .int 0 0] }).get? b = some o := fun b o e => Heap.get?_push_of_some _ e
  have hm0 : (fun y => if y = x then m0 x else if y = z then m0 z else m0 y) = m0 := by
    funext y; by_cases hy : y = x
    · simp [hy]
    · by_cases hz : y = z
      · rw [if_neg hy, if_pos hz, hz]
      · simp [hy, hz]
  have W := Walks.list (prog := prog) (w := w) hh s.heap.objs.size ax (Nat.ne_of_lt hlt) ys.toArray
  have off : ∀ p ∈ nw0, @Ne Nat p.1 s.heap.objs.size := fun p hp => Nat.ne_of_lt (Heap.lt_size (N p hp).1)
  refine codeG_forLoop (fun k s' => ∃ h' tk i oI ov tv, s' = { s with heap := h', toks := tk } ∧ i ≤ ys.toArray.size ∧ k = ys.toArray.size + 1 - i ∧ (h'.IsListIter s.heap.objs.size ax i ∧ h'.IsList ax ys.toArray) ∧ h'.get? s.heap.objs.size = some oI ∧ Fr h₀ env.locals h' (fun y => if y = x then ov else if y = z then tv else m0 y) ∧
    News h₀ env.locals h' nw0) ?_ (ys.toArray.size + 1) ⟨_, _, 0, _, m0 x, m0 z, rfl, Nat.zero_le _, rfl, ⟨⟨_, Heap.get?_push_size _ rfl, rfl, rfl⟩, hls.push _⟩, Heap.get?_push_size _ rfl, by rw [hm0]; exact F.keeps key, fun p hp => ⟨key _ _ (N p hp).1, (N p hp).2⟩⟩
  rintro k s' ⟨h', tk, i, oI, ov, tv, rfl, hi', rfl, hit, hoI, F', N'⟩
  by_cases hlt' : i < ys.toArray.size
  · refine W.item i _ _ _ hlt' hit fun v h1 tk1 hv st1 hs1 => ?_
    obtain ⟨n, t, rfl, hm⟩ := ints_at hi i v (by simpa using hv)
    have hL0 : h₀.get? env.locals = none := Heap.get?_none_of_le F'.above
    have F1 : Fr h₀ env.locals h1 (fun y => if y = x then ov else if y = z then tv else m0 y) := ⟨F'.ns.at' fun o e => hs1 _ _ (by rw [List.mem_singleton]; exact Ne.symm hIL) e, fun b o e => hs1 _ _ (by rw [List.mem_singleton]; exact fun q => by rw [q, hI0] at e; cases e) (F'.keep b o e), F'.above⟩
    refine wpAny_assign_Name (wpAny_storeName_local hkx F1.ns (fun h2 hn2 hs2 => ?_) hcls)
    have F2 : Fr h₀ env.locals h2 (fun y => if y = x then some (Value.int n t) else if y = x then ov else if y = z then tv else m0 y) :=
      ⟨hn2, fun b o e => hs2.extBut b o (fun q => by rw [q, hL0] at e; cases e) (F1.keep b o e), F1.above⟩
    have F3 : Fr h₀ env.locals h2 (fun y => if y = x then some (Value.int n t) else if y = z then tv else m0 y) := by
      have e : (fun y => if y = x then some (Value.int n t) else if y = x then ov else if y = z then tv else m0 y) = (fun y => if y = x then some (Value.int n t) else if y = z then tv else m0 y) := by
        funext y; by_cases hy : y = x <;> simp [hy]
      rw [← e]; exact F2
    obtain ⟨oI1, heI1, hcI1, hdI1⟩ := st1.1
    have heI2 : h2.get? s.heap.objs.size = some oI1 := hs2.extBut _ _ hIL heI1
    have N2 : News h₀ env.locals h2 ((s.heap.objs.size, oI1) :: nw0) := fun p hp => by
      rcases List.mem_cons.mp hp with rfl | hp
      · exact ⟨heI2, hIL, hI0⟩
      · have z := N' p hp
        exact ⟨hs2.extBut _ _ z.2.1 (hs1 _ _ (by rw [List.mem_singleton]; exact off p hp) z.1), z.2⟩
    refine wpG_mono (turn n t s.heap.objs.size oI1 h2 _ tv _ (fun s' => ∃ m, m < ys.toArray.size + 1 - i ∧ ∃ h' tk i oI ov tv, s' = { s with heap := h', toks := tk } ∧ i ≤ ys.toArray.size ∧ m = ys.toArray.size + 1 - i ∧ (h'.IsListIter s.heap.objs.size ax i ∧ h'.IsList ax ys.toArray) ∧ h'.get? s.heap.objs.size = some oI ∧ Fr h₀ env.locals h' (fun y => if y = x then ov else if y = z then tv else m0 y) ∧
      News h₀ env.locals h' nw0) (fun s' => Q .next s') (fun v s' => Q (.ret v) s') hm F3 N2 ?_) (fun f s' hf => ?_) (fun e s' he => he)
    · intro h' tk' ov' tv' m' hm' F' N'
      subst hm'
      have N3 : News h₀ env.locals h' nw0 := fun p hp => N' p (.tail _ hp)
      exact ⟨ys.toArray.size + 1 - (i + 1), by omega, h', tk', i + 1, oI1, ov', tv', rfl, by omega, rfl, ⟨⟨oI1, (N' _ (.head _)).1, hcI1, hdI1⟩, hl _ N3⟩, (N' _ (.head _)).1, F', N3⟩
    · cases f <;> exact hf
  · obtain rfl : i = ys.toArray.size := by omega
    refine W.done _ _ _ hit fun h1 tk1 he1 => ?_
    refine done h1 tk1 ov tv ⟨F'.ns.at' fun o e => he1 _ _ (by rw [List.mem_singleton]; exact Ne.symm hIL) e, fun b o e => he1 _ _ (by rw [List.mem_singleton]; exact fun q => by rw [q, hI0] at e; cases e) (F'.keep b o e), F'.above⟩ fun p hp => ⟨he1 _ _ (by rw [List.mem_singleton]; exact off p hp) (N' p hp).1, (N' p hp).2⟩
end
end
end PartLf
section PartL1
local macro_rules | `(tactic| walk_at "pyIter bytes") => `(tactic| ((with_reducible show wpAny _ _ (pyIter (Value.bytes _ _)) _ _ _); refine Hold.stop ?_))
local macro_rules | `(tactic| walk_at "pyIter ref") => `(tactic| ((with_reducible show wpAny _ _ (pyIter (Value.ref _)) (fun _ s₂ => codeG _ _ _ _ s₂) _ _); refine Hold.stop ?_))
theorem off_L1 : True := by
  w_top off
  k_with_none
  k_with "LeaveK" => (with_reducible show LeaveK _ _ _ _ _ _ _; (rename GSub _ _ _ => zqkG'); (refine leaveS (by k_asm) zqkG' ?_); clear zqkG'; intro zqkE'; walk_say "KEEPS")
  k_with "call ref" => ((with_reducible show wpAny _ _ (call (Value.ref 98) [_, _]) _ _ _); k_dflt ((rename News _ _ _ _ => zqkN'); (rename DeckOK _ _ _ _ _ _ => zqkD'); (have zqkDn := DeckOK.ne zqkD'); (refine' draw ?k1 ?k2 ?k3 ?k4 ?kA ?kd ?ku ?kN zqkD' ?kk ?kb ?kc ?_; (case k1 => k_asm); (case k2 => k_asm); (case k3 => k_asm); (case k4 => k_asm); (case kA => first | exact rfl | assumption); (case kd => (first | decide | ((try simp only [depth_deeper, units_deeper, units_in1, depth_in1, ktrTop, Nat.add_assoc, Nat.reduceAdd]); (refine room_lt ?_ ?_; assumption; decide)) | ((try simp only [depth_deeper, units_deeper, ktrTop]); omega))); (case ku => (first | decide | ((try simp only [depth_deeper, units_deeper, units_in1, depth_in1, ktrTop, Nat.add_assoc, Nat.reduceAdd]); (refine room_lt ?_ ?_; assumption; decide)) | ((try simp only [depth_deeper, units_deeper, ktrTop]); omega))); (case kN => exact cb_drop (by k_asm) (by lcg_sub)); (case kk => omega); (case kb => omega); (case kc => omega); k_whole); (intro zqr9 zqt9 zqh9 zqtk9 zqo9 zqoc9 zqF9 zqN9 zqKB9 zqD9 zqhr0 zqhr1); (replace zqN9 := KeepBut.news2 zqKB9 zqkN' (by k_updF) (by (intro _; (try dsimp only); k_updF)) zqN9); (clear zqkN' zqkD' zqkDn); (try dsimp only at zqN9); (try dsimp only); (try k_fold)))
  k_with "call ref" => ((with_reducible show wpAny _ _ (call (Value.ref 105) [_, _]) _ _ _); k_dflt ((rename News _ _ _ _ => zqkN'); (rename DeckOK _ _ _ _ _ _ => zqkD'); (have zqkDn := DeckOK.ne zqkD'); (refine' pick ?k1 ?k2 ?k3 ?k4 ?kA ?kd ?ku ?kN zqkD' ?kk ?kb ?kc ?ld ?lc ?_; (case k1 => k_asm); (case k2 => k_asm); (case k3 => k_asm); (case k4 => k_asm); (case kA => first | exact rfl | assumption); (case kd => (first | decide | ((try simp only [depth_deeper, units_deeper, units_in1, depth_in1, ktrTop, Nat.add_assoc, Nat.reduceAdd]); (refine room_lt ?_ ?_; assumption; decide)) | ((try simp only [depth_deeper, units_deeper, ktrTop]); omega))); (case ku => (first | decide | ((try simp only [depth_deeper, units_deeper, units_in1, depth_in1, ktrTop, Nat.add_assoc, Nat.reduceAdd]); (refine room_lt ?_ ?_; assumption; decide)) | ((try simp only [depth_deeper, units_deeper, ktrTop]); omega))); (case kN => exact cb_drop (by k_asm) (by lcg_sub)); (case kk => omega); (case kb => first | decide | (simp only [List.length_append, List.length_cons, List.length_nil]; omega)); (case kc => first | decide | (simp only [List.length_append, List.length_cons, List.length_nil]; omega)); (case ld => omega); (case lc => omega); k_whole); (intro zqi9 zqhi9 zqh9 zqtk9 zqo9 zqoc9 zqF9 zqN9 zqKB9 zqD9); (replace zqN9 := KeepBut.news2 zqKB9 zqkN' (by k_updF) (by (intro _; (try dsimp only); k_updF)) (cb_drop zqN9 (by lcg_sub))); (clear zqkN' zqkD' zqkDn); (try dsimp only at zqN9); (try dsimp only); (try k_fold)))
  k_with "call ref" => ((with_reducible show wpAny _ _ (call (Value.ref 119) [_]) _ _ _); k_dflt ((rename News _ _ _ _ => zqkN'); (rename DeckOK _ _ _ _ _ _ => zqkD'); (have zqkDn := DeckOK.ne zqkD'); (refine' octet ?k1 ?k2 ?k3 ?k4 ?kA ?kd ?ku ?kN zqkD' ?kk ?_; (case k1 => k_asm); (case k2 => k_asm); (case k3 => k_asm); (case k4 => k_asm); (case kA => first | exact rfl | assumption); (case kd => (first | decide | ((try simp only [depth_deeper, units_deeper, units_in1, depth_in1, ktrTop, Nat.add_assoc, Nat.reduceAdd]); (refine room_lt ?_ ?_; assumption; decide)) | ((try simp only [depth_deeper, units_deeper, ktrTop]); omega))); (case ku => (first | decide | ((try simp only [depth_deeper, units_deeper, units_in1, depth_in1, ktrTop, Nat.add_assoc, Nat.reduceAdd]); (refine room_lt ?_ ?_; assumption; decide)) | ((try simp only [depth_deeper, units_deeper, ktrTop]); omega))); (case kN => exact cb_drop (by k_asm) (by lcg_sub)); (case kk => omega); k_whole); (intro zqr9 zqt9 zqh9 zqtk9 zqo9 zqoc9 zqF9 zqN9 zqKB9 zqD9 zqhr0 zqhr1); (replace zqN9 := KeepBut.news2 zqKB9 zqkN' (by k_updF) (by (intro _; (try dsimp only); k_updF)) zqN9); (clear zqkN' zqkD' zqkDn); (try dsimp only at zqN9); (try dsimp only); (try k_fold)))
  k_with "call ref" => ((with_reducible show wpAny _ _ (call (Value.ref 126) [_]) _ _ _); k_dflt ((rename News _ _ _ _ => zqkN'); (refine' figures ?k1 ?k2 ?k3 ?k4 ?kA ?kd ?ku ?kN ?kb ?kc ?_; (case k1 => k_asm); (case k2 => k_asm); (case k3 => k_asm); (case k4 => k_asm); (case kA => first | exact rfl | assumption); (case kd => (first | decide | ((try simp only [depth_deeper, units_deeper, units_in1, depth_in1, ktrTop, Nat.add_assoc, Nat.reduceAdd]); (refine room_lt ?_ ?_; assumption; decide)) | ((try simp only [depth_deeper, units_deeper, ktrTop]); omega))); (case ku => (first | decide | ((try simp only [depth_deeper, units_deeper, units_in1, depth_in1, ktrTop, Nat.add_assoc, Nat.reduceAdd]); (refine room_lt ?_ ?_; assumption; decide)) | ((try simp only [depth_deeper, units_deeper, ktrTop]); omega))); (case kN => exact cb_drop (by k_asm) (by lcg_sub)); (case kb => omega); (case kc => omega); k_whole); (intro zqb9 zqt9 zqh9 zqtk9 zqF9 zqKB9 zqE9); (have zqN9 := KeepBut.news0 zqKB9 zqkN'); (clear zqkN'); (try dsimp only); (try k_fold)))
  k_with "call ref" => ((with_reducible show wpAny _ _ (call (Value.ref 133) [_]) _ _ _); k_dflt ((rename News _ _ _ _ => zqkN'); (refine' isplain ?k1 ?k2 ?k3 ?k4 ?kA ?kd ?ku ?kN ?kb ?kc ?_; (case k1 => k_asm); (case k2 => k_asm); (case k3 => k_asm); (case k4 => k_asm); (case kA => first | exact rfl | assumption); (case kd => (first | decide | ((try simp only [depth_deeper, units_deeper, units_in1, depth_in1, ktrTop, Nat.add_assoc, Nat.reduceAdd]); (refine room_lt ?_ ?_; assumption; decide)) | ((try simp only [depth_deeper, units_deeper, ktrTop]); omega))); (case ku => (first | decide | ((try simp only [depth_deeper, units_deeper, units_in1, depth_in1, ktrTop, Nat.add_assoc, Nat.reduceAdd]); (refine room_lt ?_ ?_; assumption; decide)) | ((try simp only [depth_deeper, units_deeper, ktrTop]); omega))); (case kN => exact cb_drop (by k_asm) (by lcg_sub)); (case kb => omega); (case kc => omega); k_whole); (intro zqh9 zqtk9 zqF9 zqKB9); (have zqN9 := KeepBut.news0 zqKB9 zqkN'); (clear zqkN'); (try dsimp only); (try k_fold)))
  k_with "call ref" => ((with_reducible show wpAny _ _ (call (Value.ref 138) [_]) _ _ _); k_dflt ((rename News _ _ _ _ => zqkN'); (refine' written ?k1 ?k2 ?k3 ?k4 ?kA ?kd ?ku ?kN ?kb ?kc ?_; (case k1 => k_asm); (case k2 => k_asm); (case k3 => k_asm); (case k4 => k_asm); (case kA => first | exact rfl | assumption); (case kd => (first | decide | ((try simp only [depth_deeper, units_deeper, units_in1, depth_in1, ktrTop, Nat.add_assoc, Nat.reduceAdd]); (refine room_lt ?_ ?_; assumption; decide)) | ((try simp only [depth_deeper, units_deeper, ktrTop]); omega))); (case ku => (first | decide | ((try simp only [depth_deeper, units_deeper, units_in1, depth_in1, ktrTop, Nat.add_assoc, Nat.reduceAdd]); (refine room_lt ?_ ?_; assumption; decide)) | ((try simp only [depth_deeper, units_deeper, ktrTop]); omega))); (case kN => exact cb_drop (by k_asm) (by lcg_sub)); (case kb => omega); (case kc => omega); k_whole); (intro zqb9 zqt9 zqh9 zqtk9 zqF9 zqKB9 zqE9); (have zqN9 := KeepBut.news0 zqKB9 zqkN'); (clear zqkN'); (try dsimp only); (try k_fold)))
  k_with "call ref" => ((with_reducible show wpAny _ _ (call (Value.ref 145) [_, _]) _ _ _); k_dflt ((rename News _ _ _ _ => zqkN'); (rename DeckOK _ _ _ _ _ _ => zqkD'); (have zqkDn := DeckOK.ne zqkD'); (refine' told ?k1 ?k2 ?k3 ?k4 ?kA ?kd ?ku ?kN zqkD' ?kk ?kb ?kc ?_; (case k1 => k_asm); (case k2 => k_asm); (case k3 => k_asm); (case k4 => k_asm); (case kA => first | exact rfl | assumption); (case kd => (first | decide | ((try simp only [depth_deeper, units_deeper, units_in1, depth_in1, ktrTop, Nat.add_assoc, Nat.reduceAdd]); (refine room_lt ?_ ?_; assumption; decide)) | ((try simp only [depth_deeper, units_deeper, ktrTop]); omega))); (case ku => (first | decide | ((try simp only [depth_deeper, units_deeper, units_in1, depth_in1, ktrTop, Nat.add_assoc, Nat.reduceAdd]); (refine room_lt ?_ ?_; assumption; decide)) | ((try simp only [depth_deeper, units_deeper, ktrTop]); omega))); (case kN => exact cb_drop (by k_asm) (by lcg_sub)); (case kk => omega); (case kb => omega); (case kc => omega); k_whole); (intro zqb9 zqt9 zqh9 zqtk9 zqo9 zqoc9 zqF9 zqN9 zqKB9 zqD9 zqE9); (replace zqN9 := KeepBut.news2 zqKB9 zqkN' (by k_updF) (by (intro _; (try dsimp only); k_updF)) zqN9); (clear zqkN' zqkD' zqkDn); (try dsimp only at zqN9); (try dsimp only); (try k_fold)))
  k_with "getMethod bytes" => ((with_reducible refine method_join ?_))
  k_with "call builtin:bytes.join" => ((with_reducible show wpAny _ _ (call (Value.builtin "bytes.join") _) _ _ _); refine Hold.stop ?_)
  k_with "call ref" => ((with_reducible show wpAny _ _ (call (Value.ref 105) [_, _]) _ _ _); k_dflt ((rename News _ _ _ _ => zqkN'); (rename DeckOK _ _ _ _ _ _ => zqkD'); (have zqkDn := DeckOK.ne zqkD'); (refine' pickI ?k1 ?k2 ?k3 ?k4 ?kA ?kd ?ku ?kN zqkD' ?kk ?ki ?kv ?kb ?kc ?ld ?lc ?_; (case k1 => k_asm); (case k2 => k_asm); (case k3 => k_asm); (case k4 => k_asm); (case kA => first | exact rfl | assumption); (case kd => (first | decide | ((try simp only [depth_deeper, units_deeper, units_in1, depth_in1, ktrTop, Nat.add_assoc, Nat.reduceAdd]); (refine room_lt ?_ ?_; assumption; decide)) | ((try simp only [depth_deeper, units_deeper, ktrTop]); omega))); (case ku => (first | decide | ((try simp only [depth_deeper, units_deeper, units_in1, depth_in1, ktrTop, Nat.add_assoc, Nat.reduceAdd]); (refine room_lt ?_ ?_; assumption; decide)) | ((try simp only [depth_deeper, units_deeper, ktrTop]); omega))); (case kN => exact cb_drop (by k_asm) (by lcg_sub)); (case kk => omega); (case ki => first | l_ints | l_intsW); (case kv => decide); (case kb => (simp only [List.length_append, List.length_cons, List.length_nil]; omega)); (case kc => (simp only [List.length_append, List.length_cons, List.length_nil]; omega)); (case ld => omega); (case lc => omega); k_whole); (intro zqr9 zqt9 zqh9 zqtk9 zqo9 zqoc9 zqF9 zqN9 zqKB9 zqD9 zqhm9 zqhr0 zqhr1); (replace zqN9 := KeepBut.news2 zqKB9 zqkN' (by k_updF) (by (intro _; (try dsimp only); k_updF)) (cb_drop zqN9 (by lcg_sub))); (clear zqkN' zqkD' zqkDn); (try dsimp only at zqN9); (try dsimp only); (try k_fold)))
  k_with "call ref" => ((with_reducible show wpAny _ _ (call (Value.ref 157) [_, _]) _ _ _); k_dflt ((rename News _ _ _ _ => zqkN'); (rename DeckOK _ _ _ _ _ _ => zqkD'); (have zqkDn := DeckOK.ne zqkD'); (refine' faulty ?k1 ?k2 ?k3 ?k4 ?kA ?kd ?ku ?kN zqkD' ?kk ?kb ?kc ?_; (case k1 => k_asm); (case k2 => k_asm); (case k3 => k_asm); (case k4 => k_asm); (case kA => first | exact rfl | assumption); (case kd => (first | decide | ((try simp only [depth_deeper, units_deeper, units_in1, depth_in1, ktrTop, Nat.add_assoc, Nat.reduceAdd]); (refine room_lt ?_ ?_; assumption; decide)) | ((try simp only [depth_deeper, units_deeper, ktrTop]); omega))); (case ku => (first | decide | ((try simp only [depth_deeper, units_deeper, units_in1, depth_in1, ktrTop, Nat.add_assoc, Nat.reduceAdd]); (refine room_lt ?_ ?_; assumption; decide)) | ((try simp only [depth_deeper, units_deeper, ktrTop]); omega))); (case kN => exact cb_drop (by k_asm) (by lcg_sub)); (case kk => omega); (case kb => assumption); (case kc => omega); k_whole); (intro zqb9 zqt9 zqh9 zqtk9 zqo9 zqoc9 zqF9 zqN9 zqKB9 zqD9 zqE9); (replace zqN9 := KeepBut.news2 zqKB9 zqkN' (by k_updF) (by (intro _; (try dsimp only); k_updF)) zqN9); (clear zqkN' zqkD' zqkDn); (try dsimp only at zqN9); (try dsimp only); (try k_fold)))
  k_with "call ref" => ((with_reducible show wpAny _ _ (call (Value.ref 69) [_]) _ _ _); k_dflt ((rename News _ _ _ _ => zqkN'); (refine' mustq ?k1 ?k2 ?k3 ?k4 ?kA ?kd ?ku ?kN ?kb ?kc ?_; (case k1 => k_asm); (case k2 => k_asm); (case k3 => k_asm); (case k4 => k_asm); (case kA => first | exact rfl | assumption); (case kd => (first | decide | ((try simp only [depth_deeper, units_deeper, units_in1, depth_in1, ktrTop, Nat.add_assoc, Nat.reduceAdd]); (refine room_lt ?_ ?_; assumption; decide)) | ((try simp only [depth_deeper, units_deeper, ktrTop]); omega))); (case ku => (first | decide | ((try simp only [depth_deeper, units_deeper, units_in1, depth_in1, ktrTop, Nat.add_assoc, Nat.reduceAdd]); (refine room_lt ?_ ?_; assumption; decide)) | ((try simp only [depth_deeper, units_deeper, ktrTop]); omega))); (case kN => exact cb_drop (by k_asm) (by lcg_sub)); (case kb => omega); (case kc => omega); k_whole); (intro zqh9 zqtk9 zqF9 zqKB9); (have zqN9 := KeepBut.news0 zqKB9 zqkN'); (clear zqkN'); (try dsimp only); (try k_fold)))
  k_with "compareOp In int ref" => ((with_reducible show wpAny _ _ (compareOp CmpOp.In (Value.int _ _) (Value.ref 62)) _ _ _); k_dflt (first | (refine esc_in_some (by k_asm) (by k_asm) (by assumption) ?_) | (refine esc_in_none (by k_asm) (by k_asm) (by assumption) ?_)))
  k_with "subscriptTail" => ((with_reducible show wpAny _ _ (subscriptTail _ _ (Value.ref 62) (Value.int _ _)) _ _ _); k_dflt ((refine esc_item (by k_asm) (by k_asm) (by assumption) ?_ (by with_unfolding_all rfl)); intro zqb9 zqt9 zqE9))
  k_with "getMethod ref" => ((with_reducible show wpAny _ _ (getMethod (Value.ref _) (PySem.Str.ofString "append") _) _ _ _); (rename News _ _ _ _ => zqkN'); k_dflt (refine method_append (b := _) ((zqkN' _ (by first | exact .head _ | exact .tail _ (.head _) | exact .tail _ (.tail _ (.head _)))).1) ?_))
  k_with "call ref" => ((with_reducible show wpAny _ _ (call (Value.ref 61) [_]) _ _ _); k_dflt ((rename News _ _ _ _ => zqkN'); (refine' octal2 ?k1 ?k2 ?k3 ?k4 ?kA ?kd ?ku ?kN ?kb ?kc ?kO ?_; (case k1 => k_asm); (case k2 => k_asm); (case k3 => k_asm); (case k4 => k_asm); (case kA => first | exact rfl | assumption); (case kd => (first | decide | ((try simp only [depth_deeper, units_deeper, units_in1, depth_in1, ktrTop, Nat.add_assoc, Nat.reduceAdd]); (refine room_lt ?_ ?_; assumption; decide)) | ((try simp only [depth_deeper, units_deeper, ktrTop]); omega))); (case ku => (first | decide | ((try simp only [depth_deeper, units_deeper, units_in1, depth_in1, ktrTop, Nat.add_assoc, Nat.reduceAdd]); (refine room_lt ?_ ?_; assumption; decide)) | ((try simp only [depth_deeper, units_deeper, ktrTop]); omega))); (case kN => exact cb_drop (by k_asm) (by lcg_sub)); (case kb => assumption); (case kc => first | omega | (simp only [List.length_take, List.length_drop]; omega)); (case kO => assumption); k_whole); (intro zqt9 zqh9 zqtk9 zqF9 zqKB9); (have zqN9 := KeepBut.news0 zqKB9 zqkN'); (clear zqkN'); (try dsimp only [optV]); (try k_fold)))
  k_with "compareOp In int ref" => ((with_reducible show wpAny _ _ (compareOp CmpOp.In (Value.int _ _) (Value.ref _)) _ _ _); k_dflt (first | (refine names_in_some (by k_asm) (by k_mem) (by assumption) (by assumption) (by assumption) (by assumption) ?_) | (refine names_in_none (by k_asm) (by k_mem) (by assumption) (by assumption) (by assumption) (by assumption) ?_)))
  k_with "subscriptTail" => ((with_reducible show wpAny _ _ (subscriptTail _ _ (Value.ref _) (Value.int _ _)) _ _ _); k_dflt ((refine names_item (by k_asm) (by k_mem) (by assumption) (by assumption) (by assumption) ?_ (by with_unfolding_all rfl)); intro zqu9))
  k_with "subscriptTail" => ((with_reducible show wpAny _ _ (subscriptTail _ (Expr.Slice (some _) (some _) none _) (Value.bytes _ _) (Value.ref _)) _ _ _); (with_reducible rename Fr _ _ _ _ => zqF'); (with_reducible rename News _ _ _ _ => zqN'); k_dflt ((first | refine slice_A (s := ⟨_, _, _, _, _⟩) 1 zqF' zqN' (by kba_ints) (by kba_size) rfl (by omega) ?_ (by with_unfolding_all rfl) (by intro _; with_unfolding_all rfl) | refine slice_A (s := ⟨_, _, _, _, _⟩) 3 zqF' zqN' (by kba_ints) (by kba_size) rfl (by omega) ?_ (by with_unfolding_all rfl) (by intro _; with_unfolding_all rfl)); intro zqb9 zqh9 zqt9 zqk9 zqF9 zqN9 zqE9; (try (rename List.take 3 _ = _ => zqhr3'; rw [zqhr3'] at zqE9))))
  k_with "exec Raise some none" => ((with_reducible show wpAny _ _ (exec (Stmt.Raise _ _ _) _) _ _ _); refine Hold.stop ?_)
  k_with "call ref" => ((with_reducible show wpAny _ _ (call (Value.ref 105) [_, _]) _ _ _); k_dflt ((rename News _ _ _ _ => zqkN'); (rename DeckOK _ _ _ _ _ _ => zqkD'); (have zqkDn := DeckOK.ne zqkD'); (refine' pickB ?k1 ?k2 ?k3 ?k4 ?kA ?kd ?ku ?kN zqkD' ?kk ?ki ?kb ?kc ?ld ?lc ?_; (case k1 => k_asm); (case k2 => k_asm); (case k3 => k_asm); (case k4 => k_asm); (case kA => first | exact rfl | assumption); (case kd => (first | decide | ((try simp only [depth_deeper, units_deeper, units_in1, depth_in1, ktrTop, Nat.add_assoc, Nat.reduceAdd]); (refine room_lt ?_ ?_; assumption; decide)) | ((try simp only [depth_deeper, units_deeper, ktrTop]); omega))); (case ku => (first | decide | ((try simp only [depth_deeper, units_deeper, units_in1, depth_in1, ktrTop, Nat.add_assoc, Nat.reduceAdd]); (refine room_lt ?_ ?_; assumption; decide)) | ((try simp only [depth_deeper, units_deeper, ktrTop]); omega))); (case kN => exact cb_drop (by k_asm) (by lcg_sub)); (case kk => omega); (case ki => exact (by (repeat (refine ⟨⟨_, _, rfl, by decide⟩, ?_⟩)); exact trivial)); (case kb => (simp only [List.length_append, List.length_cons, List.length_nil]; omega)); (case kc => (simp only [List.length_append, List.length_cons, List.length_nil]; omega)); (case ld => (first | omega | (rename (_ < _) ∧ _ => zqkl9; first | exact Nat.ne_of_gt zqkl9.2.1 | exact Nat.ne_of_gt zqkl9.2.2 | exact Nat.ne_of_gt zqkl9.2.2.1 | exact Nat.ne_of_gt zqkl9.2.2.2))); (case lc => (first | omega | (rename (_ < _) ∧ _ => zqkl9; first | exact Nat.ne_of_gt zqkl9.2.1 | exact Nat.ne_of_gt zqkl9.2.2 | exact Nat.ne_of_gt zqkl9.2.2.1 | exact Nat.ne_of_gt zqkl9.2.2.2))); k_whole); (intro zqb9 zqns9 zqt9 zqh9 zqtk9 zqo9 zqoc9 zqF9 zqN9 zqKB9 zqD9 zqhE9 zqhl9); (replace zqN9 := KeepBut.news2 zqKB9 zqkN' (by k_updF) (by (intro _; (try dsimp only); k_updF)) (cb_drop zqN9 (by lcg_sub))); (clear zqkN' zqkD' zqkDn); (try dsimp only at zqN9); (try dsimp only); (try k_fold)))
  k_with "call type:tuple" => ((with_reducible show wpAny _ _ (call (Value.type "tuple") _) _ _ _); refine Hold.stop ?_)
  k_with "compareOp Eq ref ref" => ((with_reducible show wpAny _ _ (compareOp CmpOp.Eq (Value.ref _) (Value.ref _)) _ _ _); refine Hold.stop ?_)
  k_with "eval ListComp" => ((with_reducible show wpAny _ _ (eval (Expr.ListComp _ _ _ _) (envOfC _ _ _ _ _)) _ _ _); refine Hold.stop ?_)
  k_with "CompSrc" => ((with_reducible show LCg.CompSrc _ _ _ _ _ _ (envOfC _ _ _ _ _) _ _ _ _ _ _ _); refine Hold.stop ?_)
  trivial
theorem law_t : PySem.Challenge.rw_pb0084_01.Holds := hd ⟨left_w, (by
  k_fill
  intro w s₀ s₁ mg mb G Y fa o pm cd doc dV kV ho hd hcd hD hmg hg args vals as hpre hlay hrd hwl hlo
  have KX := kIn_of Y
  refine Ground.open G ?_
  intro T B D TE TW
  try (refine guard_noD D (by decide +kernel) ?_; clear D)
  clear hmg
  wrow_args hpre hlay hrd hwl hlo
  refine codeG_mono ?_ (fun _ _ g => GoodW.toG g)
  have K0 := below_caller (Top.heap T)
  have he := Dflts.none hD rfl
  subst he
  have he := Dflts.noKw hD
  subst he
  refine enterTop (by decide) ho (fd_plain hd) (Top.nolimit T) hcd rfl (by rfl) (by decide) fun h₁ tk₁ cells F N0 X0 => ?_
  cells_open X0
  clear hd hcd hD ho
  refine wpG_name ?_
  intro Q' E' hQ hE
  refine execsG_any ?_
  k_fold
  k_steps
  rename Fr _ _ _ _ => lF
  rename News _ _ _ _ => lN0
  rename Obj.IsDictOf _ _ _ => lD0
  obtain ⟨d, c, o, oc, co, lN, lD, lne, hco⟩ : ∃ (d c : Addr) (o oc co : Obj), News (Top.heap T) s₁.heap.objs.size _ [(s₁.heap.objs.size + 1, co), (d, o), (c, oc)] ∧ DeckOK w d c 0 o oc ∧ (@Ne Nat d (s₁.heap.objs.size + 1) ∧ @Ne Nat c (s₁.heap.objs.size + 1)) ∧ co.data = Data.cell (some (Value.ref d)) := by
    refine ⟨_, _, _, _, _, cb_drop lN0 (by lcg_sub), ⟨_, _, _, _, _, _, _, rfl, by assumption, ?_, lD0, by assumption, ?_, ?_, ?_, ?_⟩, ⟨?_, ?_⟩, by assumption⟩
    · omega
    · rw [List.length_reverse, List.length_map]; exact List.length_take_le _ _
    · exact deck_nums _
    · exact Int.le_refl 0
    · exact Int.le_refl 0
    · omega
    · omega
  clear lN0 lD0
  obtain ⟨lne1, lne2⟩ := lne
  refine execsG_any ?_
  k_steps
  refine Hold.go ?_
  k_dflt (refine LCg.ListComp_U lF (by rfl) (by decide) (by rfl) (by decide) (by rfl) ?_)
  k_steps
  refine Hold.go ?_
  rename IsRange _ _ _ _ _ _ _ _ => hRg
  rename DeckOK _ _ _ _ _ _ => lD1
  rename News _ _ _ _ => lN1
  rename Fr _ _ _ _ => lF1
  rename (0 : Int) ≤ _ => hr0
  obtain ⟨n9, hn9⟩ := Int.eq_ofNat_of_zero_le hr0
  subst hn9
  refine LCg.CompSrc.range (n := n9) rfl lF1 lN1 hRg (small_one (by omega) (by omega) (by omega) (by omega)) (by rw [rangeSize_one]; split <;> omega) (by rw [sizeLine_eq]; omega) ?_
  intro gz
  refine comp_each (n := n9) ((List.range n9).map fun i : Nat => (i : Int)) (by simp) (fun i v hi hv => by obtain ⟨t, rfl⟩ := hv; exact ⟨_, t, upto_get hi, by simp⟩) (fun i nw => ∃ o' oc', nw = [(s₁.heap.objs.size + 1, co), (d, o'), (c, oc')] ∧ DeckOK w d c (0 + 1 + 2 * (i : Int)) o' oc') (fun _ y => ∃ v t, y = Value.int v t ∧ 0 ≤ v ∧ v < 256) ?_ ?_ _ 0 [] _ (by omega) ⟨_, _, rfl, by simpa using lD1⟩ (by simp [Each])
  · intro i x tx I oI C oC Dl ys nw m₂ h tk E' Qv hJ hi hm hC hx lF lN off ne yes
    obtain ⟨o', oc', rfl, lD⟩ := hJ
    obtain ⟨od1, od2, od3⟩ : @Ne Nat d I ∧ @Ne Nat d C ∧ @Ne Nat d Dl := off.2.1
    obtain ⟨oc1, oc2, oc3⟩ : @Ne Nat c I ∧ @Ne Nat c C ∧ @Ne Nat c Dl := off.2.2.1
    k_steps
    rename DeckOK _ _ _ _ _ _ => lD9
    exact yes _ _ _ _ ⟨_, _, rfl, by assumption, by assumption⟩ ⟨_, _, rfl, DeckOK.mono (by omega) lD9⟩ (by k_asm) (by k_asm) off
  intro ys nw he hJ
  obtain ⟨o4, oc4, rfl, lD4⟩ := hJ
  obtain ⟨ks, hks, hkb, hkl⟩ := octs_of he
  rw [List.length_map, List.length_range] at hkl
  intro Dl h tk lF lN off
  k_steps
  have hkl8 : ks.length ≤ 8 := by omega
  rename Fr _ _ _ _ => lF
  rename News _ _ _ _ => lN
  have hpb := KBa.ints_make (ns := ks) hkb
  generalize byteArr ks = pb at hpb lF
  refine execsG_any ?_
  k_steps
  refine Hold.go ?_
  rename Fr _ _ _ _ => lF
  rename News _ _ _ _ => lN
  k_dflt (refine ListComp_B lF (by rfl) (by decide) (by rfl) (by decide) (by rfl) ?_)
  k_steps
  refine SrcB.intro rfl (by k_asm) (cb_drop (by k_asm) (by lcg_sub) : News _ _ _ [(s₁.heap.objs.size + 1, co), (d, o4), (c, oc4)]) (by rw [← KBw.ints_length, hpb, sizeLine_eq]; omega) ?_
  intro gz
  refine comp_each ks (by rw [← hpb]; exact KBw.ints_length pb) (PB.ks hpb) (fun _ nw => nw = [(s₁.heap.objs.size + 1, co), (d, o4), (c, oc4)]) (fun k y => ∃ b t, y = Value.bytes b t ∧ KBw.bInts b = writ k) ?_ ?_ _ 0 [] _ (by omega) rfl (by simp [Each])
  · intro i x tx I oI C oC Dl ys nw m₂ h tk E' Qv hJ hi hm hC hx lF lN off ne yes
    subst hJ
    have hx0 := (hkb x hm).1
    have hx1 := (hkb x hm).2
    k_steps
    exact yes _ _ _ _ ⟨_, _, rfl, by assumption⟩ rfl (by k_asm) (by k_asm) off
  intro ys nw he2 hJ
  subst hJ
  intro Dl h tk lF lN off
  obtain ⟨bs, hbs, hmap⟩ := joinMap he2
  k_steps
  refine Hold.go ?_
  have hil : ((ks.map writ).flatten).length ≤ 4 * ks.length := writ_flat ks
  rw [← hmap] at hil
  refine join_K (News.isList lN (.head _)) hbs (by omega) ?_
  intro ib it ik hib
  rw [hmap] at hib hil
  obtain ⟨inner, hin⟩ : ∃ inner, inner = (ks.map writ).flatten := ⟨_, rfl⟩
  rw [← hin] at hib hil
  k_steps
  rename KBw.bInts _ = _ => hdue
  have hdue2 : KBw.bInts _ = 34 :: (ks.map writ).flatten ++ [34] := hdue.trans (by rw [hin]; rfl)
  refine execsG_any ?_
  k_steps
  refine Hold.go ?_
  rename Fr _ _ _ _ => lF
  rename News _ _ _ _ => lN
  k_dflt (refine ListComp_BT lF (by rfl) (by decide) (by rfl) (by decide) (by rfl) ?_)
  k_steps
  refine SrcBT.intro rfl (by k_asm) (cb_drop (by k_asm) (by lcg_sub) : News _ _ _ [(s₁.heap.objs.size + 1, co), (d, o4), (c, oc4)]) (by rw [← KBw.ints_length, hpb, sizeLine_eq]; omega) ?_
  intro gz
  refine comp_kept ks (by rw [← hpb]; exact KBw.ints_length pb) (PB.ks hpb) mustQ ?_ ?_ _ 0 [] (by omega) .nil
  · intro x tx I oI C oC Dl ys m₂ h tk E' Qv Z hm hC hx lF lN off ne yes no
    have hx0 := (hkb x hm).1
    have hx1 := (hkb x hm).2
    k_steps
    · exact no _ _ (must_plain.mpr (by assumption)) (by k_asm) (by k_asm)
    · exact yes _ _ _ (must_true.mpr (by assumption)) (by k_asm) (by k_asm)
  intro ys hi Dl h tk lF lN off
  k_steps
  refine Hold.go ?_
  rename News _ _ _ _ => lN
  refine ke_eq_ints (xs := ys) (ys := []) (by exact News.isList lN (.tail _ (.head _))) (by exact News.isList lN (.head _)) hi .nil (by rw [units_deeper]; decide) ?_
  rw [filter_any]
  k_steps
  rename Fr _ _ _ _ => lF
  rename News _ _ _ _ => lN
  have lN2 : News _ _ _ [(s₁.heap.objs.size + 1, co), (d, o4), (c, oc4)] := cb_drop lN (by lcg_sub)
  clear lN
  refine execsG_cons (IfG_cutF lF lN2 ?_ ?_)
  · refine orG_cutF lF lN2 ?_ ?_
    · refine isTrue_Compare1G (Call_NameG ?_)
      k_steps
      k_dflt (refine' callG_K2 ?k1 ?k2 ?_; (case k1 => k_asm); (case k2 => k_is); k_whole)
      k_steps
      refine' quote ?k1 ?k2 ?k3 ?k4 ?kA ?kd ?ku ?kN ?kb ?kc ?_
      (case kb => exact hpb)
      (case k1 => k_asm); (case k2 => k_asm); (case k3 => k_asm); (case k4 => k_asm); (case kA => exact rfl); (case kd => decide); (case ku => decide); (case kN => exact cb_drop (by k_asm) (by lcg_sub)); (case kc => exact hkl8)
      intro b9 t9 h9 tk9 F9 KB9 hE9
      replace lN2 := KeepBut.news0 KB9 lN2
      (try dsimp only)
      k_steps
      · rename ks.any mustQ = true => hany
        rw [if_pos hany] at hE9
        exact bytes_ne_false (hE9.trans hdue2.symm)
      · exact Hold.go ⟨_, _, rfl, by k_asm, by k_asm⟩
      · rename ks.any mustQ = false => hany
        rw [hany] at hE9
        exact bytes_ne_false (hE9.trans hpb.symm)
      · exact Hold.go ⟨_, _, rfl, by k_asm, by k_asm⟩
    · clear lF lN2
      intro h2 tk2 lF lN2
      refine orG_last (isTrue_Compare1G (Call_NameG ?_))
      k_steps
      k_dflt (refine' callG_K2 ?k1 ?k2 ?_; (case k1 => k_asm); (case k2 => k_is); k_whole)
      k_steps
      refine' read_is (read_told (writ_parts ks) hkb) ?k1 ?k2 ?k3 ?k4 ?kA ?kd ?ku ?kN ?kb ?kc ?_
      (case kb => exact hdue2)
      (case k1 => k_asm); (case k2 => k_asm); (case k3 => k_asm); (case k4 => k_asm); (case kA => exact rfl); (case kd => decide); (case ku => decide); (case kN => exact cb_drop (by k_asm) (by lcg_sub)); (case kc => have := writ_flat ks; simp only [List.length_append, List.length_cons, List.length_nil]; omega)
      intro b9 t9 h9 tk9 F9 KB9 hE9
      replace lN2 := KeepBut.newsL KB9 lN2
      (try dsimp only)
      k_steps
      · exact bytes_ne_false (hE9.trans hpb.symm)
      · exact Hold.go ⟨_, _, rfl, by k_asm, by k_asm⟩
  clear lF lN2
  intro h2 tk2 lF lN2
  refine execsG_nil ?_
  (try dsimp only)
  refine execsG_cons (ForG ?_)
  k_steps
  refine Hold.go ?_
  rename Fr _ _ _ _ => lF
  rename News _ _ _ _ => lN
  rename DeckOK _ _ _ _ _ _ => lD5
  obtain ⟨o5, oc5, lN5, lD5⟩ : ∃ o5 oc5, News _ _ _ [_, (s₁.heap.objs.size + 1, co), (d, o5), (c, oc5)] ∧ DeckOK w d c _ o5 oc5 := ⟨_, _, lN, lD5⟩
  refine forIntsG (z := Str.ofString "told") rfl (ys := [_, _]) (ns := [_, _]) (.cons _ _ (.cons _ _ .nil)) rfl rfl rfl lF lN5 (fun h N => News.isList N (.head _)) ?_ ?_
  · intro k u I oI h tk tv E' Qn Qb Qr hk lF lN yes
    have hk0 : 0 ≤ k ∧ k < 256 := by
      simp only [List.mem_cons, List.not_mem_nil, or_false] at hk
      omega
    have hk1 := hk0.1
    have hk2 := hk0.2
    refine execsG_cons (Assign_NameG (Call_NameG ?_))
    k_steps
    k_dflt (refine' callG_K2 ?k1 ?k2 ?_; (case k1 => k_asm); (case k2 => k_is); k_whole)
    k_steps
    refine wpG_any ?_
    refine' mustq ?k1 ?k2 ?k3 ?k4 ?kA ?kd ?ku ?kN ?kb ?kc ?_
    (case k1 => k_asm); (case k2 => k_asm); (case k3 => k_asm); (case k4 => k_asm); (case kA => exact rfl); (case kd => decide); (case ku => decide); (case kN => exact cb_drop (by k_asm) (by lcg_sub)); (case kb => exact hk1); (case kc => exact hk2)
    intro h9 tk9 F9 KB9
    have lN9 := KeepBut.news0 KB9 lN
    clear lN
    (try dsimp only)
    k_steps
    rename Fr _ _ _ _ => lF
    rename News _ _ _ _ => lN
    refine execsG_cons (IfG_cutF lF lN ?_ ?_)
    · refine orG_cutF lF lN (wpG_any ?_) ?_
      · k_steps
        exact Hold.go ⟨_, _, rfl, by k_asm, by k_asm⟩
      · clear lF lN
        intro h8 tk8 lF lN
        refine orG_last (wpG_any ?_)
        k_steps
        · exact must_eq _
        · exact Hold.go ⟨_, _, rfl, by k_asm, by k_asm⟩
    clear lF lN
    intro h8 tk8 lF lN
    refine execsG_nil ?_
    (try dsimp only)
    refine execsG_nil ?_
    (try dsimp only)
    refine yes _ _ (some (.int k u)) (some (.bool (mustQ k))) _ ?_ lF lN
    funext y
    by_cases h1 : y = Str.ofString "told"
    · subst h1; rfl
    · by_cases h2 : y = Str.ofString "octet"
      · subst h2; rfl
      · simp only [h1, h2, if_false]
  intro h3 tk3 ov tv lF lN
  replace lF : Fr (Top.heap T) s₁.heap.objs.size h3 _ := lF
  replace lN : News (Top.heap T) s₁.heap.objs.size h3 [(s₁.heap.objs.size + 1, co), (d, o5), (c, oc5)] := cb_drop lN (by lcg_sub)
  clear lN5
  (try dsimp only)
  refine execsG_any ?_
  k_steps
  refine Hold.go ?_
  rename Fr _ _ _ _ => lF
  rename News _ _ _ _ => lN
  k_dflt (refine ListComp_B lF (by rfl) (by decide) (by rfl) (by decide) (by rfl) ?_)
  k_steps
  obtain ⟨kd, hkd⟩ : ∃ kd : Int, kd = 0 + 1 + 2 * (n9 : Int) + 1 + 1 + 1 := ⟨_, rfl⟩
  replace lD5 : DeckOK w d c kd o5 oc5 := by rw [hkd]; exact lD5
  have hps : pb.size ≤ 8 := by rw [← KBw.ints_length, hpb]; exact hkl8
  refine SrcB.intro rfl (by k_asm) (cb_drop (by k_asm) (by lcg_sub) : News _ _ _ [(s₁.heap.objs.size + 1, co), (d, o5), (c, oc5)]) (by rw [← KBw.ints_length, hpb, sizeLine_eq]; omega) ?_
  intro gz
  refine comp_each ks (by rw [← hpb]; exact KBw.ints_length pb) (PB.ks hpb) (fun i nw => ∃ o' oc', nw = [(s₁.heap.objs.size + 1, co), (d, o'), (c, oc')] ∧ DeckOK w d c (kd + (i : Int)) o' oc') (fun k y => ∃ b t, y = Value.bytes b t ∧ toldIs k (KBw.bInts b)) ?_ ?_ _ 0 [] _ (by omega) ⟨_, _, rfl, by simpa using lD5⟩ (by simp [Each])
  · intro i x tx I oI C oC Dl ys nw m₂ h tk E' Qv hJ hi hm hC hx lF lN off ne yes
    obtain ⟨o', oc', rfl, lD⟩ := hJ
    have hx0 := (hkb x hm).1
    have hx1 := (hkb x hm).2
    obtain ⟨od1, od2, od3⟩ : @Ne Nat d I ∧ @Ne Nat d C ∧ @Ne Nat d Dl := off.2.1
    obtain ⟨oc1, oc2, oc3⟩ : @Ne Nat c I ∧ @Ne Nat c C ∧ @Ne Nat c Dl := off.2.2.1
    k_steps
    rename DeckOK _ _ _ _ _ _ => lD9
    exact yes _ _ _ _ ⟨_, _, rfl, by assumption⟩ ⟨_, _, rfl, DeckOK.mono (by omega) lD9⟩ (by k_asm) (by k_asm) off
  intro ys nw he3 hJ
  obtain ⟨o6, oc6, rfl, lD6⟩ := hJ
  clear lD5
  intro Dl h tk lF lN off
  obtain ⟨bs2, hbs2, hparts⟩ := joinAll he3
  k_steps
  refine Hold.go ?_
  have hil2 := parts_len hparts
  rename News _ _ _ _ => lN
  refine join_K (News.isList lN (.head _)) hbs2 (by omega) ?_
  intro ib2 it2 ik2 hib2
  obtain ⟨inner2, hin2⟩ : ∃ inner2, inner2 = (bs2.map KBw.bInts).flatten := ⟨_, rfl⟩
  rw [← hin2] at hib2 hil2
  k_steps
  rename KBw.bInts _ = _ => hoth
  have hoth2 : KBw.bInts _ = 34 :: (bs2.map KBw.bInts).flatten ++ [34] := hoth.trans (by rw [hin2]; rfl)
  rename Fr _ _ _ _ => lF
  rename News _ _ _ _ => lN
  have lN7 : News _ _ _ [(s₁.heap.objs.size + 1, co), (d, o6), (c, oc6)] := cb_drop lN (by lcg_sub)
  clear lN
  refine execsG_cons (IfG_cutF lF lN7 ?_ ?_)
  · refine orG_cutF lF lN7 ?_ ?_
    · refine isTrue_Compare1G (Call_NameG ?_)
      k_steps
      k_dflt (refine' callG_K2 ?k1 ?k2 ?_; (case k1 => k_asm); (case k2 => k_is); k_whole)
      k_steps
      refine' read_is (read_told hparts hkb) ?k1 ?k2 ?k3 ?k4 ?kA ?kd ?ku ?kN ?kb ?kc ?_
      (case kb => exact hoth2)
      (case k1 => k_asm); (case k2 => k_asm); (case k3 => k_asm); (case k4 => k_asm); (case kA => exact rfl); (case kd => decide); (case ku => decide); (case kN => exact cb_drop (by k_asm) (by lcg_sub)); (case kc => rw [← hin2]; simp only [List.cons_append, List.length_append, List.length_cons, List.length_nil]; omega)
      intro b9 t9 h9 tk9 F9 KB9 hE9
      replace lN7 := KeepBut.newsL KB9 lN7
      (try dsimp only)
      k_steps
      · exact bytes_ne_false (hE9.trans hpb.symm)
      · exact Hold.go ⟨_, _, rfl, by k_asm, by k_asm⟩
    · clear lF lN7
      intro h2 tk2 lF lN7
      refine orG_last (isTrue_andG (wpG_any ?_))
      k_steps
      · rename KBw.bInts _ = List.take _ ks => hE1
        rename (_ != _) = true => hx
        have hx2 := (first_is hE1).symm.trans hx
        have hh : ¬ ks.head? = some 34 := by simpa using hx2
        rename Fr _ _ _ _ => lF
        rename News _ _ _ _ => lN7
        refine andG_last (isTrue_Compare1G (Call_NameG ?_))
        k_steps
        k_dflt (refine' callG_K2 ?k1 ?k2 ?_; (case k1 => k_asm); (case k2 => k_is); k_whole)
        k_steps
        refine' read_is (readS_plain hh) ?k1 ?k2 ?k3 ?k4 ?kA ?kd ?ku ?kN ?kb ?kc ?_
        (case kb => exact hpb)
        (case k1 => k_asm); (case k2 => k_asm); (case k3 => k_asm); (case k4 => k_asm); (case kA => exact rfl); (case kd => decide); (case ku => decide); (case kN => exact cb_drop (by k_asm) (by lcg_sub)); (case kc => omega)
        intro b9 t9 h9 tk9 F9 KB9 hE9
        replace lN7 := KeepBut.newsL KB9 lN7
        (try dsimp only)
        k_steps
        · exact bytes_ne_false (hE9.trans hpb.symm)
        · exact Hold.go ⟨_, _, rfl, by k_asm, by k_asm⟩
      · exact Hold.go ⟨_, _, rfl, by k_asm, by k_asm⟩
  clear lF lN7
  intro h2 tk2 lF lN7
  refine execsG_nil ?_
  (try dsimp only)
  refine execsG_cons (Return_someG (BoolOp_andG (Compare1G (Call_NameG ?_))))
  k_steps
  k_dflt (refine' callG_K2 ?k1 ?k2 ?_; (case k1 => k_asm); (case k2 => k_is); k_whole)
  k_steps
  rename faultIs _ _ => hF
  rename DeckOK _ _ _ _ _ _ => lD8
  rename Fr _ _ _ _ => lF
  rename News _ _ _ _ => lN
  refine' read_no (read_fault hkb hF) ?k1 ?k2 ?k3 ?k4 ?kA ?kd ?ku ?kN ?kb ?kc ?_
  (case kb => exact rfl)
  (case k1 => k_asm); (case k2 => k_asm); (case k3 => k_asm); (case k4 => k_asm); (case kA => exact rfl); (case kd => decide); (case ku => decide); (case kN => exact cb_drop (by k_asm) (by lcg_sub)); (case kc => have := fault_len hF; omega)
  intro h9 tk9 F9 KB9
  replace lN := KeepBut.newsL KB9 lN
  (try dsimp only)
  k_steps
  refine BoolOp_oneG (Call_NameG ?_)
  k_steps
  k_dflt (refine' callG_K2 ?k1 ?k2 ?_; (case k1 => k_asm); (case k2 => k_is); k_whole)
  k_steps
  refine' within ?k1 ?k2 ?k3 ?k4 ?kA ?kd ?ku ?kN lD8 ?kk ?kb ?kc ?_
  (case kb => exact hpb)
  (case k1 => k_asm); (case k2 => k_asm); (case k3 => k_asm); (case k4 => k_asm); (case kA => exact rfl); (case kd => decide); (case ku => decide); (case kN => exact cb_drop (by k_asm) (by lcg_sub)); (case kk => omega); (case kc => exact hkl8)
  intro h9 tk9 F9 KB9
  (try dsimp only)
  refine hQ _ _ ?_
  k_steps
  )⟩
end PartL1
end Mine
set_option maxRecDepth 100000 in
set_option maxHeartbeats 8000000 in
theorem PySem.Challenge.cw_pb0084_01_holds : PySem.Challenge.rw_pb0084_01.Holds := by
  exact Mine.law_t
