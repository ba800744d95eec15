import PyProof.Rows.All
import HandS.GenList
import PyProof.TupleOfGen
import HandS.Comp
import HandS.ForMost
import HandS.Deep
import PyProof.P3Eq
import PyProof.ReprReads
import KE.LtData
import KE.DataMinMax
import HandS.Text
import HandS.AnyAll
import HandS.Lambda
import PyProof.ConsumeS
import PyProof.CollectWalk
import HandS.Small
import HandS.TupAny
import HandS.Strs
import HandS.Style
import PyProof.SeqIndex
import PyProof.Rows.SumAny
import HandS.Flow
import KE.GoesEnum
import HandS.Zip
import HandS.DictComp
import KE.KRevSl
import HandS.IsInst
import PyProof.ReprRoads
import PyProof.CallFns
import PyProof.ListStr
import KE.KDictZip
import HandS.TupSets
import HandS.SetFor
import PyProof.SetRoads
import KE.KDictPairs
import HandS.EndTab
import HandS.HeadHook4
import HandS.Head0
import HandS.Head1
import HandS.Head2
import PySem.Challenge.RW_pitsites_k81_main_whole_fillings_by_pair
set_option Elab.async false
set_option linter.all false
set_option maxRecDepth 100000
/-! Pw4: generators that run to their end: segments by an inductive predicate, waking, next. -/
namespace Pw
open PySem PySem.Spec PyProof.Rows L2

/-- what the drawer does with an item in a state, then it wakes the generator in a state of K -/
abbrev ConsY := Value → Shared → (Shared → Prop) → Prop
def SgEnd (R : Result → Shared → Prop) (Y : ConsY) (Z : Code → Sem PySem.Fin → List Frame → Shared → Prop) (e : End) (s' : Shared) : Prop :=
  match e with
  | .ret r => R r s'
  | .susp v g l k c p fs => (End.susp v g l k c p fs).quiet = true ∧ ∃ K : Shared → Prop, Y v s' K ∧ ∀ s'', K s'' → Z c (k (.send .none)) fs s''
def SgStep (M : Model) (A : Around) (R : Result → Shared → Prop) (Y : ConsY) (Z : Code → Sem PySem.Fin → List Frame → Shared → Prop) (c : Code) (t : Sem PySem.Fin) (fs : List Frame) (s : Shared) : Prop :=
  ∀ Γ p, Γ.code = c → Γ.Woken A → ∃ e s', Runs M Γ p t fs s e s' ∧ SgEnd R Y Z e s'
inductive Sg (M : Model) (A : Around) (R : Result → Shared → Prop) (Y : ConsY) : Code → Sem PySem.Fin → List Frame → Shared → Prop
  | mk {c : Code} {t : Sem PySem.Fin} {fs : List Frame} {s : Shared} (Z : Code → Sem PySem.Fin → List Frame → Shared → Prop) :
      SgStep M A R Y Z c t fs s → (∀ c t fs s, Z c t fs s → Sg M A R Y c t fs s) → Sg M A R Y c t fs s
section
variable {M : Model} {A : Around} {R : Result → Shared → Prop} {Y : ConsY} {c : Code} {fs : List Frame} {s : Shared}
theorem SgStep.imp {Z Z' : Code → Sem PySem.Fin → List Frame → Shared → Prop} {t : Sem PySem.Fin} (h : SgStep M A R Y Z c t fs s) (k : ∀ c t fs s, Z c t fs s → Z' c t fs s) : SgStep M A R Y Z' c t fs s := by
  intro Γ p hc hΓ
  obtain ⟨e, s', hr, he⟩ := h Γ p hc hΓ
  refine ⟨e, s', hr, ?_⟩
  cases e with
  | ret r => exact he
  | susp v g l k' c' p' fs' =>
    obtain ⟨h1, K, h2, h3⟩ := he
    exact ⟨h1, K, h2, fun s'' q => k _ _ _ _ (h3 s'' q)⟩
theorem sg_iff {t : Sem PySem.Fin} : Sg M A R Y c t fs s ↔ SgStep M A R Y (Sg M A R Y) c t fs s :=
  ⟨fun ⟨Z, h, hz⟩ => h.imp hz, fun h => .mk _ h fun _ _ _ _ q => q⟩
theorem sg_wrap {α : Type} {m : Sem α} {K : α → Sem PySem.Fin} {H : Value → Sem PySem.Fin} {gd : Bool → Bool} {lv : List Value → List Value}
    (h : wpAny M (A.over c fs) m (fun a s' => Sg M A R Y c (K a) fs s') (fun x s' => Sg M A R Y c (H x) fs s') s) : Sg M A R Y c (m.wrap K H gd lv) fs s := by
  rw [sg_iff]
  rintro Γ p rfl hΓ
  exact runs_wrap_of_wp K H gd lv m (h (Γ.over fs) p (hΓ.over fs)) (fun a p' s' h' => sg_iff.mp h' Γ p' rfl hΓ) (fun x p' s' h' => sg_iff.mp h' Γ p' rfl hΓ)
theorem sg_bind_wrap {α β : Type} {m : Sem α} {K : α → Sem β} {K' : β → Sem PySem.Fin} {H' : Value → Sem PySem.Fin} {gd : Bool → Bool} {lv : List Value → List Value}
    (h : wpAny M (A.over c fs) m (fun a s' => Sg M A R Y c ((K a).wrap K' H' gd lv) fs s') (fun x s' => Sg M A R Y c (H' x) fs s') s) : Sg M A R Y c ((m >>= K).wrap K' H' gd lv) fs s := by
  rw [Sem.bind_eq_wrap', Sem.wrap_wrap]; exact sg_wrap h
theorem sg_at {p' : Pos} {k : Unit → Sem PySem.Fin} (h : Sg M A R Y c (k ()) fs s) : Sg M A R Y c (.at p' k) fs s :=
  sg_wrap (m := standAt p') (K := k) (H := .raise) (gd := id) (lv := id) (wpAny_standAt h)
theorem sg_call {c' : Code} {h g l} {k : Result → Sem PySem.Fin} (hc : ∀ p, Sg M A R Y c' (M.den c') (.ret k h g l c p [] :: fs) s) : Sg M A R Y c (.call c' h g l k) fs s := by
  rw [sg_iff]
  rintro Γ p rfl hΓ
  obtain ⟨e, s', hr, he⟩ := sg_iff.mp (hc p) (Γ.goto c') p rfl (hΓ.goto c')
  exact ⟨e, s', runs_call_seg hr, he⟩
theorem sg_leaf {k h g l c₁ p₁ kp} (r : Result) (hk : Sg M A R Y c₁ (k r) fs s) : Sg M A R Y c (leafOf r) (.ret k h g l c₁ p₁ kp :: fs) s := by
  rw [sg_iff]
  rintro Γ p rfl hΓ
  obtain ⟨e, s', hr, he⟩ := sg_iff.mp hk (Γ.goto c₁) p₁ rfl (hΓ.goto c₁)
  exact ⟨e, s', Runs.pop r hr, he⟩
theorem sg_again {c' : Code} (hq : c'.quiet = true) (hc : Sg M A R Y c' (M.den c') fs s) : Sg M A R Y c (.pure (.again c')) fs s := by
  rw [sg_iff]
  rintro Γ p rfl hΓ
  obtain ⟨e, s', hr, he⟩ := sg_iff.mp hc (Γ.goto c') p rfl (hΓ.goto c')
  exact ⟨e, s', Runs.head (c₁ := c') (fun _ _ x => .again hq x) hr, he⟩
theorem sg_end (r : Result) (h : R r s) : Sg M A R Y c (leafOf r) [] s := by
  rw [sg_iff]
  rintro Γ p rfl _
  exact ⟨.ret r, s, Runs.leaf r, h⟩
theorem sg_yield {v g l} {k : Resume → Sem PySem.Fin} {K : Shared → Prop} (hfs : splitAtGen fs = none) (hg : g = false) (hfg : fs.any Frame.guarded = false) (h : Y v s K) (hk : ∀ s'', K s'' → Sg M A R Y c (k (.send .none)) fs s'') : Sg M A R Y c (.yield v g l k) fs s := by
  rw [sg_iff]
  rintro Γ p rfl _
  exact ⟨_, s, Runs.yield' fs hfs, And.intro (by simp [End.quiet, hg, hfg]) ⟨K, h, hk⟩⟩
end

/-! ### waking -/
/-- the generator's state: the code, the tree that runs when it is woken -/
def Wk (M : Model) (gs : GenState) (c : Code) (t : Sem PySem.Fin) (fs : List Frame) : Prop :=
  (gs = .fresh c ∧ t = M.den c ∧ fs = []) ∨ ∃ k l p cl, gs = .suspended k l c p fs cl ∧ t = k (.send .none)
theorem wpAny_resumeS {M : Model} {A : Around} {R : Result → Shared → Prop} {Y : ConsY} {Z : Code → Sem PySem.Fin → List Frame → Shared → Prop} {E : Value → Shared → Prop} {s : Shared} {g : Nat} {gs : GenState} {c : Code} {t : Sem PySem.Fin} {fs : List Frame}
    {l : List Value} {α : Type} {k : GenResult → Sem α} {Q : α → Shared → Prop} (hg : s.gens[g]? = some gs) (hw : Wk M gs c t fs) (hgo : SgStep M A R Y Z c t fs (s.setGen g .running))
    (hR : ∀ x s₁, R x s₁ → wpAny M A (k (End.ret x).result) Q E (s₁.setGen g .finished))
    (hY : ∀ v s₁ gs' c' t' fs', gs'.bare = true → Wk M gs' c' t' fs' → (∃ K : Shared → Prop, Y v s₁ K ∧ ∀ s'', K s'' → Z c' t' fs' s'') → wpAny M A (k (.yielded v)) Q E (s₁.setGen g gs')) :
    wpAny M A (.resume g (.send .none) l k) Q E s := by
  intro Γ p hΓ
  rw [Sem.wp_resume]
  have hB : ∀ c, (Γ.wake c p).Woken A := fun c => hΓ.wake c p
  have fin : ∀ e₁ s₁, SgEnd R Y Z e₁ s₁ → Sem.wp M Γ (k e₁.result) (fun a _ s' => Q a s') (fun e _ s' => E e s') p (s₁.setGen g e₁.genState) := by
    intro e₁ s₁ he
    cases e₁ with
    | ret x => exact hR x s₁ he Γ p hΓ
    | susp v g₀ l₀ k₀ c₀ p₀ fs₀ => exact hY v s₁ _ c₀ (k₀ (.send .none)) fs₀ (End.bare_of_quiet he.1) (.inr ⟨k₀, _, _, _, rfl, rfl⟩) he.2 Γ p hΓ
  have hqt : ∀ e₁ s₁, SgEnd R Y Z e₁ s₁ → e₁.quiet = true := by
    intro e₁ s₁ he
    cases e₁ with
    | ret x => rfl
    | susp v g₀ l₀ k₀ c₀ p₀ fs₀ => exact he.1
  rcases hw with ⟨rfl, rfl, rfl⟩ | ⟨k₀, l₀, p₀, cl, rfl, rfl⟩
  · obtain ⟨e₁, s₁, hr, he⟩ := hgo (Γ.wake c p) p rfl (hB c)
    exact ⟨_, _, by unfold Wakes; rw [hg]; exact ⟨e₁, s₁, hr, hqt e₁ s₁ he, rfl, rfl⟩, fin e₁ s₁ he⟩
  · obtain ⟨e₁, s₁, hr, he⟩ := hgo (Γ.wake c p) p₀ rfl (hB c)
    exact ⟨_, _, by unfold Wakes; rw [hg]; exact ⟨e₁, s₁, hr, hqt e₁ s₁ he, rfl, rfl⟩, fin e₁ s₁ he⟩
section
variable {P : Program} {w : World} {A : Around} {E : Value → Shared → Prop} {s : Shared}
/-- next of a generator that ends by its end -/
theorem next_sg {a : Addr} {g : Nat} {gs : GenState} {c : Code} {t : Sem PySem.Fin} {fs : List Frame} {F : Shared → Prop} {Y : ConsY} {Z : Code → Sem PySem.Fin → List Frame → Shared → Prop} {Q : Option Value → Shared → Prop} (hh : A.handled = none)
    (hl : s.heap.NoLimit) (hroom : A.depth < recursionLimit) (hg : s.heap.IsGen a g) (hgs : s.gens[g]? = some gs) (hw : Wk (model P w) gs c t fs)
    (hgo : SgStep (model P w) A.in1 (fun r s₁ => r = .ok .next ∧ F s₁) Y Z c t fs (s.setGen g .running))
    (hY : ∀ v s₁ gs' c' t' fs', g < s₁.gens.size → gs'.bare = true → Wk (model P w) gs' c' t' fs' → (∃ K : Shared → Prop, Y v s₁ K ∧ ∀ s'', K s'' → Z c' t' fs' s'') → Q (some v) (s₁.setGen g gs'))
    (hP : ∀ s₁, F s₁ → ∀ h', (∀ b o, s₁.heap.get? b = some o → h'.get? b = some o) → Q none { s₁.setGen g .finished with heap := h' }) :
    wpAny (model P w) A (pyNext (.ref a)) Q E s := by
  have hsz : g + 1 ≤ s.gens.size := (Array.getElem?_eq_some_iff.mp hgs).1
  refine GenW.wpAny_gsz hsz ?_
  unfold pyNext
  refine wpAny_bind (wpAny_attempt (wpAny_callSpecial?_slot (name := Str.ofString "__next__") hg.typeIs slot_gen_next
    (wpAny_call_entry slot_gen_next hg.typeIs entry_gen_next ?_ (args_gen_next _))))
  show wpAny _ A.in1 (Builtin.Generator.genWake (.ref a) (.send .none)) _ _ s
  unfold Builtin.Generator.genWake
  refine wpAny_bind (wpAny_holding (wpAny_genNumber hg (wpAny_bind (wpAny_genState hgs ?_))))
  cases gs with
  | running => rcases hw with ⟨h, _⟩ | ⟨_, _, _, _, h, _⟩ <;> cases h
  | finished => rcases hw with ⟨h, _⟩ | ⟨_, _, _, _, h, _⟩ <;> cases h
  | _ =>
    refine wpAny_bind (wpAny_roomToWake hl hroom ?_)
    show wpAny _ A.in1 (.resume g (.send .none) [] _) _ _ s
    refine wpAny_resumeS hgs hw hgo (fun x s₁ hx => ?_) (fun v s₁ gs' c' t' fs' hb hw' hv => ?_)
    · obtain ⟨rfl, hp⟩ := hx
      show wpAny _ A.in1 (newExc (.type "StopIteration") [] >>= _) _ _ _
      refine wpAny_bind ?_
      simp only [newExc, newTuple]
      refine wpAny_bind (wpAny_newObj_type ?_ (by size_fits))
      refine wpAny_bind (m := firstArgMember _ _) (wpAny_of_eq (a := Value.none) (by first | rfl | (simp only [firstArgMember]; rfl)) ?_)
      refine wpAny_newObj_type ?_ (by size_fits)
      simp only [raiseNew]
      refine wpAny_bind (wpAny_bind (wpAny_handled ?_))
      first | rw [show A.in1.handled = none from hh] | rw [hh]
      refine wpAny_throw ?_
      refine wpAny_bind (wpAny_isInstance (T := "StopIteration") (b := true) ⟨_, Heap.get?_push_size _ rfl, rfl⟩ isSubtype_stop ?_)
      exact wpAny_pure fun _ => hP s₁ hp _ fun b o hb => Heap.get?_push_of_some _ (Heap.get?_push_of_some _ hb)
    · refine wpAny_pure ⟨v, rfl, wpAny_pure fun hz => hY v s₁ gs' c' t' fs' ?_ hb hw' hv⟩
      have := GenW.setGen_size s₁ g gs'
      have hz' : g + 1 ≤ (s₁.setGen g gs').gens.size := hz
      omega
end
end Pw
/-! Pw5: a generator expression is made: its frame, its cells, its object. -/
namespace Pw
open PySem PySem.Spec PyProof.Rows L2

/-- a source that is no display -/
def foldOk : Expr → Bool
  | .Name .. | .Subscript .. | .Call .. | .Attribute .. | .BinOp .. => true
  | _ => false
theorem foldOk_gen {iter : Expr} (h : foldOk iter = true) (env : Env) (x : Value) : genFold iter env x = pure x := by
  cases iter <;> first | rfl | cases h
theorem foldOk_set {iter : Expr} (h : foldOk iter = true) (env : Env) (x : Value) : foldedSetIterable iter env x = pure x := by
  cases iter <;> first | rfl | cases h

section
variable {M : Model} {A : Around} {E : Value → Shared → Prop} {s : Shared}
theorem newEnv_gen {scope : Scope} {globals : Addr} {closure : List (Str × Addr)} {it : Value} {qual : Str} {code : Value} {bi : Addr} {Q : Env → Shared → Prop} (hk : scope.kind = .function) (h0 : scope.names.lookup (".0" : Str) = some NameKind.local)
    (h : ∀ h' tk, h'.Ns s.heap.objs.size (fun y => if y = (".0" : Str) then some it else none) → Heap.SameBut s.heap.objs.size (pushCells (s.heap.push { cls := .type "frame", data := .dict #[] }) scope.names) h' →
      Q (newEnv scope s.heap.objs.size globals (cellsFrom (s.heap.objs.size + 1) scope.names closure) qual none code none bi) { s with heap := h', toks := tk }) :
    wpAny M A (newFunctionEnv scope globals closure [(".0", it)] qual none code none bi) Q E s := by
  simp only [newFunctionEnv, Option.isSome_none, Bool.false_eq_true, if_false]
  refine wpAny_bind (wpAny_alloc ?_)
  refine wpAny_bind (wpAny_layCells _ (fun n k c => rfl) scope.names closure _ _ ?_)
  rw [show ({ s with heap := s.heap.push { cls := .type "frame", data := .dict #[] } } : Shared).heap.objs.size = s.heap.objs.size + 1 from Heap.size_push ..]
  rw [List.forIn_cons]
  have nn : (pushCells (s.heap.push { cls := .type "frame", data := .dict #[] }) scope.names).Ns s.heap.objs.size (fun _ => none) := Heap.Ns.keeps (Heap.Ns.new ..) fun b o e => pushCells_keeps _ _ _ _ e
  refine wpAny_bind (wpAny_bind (wpAny_bind (wpAny_storeName_local (env := newEnv scope s.heap.objs.size globals (cellsFrom (s.heap.objs.size + 1) scope.names closure) qual none code none bi) h0 nn (fun h' hn hs => ?_) ?_)))
  · refine wpAny_pure ?_
    dsimp only
    rw [List.forIn_nil]
    exact wpAny_pure (wpAny_pure (h h' _ hn hs))
  · show (scope.kind == .class || (scope.kind == .module && _)) = false
    rw [hk]; rfl
theorem gen_make {env : Env} {elt tg iter : Expr} {ifs : List Expr} {more : List Comprehension} {scope : Scope} {cl : List (Str × Addr)} {pos : Pos} {Q : Value → Shared → Prop}
    (hco : scope.isCoroutine = false) (hclos : closureFor scope env = pure cl) (h0 : scope.names.lookup (".0" : Str) = some NameKind.local) (hkind : scope.kind = .function) (hroom : A.depth < recursionLimit) (hs : foldOk iter = true)
    (h : wpAny M A (eval iter env) (fun xv s₁ => wpAny M A (pyIter xv) (fun it s₂ => s₂.heap.NoLimit ∧
      wpAny M A (genexprCode env pos (env.qual ++ "<genexpr>") scope) (fun code s₃ => wpAny M A (builtinsFor env.globals env.builtins) (fun bi s₄ =>
        ∀ h' tk1 tk2 tk3, h'.Ns s₄.heap.objs.size (fun y => if y = ".0" then some it else none) → Heap.SameBut s₄.heap.objs.size (pushCells (s₄.heap.push { cls := .type "frame", data := .dict #[] }) scope.names) h' →
          Q (.ref h'.objs.size) { s₄ with
            gens := s₄.gens.push (.fresh (.compStart (.GeneratorExp elt (⟨tg, iter, ifs, 0⟩ :: more) scope pos) 0 it .none (genEnv scope (cellsFrom (s₄.heap.objs.size + 1) scope.names cl) s₄.heap.objs.size code bi env))),
            toks := tk3,
            heap := h'.push { cls := .type "generator", data := .fields #[.int s₄.gens.size 0, .str "<genexpr>" tk1, .str (env.qual ++ "<genexpr>") tk2] } }) E s₃) E s₂) E s₁) E s) :
    wpAny M A (eval (.GeneratorExp elt (⟨tg, iter, ifs, 0⟩ :: more) scope pos) env) Q E s := by
  have e1 : eval (.GeneratorExp elt (⟨tg, iter, ifs, 0⟩ :: more) scope pos) env = (do
      let x ← eval iter env
      standAt iter.pos
      let x ← genFold iter env x
      let it ← holding [x] (pyIter x)
      enterFrame
      let cl ← closureFor scope env
      let code ← genexprCode env pos (env.qual ++ "<genexpr>") scope
      let bi ← builtinsFor env.globals env.builtins
      let cenv ← newFunctionEnv scope env.globals cl [(".0", it)] (env.qual ++ "<genexpr>.") none code none bi
      newGenerator (.compStart (.GeneratorExp elt (⟨tg, iter, ifs, 0⟩ :: more) scope pos) 0 it .none cenv) "<genexpr>" (env.qual ++ "<genexpr>")) := by
    rw [arm_eval_GeneratorExp]
    simp only [hco, Bool.false_eq_true, if_false]
    cases iter <;> rfl
  rw [e1, hclos]
  refine wpAny_bind (wpAny_mono h (fun xv s₁ h₁ => ?_) fun _ _ e => e)
  refine wpAny_bind (wpAny_standAt ?_)
  refine wpAny_bind (wpAny_of_eq (foldOk_gen hs env xv) ?_)
  refine wpAny_bind (wpAny_holding (wpAny_mono h₁ (fun it s₂ h₂ => ?_) fun _ _ e => e))
  refine wpAny_bind (wpAny_enterFrame h₂.1 hroom ?_)
  refine wpAny_bind (wpAny_pure ?_)
  refine wpAny_bind (wpAny_mono h₂.2 (fun code s₃ h₃ => ?_) fun _ _ e => e)
  refine wpAny_bind (wpAny_mono h₃ (fun bi s₄ h₄ => ?_) fun _ _ e => e)
  refine wpAny_bind (newEnv_gen hkind h0 fun h' tk hn' hs' => ?_)
  simp only [newGenerator, newFields]
  refine wpAny_bind (wpAny_newGen (wpAny_bind (wpAny_mkText (wpAny_bind (wpAny_mkText (wpAny_newObj_type ?_ (by size_fits)))))))
  exact h₄ h' _ _ _ hn' hs'
end
end Pw
/-! Pw0: a small syntax with resolved slots, plain values, a store of cells, and the reading of a piece of program over them. No machine here. -/
namespace Pw
open PySem

/-- the built-ins that are called on values -/
inductive Bi where
  | len | int | abs | divmod | min | max | sum | sorted | list | tuple | all | any | repr | lenset | dictPairs
  deriving DecidableEq
/-- the methods -/
inductive Me where
  | append | pop | remove | index | get | join
  deriving DecidableEq
/-- the types of isinstance -/
inductive Ty where
  | int | bool | str | tuple | list
  deriving DecidableEq
/-- who draws a generator expression -/
inductive Gc where
  | all | any | tuple | sum | next
  deriving DecidableEq

/-- expressions, lists of them, targets, sources of loops, statements, blocks: one type -/
inductive T where
  | nil | cons (h t : T)
  | int (i : Int) | str (s : Str) | bl (b : Bool) | non
  | var (i : Nat)
  | gint (x : Str) (i : Int) | gstr (x s : Str) | gtups (x : Str) (ss : List Str)
  | tup (es : T) | lst (es : T)
  | bin (op : Operator) (a b : T)
  | neg (a : T)
  | cmp (op : CmpOp) (a b : T)
  | isn (a : T) | notn (a : T)
  | chain (o1 o2 : CmpOp) (a b c : T)
  | and_ (a r : T) | or_ (a r : T)
  | not_ (a : T)
  | ite (c a b : T)
  | sub (a i : T)
  | slice (a lo hi : T)
  | rev (a : T)
  | call (f : Nat) (args : T)
  | callk (f : Nat) (ks : List Nat) (vals : T)
  | bcall (b : Bi) (args : T)
  | bcalli (b : Bi) (it : T)
  | meth (m : Me) (o args : T)
  | isin (a : T) (ty : Ty)
  | dnewK | dnewT
  | lcomp (own : List Nat) (elt tg it ifs : T)
  | dcomp (own : List Nat) (k v tg it : T)
  | gcall (f : Gc) (own : List Nat) (elt tg it ifs rest : T)
  | gcall2 (f : Gc) (own own2 : List Nat) (elt tg it ifs tg2 it2 ifs2 : T)
  -- sources of loops
  | irange (args : T) | ienum (args : T) | izip (args : T)
  -- statements
  | expr (e : T) | asg (tg e : T) | asgl (i : Nat) (own : List Nat) (elt tg it ifs : T) | asgd (i : Nat) (own : List Nat) (k v tg it : T) | aug (op : Operator) (tg e : T)
  | ifs (c a b : T) | for_ (tg it body : T) | while_ (c body : T)
  | ret (e : T) | retn | brk | cont | pass | never

/-- how much is known of a tuple's object: it may be a key of a dict; it has no dict of its own (its methods may be called); no more -/
inductive TK where
  | key | kn | any
  deriving DecidableEq
/-- plain values -/
inductive D where
  | non | bl (b : Bool) | int (i : Int) | str (s : Str)
  | tup (k : TK) (xs : List D)
  | loc (n : Nat)

/-- what may change -/
inductive Cell where
  | lst (xs : List D)
  /-- a list that is only read -/
  | rol (xs : List D)
  | dK (kvs : List (L2.Key × D))
  | dT (kvs : List (List L2.Key × D))

abbrev Store := List Cell
abbrev Env := List (Option D)
abbrev KD := D → Store → Prop
/-- an exception: its class (by the program's own number), what it bears -/
structure ExD where
  cls : Nat
  arg : Option D
abbrev XX := ExD → Store → Prop
structure Ends where
  nx : Env → Store → Prop
  rt : KD
  bk : Env → Store → Prop := fun _ _ => False
  ct : Env → Store → Prop := fun _ _ => False

/-! ### values as the library's data -/
/-- a value as data, lists by the store, to a depth -/
def dq : Nat → Store → D → Option PyData
  | 0, _, _ => none
  | n + 1, S, d => match d with
    | .non => some .none
    | .bl b => some (.bool b)
    | .int i => some (.int i)
    | .str s => some (.str s)
    | .tup _ xs => (xs.mapM (dq n S)).map .tuple
    | .loc m => match S[m]? with
      | some (.lst xs) => (xs.mapM (dq n S)).map .list
      | _ => none
def dqs (S : Store) (xs : List D) : Option (List PyData) := xs.mapM (dq 16 S)

/-! ### comparisons -/
def eqD (S : Store) (x y : D) : Option Bool :=
  match x, y with
  | .str a, .str b => some (decide (a = b))
  | .int a, .int b => some (decide (a = b))
  | .bl a, .bl b => some (decide (a = b))
  | .non, .non => some true
  | .non, .str _ => some false
  | .str _, .non => some false
  | .non, .int _ => some false
  | .int _, .non => some false
  | .int _, .str _ => some false
  | .str _, .int _ => some false
  | x, y => match dq 16 S x, dq 16 S y with
    | some p, some q => if SeqAt.shaped p && SeqAt.shaped q then some (PyData.eqv p q) else none
    | _, _ => none
def ltD (S : Store) (x y : D) : Option Bool :=
  match x, y with
  | .int a, .int b => some (decide (a < b))
  | .str a, .str b => some (decide (a.cps.toList < b.cps.toList))
  | .tup k xs, .tup l ys => match dq 16 S (.tup k xs), dq 16 S (.tup l ys) with
    | some p, some q => if PySem.W.alike p q && (decide (p.depth ≤ 64) && decide (q.depth ≤ 64)) then some (PySem.W.dataLt p q) else none
    | _, _ => none
  | _, _ => none
/-- one text within another -/
def strIn (i j : Str) : Bool := !(Builtin.Str.occurrences j i 0 j.length 1).isEmpty
/-- a key of a dict with int and text keys; with keys that are tuples of such -/
def keyK : D → Option L2.Key
  | .int i => some (.inl i)
  | .str s => some (.inr s)
  | _ => none
def keyT : D → Option (List L2.Key)
  | .tup .key xs => xs.mapM keyK
  | _ => none
def valD {κ : Type} [DecidableEq κ] (kvs : List (κ × D)) (k : κ) : Option D := (kvs.find? fun kv => decide (kv.1 = k)).map (·.2)
def putD {κ : Type} [DecidableEq κ] (kvs : List (κ × D)) (k : κ) (v : D) : List (κ × D) :=
  if kvs.any (fun kv => decide (kv.1 = k)) then kvs.map (fun kv => if kv.1 = k then (kv.1, v) else kv) else kvs ++ [(k, v)]
def inD (S : Store) (x y : D) : Option Bool :=
  match y with
  | .str b => match x with
    | .str a => some (strIn a b)
    | _ => none
  | .tup _ ys => match dq 16 S x, dqs S ys with
    | some p, some qs => if SeqAt.shaped p && SeqAt.shaped (.tuple qs) then some (qs.any fun q => PyData.eqv q p) else none
    | _, _ => none
  | .loc n => match S[n]? with
    | some (.lst ys) => match dq 16 S x, dqs S ys with
      | some p, some qs => if SeqAt.shaped p && SeqAt.shaped (.list qs) then some (qs.any fun q => PyData.eqv q p) else none
      | _, _ => none
    | some (.dK kvs) => (keyK x).map fun k => (valD kvs k).isSome
    | some (.dT kvs) => (keyT x).map fun k => (valD kvs k).isSome
    | _ => none
  | _ => none
def cmpD (op : CmpOp) (S : Store) (x y : D) : Option Bool :=
  match op with
  | .Eq => eqD S x y
  | .NotEq => (eqD S x y).map (!·)
  | .Lt => ltD S x y
  | .Gt => match x, y with
    | .int a, .int b => some (decide (b < a))
    | _, _ => none
  | .LtE => match x, y with
    | .int a, .int b => some (decide (a ≤ b))
    | _, _ => none
  | .GtE => match x, y with
    | .int a, .int b => some (decide (b ≤ a))
    | _, _ => none
  | .In => inD S x y
  | .NotIn => (inD S x y).map (!·)
  | _ => none

/-! ### truth, length -/
def truD (S : Store) : D → Option Bool
  | .non => some false
  | .bl b => some b
  | .int i => some (i != 0)
  | .str s => if s.length ≤ sizeLine then some ((s.length : Int) != 0) else none
  | .tup _ xs => some (!xs.isEmpty)
  | .loc n => match S[n]? with
    | some (.lst xs) => some (!xs.isEmpty)
    | some (.rol xs) => some (!xs.isEmpty)
    | some (.dK kvs) => some (!kvs.isEmpty)
    | _ => none
def lenD (S : Store) : D → Option Nat
  | .str s => if s.length ≤ sizeLine then some s.length else none
  | .tup _ xs => some xs.length
  | .loc n => match S[n]? with
    | some (.lst xs) => some xs.length
    | some (.rol xs) => some xs.length
    | _ => none
  | _ => none
def tyD (S : Store) : D → Option Ty
  | .bl _ => some .bool
  | .int _ => some .int
  | .str _ => some .str
  | .tup _ _ => some .tuple
  | .loc n => match S[n]? with
    | some (.lst _) => some .list
    | _ => none
  | _ => none
/-- isinstance(x, ty): a bool is an int -/
def isinD (S : Store) (d : D) (ty : Ty) : Option Bool :=
  match d with
  | .non => some false
  | d => (tyD S d).map fun t => decide (t = ty) || (decide (t = .bool) && decide (ty = .int))

/-! ### sequences -/
def seqD (S : Store) : D → Option (List D)
  | .tup _ xs => some xs
  | .loc n => match S[n]? with
    | some (.lst xs) => some xs
    | some (.rol xs) => some xs
    | _ => none
  | _ => none
/-- a list alone -/
def lstD (S : Store) : D → Option (List D)
  | .loc n => seqD S (.loc n)
  | _ => none
/-- what a loop walks: cells that must stay as they are, the items -/
structure Src where
  gd : List (Nat × Cell)
  items : List D
def signsD (s : Str) : List D := s.cps.toList.map fun c => .str ⟨#[c]⟩
def srcD (S : Store) : D → Option Src
  | .tup _ xs => some ⟨[], xs⟩
  | .str s => some ⟨[], signsD s⟩
  | .loc n => match S[n]? with
    | some (.lst xs) => some ⟨[(n, .lst xs)], xs⟩
    | some (.rol xs) => some ⟨[(n, .rol xs)], xs⟩
    | _ => none
  | _ => none
/-- a list, a tuple -/
def seqS (S : Store) : D → Option Src
  | .str _ => none
  | d => srcD S d
def enumD (ds : List D) : List D := ds.zipIdx.map fun p => .tup .key [.int (p.2 : Nat), p.1]
def zipD (ds es : List D) : List D := (ds.zip es).map fun p => .tup .key [p.1, p.2]
def gdOk (gd : List (Nat × Cell)) (S : Store) : Prop := ∀ p ∈ gd, S[p.1]? = some p.2
def intsD : List D → Option (List Int)
  | [] => some []
  | .int i :: r => (intsD r).map (i :: ·)
  | _ => none
def strsD : List D → Option (List Str)
  | [] => some []
  | .str s :: r => (strsD r).map (s :: ·)
  | _ => none
def bools : List D → Option (List Bool)
  | [] => some []
  | .bl b :: r => (bools r).map (b :: ·)
  | _ => none
def rangeD (lo hi : Int) : List D := (List.range (hi - lo).toNat).map fun i : Nat => D.int (lo + (i : Int))
def small62 (i : Int) : Prop := -(2 ^ 62) ≤ i ∧ i < 2 ^ 62
def cutD (xs : List D) (lo hi : Option Int) : List D := (xs.drop (HT.sIx xs.length 0 lo)).take (HT.sIx xs.length xs.length hi - HT.sIx xs.length 0 lo)

/-! ### operators -/
def binD (op : Operator) (x y : D) (S : Store) (Q : KD) : Prop :=
  match op with
  | .Add => match x, y with
    | .int i, .int j => Q (.int (i + j)) S
    | .str a, .str b => a.length + b.length ≤ sizeLine ∧ Q (.str (a ++ b)) S
    | .tup _ xs, .tup _ ys => xs.length + ys.length ≤ sizeLine ∧ Q (.tup .any (xs ++ ys)) S
    | .loc m, .loc n => match S[m]?, S[n]? with
      | some (.lst xs), some (.lst ys) => xs.length + ys.length ≤ sizeLine ∧ Q (.loc S.length) (S ++ [.lst (xs ++ ys)])
      | _, _ => False
    | _, _ => False
  | .Sub => match x, y with
    | .int i, .int j => Q (.int (i - j)) S
    | _, _ => False
  | .Mult => match x, y with
    | .int i, .int j => L2.CMul i j ∧ Q (.int (i * j)) S
    | .loc m, .int j => match S[m]? with
      | some (.lst xs) => xs.length * j.toNat ≤ sizeLine ∧ small62 j ∧ Q (.loc S.length) (S ++ [.lst (List.replicate j.toNat xs).flatten])
      | _ => False
    | _, _ => False
  | .Mod => match x, y with
    | .int i, .int j => 0 < j ∧ Q (.int (i % j)) S
    | _, _ => False
  | .FloorDiv => match x, y with
    | .int i, .int j => L2.CDiv i j ∧ Q (.int (i / j)) S
    | _, _ => False
  | .Pow => match x, y with
    | .int i, .int j => L2.CPow i j ∧ Q (.int (i ^ j.toNat)) S
    | _, _ => False
  | _ => False
/-- a op= b, by values -/
def iopD (op : Operator) (x y : D) (S : Store) (Q : KD) : Prop :=
  match op, x, y with
  | .Add, .int i, .int j => Q (.int (i + j)) S
  | .Sub, .int i, .int j => Q (.int (i - j)) S
  | _, _, _ => False

/-- a[i] -/
def subD (x i : D) (S : Store) (Q : KD) : Prop :=
  match x with
  | .tup _ xs => match i with
    | .int k => match L2.atI xs k with
      | some v => Q v S
      | none => False
    | _ => False
  | .str s => match i with
    | .int k => s.length ≤ sizeLine ∧ match L2.atI s.cps.toList k with
      | some c => Q (.str ⟨#[c]⟩) S
      | none => False
    | _ => False
  | .loc n => match S[n]? with
    | some (.lst xs) => match i with
      | .int k => match L2.atI xs k with
        | some v => Q v S
        | none => False
      | _ => False
    | some (.rol xs) => match i with
      | .int k => match L2.atI xs k with
        | some v => Q v S
        | none => False
      | _ => False
    | some (.dK kvs) => match keyK i with
      | some k => match valD kvs k with
        | some v => Q v S
        | none => False
      | none => False
    | some (.dT kvs) => match keyT i with
      | some k => match valD kvs k with
        | some v => Q v S
        | none => False
      | none => False
    | none => False
  | _ => False
/-- a[i] of a list, of a dict -/
def lgetD (x i : D) (S : Store) (Q : KD) : Prop :=
  match x with
  | .loc n => match S[n]? with
    | some (.lst xs) => match i with
      | .int k => match L2.atI xs k with
        | some v => Q v S
        | none => False
      | _ => False
    | some (.dK kvs) => match keyK i with
      | some k => match valD kvs k with
        | some v => Q v S
        | none => False
      | none => False
    | _ => False
  | _ => False
/-- a[i] = v -/
def setD (x i v : D) (S : Store) (Q : Store → Prop) : Prop :=
  match x with
  | .loc n => match S[n]? with
    | some (.lst xs) => match i with
      | .int k => match L2.ixN xs.length k with
        | some j => Q (S.set n (.lst (xs.set j v)))
        | none => False
      | _ => False
    | some (.dK kvs) => match keyK i with
      | some k => kvs.length < sizeLine ∧ Q (S.set n (.dK (putD kvs k v)))
      | none => False
    | some (.dT kvs) => match keyT i with
      | some k => kvs.length < sizeLine ∧ Q (S.set n (.dT (putD kvs k v)))
      | none => False
    | _ => False
  | _ => False
def sliceD (x : D) (lo hi : Option Int) (S : Store) (Q : KD) : Prop :=
  match x with
  | .tup _ xs => Q (.tup .any (cutD xs lo hi)) S
  | .loc n => match S[n]? with
    | some (.lst xs) => Q (.loc S.length) (S ++ [.lst (cutD xs lo hi)])
    | some (.rol xs) => Q (.loc S.length) (S ++ [.lst (cutD xs lo hi)])
    | _ => False
  | _ => False
def revD (x : D) (S : Store) (Q : KD) : Prop :=
  match x with
  | .tup _ xs => Q (.tup .any xs.reverse) S
  | .loc n => match S[n]? with
    | some (.lst xs) => Q (.loc S.length) (S ++ [.lst xs.reverse])
    | _ => False
  | _ => False

/-! ### built-ins on values -/
/-- the least, the greatest of some data, the first of several equal ones -/
def leastBy (lt : PyData → PyData → Bool) : PyData → D → List (PyData × D) → D
  | _, d, [] => d
  | p, d, (q, e) :: r => if lt q p then leastBy lt q e r else leastBy lt p d r
def sortedStr (xs : List Str) : List Str := xs.mergeSort fun a b => decide (a.cps.toList ≤ b.cps.toList)
def sortedInt (xs : List Int) : List Int := xs.mergeSort fun a b => decide (a ≤ b)
/-- no two alike -/
def keysNodup (ks : List (List L2.Key)) : List (List L2.Key) := ks.foldl (fun acc k => if acc.any (fun a => decide (a = k)) then acc else acc ++ [k]) []
def absI (i : Int) : Int := if i < 0 then -i else i
def min2 (i j : Int) : Int := if j < i then j else i
def max2 (i j : Int) : Int := if j > i then j else i
/-- a pair whose first part is a tuple key -/
def pairT (d : D) : Option (List L2.Key × D) := match d with
  | .tup _ [k, v] => (keyT k).map fun k => (k, v)
  | _ => none
def biD (b : Bi) (xs : List D) (S : Store) (Q : KD) : Prop :=
  match b, xs with
  | .len, [x] => match lenD S x with
    | some n => Q (.int n) S
    | none => False
  | .int, [.int i] => Q (.int i) S
  | .abs, [.int i] => Q (.int (absI i)) S
  | .divmod, [.int i, .int j] => L2.CDiv i j ∧ Q (.tup .any [.int (i / j), .int (i % j)]) S
  | .min, [.int i, .int j] => Q (.int (min2 i j)) S
  | .max, [.int i, .int j] => Q (.int (max2 i j)) S
  | .max, [x] => match (seqD S x).bind intsD with
    | some (i :: r) => Q (.int (r.foldl max i)) S
    | _ => match seqD S x with
      | some (y :: ys) => match dqs S (y :: ys) with
        | some (p :: ps) => (∀ a ∈ p :: ps, ∀ b ∈ p :: ps, PySem.W.alike a b = true) ∧ (∀ a ∈ p :: ps, a ≠ .none ∧ a.depth ≤ 60) ∧
          ∀ (i : Nat) (d : D), (y :: ys)[i]? = some d → (p :: ps)[i]? = some (PySem.W.maxD p ps) → Q d S
        | _ => False
      | _ => False
  | .min, [x] => match seqD S x with
    | some (y :: ys) => match dqs S (y :: ys) with
      | some (p :: ps) => (∀ a ∈ p :: ps, ∀ b ∈ p :: ps, PySem.W.alike a b = true) ∧ (∀ a ∈ p :: ps, a ≠ .none ∧ a.depth ≤ 60) ∧
        ∀ (i : Nat) (d : D), (y :: ys)[i]? = some d → (p :: ps)[i]? = some (PySem.W.minD p ps) → Q d S
      | _ => False
    | _ => False
  | .sum, [x] => match (seqD S x).bind intsD with
    | some is => Q (.int is.sum) S
    | _ => False
  | .sorted, [x] => match lstD S x with
    | some ds => match strsD ds with
      | some ss => ss.length < 64 ∧ ∀ ys : List Str, ys.Perm ss → PyProof.Rows.sortedS ys = true → Q (.loc S.length) (S ++ [.lst (ys.map .str)])
      | none => False
    | none => False
  | .list, [x] => match srcD S x with
    | some s => s.items.length ≤ sizeLine ∧ Q (.loc S.length) (S ++ [.lst s.items])
    | none => False
  | .tuple, [.tup k xs] => Q (.tup k xs) S
  | .tuple, [.loc n] => match seqD S (.loc n) with
    | some xs => Q (.tup .kn xs) S
    | none => False
  | .all, [x] => match (lstD S x).bind bools with
    | some bs => Q (.bl (bs.all id)) S
    | none => False
  | .any, [x] => match (lstD S x).bind bools with
    | some bs => Q (.bl (bs.any id)) S
    | none => False
  | .repr, [x] => match dq 16 S x with
    | some p => p.showable = true ∧ p.shown.length ≤ sizeLine ∧ Q (.str p.shown) S
    | none => False
  | .lenset, [.tup _ xs] => match xs.mapM keyT with
    | some ks => ks.length ≤ 60 ∧ ks.Nodup ∧ Q (.int ks.length) S
    | none => False
  | .dictPairs, [.loc n] => match S[n]? with
    | some (.lst ds) => match ds.mapM pairT with
      | some kvs => kvs.length ≤ 1000 ∧ Q (.loc S.length) (S ++ [.dT (kvs.foldl (fun acc kv => putD acc kv.1 kv.2) [])])
      | none => False
    | _ => False
  | _, _ => False
/-- what has the method -/
def meOk (m : Me) (o : D) (S : Store) : Prop :=
  match m, o with
  | .append, .loc n => match S[n]? with
    | some (.lst _) => True
    | _ => False
  | .pop, .loc n => match S[n]? with
    | some (.lst _) => True
    | _ => False
  | .remove, .loc n => match S[n]? with
    | some (.lst _) => True
    | _ => False
  | .get, .loc n => match S[n]? with
    | some (.dT _) => True
    | some (.dK _) => True
    | _ => False
  | .index, .tup .kn _ => True
  | .join, .str _ => True
  | _, _ => False
/-- a method of a value -/
def meD (m : Me) (o : D) (xs : List D) (S : Store) (Q : KD) : Prop :=
  match m, o, xs with
  | .append, .loc n, [x] => match S[n]? with
    | some (.lst ys) => ys.length < sizeLine ∧ Q .non (S.set n (.lst (ys ++ [x])))
    | _ => False
  | .pop, .loc n, [.int k] => match S[n]? with
    | some (.lst ys) => match L2.ixN ys.length k with
      | some j => match ys[j]? with
        | some y => Q y (S.set n (.lst (ys.eraseIdx j)))
        | none => False
      | none => False
    | _ => False
  | .index, .tup .kn xs, [.str z] => match strsD xs with
      | some ss => match ss.findIdx? fun q => decide (q = z) with
        | some j => Q (.int j) S
        | none => False
      | none => False
  | .get, .loc n, [k, d] => match S[n]? with
    | some (.dT kvs) => match keyT k with
      | some k => Q ((valD kvs k).getD d) S
      | none => False
    | some (.dK kvs) => match keyK k with
      | some k => Q ((valD kvs k).getD d) S
      | none => False
    | _ => False
  | .join, .str s, [.loc n] => match S[n]? with
    | some (.lst xs) => match strsD xs with
      | some ss => (ss.map (·.length)).sum + ss.length * s.length ≤ sizeLine ∧ Q (.str (Txt.join s ss)) S
      | none => False
    | _ => False
  | _, _, _ => False

/-! ### loops -/
/-- what stands at the parts of a tuple -/
def unpD (d : D) : Option (List D) := match d with
  | .tup _ xs => some xs
  | _ => none
def forL (gd : List (Nat × Cell)) (body : D → Env → Store → (Env → Store → Prop) → Prop) (fin : Env → Store → Prop) : List D → Env → Store → Prop
  | [], σ, S => gdOk gd S ∧ fin σ S
  | d :: ds, σ, S => gdOk gd S ∧ body d σ S (forL gd body fin ds)
/-- a comprehension's loop: acc is what is made so far -/
def compL {α : Type} (gd : List (Nat × Cell)) (body : D → Store → α → (Store → α → Prop) → Prop) (fin : Store → α → Prop) : List D → Store → α → Prop
  | [], S, acc => gdOk gd S ∧ fin S acc
  | d :: ds, S, acc => gdOk gd S ∧ body d S acc fun S' acc' => compL gd body fin ds S' acc'
/-- a comprehension's list, dict (the cell n) takes an item -/
def lcPut (n : Nat) (y : D) (S : Store) (Q : Store → Prop) : Prop :=
  match S[n]? with
  | some (.lst acc) => acc.length < sizeLine ∧ Q (S.set n (.lst (acc ++ [y])))
  | _ => False
def dcPut (n : Nat) (x y : D) (S : Store) (Q : Store → Prop) : Prop :=
  match S[n]? with
  | some (.dT kvs) => match keyT x with
    | some q => kvs.length < sizeLine ∧ Q (S.set n (.dT (putD kvs q y)))
    | none => False
  | _ => False
def wipeE (σ : Env) : List Nat → Env
  | [] => σ
  | v :: vs => (wipeE σ vs).set v none
/-- what a drawer does with an item: acc, the item, the store, go on | what it hands back -/
def stepG (f : Gc) (acc : List D) (y : D) (S : Store) (go : Store → List D → Prop) (Q : KD) : Prop :=
  match f with
  | .all => match truD S y with
    | some true => go S acc
    | some false => Q (.bl false) S
    | none => False
  | .any => match truD S y with
    | some true => Q (.bl true) S
    | some false => go S acc
    | none => False
  | .tuple => acc.length < sizeLine ∧ go S (acc ++ [y])
  | .sum => match acc, y with
    | [.int a], .int b => small62 a ∧ small62 b ∧ go S [.int (a + b)]
    | _, _ => False
  | .next => Q y S
def startG (f : Gc) : List D := match f with
  | .sum => [.int 0]
  | _ => []
def endG (f : Gc) (dflt : D) (acc : List D) (S : Store) (Q : KD) : Prop :=
  match f with
  | .all => Q (.bl true) S
  | .any => Q (.bl false) S
  | .tuple => Q (.tup .kn acc) S
  | .sum => match acc with
    | [d] => Q d S
    | _ => False
  | .next => Q dflt S

/-! ### the readings -/
structure W where
  e : Env → Store → KD → Prop
  t : Env → Store → (Bool → Store → Prop) → Prop
  a : Env → Store → (List D → Store → Prop) → Prop
  p : Env → Store → (Option Int → Store → Prop) → Prop
  g : D → Env → Store → (Env → Store → Prop) → Prop
  gs : List D → Env → Store → (Env → Store → Prop) → Prop
  i : Env → Store → (Src → Store → Prop) → Prop
  ts : Env → Store → (Bool → Store → Prop) → Prop
  s : Ends → Env → Store → Prop
def W.no : W := ⟨fun _ _ _ => False, fun _ _ _ => False, fun _ _ _ => False, fun _ _ _ => False, fun _ _ _ _ => False, fun _ _ _ _ => False, fun _ _ _ => False, fun _ _ _ => False, fun _ _ _ => False⟩
/-- an expression -/
def W.ex (e : Env → Store → KD → Prop) : W := { W.no with
  e := e
  t := fun σ S Q => e σ S fun d S' => match truD S' d with
    | some b => Q b S'
    | none => False
  p := fun σ S Q => e σ S fun d S' => match d with
    | .int i => Q (some i) S'
    | _ => False
  i := fun σ S Q => e σ S fun d S' => match srcD S' d with
    | some s => Q s S'
    | none => False }
/-- an expression whose value is a truth value -/
def W.bx (t : Env → Store → (Bool → Store → Prop) → Prop) : W := { W.ex (fun σ S Q => t σ S fun b S' => Q (.bl b) S') with t := t }
/-- a value that is tested in its own way -/
def W.tx (e : Env → Store → KD → Prop) (t : Env → Store → (Bool → Store → Prop) → Prop) : W := { W.ex e with t := t }
/-- one of two, by the truth of a value -/
def byTru (S : Store) (d : D) (P Q : Prop) : Prop := match truD S d with
  | some true => P
  | some false => Q
  | none => False
def W.st (s : Ends → Env → Store → Prop) : W := { W.no with s := s }

/-- the list of a comprehension: it stands as a cell from the start -/
def lcRd (own : List Nat) (WS WT WI WE : W) : Env → Store → KD → Prop := fun σ S Q => WS.i σ S fun src S1 =>
  compL src.gd (fun d S (_ : Unit) nx => WT.g d (wipeE σ own) S fun σ1 S2 => WI.ts σ1 S2 fun b S3 =>
    if b then WE.e σ1 S3 fun y S4 => lcPut S1.length y S4 fun S5 => nx S5 () else nx S3 ())
    (fun S _ => Q (.loc S1.length) S) src.items (S1 ++ [.lst []]) ()
def dcRd (own : List Nat) (WS WT WK WV : W) : Env → Store → KD → Prop := fun σ S Q => WS.i σ S fun src S1 =>
  compL src.gd (fun d S (_ : Unit) nx => WT.g d (wipeE σ own) S fun σ1 S2 => WK.e σ1 S2 fun x S3 => WV.e σ1 S3 fun y S4 =>
    dcPut S1.length x y S4 fun S5 => nx S5 ())
    (fun S _ => Q (.loc S1.length) S) src.items (S1 ++ [.dT []]) ()

/-- a pair of a text and a value -/
def pairK : D → Option (L2.Key × D)
  | .tup _ [.str k, v] => some (.inr k, v)
  | _ => none
abbrev CallF := Nat → List D → Store → KD → XX → Prop
structure Cxt where
  call : CallF
  X : XX
def Cxt.nox (c : Cxt) : Cxt := { c with X := fun _ _ => False }

/-- how many items a list of targets has -/
def tgLen : T → Nat
  | .cons _ t => tgLen t + 1
  | _ => 0
def w : T → Cxt → W
  | .nil, _ => { W.no with
      a := fun _ S Q => Q [] S
      p := fun _ S Q => Q none S
      gs := fun ds σ S Q => ds = [] ∧ Q σ S
      ts := fun _ S Q => Q true S
      s := fun D σ S => D.nx σ S }
  | .cons h t, c => { W.no with
      a := fun σ S Q => (w h c).e σ S fun d S1 => (w t c).a σ S1 fun ds S2 => Q (d :: ds) S2
      gs := fun ds σ S Q => match ds with
        | d :: r => (w h c).g d σ S fun σ1 S1 => (w t c).gs r σ1 S1 Q
        | [] => False
      ts := fun σ S Q => (w h c).t σ S fun b S1 => if b then (w t c).ts σ S1 Q else Q false S1
      s := fun D σ S => (w h c).s { D with nx := fun σ1 S1 => (w t c).s D σ1 S1 } σ S }
  | .int i, _ => W.ex fun _ S Q => Q (.int i) S
  | .str s, _ => W.ex fun _ S Q => Q (.str s) S
  | .bl b, _ => W.ex fun _ S Q => Q (.bl b) S
  | .non, _ => W.ex fun _ S Q => Q .non S
  | .var i, _ => { W.ex (fun σ S Q => match σ[i]? with
      | some (some d) => Q d S
      | _ => False) with g := fun d σ S Q => Q (σ.set i (some d)) S }
  | .gint _ i, _ => W.ex fun _ S Q => Q (.int i) S
  | .gstr _ s, _ => W.ex fun _ S Q => Q (.str s) S
  | .gtups _ ss, _ => W.ex fun _ S Q => Q (.tup .any (ss.map .str)) S
  | .tup es, c => { W.ex (fun σ S Q => (w es c).a σ S fun ds S1 => ds.length ≤ sizeLine ∧ Q (.tup .key ds) S1) with
      g := fun d σ S Q => match d with
        | .tup _ ds => ds.length = tgLen es ∧ (w es c).gs ds σ S Q
        | _ => False }
  | .lst es, c => W.ex fun σ S Q => (w es c).a σ S fun ds S1 => ds.length ≤ sizeLine ∧ Q (.loc S1.length) (S1 ++ [.lst ds])
  | .bin op a b, c => W.ex fun σ S Q => (w a c).e σ S fun x S1 => (w b c).e σ S1 fun y S2 => binD op x y S2 Q
  | .neg a, c => W.ex fun σ S Q => (w a c).e σ S fun x S1 => match x with
      | .int i => Q (.int (-i)) S1
      | _ => False
  | .cmp op a b, c => W.bx fun σ S Q => (w a c).e σ S fun x S1 => (w b c).e σ S1 fun y S2 => match cmpD op S2 x y with
      | some k => Q k S2
      | none => False
  | .isn a, c => W.bx fun σ S Q => (w a c).e σ S fun x S1 => Q (match x with | .non => true | _ => false) S1
  | .notn a, c => W.bx fun σ S Q => (w a c).e σ S fun x S1 => Q (match x with | .non => false | _ => true) S1
  | .chain o1 o2 a b d, c => W.bx fun σ S Q => (w a c).e σ S fun x S1 => (w b c).e σ S1 fun y S2 => match cmpD o1 S2 x y with
      | some true => (w d c).e σ S2 fun z S3 => (match cmpD o2 S3 y z with
        | some k => Q k S3
        | none => False)
      | some false => Q false S2
      | none => False
  | .and_ a r, c => match r with
      | .nil => W.tx (fun σ S Q => (w a c).e σ S Q) fun σ S Q => (w a c).t σ S Q
      | r => W.tx (fun σ S Q => (w a c).e σ S fun d S1 => byTru S1 d ((w r c).e σ S1 Q) (Q d S1)) fun σ S Q => (w a c).t σ S fun b S1 => if b then (w r c).t σ S1 Q else Q false S1
  | .or_ a r, c => match r with
      | .nil => W.tx (fun σ S Q => (w a c).e σ S Q) fun σ S Q => (w a c).t σ S Q
      | r => W.tx (fun σ S Q => (w a c).e σ S fun d S1 => byTru S1 d (Q d S1) ((w r c).e σ S1 Q)) fun σ S Q => (w a c).t σ S fun b S1 => if b then Q true S1 else (w r c).t σ S1 Q
  | .not_ a, c => W.tx (fun σ S Q => (w a c).e σ S fun d S1 => byTru S1 d (Q (.bl false) S1) (Q (.bl true) S1)) fun σ S Q => (w a c).t σ S fun b S1 => Q (!b) S1
  | .ite cd a b, c => W.ex fun σ S Q => (w cd c).t σ S fun k S1 => if k then (w a c).e σ S1 Q else (w b c).e σ S1 Q
  | .sub a i, c => { W.ex (fun σ S Q => (w a c).e σ S fun x S1 => (w i c).e σ S1 fun y S2 => subD x y S2 Q) with
      g := fun v σ S Q => (w a c).e σ S fun x S1 => (w i c).e σ S1 fun y S2 => setD x y v S2 fun S3 => Q σ S3 }
  | .slice a lo hi, c => W.ex fun σ S Q => (w a c).e σ S fun x S1 => (w lo c).p σ S1 fun l S2 => (w hi c).p σ S2 fun h S3 => sliceD x l h S3 Q
  | .rev a, c => W.ex fun σ S Q => (w a c).e σ S fun x S1 => revD x S1 Q
  | .call f args, c => W.ex fun σ S Q => (w args c).a σ S fun ds S1 => c.call f ds S1 Q c.X
  | .callk f ks vals, c => W.ex fun σ S Q => (w vals c).a σ S fun ds S1 => c.call f (ks.map fun k => ds.getD k .non) S1 Q c.X
  | .bcall b args, c => W.ex fun σ S Q => (w args c).a σ S fun ds S1 => biD b ds S1 Q
  | .bcalli b it, c => W.ex fun σ S Q => (w it c).i σ S fun src S1 => match b with
      | .list => src.items.length ≤ sizeLine ∧ Q (.loc S1.length) (S1 ++ [.lst src.items])
      | .dictPairs => match src.items.mapM pairK with
        | some kvs => kvs.length ≤ 1000 ∧ Q (.loc S1.length) (S1 ++ [.dK (kvs.foldl (fun acc kv => putD acc kv.1 kv.2) [])])
        | none => False
      | _ => False
  | .meth m o args, c => W.ex fun σ S Q => (w o c).e σ S fun x S1 => meOk m x S1 ∧ (w args c).a σ S1 fun ds S2 => meD m x ds S2 Q
  | .isin a ty, c => W.bx fun σ S Q => (w a c).e σ S fun x S1 => match isinD S1 x ty with
      | some k => Q k S1
      | none => False
  | .dnewK, _ => W.ex fun _ S Q => Q (.loc S.length) (S ++ [.dK []])
  | .dnewT, _ => W.ex fun _ S Q => Q (.loc S.length) (S ++ [.dT []])
  | .lcomp own elt tg it ifs, c => W.ex (lcRd own (w it c) (w tg c.nox) (w ifs c.nox) (w elt c.nox))
  | .dcomp own k v tg it, c => W.ex (dcRd own (w it c) (w tg c.nox) (w k c.nox) (w v c.nox))
  | .gcall f own elt tg it ifs rest, c => { W.ex (fun σ S Q => (w it c).i σ S fun src S1 => (w rest c).a σ S1 fun ds S2 =>
      compL src.gd (fun d S acc nx => (w tg c.nox).g d (wipeE σ own) S fun σ1 S2 => (w ifs c.nox).ts σ1 S2 fun b S3 =>
        if b then (w elt c.nox).e σ1 S3 fun y S4 => stepG f acc y S4 nx Q else nx S3 acc)
        (fun S acc => endG f (ds.headD .non) acc S Q) src.items S2 (startG f)) with p := fun _ _ _ => False }
  | .gcall2 f own own2 elt tg it ifs tg2 it2 ifs2, c => W.ex fun σ S Q => (w it c).i σ S fun src S1 =>
      compL src.gd (fun d S acc nx => (w tg c.nox).g d (wipeE σ own) S fun σ1 S2 => (w ifs c.nox).ts σ1 S2 fun b S3 =>
        if b then (w it2 c.nox).i σ1 S3 fun src2 S4 =>
          compL src2.gd (fun d2 S5 acc5 nx2 => (w tg2 c.nox).g d2 (wipeE σ1 own2) S5 fun σ2 S6 => (w ifs2 c.nox).ts σ2 S6 fun b2 S7 =>
            if b2 then (w elt c.nox).e σ2 S7 fun y S8 => stepG f acc5 y S8 nx2 Q else nx2 S7 acc5) nx src2.items S4 acc
        else nx S3 acc)
        (fun S acc => endG f .non acc S Q) src.items S1 (startG f)
  | .irange args, c => { W.no with i := fun σ S Q => (w args c).a σ S fun ds S1 => match ds with
      | [.int n] => small62 n ∧ Q ⟨[], rangeD 0 n⟩ S1
      | [.int lo, .int hi] => small62 lo ∧ small62 hi ∧ Q ⟨[], rangeD lo hi⟩ S1
      | _ => False }
  | .ienum args, c => { W.no with i := fun σ S Q => (w args c).a σ S fun ds S1 => match ds with
      | [x] => match seqS S1 x with
        | some s => Q ⟨s.gd, enumD s.items⟩ S1
        | none => False
      | _ => False }
  | .izip args, c => { W.no with i := fun σ S Q => (w args c).a σ S fun ds S1 => match ds with
      | [.tup _ xs, .tup _ ys] => Q ⟨[], zipD xs ys⟩ S1
      | _ => False }
  -- statements
  | .expr e, c => W.st fun D σ S => (w e c).e σ S fun _ S1 => D.nx σ S1
  | .asg tg e, c => W.st fun D σ S => (w e c).e σ S fun x S1 => (w tg c).g x σ S1 D.nx
  | .asgl i own elt tg it ifs, c => W.st fun D σ S => lcRd own (w it c) (w tg c.nox) (w ifs c.nox) (w elt c.nox) σ S fun x S1 => D.nx (σ.set i (some x)) S1
  | .asgd i own k v tg it, c => W.st fun D σ S => dcRd own (w it c) (w tg c.nox) (w k c.nox) (w v c.nox) σ S fun x S1 => D.nx (σ.set i (some x)) S1
  | .aug op tg e, c => match tg with
      | .var i => W.st fun D σ S => match σ[i]? with
        | some (some x) => (w e c).e σ S fun y S1 => iopD op x y S1 fun z S2 => D.nx (σ.set i (some z)) S2
        | _ => False
      | .sub a i => W.st fun D σ S => (w a c).e σ S fun x S1 => (w i c).e σ S1 fun k S2 => lgetD x k S2 fun old S3 => (w e c).e σ S3 fun y S4 => iopD op old y S4 fun z S5 => setD x k z S5 fun S6 => D.nx σ S6
      | _ => W.no
  | .ifs cd a b, c => W.st fun D σ S => (w cd c).t σ S fun k S1 => if k then (w a c).s D σ S1 else (w b c).s D σ S1
  | .for_ tg it body, c => W.st fun D σ S => (w it c).i σ S fun src S1 =>
      forL src.gd (fun d σ S nx => (w tg c).g d σ S fun σ1 S2 => (w body c).s { D with nx := nx, ct := nx, bk := D.nx } σ1 S2) D.nx src.items σ S1
  | .while_ cd body, c => W.st fun D σ S => ∃ I : Nat → Env → Store → Prop, (∃ m, I m σ S) ∧ ∀ m σ S, I m σ S →
      (w cd c).t σ S fun b S1 => if b then ∃ N : Env → Store → Prop, (∀ σ' S', N σ' S' → ∃ m', m' < m ∧ I m' σ' S') ∧ (w body c).s { D with nx := N, ct := N, bk := D.nx } σ S1 else D.nx σ S1
  | .ret e, c => W.st fun D σ S => (w e c).e σ S D.rt
  | .retn, _ => W.st fun D _ S => D.rt .non S
  | .brk, _ => W.st fun D σ S => D.bk σ S
  | .cont, _ => W.st fun D σ S => D.ct σ S
  | .pass, _ => W.st fun D σ S => D.nx σ S
  | .never, _ => W.no

/-! ### the program -/
structure FnT where
  np : Nat
  names : List Str
  body : T
def startE (f : FnT) (ds : List D) : Env := ds.map some ++ List.replicate (f.names.length - ds.length) none
/-- a call of the f-th def, to a depth -/
def callAt (fns : List FnT) : Nat → CallF
  | 0, _, _, _, _, _ => False
  | n + 1, f, ds, S, Q, X => match fns[f]? with
    | some fn => ds.length = fn.np ∧ (w fn.body ⟨callAt fns n, X⟩).s { nx := fun _ S' => Q .non S', rt := Q } (startE fn ds) S
    | none => False
end Pw
/-! Pw1: the readings are monotone in what is wanted. -/
namespace Pw
open PySem

structure Ends.Le (D D' : Ends) : Prop where
  nx : ∀ σ S, D.nx σ S → D'.nx σ S
  rt : ∀ d S, D.rt d S → D'.rt d S
  bk : ∀ σ S, D.bk σ S → D'.bk σ S
  ct : ∀ σ S, D.ct σ S → D'.ct σ S
structure MW (A : W) : Prop where
  e : ∀ {σ S} {Q Q' : KD}, A.e σ S Q → (∀ d S', Q d S' → Q' d S') → A.e σ S Q'
  t : ∀ {σ S} {Q Q' : Bool → Store → Prop}, A.t σ S Q → (∀ d S', Q d S' → Q' d S') → A.t σ S Q'
  a : ∀ {σ S} {Q Q' : List D → Store → Prop}, A.a σ S Q → (∀ d S', Q d S' → Q' d S') → A.a σ S Q'
  p : ∀ {σ S} {Q Q' : Option Int → Store → Prop}, A.p σ S Q → (∀ d S', Q d S' → Q' d S') → A.p σ S Q'
  g : ∀ {d σ S} {Q Q' : Env → Store → Prop}, A.g d σ S Q → (∀ d S', Q d S' → Q' d S') → A.g d σ S Q'
  gs : ∀ {d σ S} {Q Q' : Env → Store → Prop}, A.gs d σ S Q → (∀ d S', Q d S' → Q' d S') → A.gs d σ S Q'
  i : ∀ {σ S} {Q Q' : Src → Store → Prop}, A.i σ S Q → (∀ d S', Q d S' → Q' d S') → A.i σ S Q'
  ts : ∀ {σ S} {Q Q' : Bool → Store → Prop}, A.ts σ S Q → (∀ d S', Q d S' → Q' d S') → A.ts σ S Q'
  s : ∀ {σ S} {D D' : Ends}, A.s D σ S → Ends.Le D D' → A.s D' σ S
def CMono (c : CallF) : Prop := ∀ f ds S (Q Q' : KD) (X : XX), c f ds S Q X → (∀ d S', Q d S' → Q' d S') → c f ds S Q' X

theorem MW.no : MW W.no := ⟨fun h _ => h.elim, fun h _ => h.elim, fun h _ => h.elim, fun h _ => h.elim, fun h _ => h.elim, fun h _ => h.elim, fun h _ => h.elim, fun h _ => h.elim, fun h _ => h.elim⟩
theorem MW.ex {e : Env → Store → KD → Prop} (h : ∀ {σ S} {Q Q' : KD}, e σ S Q → (∀ d S', Q d S' → Q' d S') → e σ S Q') : MW (W.ex e) :=
  { MW.no with
    e := h
    t := fun q k => h q fun d S' z => by
      cases hb : truD S' d with
      | none => rw [hb] at z; exact z.elim
      | some b => rw [hb] at z; exact k _ _ z
    p := fun q k => h q fun d S' z => by
      cases d with
      | int i => exact k _ _ z
      | _ => exact z.elim
    i := fun q k => h q fun d S' z => by
      cases hb : srcD S' d with
      | none => rw [hb] at z; exact z.elim
      | some b => rw [hb] at z; exact k _ _ z }
theorem MW.bx {t : Env → Store → (Bool → Store → Prop) → Prop} (h : ∀ {σ S} {Q Q' : Bool → Store → Prop}, t σ S Q → (∀ d S', Q d S' → Q' d S') → t σ S Q') : MW (W.bx t) :=
  { MW.ex (e := fun σ S Q => t σ S fun b S' => Q (.bl b) S') (fun q k => h q fun _ _ z => k _ _ z) with
    t := h }
theorem MW.tx {e : Env → Store → KD → Prop} {t : Env → Store → (Bool → Store → Prop) → Prop} (h : ∀ {σ S} {Q Q' : KD}, e σ S Q → (∀ d S', Q d S' → Q' d S') → e σ S Q') (ht : ∀ {σ S} {Q Q' : Bool → Store → Prop}, t σ S Q → (∀ d S', Q d S' → Q' d S') → t σ S Q') : MW (W.tx e t) :=
  { MW.ex (e := e) (fun q k => h q k) with t := fun q k => ht q k }
theorem byTru_mono {S : Store} {d : D} {P Q P' Q' : Prop} (h : byTru S d P Q) (hp : P → P') (hq : Q → Q') : byTru S d P' Q' := by
  unfold byTru at h ⊢
  split at h
  · exact hp h
  · exact hq h
  · exact h
theorem MW.st {s : Ends → Env → Store → Prop} (h : ∀ {σ S} {D D' : Ends}, s D σ S → Ends.Le D D' → s D' σ S) : MW (W.st s) := { MW.no with s := h }

theorem ite_mono {b : Bool} {A B A' B' : Prop} (h : if b then A else B) (ha : A → A') (hb : B → B') : if b then A' else B' := by
  cases b with
  | true => exact ha h
  | false => exact hb h
theorem binD_mono {op x y S} {Q Q' : KD} (h : binD op x y S Q) (k : ∀ d S', Q d S' → Q' d S') : binD op x y S Q' := by
  unfold binD at h ⊢
  repeat' split at h
  all_goals first | exact k _ _ h | exact h.elim | exact ⟨h.1, k _ _ h.2⟩ | exact ⟨h.1, h.2.1, k _ _ h.2.2⟩ | skip
theorem iopD_mono {op x y S} {Q Q' : KD} (h : iopD op x y S Q) (k : ∀ d S', Q d S' → Q' d S') : iopD op x y S Q' := by
  unfold iopD at h ⊢
  repeat' split at h
  all_goals first | exact k _ _ h | exact h.elim
theorem lcPut_mono {n y S} {Q Q' : Store → Prop} (h : lcPut n y S Q) (k : ∀ S', Q S' → Q' S') : lcPut n y S Q' := by
  unfold lcPut at h ⊢
  repeat' split at h
  all_goals first | exact ⟨h.1, k _ h.2⟩ | exact h.elim
theorem dcPut_mono {n x y S} {Q Q' : Store → Prop} (h : dcPut n x y S Q) (k : ∀ S', Q S' → Q' S') : dcPut n x y S Q' := by
  unfold dcPut at h ⊢
  repeat' split at h
  all_goals first | exact ⟨h.1, k _ h.2⟩ | exact h.elim
theorem lgetD_mono {x y S} {Q Q' : KD} (h : lgetD x y S Q) (k : ∀ d S', Q d S' → Q' d S') : lgetD x y S Q' := by
  unfold lgetD at h ⊢
  repeat' split at h
  all_goals first | exact k _ _ h | exact h.elim
theorem subD_mono {x y S} {Q Q' : KD} (h : subD x y S Q) (k : ∀ d S', Q d S' → Q' d S') : subD x y S Q' := by
  unfold subD at h ⊢
  repeat' split at h
  all_goals first | exact k _ _ h | exact h.elim | (refine ⟨h.1, ?_⟩; have h := h.2; split at h <;> first | exact k _ _ h | exact h.elim) | simp_all
theorem setD_mono {x y v S} {Q Q' : Store → Prop} (h : setD x y v S Q) (k : ∀ S', Q S' → Q' S') : setD x y v S Q' := by
  unfold setD at h ⊢
  repeat' split at h
  all_goals first | exact k _ h | exact h.elim | exact ⟨h.1, k _ h.2⟩ | simp_all
theorem sliceD_mono {x l u S} {Q Q' : KD} (h : sliceD x l u S Q) (k : ∀ d S', Q d S' → Q' d S') : sliceD x l u S Q' := by
  unfold sliceD at h ⊢
  repeat' split at h
  all_goals first | exact k _ _ h | exact h.elim | simp_all
theorem revD_mono {x S} {Q Q' : KD} (h : revD x S Q) (k : ∀ d S', Q d S' → Q' d S') : revD x S Q' := by
  unfold revD at h ⊢
  repeat' split at h
  all_goals first | exact k _ _ h | exact h.elim | simp_all
theorem biD_mono {b xs S} {Q Q' : KD} (h : biD b xs S Q) (k : ∀ d S', Q d S' → Q' d S') : biD b xs S Q' := by
  unfold biD at h ⊢
  repeat' split at h
  all_goals first | exact k _ _ h | exact h.elim | exact ⟨h.1, k _ _ h.2⟩ | exact ⟨h.1, h.2.1, k _ _ h.2.2⟩ | exact ⟨h.1, h.2.1, h.2.2.1, k _ _ h.2.2.2⟩ | exact ⟨h.1, fun ys p1 p2 => k _ _ (h.2 ys p1 p2)⟩ | exact ⟨h.1, h.2.1, fun i d e1 e2 => k _ _ (h.2.2 i d e1 e2)⟩ | simp_all
theorem meD_mono {m o xs S} {Q Q' : KD} (h : meD m o xs S Q) (k : ∀ d S', Q d S' → Q' d S') : meD m o xs S Q' := by
  unfold meD at h ⊢
  repeat' split at h
  all_goals first | exact k _ _ h | exact h.elim | exact ⟨h.1, k _ _ h.2⟩ | skip
  all_goals first | (obtain ⟨h1, h2, h3⟩ := h; refine ⟨h1, h2, ?_⟩; split at h3 <;> first | exact k _ _ h3 | exact h3.elim) | simp_all
theorem stepG_mono {f acc y S} {go go' : Store → List D → Prop} {Q Q' : KD} (h : stepG f acc y S go Q) (k : ∀ d S', Q d S' → Q' d S') (kg : ∀ S a, go S a → go' S a) : stepG f acc y S go' Q' := by
  unfold stepG at h ⊢
  repeat' split at h
  all_goals first | exact k _ _ h | exact kg _ _ h | exact h.elim | exact ⟨h.1, kg _ _ h.2⟩ | exact ⟨h.1, h.2.1, kg _ _ h.2.2⟩ | simp_all
theorem endG_mono {f d acc S} {Q Q' : KD} (h : endG f d acc S Q) (k : ∀ d S', Q d S' → Q' d S') : endG f d acc S Q' := by
  unfold endG at h ⊢
  repeat' split at h
  all_goals first | exact k _ _ h | exact h.elim | simp_all
theorem forL_mono {gd : List (Nat × Cell)} {body body' : D → Env → Store → (Env → Store → Prop) → Prop} {fin fin' : Env → Store → Prop}
    (hb : ∀ d σ S nx nx', body d σ S nx → (∀ σ S, nx σ S → nx' σ S) → body' d σ S nx') (hf : ∀ σ S, fin σ S → fin' σ S) : ∀ {ds : List D} {σ : Env} {S : Store}, forL gd body fin ds σ S → forL gd body' fin' ds σ S
  | [], _, _, h => ⟨h.1, hf _ _ h.2⟩
  | _ :: ds, _, _, h => ⟨h.1, hb _ _ _ _ _ h.2 fun _ _ z => forL_mono hb hf (ds := ds) z⟩
theorem compL_mono {α : Type} {gd : List (Nat × Cell)} {body body' : D → Store → α → (Store → α → Prop) → Prop} {fin fin' : Store → α → Prop}
    (hb : ∀ d S acc nx nx', body d S acc nx → (∀ S a, nx S a → nx' S a) → body' d S acc nx') (hf : ∀ S a, fin S a → fin' S a) : ∀ {ds : List D} {S : Store} {acc : α}, compL gd body fin ds S acc → compL gd body' fin' ds S acc
  | [], _, _, h => ⟨h.1, hf _ _ h.2⟩
  | _ :: ds, _, _, h => ⟨h.1, hb _ _ _ _ _ h.2 fun _ _ z => compL_mono hb hf (ds := ds) z⟩

theorem lcRd_mono {own : List Nat} {WS WT WI WE : W} (mS : MW WS) (mT : MW WT) (mI : MW WI) (mE : MW WE) {σ S} {Q Q' : KD} (h : lcRd own WS WT WI WE σ S Q) (k : ∀ d S', Q d S' → Q' d S') : lcRd own WS WT WI WE σ S Q' := mS.i h fun src S z => by
  refine compL_mono (fun d S acc nx nx' h hn => ?_) (fun _ _ h => k _ _ h) z
  exact mT.g h fun σ1 S2 h => mI.ts h fun b S3 h => ite_mono h (fun h => mE.e h fun y S4 h => lcPut_mono h fun _ h => hn _ _ h) (hn _ _)
theorem dcRd_mono {own : List Nat} {WS WT WK WV : W} (mS : MW WS) (mT : MW WT) (mK : MW WK) (mV : MW WV) {σ S} {Q Q' : KD} (h : dcRd own WS WT WK WV σ S Q) (k : ∀ d S', Q d S' → Q' d S') : dcRd own WS WT WK WV σ S Q' := mS.i h fun src S z => by
  refine compL_mono (fun d S acc nx nx' h hn => ?_) (fun _ _ h => k _ _ h) z
  exact mT.g h fun σ1 S2 h => mK.e h fun x S3 h => mV.e h fun y S4 h => dcPut_mono h fun _ h => hn _ _ h
theorem CMono.nox {c : Cxt} (h : CMono c.call) : CMono c.nox.call := h
theorem mw : ∀ (t : T) {c : Cxt} (hc : CMono c.call), MW (w t c)
  | .nil, _, _ => { MW.no with
      a := fun h k => k _ _ h
      p := fun h k => k _ _ h
      gs := fun h k => ⟨h.1, k _ _ h.2⟩
      ts := fun h k => k _ _ h
      s := fun h k => k.nx _ _ h }
  | .cons h t, c, hc => { MW.no with
      a := fun q k => (mw h hc).e q fun _ _ z => (mw t hc).a z fun _ _ z => k _ _ z
      gs := fun {ds σ S Q Q'} q k => by
        cases ds with
        | nil => exact q.elim
        | cons d r => exact (mw h hc).g (Q := fun σ1 S1 => (w t c).gs r σ1 S1 Q) q fun _ _ z => (mw t hc).gs z k
      ts := fun q k => (mw h hc).t q fun b S' z => ite_mono z (fun z => (mw t hc).ts z k) (k _ _)
      s := fun q k => (mw h hc).s q ⟨fun _ _ z => (mw t hc).s z k, k.rt, k.bk, k.ct⟩ }
  | .int i, _, _ => MW.ex fun h k => k _ _ h
  | .str s, _, _ => MW.ex fun h k => k _ _ h
  | .bl b, _, _ => MW.ex fun h k => k _ _ h
  | .non, _, _ => MW.ex fun h k => k _ _ h
  | .var i, _, _ => { MW.ex (e := fun σ S Q => match σ[i]? with
      | some (some d) => Q d S
      | _ => False) (fun {σ S Q Q'} h k => by
        revert h
        split
        · exact k _ _
        · exact id) with
      g := fun h k => k _ _ h }
  | .gint _ i, _, _ => MW.ex fun h k => k _ _ h
  | .gstr _ s, _, _ => MW.ex fun h k => k _ _ h
  | .gtups _ ss, _, _ => MW.ex fun h k => k _ _ h
  | .tup es, c, hc => { MW.ex (e := fun σ S Q => (w es c).a σ S fun ds S1 => ds.length ≤ sizeLine ∧ Q (.tup .key ds) S1) (fun q k => (mw es hc).a q fun _ _ z => ⟨z.1, k _ _ z.2⟩) with
      g := fun {d σ S Q Q'} q k => by
        cases d with
        | tup _ ds => exact ⟨q.1, (mw es hc).gs (Q := Q) q.2 k⟩
        | _ => exact q.elim }
  | .lst es, c, hc => MW.ex fun q k => (mw es hc).a q fun _ _ z => ⟨z.1, k _ _ z.2⟩
  | .bin op a b, c, hc => MW.ex fun q k => (mw a hc).e q fun _ _ z => (mw b hc).e z fun _ _ z => binD_mono z k
  | .neg a, c, hc => MW.ex fun q k => (mw a hc).e q fun x S z => by
      cases x with
      | int i => exact k _ _ z
      | _ => exact z.elim
  | .cmp op a b, c, hc => MW.bx fun q k => (mw a hc).e q fun x S z => (mw b hc).e z fun y S2 z => by
      cases hb : cmpD op S2 x y with
      | none => rw [hb] at z; exact z.elim
      | some b => rw [hb] at z; exact k _ _ z
  | .isn a, c, hc => MW.bx fun q k => (mw a hc).e q fun x S z => k _ _ z
  | .notn a, c, hc => MW.bx fun q k => (mw a hc).e q fun x S z => k _ _ z
  | .chain o1 o2 a b d, c, hc => MW.bx fun q k => (mw a hc).e q fun x S z => (mw b hc).e z fun y S2 z => by
      cases hb : cmpD o1 S2 x y with
      | none => rw [hb] at z; exact z.elim
      | some b =>
        rw [hb] at z
        cases b with
        | false => exact k _ _ z
        | true =>
          refine (mw d hc).e z fun u S3 z => ?_
          cases hb : cmpD o2 S3 y u with
          | none => rw [hb] at z; exact z.elim
          | some b => rw [hb] at z; exact k _ _ z
  | .and_ a r, c, hc => by
      unfold w
      split
      · exact MW.tx (fun q k => (mw a hc).e q k) fun q k => (mw a hc).t q k
      · exact MW.tx (fun q k => (mw a hc).e q fun d S' z => byTru_mono z (fun z => (mw r hc).e z k) (k _ _)) fun q k => (mw a hc).t q fun b S' z => ite_mono z (fun z => (mw r hc).t z k) (k _ _)
  | .or_ a r, c, hc => by
      unfold w
      split
      · exact MW.tx (fun q k => (mw a hc).e q k) fun q k => (mw a hc).t q k
      · exact MW.tx (fun q k => (mw a hc).e q fun d S' z => byTru_mono z (k _ _) (fun z => (mw r hc).e z k)) fun q k => (mw a hc).t q fun b S' z => ite_mono z (k _ _) (fun z => (mw r hc).t z k)
  | .not_ a, c, hc => MW.tx (fun q k => (mw a hc).e q fun d S' z => byTru_mono z (k _ _) (k _ _)) fun q k => (mw a hc).t q fun _ _ z => k _ _ z
  | .ite cd a b, c, hc => MW.ex fun q k => (mw cd hc).t q fun _ _ z => ite_mono z (fun z => (mw a hc).e z k) (fun z => (mw b hc).e z k)
  | .sub a i, c, hc => { MW.ex (e := fun σ S Q => (w a c).e σ S fun x S1 => (w i c).e σ S1 fun y S2 => subD x y S2 Q) (fun q k => (mw a hc).e q fun _ _ z => (mw i hc).e z fun _ _ z => subD_mono z k) with
      g := fun q k => (mw a hc).e q fun _ _ z => (mw i hc).e z fun _ _ z => setD_mono z fun _ z => k _ _ z }
  | .slice a lo hi, c, hc => MW.ex fun q k => (mw a hc).e q fun _ _ z => (mw lo hc).p z fun _ _ z => (mw hi hc).p z fun _ _ z => sliceD_mono z k
  | .rev a, c, hc => MW.ex fun q k => (mw a hc).e q fun _ _ z => revD_mono z k
  | .call f args, c, hc => MW.ex fun q k => (mw args hc).a q fun _ _ z => hc _ _ _ _ _ _ z k
  | .callk f ks vals, c, hc => MW.ex fun q k => (mw vals hc).a q fun _ _ z => hc _ _ _ _ _ _ z k
  | .bcall b args, c, hc => MW.ex fun q k => (mw args hc).a q fun _ _ z => biD_mono z k
  | .bcalli b it, c, hc => MW.ex fun q k => (mw it hc).i q fun src S z => by
      cases b with
      | list => exact ⟨z.1, k _ _ z.2⟩
      | dictPairs =>
        revert z
        dsimp only
        split
        · exact fun z => ⟨z.1, k _ _ z.2⟩
        · exact id
      | _ => exact z.elim
  | .meth m o args, c, hc => MW.ex fun q k => (mw o hc).e q fun _ _ z => ⟨z.1, (mw args hc).a z.2 fun _ _ z => meD_mono z k⟩
  | .isin a ty, c, hc => MW.bx fun q k => (mw a hc).e q fun x S z => by
      cases hb : isinD S x ty with
      | none => rw [hb] at z; exact z.elim
      | some b => rw [hb] at z; exact k _ _ z
  | .dnewK, _, _ => MW.ex fun h k => k _ _ h
  | .dnewT, _, _ => MW.ex fun h k => k _ _ h
  | .lcomp own elt tg it ifs, c, hc => MW.ex fun q k => lcRd_mono (mw it hc) (mw tg hc.nox) (mw ifs hc.nox) (mw elt hc.nox) q k
  | .dcomp own kk v tg it, c, hc => MW.ex fun q k => dcRd_mono (mw it hc) (mw tg hc.nox) (mw kk hc.nox) (mw v hc.nox) q k
  | .gcall f own elt tg it ifs rest, c, hc => { MW.ex (e := fun σ S Q => (w it c).i σ S fun src S1 => (w rest c).a σ S1 fun ds S2 =>
      compL src.gd (fun d S acc nx => (w tg c.nox).g d (wipeE σ own) S fun σ1 S2 => (w ifs c.nox).ts σ1 S2 fun b S3 =>
        if b then (w elt c.nox).e σ1 S3 fun y S4 => stepG f acc y S4 nx Q else nx S3 acc)
        (fun S acc => endG f (ds.headD .non) acc S Q) src.items S2 (startG f)) (fun q k => (mw it hc).i q fun src S z => (mw rest hc).a z fun ds S2 z => by
      refine compL_mono (fun d S acc nx nx' h hn => ?_) (fun _ _ h => endG_mono h k) z
      exact (mw tg hc.nox).g h fun σ1 S2 h => (mw ifs hc.nox).ts h fun b S3 h => ite_mono h (fun h => (mw elt hc.nox).e h fun y S4 h => stepG_mono h k hn) (hn _ _)) with
      p := fun h _ => h.elim }
  | .gcall2 f own own2 elt tg it ifs tg2 it2 ifs2, c, hc => MW.ex fun q k => (mw it hc).i q fun src S z => by
      refine compL_mono (fun d S acc nx nx' h hn => ?_) (fun _ _ h => endG_mono h k) z
      refine (mw tg hc.nox).g h fun σ1 S2 h => (mw ifs hc.nox).ts h fun b S3 h => ite_mono h (fun h => (mw it2 hc.nox).i h fun src2 S4 h => ?_) (hn _ _)
      refine compL_mono (fun d S acc nx nx' h hn => ?_) hn h
      exact (mw tg2 hc.nox).g h fun σ1 S2 h => (mw ifs2 hc.nox).ts h fun b S3 h => ite_mono h (fun h => (mw elt hc.nox).e h fun y S4 h => stepG_mono h k hn) (hn _ _)
  | .irange args, c, hc => { MW.no with
      i := fun q k => (mw args hc).a q fun ds S z => by
        revert z
        split
        · exact fun z => ⟨z.1, k _ _ z.2⟩
        · exact fun z => ⟨z.1, z.2.1, k _ _ z.2.2⟩
        · exact id }
  | .ienum args, c, hc => { MW.no with
      i := fun q k => (mw args hc).a q fun ds S z => by
        revert z
        split
        · split
          · exact k _ _
          · exact id
        · exact id }
  | .izip args, c, hc => { MW.no with
      i := fun q k => (mw args hc).a q fun ds S z => by
        revert z
        split
        · exact k _ _
        · exact id }
  | .expr e, c, hc => MW.st fun q k => (mw e hc).e q fun _ _ z => k.nx _ _ z
  | .asg tg e, c, hc => MW.st fun q k => (mw e hc).e q fun _ _ z => (mw tg hc).g z k.nx
  | .asgl i own elt tg it ifs, c, hc => MW.st fun q k => lcRd_mono (mw it hc) (mw tg hc.nox) (mw ifs hc.nox) (mw elt hc.nox) q fun _ _ z => k.nx _ _ z
  | .asgd i own kk v tg it, c, hc => MW.st fun q k => dcRd_mono (mw it hc) (mw tg hc.nox) (mw kk hc.nox) (mw v hc.nox) q fun _ _ z => k.nx _ _ z
  | .aug op tg e, c, hc => by
      unfold w
      split
      · rename_i i
        refine MW.st fun {σ S D D'} q k => ?_
        revert q

        split
        · exact fun q => (mw e hc).e q fun _ _ z => iopD_mono z fun _ _ z => k.nx _ _ z
        · exact id
      · rename_i a i
        exact MW.st fun q k => (mw a hc).e q fun _ _ z => (mw i hc).e z fun _ _ z => lgetD_mono z fun _ _ z => (mw e hc).e z fun _ _ z => iopD_mono z fun _ _ z => setD_mono z fun _ z => k.nx _ _ z
      · exact MW.no
  | .ifs cd a b, c, hc => MW.st fun q k => (mw cd hc).t q fun _ _ z => ite_mono z (fun z => (mw a hc).s z k) (fun z => (mw b hc).s z k)
  | .for_ tg it body, c, hc => MW.st fun q k => (mw it hc).i q fun src S z => by
      refine forL_mono (fun d σ S nx nx' h hn => ?_) k.nx z
      exact (mw tg hc).g h fun σ1 S1 h => (mw body hc).s h ⟨hn, k.rt, k.nx, hn⟩
  | .while_ cd body, c, hc => MW.st fun q k => by
      obtain ⟨I, h0, turn⟩ := q
      refine ⟨I, h0, fun m σ S hI => (mw cd hc).t (turn m σ S hI) fun b S1 z => ite_mono z (fun z => ?_) (k.nx _ _)⟩
      obtain ⟨N, hN, z⟩ := z
      exact ⟨N, hN, (mw body hc).s z ⟨fun _ _ h => h, k.rt, k.nx, fun _ _ h => h⟩⟩
  | .ret e, c, hc => MW.st fun q k => (mw e hc).e q k.rt
  | .retn, _, _ => MW.st fun q k => k.rt _ _ q
  | .brk, _, _ => MW.st fun q k => k.bk _ _ q
  | .cont, _, _ => MW.st fun q k => k.ct _ _ q
  | .pass, _, _ => MW.st fun q k => k.nx _ _ q
  | .never, _, _ => MW.no
theorem callAt_mono (fns : List FnT) : ∀ n, CMono (callAt fns n)
  | 0 => fun _ _ _ _ _ _ h _ => h.elim
  | n + 1 => fun f ds S Q Q' X h k => by
    have ih := callAt_mono fns n
    unfold callAt at h ⊢
    split
    · rename_i fn e
      rw [e] at h
      exact ⟨h.1, (mw fn.body (c := ⟨callAt fns n, X⟩) ih).s h.2 ⟨fun _ _ z => k _ _ z, k, fun _ _ z => z, fun _ _ z => z⟩⟩
    · rename_i e
      rw [e] at h
      exact h.elim
end Pw
/-! Pw2: what plain values and cells stand for in the hand layer's abstract heap. -/
namespace Pw
open PySem PySem.Spec PyProof.Rows L2

/-! ### what only grows -/
structure Tp (H H' : Hp) : Prop where
  k : ∀ a xs, H a = some (.tup xs) → H' a = some (.tup xs)
  t : ∀ a xs, Rd H a (.tup xs) → Rd H' a (.tup xs)
  z : ∀ a o u, H a = some (.frz o u) → H' a = some (.frz o u)
  x : ∀ a φ, H a = some (.ext φ) → H' a = some (.ext φ)
  b : ∀ a ps, H a = some (.tbl ps) → ∃ more, H' a = some (.tbl (ps ++ more))
theorem Tp.refl (H : Hp) : Tp H H := ⟨fun _ _ h => h, fun _ _ h => h, fun _ _ _ h => h, fun _ _ h => h, fun _ ps h => ⟨#[], by rw [h]; simp⟩⟩
theorem Tp.trans {H H1 H2 : Hp} (a : Tp H H1) (b : Tp H1 H2) : Tp H H2 :=
  ⟨fun c xs h => b.k c xs (a.k c xs h), fun c xs h => b.t c xs (a.t c xs h), fun c o u h => b.z c o u (a.z c o u h), fun c φ h => b.x c φ (a.x c φ h), fun c ps h => by
    obtain ⟨m1, e1⟩ := a.b c ps h
    obtain ⟨m2, e2⟩ := b.b c _ e1
    exact ⟨m1 ++ m2, by rw [e2, Array.append_assoc]⟩⟩
theorem Tp.keep {H H' : Hp} (h : ∀ a o, H a = some o → H' a = some o) : Tp H H' :=
  ⟨fun a xs r => h _ _ r, fun a xs r => r.elim (fun r => .inl (h _ _ r)) (fun ⟨o, r⟩ => .inr ⟨o, h _ _ r⟩), fun a o u e => h _ _ e, fun a φ e => h _ _ e, fun a ps e => ⟨#[], by rw [h _ _ e]; simp⟩⟩
theorem Tp.fresh {H : Hp} {p : Addr} {o : HO} (h : H p = none) : Tp H (upd H p o) := .keep fun a u e => by rw [upd_ne (ne_of_none e h)]; exact e
/-- what is written: a list, a dict -/
def Wr : HO → Prop
  | .lst _ => True
  | .dK _ => True
  | .dT _ => True
  | _ => False
theorem Tp.write {H : Hp} {p : Addr} {o u : HO} (h : H p = some u) (w : Wr u) : Tp H (upd H p o) := by
  have ne : ∀ a v, H a = some v → ¬ Wr v → a ≠ p := fun a v e n z => by
    subst z
    rw [h] at e
    exact n (Option.some.inj e ▸ w)
  refine ⟨fun a xs r => ?_, fun a xs r => ?_, fun a o' u' e => ?_, fun a φ e => ?_, fun a ps e => ⟨#[], ?_⟩⟩
  · rw [upd_ne (ne _ _ r fun z => z)]; exact r
  · rcases r with r | ⟨o', r⟩
    · exact .inl (by rw [upd_ne (ne _ _ r fun z => z)]; exact r)
    · exact .inr ⟨o', by rw [upd_ne (ne _ _ r fun z => z)]; exact r⟩
  · rw [upd_ne (ne _ _ e fun z => z)]; exact e
  · rw [upd_ne (ne _ _ e fun z => z)]; exact e
  · rw [upd_ne (ne _ _ e fun z => z), e]; simp
theorem Tp.sqt {K : PySem.W.Frag} {H H' : Hp} {a : Addr} {xs : List V} (h : Tp H H') (q : SqT K H a xs) : SqT K H' a xs := q.elim (fun q => .inl (h.t _ _ q)) .inr

/-! ### values -/
/-- what the kind of a tuple says -/
def TupK (K : PySem.W.Frag) (H : Hp) (a : Addr) (xs : List V) : TK → Prop
  | .key => H a = some (.tup xs)
  | .kn => ∃ o, H a = some (.frz o (.tup xs)) ∧ o.dict = none
  | .any => SqT K H a xs
theorem TupK.sqt {K : PySem.W.Frag} {H : Hp} {a : Addr} {xs : List V} : ∀ {k : TK}, TupK K H a xs k → SqT K H a xs
  | .key, h => .of h
  | .kn, ⟨o, h, _⟩ => .inl (.inr ⟨o, h⟩)
  | .any, h => h
theorem TupK.mono {K : PySem.W.Frag} {H H' : Hp} {a : Addr} {xs : List V} (t : Tp H H') : ∀ {k : TK}, TupK K H a xs k → TupK K H' a xs k
  | .key, h => t.k _ _ h
  | .kn, ⟨o, h, d⟩ => ⟨o, t.z _ _ _ h, d⟩
  | .any, h => t.sqt h
section
variable (K : PySem.W.Frag)
mutual
inductive RepV (H : Hp) (φ : Nat → Addr) (N : Nat) : D → V → Prop
  | non : RepV H φ N .non .non
  | bl (b : Bool) : RepV H φ N (.bl b) (.bl b)
  | int (i : Int) : RepV H φ N (.int i) (.int i)
  | str (s : Str) : RepV H φ N (.str s) (.str s)
  | tup {a : Addr} {xs : List V} {ds : List D} {k : TK} : TupK K H a xs k → RepL H φ N ds xs → RepV H φ N (.tup k ds) (.ref a)
  | loc (n : Nat) : n < N → RepV H φ N (.loc n) (.ref (φ n))
inductive RepL (H : Hp) (φ : Nat → Addr) (N : Nat) : List D → List V → Prop
  | nil : RepL H φ N [] []
  | cons {d : D} {v : V} {ds : List D} {vs : List V} : RepV H φ N d v → RepL H φ N ds vs → RepL H φ N (d :: ds) (v :: vs)
end
end
/-- later: more cells, the same places, tuples and tables stay -/
structure Le (H : Hp) (φ : Nat → Addr) (N : Nat) (H' : Hp) (φ' : Nat → Addr) (N' : Nat) : Prop where
  n : N ≤ N'
  p : ∀ i, i < N → φ' i = φ i
  t : Tp H H'
theorem Le.refl (H : Hp) (φ : Nat → Addr) (N : Nat) : Le H φ N H φ N := ⟨Nat.le_refl _, fun _ _ => rfl, .refl _⟩
theorem Le.trans {H H1 H2 : Hp} {φ φ1 φ2 : Nat → Addr} {N N1 N2 : Nat} (a : Le H φ N H1 φ1 N1) (b : Le H1 φ1 N1 H2 φ2 N2) : Le H φ N H2 φ2 N2 :=
  ⟨Nat.le_trans a.n b.n, fun i hi => (b.p i (Nat.lt_of_lt_of_le hi a.n)).trans (a.p i hi), a.t.trans b.t⟩
section
variable {K : PySem.W.Frag} {H H' : Hp} {φ φ' : Nat → Addr} {N N' : Nat}
mutual
theorem RepV.mono (l : Le H φ N H' φ' N') : ∀ {d : D} {v : V}, RepV K H φ N d v → RepV K H' φ' N' d v
  | _, _, .non => .non
  | _, _, .bl b => .bl b
  | _, _, .int i => .int i
  | _, _, .str s => .str s
  | _, _, .tup q r => .tup (q.mono l.t) (RepL.mono l r)
  | _, _, .loc n h => by rw [← l.p n h]; exact .loc n (Nat.lt_of_lt_of_le h l.n)
theorem RepL.mono (l : Le H φ N H' φ' N') : ∀ {ds : List D} {vs : List V}, RepL K H φ N ds vs → RepL K H' φ' N' ds vs
  | _, _, .nil => .nil
  | _, _, .cons r t => .cons (RepV.mono l r) (RepL.mono l t)
end
theorem RepL.length : ∀ {ds : List D} {vs : List V}, RepL K H φ N ds vs → ds.length = vs.length
  | _, _, .nil => rfl
  | _, _, .cons _ t => congrArg (· + 1) (RepL.length t)
theorem RepL.get : ∀ {ds : List D} {vs : List V} {i : Nat} {d : D}, RepL K H φ N ds vs → ds[i]? = some d → ∃ v, vs[i]? = some v ∧ RepV K H φ N d v
  | _, _, _, _, .nil, e => by simp at e
  | _, _, 0, _, .cons r _, e => by simp at e; subst e; exact ⟨_, rfl, r⟩
  | _, _, i + 1, d, .cons _ t, e => by
    obtain ⟨v, h1, h2⟩ := RepL.get (i := i) (d := d) t (by simpa using e)
    exact ⟨v, by simpa using h1, h2⟩
theorem RepL.get' : ∀ {ds : List D} {vs : List V} {i : Nat} {v : V}, RepL K H φ N ds vs → vs[i]? = some v → ∃ d, ds[i]? = some d ∧ RepV K H φ N d v
  | _, _, _, _, .nil, e => by simp at e
  | _, _, 0, _, .cons r _, e => by simp at e; subst e; exact ⟨_, rfl, r⟩
  | _, _, i + 1, d, .cons _ t, e => by
    obtain ⟨v, h1, h2⟩ := RepL.get' (i := i) (v := d) t (by simpa using e)
    exact ⟨v, by simpa using h1, h2⟩
theorem RepL.append : ∀ {ds es : List D} {vs ws : List V}, RepL K H φ N ds vs → RepL K H φ N es ws → RepL K H φ N (ds ++ es) (vs ++ ws)
  | _, _, _, _, .nil, s => s
  | _, _, _, _, .cons r t, s => .cons r (RepL.append t s)
theorem RepL.snoc {ds : List D} {vs : List V} {d : D} {v : V} (r : RepL K H φ N ds vs) (h : RepV K H φ N d v) : RepL K H φ N (ds ++ [d]) (vs ++ [v]) := r.append (.cons h .nil)
theorem RepL.take : ∀ {ds : List D} {vs : List V} (n : Nat), RepL K H φ N ds vs → RepL K H φ N (ds.take n) (vs.take n)
  | _, _, 0, _ => by simp; exact .nil
  | _, _, _ + 1, .nil => .nil
  | _, _, n + 1, .cons r t => .cons r (RepL.take n t)
theorem RepL.drop : ∀ {ds : List D} {vs : List V} (n : Nat), RepL K H φ N ds vs → RepL K H φ N (ds.drop n) (vs.drop n)
  | _, _, 0, r => r
  | _, _, _ + 1, .nil => .nil
  | _, _, n + 1, .cons _ t => RepL.drop n t
theorem RepL.set {d : D} {v : V} (h : RepV K H φ N d v) : ∀ {ds : List D} {vs : List V} (i : Nat), RepL K H φ N ds vs → RepL K H φ N (ds.set i d) (vs.set i v)
  | _, _, _, .nil => .nil
  | _, _, 0, .cons _ t => .cons h t
  | _, _, i + 1, .cons r t => .cons r (RepL.set h i t)
theorem RepL.eraseIdx : ∀ {ds : List D} {vs : List V} (i : Nat), RepL K H φ N ds vs → RepL K H φ N (ds.eraseIdx i) (vs.eraseIdx i)
  | _, _, _, .nil => .nil
  | _, _, 0, .cons _ t => t
  | _, _, i + 1, .cons r t => .cons r (RepL.eraseIdx i t)
theorem RepL.reverse {ds : List D} {vs : List V} (h : RepL K H φ N ds vs) : RepL K H φ N ds.reverse vs.reverse := by
  induction ds generalizing vs with
  | nil => cases h; exact .nil
  | cons d ds ih =>
    cases h with
    | cons r t => rw [List.reverse_cons, List.reverse_cons]; exact (ih t).snoc r
theorem RepL.rep {ds : List D} {vs : List V} (h : RepL K H φ N ds vs) : ∀ k : Nat, RepL K H φ N (List.replicate k ds).flatten (List.replicate k vs).flatten
  | 0 => .nil
  | k + 1 => by
    simp only [List.replicate_succ, List.flatten_cons]
    exact h.append (RepL.rep h k)
theorem RepL.cut {ds : List D} {vs : List V} (h : RepL K H φ N ds vs) (lo hi : Option Int) : RepL K H φ N (cutD ds lo hi) (cutV vs lo hi) := by
  unfold cutD cutV
  rw [h.length]
  exact (h.drop _).take _
theorem RepL.atI {ds : List D} {vs : List V} (h : RepL K H φ N ds vs) {i : Int} {d : D} (e : L2.atI ds i = some d) : ∃ v, L2.atI vs i = some v ∧ RepV K H φ N d v := by
  unfold L2.atI at e ⊢
  rw [h.length] at e
  cases q : ixN vs.length i with
  | none => rw [q] at e; cases e
  | some j =>
    rw [q] at e
    exact h.get (show ds[j]? = some d from e)
theorem RepL.ints : ∀ {ds : List D} {vs : List V} {is : List Int}, RepL K H φ N ds vs → intsD ds = some is → vs = is.map V.int
  | _, _, is, .nil, e => by simp [intsD] at e; subst e; rfl
  | _, _, is, .cons (d := d) r t, e => by
    cases r with
    | int i =>
      simp only [intsD, Option.map_eq_some_iff] at e
      obtain ⟨js, e1, rfl⟩ := e
      rw [RepL.ints t e1]; rfl
    | _ => simp [intsD] at e
theorem RepL.strs : ∀ {ds : List D} {vs : List V} {is : List Str}, RepL K H φ N ds vs → strsD ds = some is → vs = is.map V.str
  | _, _, is, .nil, e => by simp [strsD] at e; subst e; rfl
  | _, _, is, .cons (d := d) r t, e => by
    cases r with
    | str i =>
      simp only [strsD, Option.map_eq_some_iff] at e
      obtain ⟨js, e1, rfl⟩ := e
      rw [RepL.strs t e1]; rfl
    | _ => simp [strsD] at e
theorem RepL.bls : ∀ {ds : List D} {vs : List V} {is : List Bool}, RepL K H φ N ds vs → bools ds = some is → vs = is.map V.bl
  | _, _, is, .nil, e => by simp [bools] at e; subst e; rfl
  | _, _, is, .cons (d := d) r t, e => by
    cases r with
    | bl i =>
      simp only [bools, Option.map_eq_some_iff] at e
      obtain ⟨js, e1, rfl⟩ := e
      rw [RepL.bls t e1]; rfl
    | _ => simp [bools] at e
theorem RepL.of_strs : ∀ (ss : List Str), RepL K H φ N (ss.map D.str) (ss.map V.str)
  | [] => .nil
  | s :: r => .cons (.str s) (RepL.of_strs r)
theorem RepL.of_ints : ∀ (ss : List Int), RepL K H φ N (ss.map D.int) (ss.map V.int)
  | [] => .nil
  | s :: r => .cons (.int s) (RepL.of_ints r)
end

/-! ### cells -/
/-- a code object and its table -/
def CodeX (c P : Addr) : HO := .ext fun h => PySem.W.CodeHd h c P
/-- every table that is tracked holds code objects that are told, with tables that are tracked -/
def AllTabs (H : Hp) : Prop := ∀ P ps, H P = some (.tbl ps) → TriplesOk ps.toList ∧ ∀ pos cv, codeAmong pos ps.toList = some cv → ∃ c' P', cv = .ref c' ∧ H c' = some (CodeX c' P') ∧ ∃ ps', H P' = some (.tbl ps')
section
variable (K : PySem.W.Frag) (H : Hp) (φ : Nat → Addr) (N : Nat)
abbrev PairsR {κ : Type} (kvs : List (κ × D)) (k : List (κ × V)) : Prop := Paired (fun (p : κ × D) (q : κ × V) => p.1 = q.1 ∧ RepV K H φ N p.2 q.2) kvs k
def CellOk (a : Addr) : Cell → Prop
  | .lst ds => ∃ xs, H a = some (.lst xs) ∧ RepL K H φ N ds xs
  | .rol ds => ∃ xs, ((∃ o, H a = some (.frz o (.lst xs))) ∨ ∃ (o : Obj) (its : Array Value) (n : Nat), K.lookup a = some o ∧ o.cls = .type "list" ∧ o.dict = none ∧ o.data = .seq its n ∧ its.size ≤ sizeLine ∧ Vals xs its.toList) ∧ RepL K H φ N ds xs
  | .dK kvs => ∃ k, H a = some (.dK k) ∧ PairsR K H φ N kvs k
  | .dT kvs => ∃ k, H a = some (.dT k) ∧ PairsR K H φ N kvs k
end
def Cell.mut : Cell → Prop
  | .rol _ => False
  | _ => True
structure Wd (K : PySem.W.Frag) (H : Hp) (φ : Nat → Addr) (S : Store) : Prop where
  cell : ∀ n c, S[n]? = some c → CellOk K H φ S.length (φ n) c
  inj : ∀ m n c d, S[m]? = some c → S[n]? = some d → c.mut → d.mut → φ m = φ n → m = n
  tabs : AllTabs H
theorem pairsR_mono {κ : Type} {K : PySem.W.Frag} {H H' : Hp} {φ φ' : Nat → Addr} {N N' : Nat} (l : Le H φ N H' φ' N') {kvs : List (κ × D)} {k : List (κ × V)} (h : PairsR K H φ N kvs k) : PairsR K H' φ' N' kvs k :=
  Paired.mapP h fun _ _ z => ⟨z.1, z.2.mono l⟩
section
variable {K : PySem.W.Frag} {H H' : Hp} {φ φ' : Nat → Addr} {S : Store}
/-- a cell's description elsewhere: its own object kept -/
theorem CellOk.mono {N N' : Nat} {a : Addr} {c : Cell} (l : Le H φ N H' φ' N') (k : c.mut → ∀ u, H a = some u → Wr u → H' a = some u) (h : CellOk K H φ N a c) : CellOk K H' φ' N' a c := by
  cases c with
  | lst ds => obtain ⟨xs, e, r⟩ := h; exact ⟨xs, k trivial _ e trivial, r.mono l⟩
  | rol ds => obtain ⟨xs, e, r⟩ := h; exact ⟨xs, e.imp (fun ⟨o, e⟩ => ⟨o, l.t.z _ _ _ e⟩) id, r.mono l⟩
  | dK kvs => obtain ⟨xs, e, r⟩ := h; exact ⟨xs, k trivial _ e trivial, pairsR_mono l r⟩
  | dT kvs => obtain ⟨xs, e, r⟩ := h; exact ⟨xs, k trivial _ e trivial, pairsR_mono l r⟩
theorem CellOk.wr {N : Nat} {a : Addr} {c : Cell} (h : CellOk K H φ N a c) (m : c.mut) : ∃ u, H a = some u ∧ Wr u := by
  cases c with
  | lst ds => obtain ⟨xs, e, r⟩ := h; exact ⟨_, e, trivial⟩
  | rol ds => exact m.elim
  | dK kvs => obtain ⟨xs, e, r⟩ := h; exact ⟨_, e, trivial⟩
  | dT kvs => obtain ⟨xs, e, r⟩ := h; exact ⟨_, e, trivial⟩
/-- a new object that is no table -/
theorem AllTabs.fresh {p : Addr} {o : HO} (h : AllTabs H) (hp : H p = none) (ho : ∀ ps, o ≠ .tbl ps) : AllTabs (upd H p o) := fun P ps e => by
  have k : ∀ b u, H b = some u → upd H p o b = some u := fun b u q => by rw [upd_ne (ne_of_none q hp)]; exact q
  have e' : H P = some (.tbl ps) := by
    by_cases z : P = p
    · subst z; rw [upd_same] at e; exact absurd (Option.some.inj e) (ho ps)
    · rw [upd_ne z] at e; exact e
  obtain ⟨h1, h2⟩ := h P ps e'
  refine ⟨h1, fun pos cv hc => ?_⟩
  obtain ⟨c', P', a, b, ps', d⟩ := h2 pos cv hc
  exact ⟨c', P', a, k _ _ b, ps', k _ _ d⟩
theorem AllTabs.write {p : Addr} {o u : HO} (h : AllTabs H) (hp : H p = some u) (w : Wr u) (ho : ∀ ps, o ≠ .tbl ps) : AllTabs (upd H p o) := fun P ps e => by
  have k : ∀ b v, H b = some v → ¬ Wr v → upd H p o b = some v := fun b v q n => by
    rw [upd_ne fun z => n (by subst z; rw [hp] at q; exact Option.some.inj q ▸ w)]; exact q
  have e' : H P = some (.tbl ps) := by
    by_cases z : P = p
    · subst z; rw [upd_same] at e; exact absurd (Option.some.inj e) (ho ps)
    · rw [upd_ne z] at e; exact e
  obtain ⟨h1, h2⟩ := h P ps e'
  refine ⟨h1, fun pos cv hc => ?_⟩
  obtain ⟨c', P', a, b, ps', d⟩ := h2 pos cv hc
  exact ⟨c', P', a, k _ _ b fun z => z, ps', k _ _ d fun z => z⟩
/-- a new thing that no cell is: a tuple, a list under way -/
theorem Wd.fresh {p : Addr} {o : HO} (w : Wd K H φ S) (hp : H p = none) (ho : ∀ ps, o ≠ .tbl ps) : Wd K (upd H p o) φ S where
  cell := fun n c e => (w.cell n c e).mono ⟨Nat.le_refl _, fun _ _ => rfl, Tp.fresh hp⟩ fun _ u h _ => by rw [upd_ne (ne_of_none h hp)]; exact h
  inj := w.inj
  tabs := w.tabs.fresh hp ho
/-- one more cell, at p -/
def extA (φ : Nat → Addr) (n : Nat) (p : Addr) : Nat → Addr := fun i => if i = n then p else φ i
theorem extA_same {n : Nat} {p : Addr} : extA φ n p n = p := if_pos rfl
theorem extA_lt {n i : Nat} {p : Addr} (h : i < n) : extA φ n p i = φ i := if_neg (Nat.ne_of_lt h)
theorem Wd.add {p : Addr} {c : Cell} {u : HO} (w : Wd K H φ S) (hH : H p = some u) (hne : ∀ n d, S[n]? = some d → d.mut → φ n ≠ p) (hc : CellOk K H (extA φ S.length p) (S.length + 1) p c) : Wd K H (extA φ S.length p) (S ++ [c]) := by
  have l : Le H φ S.length H (extA φ S.length p) (S ++ [c]).length := ⟨by simp, fun i hi => extA_lt hi, .refl _⟩
  have ix : ∀ n d, (S ++ [c])[n]? = some d → (n < S.length ∧ S[n]? = some d) ∨ (n = S.length ∧ d = c) := fun n d e => by
    by_cases h : n < S.length
    · rw [List.getElem?_append_left h] at e; exact .inl ⟨h, e⟩
    · have h' : n = S.length := by
        have := (List.getElem?_eq_some_iff.mp e).1
        simp at this; omega
      subst h'
      simp at e
      exact .inr ⟨rfl, e.symm⟩
  refine ⟨fun n d e => ?_, fun m n d f e1 e2 m1 m2 h => ?_, w.tabs⟩
  · rcases ix n d e with ⟨h, e⟩ | ⟨e1, e2⟩
    · rw [extA_lt h]; exact (w.cell n d e).mono l fun _ _ h _ => h
    · rw [e1, e2, extA_same]; simpa using hc
  · rcases ix m d e1 with ⟨h1, q1⟩ | ⟨h1, q1⟩ <;> rcases ix n f e2 with ⟨h2, q2⟩ | ⟨h2, q2⟩
    · rw [extA_lt h1, extA_lt h2] at h; exact w.inj m n d f q1 q2 m1 m2 h
    · rw [extA_lt h1, h2, extA_same] at h; exact absurd h (hne _ _ q1 m1)
    · rw [extA_lt h2, h1, extA_same] at h; exact absurd h.symm (hne _ _ q2 m2)
    · rw [h1, h2]
theorem Wd.ne_fresh {p : Addr} (w : Wd K H φ S) (hp : H p = none) : ∀ n d, S[n]? = some d → d.mut → φ n ≠ p := fun n d e m z => by
  obtain ⟨u, h, _⟩ := (w.cell n d e).wr m
  rw [z, hp] at h; cases h
/-- a new cell at a new place -/
theorem Wd.alloc {p : Addr} {c : Cell} {o : HO} (w : Wd K H φ S) (hp : H p = none) (ho : ∀ ps, o ≠ .tbl ps) (hc : CellOk K (upd H p o) (extA φ S.length p) (S.length + 1) p c) : Wd K (upd H p o) (extA φ S.length p) (S ++ [c]) :=
  (w.fresh hp ho).add upd_same (w.ne_fresh hp) hc
theorem Le.alloc {p : Addr} {o : HO} {n : Nat} (hp : H p = none) : Le H φ n (upd H p o) (extA φ n p) (n + 1) := ⟨Nat.le_succ _, fun i hi => extA_lt hi, .fresh hp⟩
theorem Le.fresh {p : Addr} {o : HO} {n : Nat} (hp : H p = none) : Le H φ n (upd H p o) φ n := ⟨Nat.le_refl _, fun i hi => rfl, .fresh hp⟩
/-- a cell is written -/
theorem Wd.write {n : Nat} {c c' : Cell} {u o : HO} (w : Wd K H φ S) (e : S[n]? = some c) (m : c.mut) (hu : H (φ n) = some u) (wu : Wr u) (ho : ∀ ps, o ≠ .tbl ps) (hm : c'.mut) (hc : CellOk K (upd H (φ n) o) φ S.length (φ n) c') : Wd K (upd H (φ n) o) φ (S.set n c') := by
  have hn : n < S.length := (List.getElem?_eq_some_iff.mp e).1
  have l : Le H φ S.length (upd H (φ n) o) φ (S.set n c').length := ⟨by simp, fun _ _ => rfl, .write hu wu⟩
  have ix : ∀ i d, (S.set n c')[i]? = some d → (i = n ∧ d = c') ∨ (i ≠ n ∧ S[i]? = some d) := fun i d q => by
    by_cases h : i = n
    · subst h
      rw [List.getElem?_set_self hn] at q
      exact .inl ⟨rfl, (Option.some.inj q).symm⟩
    · rw [List.getElem?_set_ne (Ne.symm h)] at q; exact .inr ⟨h, q⟩
  refine ⟨fun i d q => ?_, fun i j d f q1 q2 m1 m2 h => ?_, w.tabs.write hu wu ho⟩
  · rcases ix i d q with ⟨rfl, rfl⟩ | ⟨h, q⟩
    · simpa using hc
    · refine (w.cell i d q).mono l fun dm v hv wv => ?_
      rw [upd_ne fun z => h (w.inj i n d c q e dm m z)]
      exact hv
  · have mi : ∀ (i : Nat) (d : Cell), (S.set n c')[i]? = some d → d.mut → ∃ f : Cell, S[i]? = some f ∧ f.mut := fun i d q m' => by
      rcases ix i d q with ⟨rfl, rfl⟩ | ⟨h, q⟩
      · exact ⟨c, e, m⟩
      · exact ⟨d, q, m'⟩
    obtain ⟨d', q1', m1'⟩ := mi i d q1 m1
    obtain ⟨f', q2', m2'⟩ := mi j f q2 m2
    exact w.inj i j d' f' q1' q2' m1' m2' h
end
end Pw
/-! Pw3: the plain readings as readings of the hand layer. -/
namespace Pw
open PySem PySem.Spec PyProof.Rows L2

structure RepE (K : PySem.W.Frag) (H : Hp) (φ : Nat → Addr) (N : Nat) (env : Env) (σ : L2.St) : Prop where
  len : env.length = σ.length
  at_ : ∀ (i : Nat) (d : D), env[i]? = some (some d) → ∃ v : V, σ[i]? = some (some v) ∧ RepV K H φ N d v
theorem RepE.mono {K : PySem.W.Frag} {H H' : Hp} {φ φ' : Nat → Addr} {N N' : Nat} {env : Env} {σ : L2.St} (l : Le H φ N H' φ' N') (r : RepE K H φ N env σ) : RepE K H' φ' N' env σ :=
  ⟨r.len, fun i d e => let ⟨v, h1, h2⟩ := r.at_ i d e; ⟨v, h1, h2.mono l⟩⟩
theorem RepE.set {K : PySem.W.Frag} {H : Hp} {φ : Nat → Addr} {N : Nat} {env : Env} {σ : L2.St} {i : Nat} {d : D} {v : V} (r : RepE K H φ N env σ) (h : RepV K H φ N d v) : RepE K H φ N (env.set i (some d)) (σ.set i (some v)) := by
  refine ⟨by simp [r.len], fun j e q => ?_⟩
  by_cases z : i = j
  · subst z
    have hl : i < env.length := by
      have := (List.getElem?_eq_some_iff.mp q).1
      simpa using this
    rw [List.getElem?_set_self hl] at q
    cases q
    exact ⟨v, by rw [List.getElem?_set_self (by rw [← r.len]; exact hl)], h⟩
  · rw [List.getElem?_set_ne z] at q
    obtain ⟨u, h1, h2⟩ := r.at_ j e q
    exact ⟨u, by rw [List.getElem?_set_ne z]; exact h1, h2⟩
theorem RepE.wipe {K : PySem.W.Frag} {H : Hp} {φ : Nat → Addr} {N : Nat} {env : Env} {σ : L2.St} (r : RepE K H φ N env σ) : ∀ vs : List Nat, RepE K H φ N (wipeE env vs) (L2.wipe σ vs)
  | [] => r
  | i :: vs => by
    have ih := RepE.wipe r vs
    unfold wipeE L2.wipe
    refine ⟨by simp [ih.len], fun j e q => ?_⟩
    by_cases z : i = j
    · subst z
      by_cases hl : i < (wipeE env vs).length
      · rw [List.getElem?_set_self hl] at q; cases q
      · rw [List.getElem?_eq_none (by simpa using hl)] at q; cases q
    · rw [List.getElem?_set_ne z] at q
      obtain ⟨u, h1, h2⟩ := ih.at_ j e q
      exact ⟨u, by rw [List.getElem?_set_ne z]; exact h1, h2⟩
/-- the code object of what runs, and its table -/
def CodeAt (CS : List Addr) (X : Cx) (H : Hp) : Prop := (∀ P ∈ CS, ∃ ps, H P = some (.tbl ps)) ∧ ∃ c P, X.env.code = .ref c ∧ (PySem.W.CodeHd X.base c P ∨ H c = some (CodeX c P)) ∧ (∃ ps, H P = some (.tbl ps)) ∧ X.base.BuiltinsAt X.mg P ∧ mainGlobals ≠ P
theorem CodeAt.mono {CS : List Addr} {X : Cx} {H H' : Hp} (t : Tp H H') (h : CodeAt CS X H) : CodeAt CS X H' := by
  obtain ⟨g, c, P, a, b, ⟨ps, d⟩, e⟩ := h
  obtain ⟨more, d'⟩ := t.b _ _ d
  exact ⟨fun P hP => let ⟨ps, q⟩ := g P hP; let ⟨more, q'⟩ := t.b _ _ q; ⟨_, q'⟩, c, P, a, b.imp id fun b => t.x _ _ b, ⟨_, d'⟩, e⟩
structure At (CS : List Addr) (X : Cx) (env : Env) (S : Store) (φ : Nat → Addr) (σ : L2.St) (H : Hp) : Prop where
  e : RepE X.K H φ S.length env σ
  w : Wd X.K H φ S
  c : CodeAt CS X H
theorem At.mono {CS : List Addr} {X : Cx} {env : Env} {S S' : Store} {φ φ' : Nat → Addr} {σ : L2.St} {H H' : Hp} (a : At CS X env S φ σ H) (l : Le H φ S.length H' φ' S'.length) (w : Wd X.K H' φ' S') : At CS X env S' φ' σ H' := ⟨a.e.mono l, w, a.c.mono l.t⟩

/-! ### what is wanted, lifted -/
section
variable (K : PySem.W.Frag) (H : Hp) (φ : Nat → Addr) (N : Nat)
def KQ (Q : VK) : KD := fun d S' => ∀ φ' v H', Le H φ N H' φ' S'.length → Wd K H' φ' S' → RepV K H' φ' S'.length d v → Q v H'
def KB {α : Type} (Q : α → Hp → Prop) : α → Store → Prop := fun b S' => ∀ φ' H', Le H φ N H' φ' S'.length → Wd K H' φ' S' → Q b H'
def KA (Q : List V → Hp → Prop) : List D → Store → Prop := fun ds S' => ∀ φ' vs H', Le H φ N H' φ' S'.length → Wd K H' φ' S' → RepL K H' φ' S'.length ds vs → Q vs H'
def KS (Q : Hp → Prop) : Store → Prop := fun S' => ∀ φ' H', Le H φ N H' φ' S'.length → Wd K H' φ' S' → Q H'
end
def KN (CS : List Addr) (X : Cx) (H : Hp) (φ : Nat → Addr) (N : Nat) (Q : L2.St → Hp → Prop) : Env → Store → Prop := fun env' S' => ∀ φ' σ' H', Le H φ N H' φ' S'.length → At CS X env' S' φ' σ' H' → Q σ' H'
def KE (CS : List Addr) (X : Cx) (H : Hp) (φ : Nat → Addr) (N : Nat) (D : L2.Ends) : Pw.Ends := ⟨KN CS X H φ N D.nx, KQ X.K H φ N D.rt, KN CS X H φ N D.bk, KN CS X H φ N D.ct⟩
/-- an iterator's turns are the items, while the cells stand -/
structure Walks (K : PySem.W.Frag) (H0 : Hp) (φ0 : Nat → Addr) (N0 : Nat) (J : It) (src : Src) : Prop where
  go : ∀ i φ S H, i < src.items.length → Le H0 φ0 N0 H φ S.length → Wd K H φ S → gdOk src.gd S → J.go i H
  yld : ∀ i φ S H x H', i < src.items.length → Le H0 φ0 N0 H φ S.length → Wd K H φ S → gdOk src.gd S → J.yld i H x H' → ∃ d, src.items[i]? = some d ∧ Le H φ S.length H' φ S.length ∧ Wd K H' φ S ∧ RepV K H' φ S.length d x
  stop : ∀ φ S H, Le H0 φ0 N0 H φ S.length → Wd K H φ S → gdOk src.gd S → J.stop src.items.length H

def tE (CS : List Addr) (X : Cx) (e : Env → Store → KD → Prop) : TE := fun σ H Q => ∃ env S φ, At CS X env S φ σ H ∧ e env S (KQ X.K H φ S.length Q)
def tT (CS : List Addr) (X : Cx) (t : Env → Store → (Bool → Store → Prop) → Prop) : TT := fun σ H Q => ∃ env S φ, At CS X env S φ σ H ∧ t env S (KB X.K H φ S.length Q)
def tP (CS : List Addr) (X : Cx) (t : Env → Store → (Option Int → Store → Prop) → Prop) : TO := fun σ H Q => ∃ env S φ, At CS X env S φ σ H ∧ t env S (KB X.K H φ S.length Q)
def tA (CS : List Addr) (X : Cx) (a : Env → Store → (List D → Store → Prop) → Prop) : TA := fun σ H Q => ∃ env S φ, At CS X env S φ σ H ∧ a env S (KA X.K H φ S.length Q)
def tG (CS : List Addr) (X : Cx) (g : D → Env → Store → (Env → Store → Prop) → Prop) : TG := fun v σ H Q => ∃ env S φ d, At CS X env S φ σ H ∧ RepV X.K H φ S.length d v ∧ g d env S (KN CS X H φ S.length Q)
def tGs (CS : List Addr) (X : Cx) (g : List D → Env → Store → (Env → Store → Prop) → Prop) : TGs := fun vs σ H Q => ∃ env S φ ds, At CS X env S φ σ H ∧ RepL X.K H φ S.length ds vs ∧ g ds env S (KN CS X H φ S.length Q)
def tI (CS : List Addr) (X : Cx) (i : Env → Store → (Src → Store → Prop) → Prop) : TI := fun σ H R => ∃ env S φ, At CS X env S φ σ H ∧ i env S fun src S1 => ∀ φ1 H1 J, Le H φ S.length H1 φ1 S1.length → At CS X env S1 φ1 σ H1 → Walks X.K H1 φ1 S1.length J src → R J H1
def tS (CS : List Addr) (X : Cx) (s : Pw.Ends → Env → Store → Prop) : TS := fun D σ H => ∃ env S φ, At CS X env S φ σ H ∧ s (KE CS X H φ S.length D) env S

/-! ### weaker readings -/
theorem _root_.L2.PE.imp {X : Cx} {e : Expr} {t t' : TE} (h : PE X e t) (k : ∀ σ H Q, t' σ H Q → t σ H Q) : PE X e t' := ⟨fun pins s σ H Q I q => h.run pins s σ H Q I (k _ _ _ q)⟩
theorem _root_.L2.PT.imp {X : Cx} {e : Expr} {t t' : TT} (h : PT X e t) (k : ∀ σ H Q, t' σ H Q → t σ H Q) : PT X e t' := ⟨fun pins s σ H Q I q => h.run pins s σ H Q I (k _ _ _ q)⟩
theorem _root_.L2.PW.imp {X : Cx} {e : Expr} {t t' : TT} (h : PW X e t) (k : ∀ σ H Q, t' σ H Q → t σ H Q) : PW X e t' := ⟨fun wh pins s σ H Q I q => h.run wh pins s σ H Q I (k _ _ _ q)⟩
theorem _root_.L2.PA.imp {X : Cx} {e : List Expr} {t t' : TA} (h : PA X e t) (k : ∀ σ H Q, t' σ H Q → t σ H Q) : PA X e t' := ⟨fun pos pins s σ H Q I q => h.run pos pins s σ H Q I (k _ _ _ q)⟩
theorem _root_.L2.PO.imp {X : Cx} {e : Option Expr} {t t' : TO} (h : PO X e t) (k : ∀ σ H Q, t' σ H Q → t σ H Q) : PO X e t' := ⟨fun pins s σ H Q I q => h.run pins s σ H Q I (k _ _ _ q)⟩
theorem _root_.L2.PG.imp {X : Cx} {e : Expr} {t t' : TG} (h : PG X e t) (k : ∀ v σ H Q, t' v σ H Q → t v σ H Q) : PG X e t' := ⟨fun pins s σ H v u Q I r q => h.run pins s σ H v u Q I r (k _ _ _ _ q)⟩
theorem _root_.L2.PGs.imp {X : Cx} {e : List Expr} {t t' : TGs} (h : PGs X e t) (k : ∀ v σ H Q, t' v σ H Q → t v σ H Q) : PGs X e t' := ⟨fun pins s σ H v u Q I r q => h.run pins s σ H v u Q I r (k _ _ _ _ q)⟩
theorem _root_.L2.PS.imp {X : Cx} {e : Stmt} {t t' : TS} (h : PS X e t) (k : ∀ D σ H, t' D σ H → t D σ H) : PS X e t' := ⟨fun pins s σ H D I q => h.run pins s σ H D I (k _ _ _ q)⟩
theorem _root_.L2.PSs.imp {X : Cx} {e : List Stmt} {t t' : TS} (h : PSs X e t) (k : ∀ D σ H, t' D σ H → t D σ H) : PSs X e t' := ⟨fun pins s σ H D I q => h.run pins s σ H D I (k _ _ _ q)⟩
theorem _root_.L2.PI.imp {X : Cx} {tg e : Expr} {t t' : TI} (h : PI X tg e t) (k : ∀ σ H Q, t' σ H Q → t σ H Q) : PI X tg e t' := ⟨fun pins s σ H Q I q => h.run pins s σ H Q I (k _ _ _ q)⟩
theorem _root_.L2.PTs.imp {X : Cx} {e : List Expr} {t t' : TT} (h : PTs X e t) (k : ∀ σ H Q, t' σ H Q → t σ H Q) : PTs X e t' := ⟨fun pins s σ H Q I q => h.run pins s σ H Q I (k _ _ _ q)⟩

/-! ### one after another -/
section
variable {CS : List Addr} {X : Cx} {A : W} {env : Env} {S : Store} {φ : Nat → Addr} {σ : L2.St} {H : Hp}
theorem tE_mk (m : MW A) (a : At CS X env S φ σ H) {R : KD} (h : A.e env S R) {G : VK}
    (k : ∀ x S1 φ1 v H1, Le H φ S.length H1 φ1 S1.length → At CS X env S1 φ1 σ H1 → RepV X.K H1 φ1 S1.length x v → R x S1 → G v H1) : tE CS X A.e σ H G :=
  ⟨env, S, φ, a, m.e h fun x S1 hx φ1 v H1 l w r => k x S1 φ1 v H1 l (a.mono l w) r hx⟩
theorem tT_mk (m : MW A) (a : At CS X env S φ σ H) {R : Bool → Store → Prop} (h : A.t env S R) {G : Bool → Hp → Prop}
    (k : ∀ x S1 φ1 H1, Le H φ S.length H1 φ1 S1.length → At CS X env S1 φ1 σ H1 → R x S1 → G x H1) : tT CS X A.t σ H G :=
  ⟨env, S, φ, a, m.t h fun x S1 hx φ1 H1 l w => k x S1 φ1 H1 l (a.mono l w) hx⟩
theorem tTs_mk (m : MW A) (a : At CS X env S φ σ H) {R : Bool → Store → Prop} (h : A.ts env S R) {G : Bool → Hp → Prop}
    (k : ∀ x S1 φ1 H1, Le H φ S.length H1 φ1 S1.length → At CS X env S1 φ1 σ H1 → R x S1 → G x H1) : tT CS X A.ts σ H G :=
  ⟨env, S, φ, a, m.ts h fun x S1 hx φ1 H1 l w => k x S1 φ1 H1 l (a.mono l w) hx⟩
theorem tP_mk (m : MW A) (a : At CS X env S φ σ H) {R : Option Int → Store → Prop} (h : A.p env S R) {G : Option Int → Hp → Prop}
    (k : ∀ x S1 φ1 H1, Le H φ S.length H1 φ1 S1.length → At CS X env S1 φ1 σ H1 → R x S1 → G x H1) : tP CS X A.p σ H G :=
  ⟨env, S, φ, a, m.p h fun x S1 hx φ1 H1 l w => k x S1 φ1 H1 l (a.mono l w) hx⟩
theorem tA_mk (m : MW A) (a : At CS X env S φ σ H) {R : List D → Store → Prop} (h : A.a env S R) {G : List V → Hp → Prop}
    (k : ∀ x S1 φ1 v H1, Le H φ S.length H1 φ1 S1.length → At CS X env S1 φ1 σ H1 → RepL X.K H1 φ1 S1.length x v → R x S1 → G v H1) : tA CS X A.a σ H G :=
  ⟨env, S, φ, a, m.a h fun x S1 hx φ1 v H1 l w r => k x S1 φ1 v H1 l (a.mono l w) r hx⟩
theorem tG_mk (m : MW A) (a : At CS X env S φ σ H) {d : D} {v : V} (rv : RepV X.K H φ S.length d v) {R : Env → Store → Prop} (h : A.g d env S R) {G : L2.St → Hp → Prop}
    (k : ∀ env1 S1 φ1 σ1 H1, Le H φ S.length H1 φ1 S1.length → At CS X env1 S1 φ1 σ1 H1 → R env1 S1 → G σ1 H1) : tG CS X A.g v σ H G :=
  ⟨env, S, φ, d, a, rv, m.g h fun x S1 hx φ1 σ1 H1 l a1 => k x S1 φ1 σ1 H1 l a1 hx⟩
theorem tGs_mk (m : MW A) (a : At CS X env S φ σ H) {d : List D} {v : List V} (rv : RepL X.K H φ S.length d v) {R : Env → Store → Prop} (h : A.gs d env S R) {G : L2.St → Hp → Prop}
    (k : ∀ env1 S1 φ1 σ1 H1, Le H φ S.length H1 φ1 S1.length → At CS X env1 S1 φ1 σ1 H1 → R env1 S1 → G σ1 H1) : tGs CS X A.gs v σ H G :=
  ⟨env, S, φ, d, a, rv, m.gs h fun x S1 hx φ1 σ1 H1 l a1 => k x S1 φ1 σ1 H1 l a1 hx⟩
theorem tI_mk (m : MW A) (a : At CS X env S φ σ H) {R : Src → Store → Prop} (h : A.i env S R) {G : It → Hp → Prop}
    (k : ∀ src S1 φ1 H1 J, Le H φ S.length H1 φ1 S1.length → At CS X env S1 φ1 σ H1 → Walks X.K H1 φ1 S1.length J src → R src S1 → G J H1) : tI CS X A.i σ H G :=
  ⟨env, S, φ, a, m.i h fun x S1 hx φ1 H1 J l a1 wk => k x S1 φ1 H1 J l a1 wk hx⟩
theorem KN.le {Q : L2.St → Hp → Prop} {H1 : Hp} {φ1 : Nat → Addr} {N N1 : Nat} (l : Le H φ N H1 φ1 N1) {env' : Env} {S' : Store} (h : KN CS X H φ N Q env' S') : KN CS X H1 φ1 N1 Q env' S' := fun φ' σ' H' l' a => h φ' σ' H' (l.trans l') a
theorem KQ.le {K : PySem.W.Frag} {Q : VK} {H1 : Hp} {φ1 : Nat → Addr} {N N1 : Nat} (l : Le H φ N H1 φ1 N1) {d : D} {S' : Store} (h : KQ K H φ N Q d S') : KQ K H1 φ1 N1 Q d S' := fun φ' σ' H' l' a => h φ' σ' H' (l.trans l') a
theorem KB.le {α : Type} {K : PySem.W.Frag} {Q : α → Hp → Prop} {H1 : Hp} {φ1 : Nat → Addr} {N N1 : Nat} (l : Le H φ N H1 φ1 N1) {d : α} {S' : Store} (h : KB K H φ N Q d S') : KB K H1 φ1 N1 Q d S' := fun φ' H' l' a => h φ' H' (l.trans l') a
theorem KA.le {K : PySem.W.Frag} {Q : List V → Hp → Prop} {H1 : Hp} {φ1 : Nat → Addr} {N N1 : Nat} (l : Le H φ N H1 φ1 N1) {d : List D} {S' : Store} (h : KA K H φ N Q d S') : KA K H1 φ1 N1 Q d S' := fun φ' σ' H' l' a => h φ' σ' H' (l.trans l') a
theorem KS.le {K : PySem.W.Frag} {Q : Hp → Prop} {H1 : Hp} {φ1 : Nat → Addr} {N N1 : Nat} (l : Le H φ N H1 φ1 N1) {S' : Store} (h : KS K H φ N Q S') : KS K H1 φ1 N1 Q S' := fun φ' H' l' a => h φ' H' (l.trans l') a
theorem tS_mk (m : MW A) (a : At CS X env S φ σ H) {D0 : Pw.Ends} (h : A.s D0 env S) {D : L2.Ends}
    (knx : ∀ env1 S1 φ1 σ1 H1, Le H φ S.length H1 φ1 S1.length → At CS X env1 S1 φ1 σ1 H1 → D0.nx env1 S1 → D.nx σ1 H1)
    (krt : ∀ x S1 φ1 v H1, Le H φ S.length H1 φ1 S1.length → Wd X.K H1 φ1 S1 → RepV X.K H1 φ1 S1.length x v → D0.rt x S1 → D.rt v H1)
    (kbk : ∀ env1 S1 φ1 σ1 H1, Le H φ S.length H1 φ1 S1.length → At CS X env1 S1 φ1 σ1 H1 → D0.bk env1 S1 → D.bk σ1 H1)
    (kct : ∀ env1 S1 φ1 σ1 H1, Le H φ S.length H1 φ1 S1.length → At CS X env1 S1 φ1 σ1 H1 → D0.ct env1 S1 → D.ct σ1 H1) : tS CS X A.s D σ H :=
  ⟨env, S, φ, a, m.s h ⟨fun e S1 q φ1 σ1 H1 l a1 => knx e S1 φ1 σ1 H1 l a1 q, fun x S1 q φ1 v H1 l w r => krt x S1 φ1 v H1 l w r q, fun e S1 q φ1 σ1 H1 l a1 => kbk e S1 φ1 σ1 H1 l a1 q, fun e S1 q φ1 σ1 H1 l a1 => kct e S1 φ1 σ1 H1 l a1 q⟩⟩
end

/-! ### by values -/
/-- a rule of two values: the plain operation f -/
def rD2 (K : PySem.W.Frag) (f : D → D → Store → KD → Prop) : R2 := fun v u H Q => ∃ x y S φ, Wd K H φ S ∧ RepV K H φ S.length x v ∧ RepV K H φ S.length y u ∧ f x y S (KQ K H φ S.length Q)
def rD1 (K : PySem.W.Frag) (f : D → Store → KD → Prop) : V → Hp → VK → Prop := fun v H Q => ∃ x S φ, Wd K H φ S ∧ RepV K H φ S.length x v ∧ f x S (KQ K H φ S.length Q)
def rDn (K : PySem.W.Frag) (f : List D → Store → KD → Prop) : List V → Hp → VK → Prop := fun vs H Q => ∃ xs S φ, Wd K H φ S ∧ RepL K H φ S.length xs vs ∧ f xs S (KQ K H φ S.length Q)
def rDm (K : PySem.W.Frag) (f : D → List D → Store → KD → Prop) : V → List V → Hp → VK → Prop := fun v vs H Q => ∃ x xs S φ, Wd K H φ S ∧ RepV K H φ S.length x v ∧ RepL K H φ S.length xs vs ∧ f x xs S (KQ K H φ S.length Q)
section
variable {K : PySem.W.Frag} {H : Hp} {φ : Nat → Addr} {S : Store}
theorem KQ.here {Q : VK} {d : D} {v : V} (h : KQ K H φ S.length Q d S) (w : Wd K H φ S) (r : RepV K H φ S.length d v) : Q v H := h φ v H (.refl _ _ _) w r
theorem KQ.new {Q : VK} {c : Cell} {o : HO} {p : Addr} (h : KQ K H φ S.length Q (.loc S.length) (S ++ [c])) (w : Wd K H φ S) (hp : H p = none) (ho : ∀ ps, o ≠ .tbl ps) (hc : CellOk K (upd H p o) (extA φ S.length p) (S.length + 1) p c) : Q (.ref p) (upd H p o) := by
  have e : (S ++ [c]).length = S.length + 1 := by simp
  refine h (extA φ S.length p) (.ref p) (upd H p o) (by rw [e]; exact .alloc hp) (w.alloc hp ho hc) ?_
  have := RepV.loc (K := K) (H := upd H p o) (φ := extA φ S.length p) (N := (S ++ [c]).length) S.length (by rw [e]; exact Nat.lt_succ_self _)
  rw [extA_same] at this
  exact this
theorem KQ.tup {Q : VK} {ds : List D} {xs : List V} {p : Addr} (h : KQ K H φ S.length Q (.tup .key ds) S) (w : Wd K H φ S) (hp : H p = none) (r : RepL K H φ S.length ds xs) : Q (.ref p) (upd H p (.tup xs)) :=
  h φ (.ref p) _ (.fresh hp) (w.fresh hp fun _ => nofun) (.tup (k := .key) upd_same (r.mono (.fresh hp)))
/-- a list cell's own list -/
theorem Wd.lst {n : Nat} {ds : List D} (w : Wd K H φ S) (e : S[n]? = some (.lst ds)) : ∃ xs, H (φ n) = some (.lst xs) ∧ RepL K H φ S.length ds xs := w.cell n _ e
theorem Wd.seq {n : Nat} {ds : List D} (w : Wd K H φ S) (e : S[n]? = some (.lst ds) ∨ S[n]? = some (.rol ds)) : ∃ xs, SqL K H (φ n) xs ∧ RepL K H φ S.length ds xs := by
  rcases e with e | e
  · obtain ⟨xs, h, r⟩ := w.cell n _ e; exact ⟨xs, .of h, r⟩
  · obtain ⟨xs, h, r⟩ := w.cell n _ e
    refine ⟨xs, ?_, r⟩
    rcases h with ⟨o, h⟩ | h
    · exact .inl (.inr ⟨o, h⟩)
    · exact .inr h
theorem seqD_inv {x : D} {ds : List D} (e : seqD S x = some ds) : (∃ k, x = .tup k ds) ∨ ∃ n, x = .loc n ∧ (S[n]? = some (.lst ds) ∨ S[n]? = some (.rol ds)) := by
  unfold seqD at e
  split at e
  · cases e; exact .inl ⟨_, rfl⟩
  · rename_i n
    split at e
    · rename_i h; cases e; exact .inr ⟨n, rfl, .inl h⟩
    · rename_i h; cases e; exact .inr ⟨n, rfl, .inr h⟩
    · cases e
  · cases e
/-- a sequence: a list or a tuple -/
theorem Wd.seqD {x : D} {v : V} {ds : List D} (w : Wd K H φ S) (r : RepV K H φ S.length x v) (e : seqD S x = some ds) : ∃ a xs, v = .ref a ∧ (SqL K H a xs ∨ SqT K H a xs) ∧ RepL K H φ S.length ds xs := by
  rcases seqD_inv e with ⟨k, rfl⟩ | ⟨n, rfl, h⟩
  · cases r with
    | tup q r => exact ⟨_, _, rfl, .inr q.sqt, r⟩
  · cases r with
    | loc n hn =>
      obtain ⟨xs, q, r⟩ := w.seq h
      exact ⟨_, xs, rfl, .inl q, r⟩
/-- a cell written -/
theorem KQ.write {Q : VK} {d : D} {v : V} {n : Nat} {c c' : Cell} {o : HO} (h : KQ K H φ S.length Q d (S.set n c')) (w : Wd K H φ S) (e : S[n]? = some c) (m : c.mut) (m' : c'.mut) (ho : ∀ ps, o ≠ .tbl ps)
    (hc : CellOk K (upd H (φ n) o) φ S.length (φ n) c') (hv : RepV K (upd H (φ n) o) φ S.length d v) : Q v (upd H (φ n) o) := by
  obtain ⟨u, hu, wu⟩ := (w.cell n _ e).wr m
  have el : (S.set n c').length = S.length := by simp
  refine h φ v _ (by rw [el]; exact ⟨Nat.le_refl _, fun _ _ => rfl, .write hu wu⟩) (w.write e m hu wu ho m' hc) (by rw [el]; exact hv)
theorem Le.write {n N : Nat} {u o : HO} (hu : H (φ n) = some u) (wu : Wr u) : Le H φ N (upd H (φ n) o) φ N := ⟨Nat.le_refl _, fun _ _ => rfl, .write hu wu⟩
end

/-! ### as data -/
section
variable {K : PySem.W.Frag} {H : Hp} {φ : Nat → Addr} {S : Store}
theorem dpAll_of {n : Nat} (ih : ∀ {d : D} {v : V} {p : PyData}, RepV K H φ S.length d v → dq n S d = some p → Dp K H v p) : ∀ {ds : List D} {vs : List V} {ps : List PyData}, RepL K H φ S.length ds vs → ds.mapM (dq n S) = some ps → DpAll K H vs ps
  | _, _, ps, .nil, e => by
    have e : some [] = some ps := by simpa using e
    cases e; exact .nil
  | d :: ds, _, ps, .cons r t, e => by
    rw [List.mapM_cons] at e
    cases h1 : dq n S d with
    | none => rw [h1] at e; cases e
    | some p =>
      cases h2 : ds.mapM (dq n S) with
      | none => rw [h1, h2] at e; cases e
      | some qs =>
        rw [h1, h2] at e
        have e : some (p :: qs) = some ps := e
        cases e
        exact .cons (ih r h1) (dpAll_of ih t h2)
theorem Wd.dp (w : Wd K H φ S) : ∀ (n : Nat) {d : D} {v : V} {p : PyData}, RepV K H φ S.length d v → dq n S d = some p → Dp K H v p
  | 0, _, _, _, _, e => by cases e
  | n + 1, d, v, p, r, e => by
    cases r with
    | non => cases e; exact .non
    | bl b => cases e; exact .bl b
    | int i => cases e; exact .int i
    | str s => cases e; exact .str s
    | @tup a xs ds k q r =>
      have e : (ds.mapM (dq n S)).map PyData.tuple = some p := e
      obtain ⟨ps, e1, rfl⟩ := Option.map_eq_some_iff.mp e
      exact .tup q.sqt (dpAll_of (fun r h => Wd.dp w n r h) r e1)
    | loc m hm =>
      unfold dq at e
      dsimp only at e
      split at e
      · rename_i xs hx
        obtain ⟨ps, e1, rfl⟩ := Option.map_eq_some_iff.mp e
        obtain ⟨vs, h1, r⟩ := w.lst hx
        exact .lst (.of h1) (dpAll_of (fun r h => Wd.dp w n r h) r e1)
      · cases e
theorem Wd.dps (w : Wd K H φ S) {ds : List D} {vs : List V} {ps : List PyData} (r : RepL K H φ S.length ds vs) (e : dqs S ds = some ps) : DpAll K H vs ps := dpAll_of (fun r h => w.dp 16 r h) r e
end
end Pw
/-! Pw6: a generator expression's code object; the context of its frame. -/
namespace Pw
open PySem PySem.Spec PyProof.Rows L2

/-- a code object that is known, with a table that is tracked -/
def CodeRef (X : Cx) (H : Hp) (c : Addr) : Prop := ∃ P, H c = some (CodeX c P) ∧ (∃ ps, H P = some (.tbl ps)) ∧ X.base.BuiltinsAt X.mg P ∧ mainGlobals ≠ P
theorem codeX_ne {c P : Addr} (ps : Array Value) : CodeX c P ≠ .tbl ps := fun z => by
  unfold CodeX at z
  cases z
theorem Wd.tabbed {K : PySem.W.Frag} {H H' : Hp} {φ : Nat → Addr} {S : Store} (w : Wd K H φ S) (t : Tp H H') (k : ∀ b u, H b = some u → Wr u → H' b = some u) (ta : AllTabs H') : Wd K H' φ S where
  cell := fun n c e => (w.cell n c e).mono ⟨Nat.le_refl _, fun _ _ => rfl, t⟩ fun _ u h hw => k _ u h hw
  inj := w.inj
  tabs := ta
section
variable {CS : List Addr} {X : Cx} {pins : List (Addr × Obj)} {σ : L2.St} {H : Hp} {s : Shared}
/-- the table at P is written, a new code object at c with its table at p is known; all else is kept -/
theorem inv_table3 {P c p : Addr} {ps more : Array Value} {h' : Heap} {t' : Nat} (I : Inv X pins σ H s) (hP : H P = some (.tbl ps)) (k : ∀ b o, b ≠ P → s.heap.get? b = some o → h'.get? b = some o)
    (hm : h'.get? P = some { cls := .none, data := .fields (ps ++ more) }) (hc : s.heap.objs.size ≤ c) (hp : s.heap.objs.size ≤ p) (hcp : c ≠ p) (ho : PySem.W.CodeHd h' c p) (hq : h'.get? p = some { cls := .none, data := .fields #[] }) :
    Inv X pins σ (upd (upd (upd H P (.tbl (ps ++ more))) c (CodeX c p)) p (.tbl #[])) { s with heap := h', toks := t' } := by
  have nC : H c = none := I.hok.fresh hc
  have nQ : H p = none := I.hok.fresh hp
  have nPc : P ≠ c := ne_of_none hP nC
  have nPp : P ≠ p := ne_of_none hP nQ
  have at_ : ∀ b, b ≠ P → b ≠ c → b ≠ p → upd (upd (upd H P (.tbl (ps ++ more))) c (CodeX c p)) p (.tbl #[]) b = H b := fun b h1 h2 h3 => by rw [upd_ne h3, upd_ne h2, upd_ne h1]
  have atP : upd (upd (upd H P (.tbl (ps ++ more))) c (CodeX c p)) p (.tbl #[]) P = some (.tbl (ps ++ more)) := by rw [upd_ne nPp, upd_ne nPc, upd_same]
  have atc : upd (upd (upd H P (.tbl (ps ++ more))) c (CodeX c p)) p (.tbl #[]) c = some (CodeX c p) := by rw [upd_ne hcp, upd_same]
  have nP : ∀ b u, H b = some u → (∀ q, u ≠ .tbl q) → b ≠ P := fun b u e q z => by
    rw [z, hP] at e
    exact q ps (Option.some.inj e).symm
  have nN : ∀ b, H b = none → b ≠ P := fun b e z => by
    rw [z, hP] at e
    cases e
  have lt' : ∀ b o, s.heap.get? b = some o → b ≠ c ∧ b ≠ p := fun b o e => ⟨fun z => by
    rw [z] at e
    exact Nat.lt_irrefl _ (Nat.lt_of_lt_of_le (Heap.lt_size e) hc), fun z => by
    rw [z] at e
    exact Nat.lt_irrefl _ (Nat.lt_of_lt_of_le (Heap.lt_size e) hp)⟩
  have sm : ∀ b u, H b = some u → b ≠ c ∧ b ≠ p := fun b u e => ⟨ne_of_none e nC, ne_of_none e nQ⟩
  have atS : ∀ b u, H b = some u → (∀ q, u ≠ .tbl q) → upd (upd (upd H P (.tbl (ps ++ more))) c (CodeX c p)) p (.tbl #[]) b = some u := fun b u e q => by
    rw [at_ b (nP b u e q) (sm b u e).1 (sm b u e).2]; exact e
  refine I.step (g' := s.gens) (d' := s.drawn) (ch := []) (fun b hb => absurd hb (by simp)) (fun b o _ _ _ e n => k b o (nN b n) e) (fun b o _ _ _ e n => ⟨o.slots, k b o (nN b n) e⟩)
    (fun b o _ e n => by rw [at_ b (nN b n) (lt' b o e).1 (lt' b o e).2]; exact n) (fun b o _ e => ?_) (fun b xs e => atS b _ e fun _ z => by cases z) (fun b o u e => atS b _ e fun _ z => by cases z) (fun b qs e => ?_) (fun m hn => ?_) (fun b u e => ?_) I.bare
  · by_cases hb : b = P
    · rw [hb]
      exact ⟨_, hm⟩
    · exact ⟨o, k b o hb e⟩
  · by_cases hb : b = P
    · rw [hb, hP] at e
      cases e
      rw [hb, atP]
      exact ⟨more, rfl⟩
    · rw [at_ b hb (sm b _ e).1 (sm b _ e).2, e]
      exact ⟨#[], by simp⟩
  · obtain ⟨ob, es, ep, ho, r⟩ := hn
    exact ⟨ob, es, ep, k _ ob (nN _ I.free) ho, r⟩
  · by_cases hb0 : b = p
    · rw [hb0, upd_same] at e
      cases e
      rw [hb0]
      exact hq
    · by_cases hb : b = c
      · rw [hb, atc] at e
        cases e
        rw [hb]
        refine ⟨ho, ?_, fun h1 h2 ⟨o, vs, file, tf, flags, tg, inF, text, tt, e, r⟩ st => ⟨o, vs, file, tf, flags, tg, inF, text, tt, st _ e, r⟩⟩
        obtain ⟨o, _, _, _, _, _, _, _, _, e, _⟩ := ho
        exact ⟨o, e⟩
      · by_cases hb2 : b = P
        · rw [hb2, atP] at e
          cases e
          rw [hb2]
          exact hm
        · rw [at_ b hb2 hb hb0] at e
          refine (I.hok b u e).stay (fun d v hd q => k d v ?_ q) (fun d q => atS d _ q fun _ z => by cases z) fun d xs q => atS d _ q fun _ z => by cases z
          rcases hd with z | z
          · rw [z]
            exact hb2
          · exact nP d _ z (fun q z => by cases z)
/-- the generator's code object: made, or found -/
theorem gen_code {φ : Nat → Addr} {S : Store} {N : Nat} {pos : Pos} {q : Str} {scope : Scope} {E : Value → Shared → Prop} {Q : Value → Shared → Prop} (I : Inv X pins σ H s) (ca : CodeAt CS X H) (wd : Wd X.K H φ S)
    (h : ∀ c' H' s', Inv X pins σ H' s' → Le H φ N H' φ N → Wd X.K H' φ S → CodeRef X H' c' → (∀ b o, H b = none → s.heap.get? b = some o → s'.heap.get? b = some o ∧ H' b = none) → s.heap.objs.size ≤ s'.heap.objs.size → s'.gens = s.gens → Q (.ref c') s') :
    wpAny (model X.prog X.w) X.A (genexprCode X.env pos q scope) Q E s := by
  obtain ⟨hcs, c, P, hcode, hc, ⟨ps, hP⟩, hbm, hgP⟩ := ca
  obtain ⟨ht, ha⟩ := wd.tabs P ps hP
  have hP' : s.heap.get? P = some { cls := .none, data := .fields ps } := I.hok P _ hP
  have cd : PySem.W.CodeHd s.heap c P := by
    rcases hc with hc | hc
    · exact hc.keeps I.bk
    · exact (I.hok c _ hc).1
  cases hf : codeAmong pos ps.toList with
  | some cv =>
    obtain ⟨c', P', rfl, h1, h2⟩ := ha pos cv hf
    refine wpAny_genexprCode_hit hcode (cd.code hP' ht) hf ?_
    have bP' : mainGlobals ≠ P' ∧ X.base.BuiltinsAt X.mg P' := by
      obtain ⟨ps', h2⟩ := h2
      have free := fun b o e => (I.bs b o e).2
      refine ⟨fun z => ?_, ?_⟩
      · obtain ⟨o, _, _, ho, _⟩ := I.mod.glob
        have := free _ _ ho
        rw [z, h2] at this; cases this
      · obtain ⟨bm, o, e1, e2, e3, e4, e5, r⟩ := hbm
        refine ⟨bm, o, e1, e2, e3, fun z => ?_, e5, r⟩
        have := free _ _ e5
        rw [z, h2] at this; cases this
    exact h c' H s I (.refl _ _ _) wd ⟨P', h1, h2, bP'.2, bP'.1⟩ (fun b o n e => ⟨e, n⟩) (Nat.le_refl _) rfl
  | none =>
    refine wpAny_genexprCodeX hcode (cd.code hP' ht) (cd.tab hP') hf fun c' h' tk hx hge hlt hco' _ htab' ⟨p, hp, hcp, htp⟩ => ?_
    have hd := PySem.W.CodeHd.of hcp htp
    have hne : c' ≠ p := by obtain ⟨_, _, _, _, _, _, _, _, _, _, _, _, _, _, _, _, _, _, z⟩ := hd; exact z
    have J := inv_table3 (t' := tk) I hP (fun b o hb e => hx b o hb e) htab'.2 hge hp hne hd htp.2
    have nC : H c' = none := I.hok.fresh hge
    have nQ : H p = none := I.hok.fresh hp
    have nPc : P ≠ c' := ne_of_none hP nC
    have nPp : P ≠ p := ne_of_none hP nQ
    have eL : (ps ++ #[rawInt pos.line, rawInt pos.col, .ref c']).toList = ps.toList ++ [rawInt pos.line, rawInt pos.col, .ref c'] := by simp
    generalize hH' : upd (upd (upd H P (.tbl (ps ++ #[rawInt pos.line, rawInt pos.col, .ref c']))) c' (CodeX c' p)) p (.tbl #[]) = H' at J
    have keep : ∀ b u, H b = some u → (∀ q, u ≠ .tbl q) → H' b = some u := fun b u e z => by
      rw [← hH', upd_ne (ne_of_none e nQ), upd_ne (ne_of_none e nC), upd_ne (fun y => by rw [y, hP] at e; exact z ps (Option.some.inj e).symm)]
      exact e
    have tbl : ∀ b qs, H b = some (.tbl qs) → ∃ more, H' b = some (.tbl (qs ++ more)) := fun b qs e => by
      by_cases hb : b = P
      · rw [hb, hP] at e; cases e
        exact ⟨_, by rw [hb, ← hH', upd_ne nPp, upd_ne nPc, upd_same]⟩
      · exact ⟨#[], by rw [← hH', upd_ne (ne_of_none e nQ), upd_ne (ne_of_none e nC), upd_ne hb, e]; simp⟩
    have tp : Tp H H' := ⟨fun a xs e => keep a _ e fun _ z => (by cases z), fun a xs r => r.elim (fun e => .inl (keep a _ e fun _ z => (by cases z))) fun ⟨o, e⟩ => .inr ⟨o, keep a _ e fun _ z => (by cases z)⟩, fun a o u e => keep a _ e fun _ z => (by cases z), fun a φ e => keep a _ e fun _ z => (by cases z), tbl⟩
    have hc' : H' c' = some (CodeX c' p) := by rw [← hH', upd_ne hne, upd_same]
    have hp' : H' p = some (.tbl #[]) := by rw [← hH', upd_same]
    have ta : AllTabs H' := fun P0 qs e => by
      by_cases h0 : P0 = p
      · rw [h0, hp'] at e; cases e
        exact ⟨trivial, fun pos cv z => by simp [codeAmong] at z⟩
      · by_cases h1 : P0 = P
        · have e' : qs = ps ++ #[rawInt pos.line, rawInt pos.col, .ref c'] := by
            rw [h1, ← hH', upd_ne nPp, upd_ne nPc, upd_same] at e
            cases e; rfl
          subst e'
          refine ⟨by rw [eL]; exact PySem.TriplesOk_snoc _ _ _ _ ht, fun p' cv z => ?_⟩
          rw [eL] at z
          rcases LamX.among_app _ ht z with z | z
          · obtain ⟨c0, P0', a1, a2, ps', a3⟩ := ha p' cv z
            obtain ⟨m, a4⟩ := tbl _ _ a3
            exact ⟨c0, P0', a1, keep _ _ a2 codeX_ne, _, a4⟩
          · exact ⟨c', p, z, hc', _, hp'⟩
        · have h2 : P0 ≠ c' := fun z => by rw [z, hc'] at e; exact codeX_ne _ (Option.some.inj e)
          rw [← hH', upd_ne h0, upd_ne h2, upd_ne h1] at e
          obtain ⟨a0, a1⟩ := wd.tabs P0 qs e
          refine ⟨a0, fun p' cv z => ?_⟩
          obtain ⟨c0, P0', b1, b2, ps', b3⟩ := a1 p' cv z
          obtain ⟨m, b4⟩ := tbl _ _ b3
          exact ⟨c0, P0', b1, keep _ _ b2 codeX_ne, _, b4⟩
    refine h c' H' _ J ⟨Nat.le_refl _, fun _ _ => rfl, tp⟩ (wd.tabbed tp (fun b u e hw => keep b u e fun q z => by rw [z] at hw; exact hw) ta) ⟨p, hc', ⟨_, hp'⟩, ?_, ?_⟩ (fun b o n e => ⟨hx b o (fun z => by rw [z, hP] at n; cases n) e, ?_⟩) (Nat.le_trans hge (Nat.le_of_lt hlt)) rfl
    · obtain ⟨bm, o, e1, e2, e3, e4, e5, r⟩ := hbm
      refine ⟨bm, o, e1, e2, e3, fun z => ?_, e5, r⟩
      have := (J.bs _ _ e5).2
      rw [z, hp'] at this; cases this
    · intro z
      obtain ⟨o, _, _, ho, _⟩ := I.mod.glob
      have := (J.bs _ _ ho).2
      rw [z, hp'] at this; cases this
    · have l := Heap.lt_size e
      rw [← hH', upd_ne (Nat.ne_of_lt (Nat.lt_of_lt_of_le l hp)), upd_ne (Nat.ne_of_lt (Nat.lt_of_lt_of_le l hge)), upd_ne (fun z => by rw [z, hP] at n; cases n)]
      exact n
end
end Pw
/-! Pw7: the context of a generator expression's frame. -/
namespace Pw
open PySem PySem.Spec PyProof.Rows L2

/-- the frame's environment -/
abbrev gEnv (X : Cx) (scope : Scope) (L c : Addr) : PySem.Env := genEnv scope (cellsFrom (L + 1) scope.names (cloFrom X.env.cells scope.names [])) L (.ref c) builtinsNs X.env
/-- the context of a generator's frame, made at s, drawn from B; fp: its iterator -/
def gcx (X : Cx) (B : Around) (s : Shared) (H : Hp) (cenv : PySem.Env) (fp : List Addr) : Cx :=
  { X with A := B.deeper cenv, s_0 := s, H_0 := H, env := cenv, outer := X.stack, stack := cenv :: X.stack, ex := fp, fn := fun x => cenv.scope.names.lookup x == some .cell, calm := true, pn := [], xe := fun _ _ => False }
section
variable {X : Cx} {pins : List (Addr × Obj)} {σ : L2.St} {H : Hp} {s : Shared}
theorem gen_start {scope : Scope} {own : List (Str × Nat)} {fp : List Addr} {it : Value} {c' : Addr} {B : Around} {h' h'' : Heap} {g' : Array GenState} {tk : Nat} (I : Inv X pins σ H s) (ok : BlkOk X.N X.env.scope scope own) (hN : X.N.Nodup) (hB : B.handled = none) (hBf : B.frames = some X.stack)
    (hfp : ∀ b ∈ fp, FpOk X pins H b ∧ b < s.heap.objs.size) (hn : h'.Ns s.heap.objs.size (fun y => if y = (".0" : Str) then some it else none)) (hs : Heap.SameBut s.heap.objs.size (pushCells (s.heap.push { cls := .type "frame", data := .dict #[] }) scope.names) h')
    (hk : ∀ b o, h'.get? b = some o → h''.get? b = some o) (hg : AllBare g') :
    Inv (gcx X B s H (gEnv X scope s.heap.objs.size c') fp) [] (wipe σ (own.map (·.2))) H { s with heap := h'', gens := g', toks := tk } := by
  have hfree : ∀ y ∈ scope.names, y.2 = .free → ∃ c, X.env.cells.lookup y.1 = some c := fun y hy e => by
    rcases ok.free y hy e with k | k
    · exact I.ok.has _ (.inl k)
    · exact I.ok.has _ (.inr k)
  generalize hcenv : gEnv X scope s.heap.objs.size c' = cenv
  have kp0 : ∀ b o, (pushCells (s.heap.push { cls := .type "frame", data := .dict #[] }) scope.names).get? b = some o → b ≠ s.heap.objs.size → h''.get? b = some o := fun b o e ne => hk b o ((hs.2 b ne).trans e)
  have kp : ∀ b o, s.heap.get? b = some o → h''.get? b = some o := fun b o e => kp0 b o (pushCells_keeps _ _ _ _ (Heap.get?_push_of_some _ e)) (Nat.ne_of_lt (Heap.lt_size e))
  have cellk : ∀ c v, c ≠ s.heap.objs.size → CellAt (pushCells (s.heap.push { cls := .type "frame", data := .dict #[] }) scope.names) c v → h''.IsCell c v := fun c v ne ⟨o, ho, hd⟩ => ⟨o, kp0 c o ho ne, hd⟩
  have hL : cenv.locals = s.heap.objs.size := by rw [← hcenv]; rfl
  have hcl : cenv.cells = cellsFrom (s.heap.objs.size + 1) scope.names (cloFrom X.env.cells scope.names []) := by rw [← hcenv]; rfl
  have hsc : cenv.scope = scope := by rw [← hcenv]; rfl
  have hfr : cenv.frame = some cenv.locals := by rw [← hcenv]; rfl
  rw [← Heap.size_push s.heap { cls := .type "frame", data := .dict #[] }] at hcl
  have cm : ∀ {y c}, (y, c) ∈ cloFrom X.env.cells scope.names [] → X.env.cells.lookup y = some c ∧ c < s.heap.objs.size := fun {y c} hm => by
    rcases cloFrom_mem hm with hm | ⟨h1, rfl⟩
    · cases hm
    · obtain ⟨c, hc⟩ := hfree _ h1 rfl
      rw [hc]
      obtain ⟨w, z⟩ := I.cell _ _ hc
      exact ⟨rfl, z.lt⟩
  have mem : ∀ {y c}, cenv.cells.lookup y = some c → (X.env.cells.lookup y = some c ∧ c < s.heap.objs.size) ∨ (s.heap.objs.size + 1 ≤ c ∧ CellAt (pushCells (s.heap.push { cls := .type "frame", data := .dict #[] }) scope.names) c none) := fun {y c} e => by
    rw [hcl] at e
    rcases cells_mem (PySem.mem_of_lookup e) with hm | ⟨_, h2, h3⟩
    · exact .inl (cm hm)
    · rw [Heap.size_push] at h2; exact .inr ⟨h2, h3⟩
  have look : ∀ {y}, scope.names.lookup y = some .free → ∃ c, cenv.cells.lookup y = some c ∧ X.env.cells.lookup y = some c := fun {y} hl => by
    have hy : (y, NameKind.free) ∈ scope.names := PySem.mem_of_lookup hl
    obtain ⟨c', e'⟩ := mem_lookup (cells_acc (names := scope.names) (n := (s.heap.push { cls := .type "frame", data := .dict #[] }).objs.size) (cloFrom_has (cells := X.env.cells) (acc := []) hy))
    rw [← hcl] at e'
    refine ⟨c', e', ?_⟩
    rw [hcl] at e'
    rcases cells_mem (PySem.mem_of_lookup e') with hm | ⟨h1, _, _⟩
    · exact (cm hm).1
    · have := ok.uniq _ h1
      rw [hl] at this; cases this
  have okB : (gcx X B s H cenv fp).Ok := by
    refine ⟨I.ok.mod, by show cenv.scope.kind = _; rw [hsc]; exact ok.kind, by show cenv.globals = _; rw [← hcenv]; exact I.ok.glob, by show cenv.builtins = _; rw [← hcenv]; rfl, by show s.heap.objs.size ≤ cenv.locals; rw [hL]; exact Nat.le_refl _,
      fun y z c e1 e2 => ?_, fun y hy => ?_, fun y c z e => ?_, fun _ => hB, Around.frames_deeper hBf, .inr ⟨rfl, hfr⟩, fun b hb => ⟨?_, fun y c e z => ?_⟩, I.bs, Nat.le_trans I.ok.bsz I.sz, fun b o e hb => ?_, fun b hb z => ?_, I.stack, I.stkFree⟩
    · have e1 : cenv.cells.lookup y = some c := e1
      have e2 : cenv.cells.lookup z = some c := e2
      rw [hcl] at e1 e2
      refine cells_inj (fun p hp => ?_) (fun y z c a b => I.ok.inj y z c (cm a).1 (cm b).1) (PySem.mem_of_lookup e1) (PySem.mem_of_lookup e2)
      rw [Heap.size_push]
      exact Nat.lt_succ_of_lt (cm (y := p.1) (c := p.2) hp).2
    · show ∃ c, cenv.cells.lookup y = some c
      have hy : cenv.kindOf y = some .cell ∨ cenv.kindOf y = some .free := hy
      unfold Env.kindOf at hy
      rw [hsc] at hy
      rcases hy with e | e
      · obtain ⟨c, hm⟩ := cells_has (n := (s.heap.push { cls := .type "frame", data := .dict #[] }).objs.size) (acc := cloFrom X.env.cells scope.names []) (PySem.mem_of_lookup e)
        obtain ⟨c', e'⟩ := mem_lookup hm
        exact ⟨c', by rw [hcl]; exact e'⟩
      · obtain ⟨c, h1, _⟩ := look e
        exact ⟨c, h1⟩
    · have z : (cenv.scope.names.lookup y == some NameKind.cell) = true := z
      rw [hsc] at z
      have z : scope.names.lookup y = some .cell := by simpa using z
      have e : cenv.cells.lookup y = some c := e
      rw [hcl] at e
      rcases cells_mem (PySem.mem_of_lookup e) with hm | ⟨_, h2, _⟩
      · rcases cloFrom_mem hm with hm | ⟨h1, _⟩
        · cases hm
        · have q := ok.uniq _ h1
          rw [z] at q; cases q
      · rw [Heap.size_push] at h2
        exact Nat.le_of_succ_le h2
    · show b ≠ cenv.locals
      rw [hL]; exact Nat.ne_of_lt (hfp b hb).2
    · have e : cenv.cells.lookup y = some c := e
      rcases mem e with ⟨h1, _⟩ | ⟨h1, _⟩
      · exact (hfp b hb).1.2.2.2.2.1 y c h1 z
      · have h2 : s.heap.objs.size + 1 ≤ b := by rw [← z]; exact h1
        exact absurd (Nat.lt_of_lt_of_le (hfp b hb).2 (Nat.le_of_succ_le h2)) (Nat.lt_irrefl _)
    · rcases (hfp b hb).1.2.2.2.1 with z | z
      · exact I.ok.noex b o e z
      · exact absurd (Nat.lt_of_lt_of_le (Heap.lt_size e) (Nat.le_trans I.ok.bsz z)) (Nat.lt_irrefl _)
    · rcases List.mem_cons.mp (I.stkSub b z) with z | z
      · exact (hfp b hb).1.2.1 z
      · exact (hfp b hb).1.2.2.1 z
  refine ⟨okB, rfl, hg, Un.kept kp, ⟨fun y => if y = (".0" : Str) then some it else none, ?_, fun i y av e1 e2 e3 => ?_⟩, fun y c e => ?_, ?_, fun y c e => ?_, fun p hp => ?_, I.hok.kept kp, by rw [wipe_length]; exact I.len⟩
  · show Heap.Ns _ cenv.locals _
    rw [hL]
    exact hn.keeps hk
  · obtain ⟨e2, hne⟩ := wipe_some e2
    have hfr : scope.names.lookup y = some .free := by
      have key : ∀ k, scope.names.lookup y = some k → k = .local ∨ k = .cell ∨ k = .free → scope.names.lookup y = some .free := fun k hk hk' => by
        have no : ¬ (k = .local ∨ k = .cell) := fun hh => by
          rcases ok.own _ (PySem.mem_of_lookup hk) hh with e' | e'
          · obtain ⟨p, hp, hpy⟩ := List.mem_map.mp e'
            have e3 := ok.ix p hp
            have : p.1 = y := hpy
            rw [this] at e3
            exact hne (List.mem_map.mpr ⟨p, hp, nodup_ix hN e3 e1⟩)
          · exact e' (List.mem_of_getElem? e1)
        rcases hk' with rfl | rfl | rfl
        · exact absurd (.inl rfl) no
        · exact absurd (.inr rfl) no
        · exact hk
      have e3 : Vis cenv.scope y := e3
      rw [hsc] at e3
      rcases e3 with e3 | e3 | e3
      · exact key _ e3 (.inl rfl)
      · exact key _ e3 (.inr (.inl rfl))
      · exact key _ e3 (.inr (.inr rfl))
    obtain ⟨m, hn', hl⟩ := I.loc
    have hvis : Vis X.env.scope y := (ok.free _ (PySem.mem_of_lookup hfr) rfl).elim (fun k => .inr (.inl k)) (fun k => .inr (.inr k))
    obtain ⟨w, r, q⟩ := hl i y av e1 e2 hvis
    refine ⟨w, r, .inr ⟨.inr (by show cenv.scope.names.lookup y = _; rw [hsc]; exact hfr), ?_⟩⟩
    obtain ⟨c, h1, h2⟩ := look hfr
    rcases q with ⟨k, _⟩ | ⟨_, c', e', z⟩
    · have k : X.env.scope.names.lookup y = some .local := k
      rcases ok.free _ (PySem.mem_of_lookup hfr) rfl with k' | k' <;> rw [show X.env.scope.names.lookup y = _ from k'] at k <;> cases k
    · rw [h2] at e'; cases e'
      exact ⟨c, h1, z.keeps kp⟩
  · have e : cenv.cells.lookup y = some c := e
    rcases mem e with ⟨h1, _⟩ | ⟨h1, z⟩
    · obtain ⟨w, z⟩ := I.cell y c h1
      exact ⟨w, z.keeps kp⟩
    · exact ⟨_, cellk c _ (Nat.ne_of_gt h1) z⟩
  · show H cenv.locals = none
    rw [hL]; exact I.hok.fresh (Nat.le_refl _)
  · have e : cenv.cells.lookup y = some c := e
    rcases mem e with ⟨h1, _⟩ | ⟨h1, _⟩
    · exact I.freeC y c h1
    · exact I.hok.fresh (Nat.le_of_succ_le h1)
  · exact absurd (show p ∈ ([] : List (Addr × Obj)) ++ [] from hp) (by simp)
/-- the drawer's own place: the same, without the generator's frame on the stack -/
def gcc (X : Cx) (B : Around) (s : Shared) (H : Hp) (cenv : PySem.Env) (fp : List Addr) : Cx := { gcx X B s H cenv fp with A := B, stack := X.stack }
variable {B : Around} {s0 : Shared} {H0 : Hp} {cenv : PySem.Env} {fp : List Addr}
theorem _root_.L2.Inv.outG (hB : B.handled = none) (hBf : B.frames = some X.stack) {B' : Around} (I : Inv (gcx X B' s0 H0 cenv fp) pins σ H s) : Inv (gcc X B s0 H0 cenv fp) pins σ H s :=
  ⟨⟨I.ok.mod, I.ok.kind, I.ok.glob, I.ok.blt, I.ok.above, I.ok.inj, I.ok.has, I.ok.cab, fun _ => hB, hBf, .inl rfl, I.ok.exf, I.ok.bs, I.ok.bsz, I.ok.noex, I.ok.exfs, I.ok.funs, I.ok.frf⟩, I.os, I.bare, I.base, I.loc, I.cell, I.free, I.freeC, I.pin, I.hok, I.len⟩
theorem _root_.L2.Inv.inG {B' : Around} (I0 : (gcx X B' s0 H0 cenv fp).Ok) (I : Inv (gcc X B s0 H0 cenv fp) pins σ H s) : Inv (gcx X B' s0 H0 cenv fp) pins σ H s :=
  ⟨I0, I.os, I.bare, I.base, I.loc, I.cell, I.free, I.freeC, I.pin, I.hok, I.len⟩
/-- the table of generators is another -/
theorem _root_.L2.Inv.gens (I : Inv X pins σ H s) {g' : Array GenState} (hg : AllBare g') : Inv X pins σ H { s with gens := g' } :=
  ⟨I.ok, I.os, hg, I.base, I.loc, I.cell, I.free, I.freeC, I.pin, I.hok, I.len⟩
theorem _root_.L2.Inv.setGen (I : Inv X pins σ H s) {g : Nat} {x : GenState} (hx : x.bare = true) : Inv X pins σ H (s.setGen g x) := I.gens (allBare_setGen I.bare hx)
end
end Pw
/-! Pw8: a generator expression's loop, as far as the next item. -/
namespace Pw
open PySem PySem.Spec PyProof.Rows L2

/-- what the drawer keeps of its own: nothing; a list at S0 -/
def AccOk (K : PySem.W.Frag) (f : Gc) (S0 : Addr) (acc : List D) (P : List (Addr × Obj)) (H : Hp) (φ : Nat → Addr) (N : Nat) : Prop := match f with
  | .tuple => ∃ (arr : Array Value) (c : Nat) (vs : List V), P = [(S0, lstObj arr c)] ∧ Vals vs arr.toList ∧ RepL K H φ N acc vs ∧ acc.length ≤ sizeLine
  | .sum => ∃ (i : Int) (t : Tok) (c : Nat), acc = [.int i] ∧ P = [(S0, lstObj #[.int i t] c)]
  | _ => P = []
theorem AccOk.mono {K : PySem.W.Frag} {f : Gc} {S0 : Addr} {acc : List D} {P : List (Addr × Obj)} {H H' : Hp} {φ φ' : Nat → Addr} {N N' : Nat} (l : Le H φ N H' φ' N') (h : AccOk K f S0 acc P H φ N) : AccOk K f S0 acc P H' φ' N' := by
  cases f with
  | tuple => obtain ⟨arr, c, vs, e, r, z, hz⟩ := h; exact ⟨arr, c, vs, e, r, z.mono l, hz⟩
  | sum => exact h
  | all => exact h
  | any => exact h
  | next => exact h
theorem AccOk.at_ {K : PySem.W.Frag} {f : Gc} {S0 : Addr} {acc : List D} {P : List (Addr × Obj)} {H : Hp} {φ : Nat → Addr} {N : Nat} (h : AccOk K f S0 acc P H φ N) : ∀ p ∈ P, p.1 = S0 := by
  intro p hp
  cases f with
  | tuple => obtain ⟨arr, c, vs, rfl, _⟩ := h; rw [List.mem_singleton.mp hp]
  | sum => obtain ⟨i, t, c, _, rfl⟩ := h; rw [List.mem_singleton.mp hp]
  | all => rw [show P = [] from h] at hp; cases hp
  | any => rw [show P = [] from h] at hp; cases hp
  | next => rw [show P = [] from h] at hp; cases hp

/-- the drawer's own list is none of these -/
def Dj (f : Gc) (S0 : Addr) (ip : List (Addr × Obj)) : Prop := (f = .tuple ∨ f = .sum) → ∀ p ∈ ip, p.1 ≠ S0
theorem AccOk.mem {K : PySem.W.Frag} {f : Gc} {S0 : Addr} {acc : List D} {P : List (Addr × Obj)} {H : Hp} {φ : Nat → Addr} {N : Nat} (h : AccOk K f S0 acc P H φ N) (hf : f = .tuple ∨ f = .sum) : ∃ o, (S0, o) ∈ P := by
  rcases hf with rfl | rfl
  · obtain ⟨arr, c, vs, rfl, _⟩ := h; exact ⟨_, List.mem_cons_self⟩
  · obtain ⟨i, t, c, _, rfl⟩ := h; exact ⟨_, List.mem_cons_self⟩

section
-- G: the context of the generator's frame; H0, φ0, N0: where the walk of the source began
variable (G : Cx) (f : Gc) (ap : Addr × Obj) (S0 : Addr) (Q : KD) (H0 : Hp) (φ0 : Nat → Addr) (N0 : Nat)
/-- the drawer gets an item -/
def YG : ConsY := fun v s K => ∃ P ip σ H S φ acc y x, ∃ nx : Store → List D → Prop, Dj f S0 ip ∧ Inv G ((ap :: P) ++ ip) σ H s ∧ Wd G.K H φ S ∧ RelV x v ∧ RepV G.K H φ S.length y x ∧ Le H0 φ0 N0 H φ S.length ∧ AccOk G.K f S0 acc P H φ S.length ∧ stepG f acc y S nx Q ∧
  ∀ s'', (∃ P' H' S' φ' acc', Inv G ((ap :: P') ++ ip) σ H' s'' ∧ Wd G.K H' φ' S' ∧ Le H φ S.length H' φ' S'.length ∧ AccOk G.K f S0 acc' P' H' φ' S'.length ∧ nx S' acc') → K s''
/-- the generator has ended -/
def FG (fin : Store → List D → Prop) (s : Shared) : Prop := ∃ P ip σ H S φ acc, Dj f S0 ip ∧ Inv G ((ap :: P) ++ ip) σ H s ∧ Wd G.K H φ S ∧ Le H0 φ0 N0 H φ S.length ∧ AccOk G.K f S0 acc P H φ S.length ∧ fin S acc
end

theorem RepE.same {K : PySem.W.Frag} {H : Hp} {φ : Nat → Addr} {N : Nat} {env : Env} {σ : L2.St} (r : RepE K H φ N env σ) {σ' : L2.St} (e : σ = σ') : RepE K H φ N env σ' := e ▸ r
theorem wipe_len (σ : L2.St) (vs : List Nat) : (L2.wipe σ vs).length = σ.length := L2.wipe_length σ vs

/-- where the generator's loop stands, at the head of a turn -/
structure GHead (G : Cx) (f : Gc) (ap : Addr × Obj) (S0 : Addr) (fp : List Addr) (pl : List (Addr × Obj)) (H0 : Hp) (φ0 : Nat → Addr) (N0 : Nat) (env : Env) (S : Store) (acc : List D) (H : Hp) (φ : Nat → Addr) (s : Shared) : Prop where
  inv : ∃ P σ, Inv G ((ap :: P) ++ pl) σ H s ∧ RepE G.K H φ S.length env σ ∧ AccOk G.K f S0 acc P H φ S.length
  wd : Wd G.K H φ S
  le : Le H0 φ0 N0 H φ S.length
  nofp : ∀ b ∈ fp, H b = none

section
variable {CS : List Addr} {G : Cx} {f : Gc} {ap : Addr × Obj} {S0 : Addr} {Q : KD} {H0 : Hp} {φ0 : Nat → Addr} {N0 : Nat}
variable {A : Around} {R : Result → Shared → Prop} {e : Expr} {dp : Nat} {it : Addr} {p0 : Pos} {tg elt : Expr} {ifs : List Expr} {hnd : Value → Sem Unit} {fs : List Frame} {WT WI WE : W} {own : List Nat} {env1 : Env} {J : It} {src : Src} {tn : Nat → Heap → Prop} {H1 : Hp} {φ1 : Nat → Addr} {N1 : Nat} {pl : List (Addr × Obj)} {fq : List Addr}
/-- the loop of the last clause -/
theorem sg_loop (hpl : Dj f S0 pl) (hcalm : G.calm = true) (hxe : G.xe = fun _ _ => False) (hco : G.env.scope.isCoroutine = false)
    (hden : (model G.prog G.w).den (.compLoop e dp (.ref it) .none G.env) = (compTurn e dp (.ref it) .none G.env).onRaise hnd)
    (hturn : compTurn e dp (.ref it) .none G.env = (do
      standAt p0
      match ← pyNext (.ref it) with
      | none => pure (.done .next)
      | some v =>
        letOwnedTupleGo tg (.ref it) v
        assign tg G.env v
        let mut ok := true
        for c in ifs do
          if ok then ok ← isTrue c G.env (eval c G.env)
        if ok then
          (do let v ← eval elt G.env; standAt elt.pos; let _ ← yieldOut G.env v)
        again (.compLoop e dp (.ref it) .none G.env)))
    (hquiet : (Code.compLoop e dp (.ref it) .none G.env).quiet = true)
    (hover : A.over (.compLoop e dp (.ref it) .none G.env) fs = G.A) (hsplit : splitAtGen fs = none) (hguard : fs.any Frame.guarded = false)
    (T : Turn G.prog G.w G.K tg J fq it tn) (wk : Walks G.K H1 φ1 N1 J src)
    (hfq : ∀ (H : Hp) (P : List (Addr × Obj)), (∃ acc φ N, AccOk G.K f S0 acc P H φ N) → (∀ b ∈ fq, H b = none) → ∀ b ∈ fq, FpOk G ((ap :: P) ++ pl) H b)
    (hg : PG G tg (tG CS G WT.g)) (hi : PTs G ifs (tT CS G WI.ts)) (he : PE G elt (tE CS G WE.e)) (mT : MW WT) (mI : MW WI) (mE : MW WE)
    (hown : ∀ d env S R, WT.g d env S R → WT.g d env S fun σ1 S1 => wipeE σ1 own = wipeE env own ∧ R σ1 S1)
    (hw1 : wipeE env1 own = env1) {fin : Store → List D → Prop} (hcode : ∀ H φ N, Le H1 φ1 N1 H φ N → CodeAt CS G H)
    (hle0 : ∀ H φ N, Le H1 φ1 N1 H φ N → Le H0 φ0 N0 H φ N)
    (hend : ∀ S acc H φ s, GHead G f ap S0 fq pl H0 φ0 N0 env1 S acc H φ s → Le H1 φ1 N1 H φ S.length → fin S acc → Sg (model G.prog G.w) A R (YG G f ap S0 Q H0 φ0 N0) (.compLoop e dp (.ref it) .none G.env) (leafOf (.ok .next)) fs s) :
    ∀ (ds : List D) (i : Nat) (S : Store) (acc : List D) (H : Hp) (φ : Nat → Addr) (s : Shared), i + ds.length = src.items.length → src.items.drop i = ds → GHead G f ap S0 fq pl H0 φ0 N0 env1 S acc H φ s → Le H1 φ1 N1 H φ S.length → tn i s.heap →
      compL src.gd (fun d S acc nx => WT.g d env1 S fun σ1 S2 => WI.ts σ1 S2 fun b S3 => if b then WE.e σ1 S3 fun y S4 => stepG f acc y S4 nx Q else nx S3 acc) fin ds S acc →
      Sg (model G.prog G.w) A R (YG G f ap S0 Q H0 φ0 N0) (.compLoop e dp (.ref it) .none G.env) ((model G.prog G.w).den (.compLoop e dp (.ref it) .none G.env)) fs s := by
  intro ds
  induction ds with
  | nil =>
    intro i S acc H φ s hn hds hh hle ht hc
    obtain ⟨hgd, hfin⟩ := hc
    have hh0 := hh
    obtain ⟨⟨P, σ, I, re, ao⟩, wd, le0, nofp⟩ := hh
    have hn : i = src.items.length := hn
    rw [hden, hturn, Sem.onRaise_eq_wrap]
    refine sg_bind_wrap (wpAny_standAt ?_)
    refine sg_bind_wrap ?_
    rw [hover]
    refine thnF (T.done G rfl rfl rfl hcalm i _ s σ H (fun _ _ => False) I (hfq H P ⟨_, _, _, ao⟩ nofp) ht (by rw [hn]; exact wk.stop φ S H hle wd hgd)) fun r s' ⟨hr, I'⟩ => ?_
    subst hr
    exact hend S acc H φ s' ⟨⟨P, σ, I', re, ao⟩, wd, le0, nofp⟩ hle hfin
  | cons d ds ih =>
    intro i S acc H φ s hn hds hh hle ht hc
    obtain ⟨hgd, hb⟩ := hc
    obtain ⟨⟨P, σ, I, re, ao⟩, wd, le0, nofp⟩ := hh
    have hlt : i < src.items.length := by rw [← hn]; simp
    have hd : src.items[i]? = some d := by
      have q := congrArg (·[0]?) hds
      simp only [List.getElem?_drop, Nat.add_zero, List.getElem?_cons_zero] at q
      exact q
    have hds' : src.items.drop (i + 1) = ds := by
      have q := congrArg (List.drop 1) hds
      simpa [List.drop_drop] using q
    have hn' : i + 1 + ds.length = src.items.length := by rw [← hn]; simp only [List.length_cons]; omega
    rw [hden, hturn, Sem.onRaise_eq_wrap]
    refine sg_bind_wrap (wpAny_standAt ?_)
    refine sg_bind_wrap ?_
    rw [hover]
    refine thnF (T.item G rfl rfl rfl hcalm i _ s σ H (fun _ _ => False) I (hfq H P ⟨_, _, _, ao⟩ nofp) ht (wk.go i φ S H hlt hle wd hgd)) fun r s6 ⟨u, hr, h6⟩ => ?_
    subst hr
    refine sg_bind_wrap ?_
    rw [hover]
    refine thnF h6 fun _ s7 ⟨x, H7, I7, r7, y7, st7, n7⟩ => ?_
    obtain ⟨d', hd', l7, wd7, rv7⟩ := wk.yld i φ S H x H7 hlt hle wd hgd y7
    rw [hd] at hd'; cases hd'
    have I7' := I7.pinned (hfq H7 P ⟨_, _, _, ao.mono l7⟩ n7) (T.obj _ _ st7)
    have le7 : Le H1 φ1 N1 H7 φ S.length := hle.trans l7
    have a7 : At CS G env1 S φ σ H7 := ⟨re.mono l7, wd7, hcode _ _ _ le7⟩
    have pinned : ∀ {P' : List (Addr × Obj)} {σ' : L2.St} {H' : Hp} {s' : Shared}, Inv G ((ap :: P') ++ (pl ++ pinsAt fq s7.heap)) σ' H' s' → Inv G ((ap :: P') ++ pl) σ' H' s' ∧ tn (i + 1) s'.heap ∧ ∀ b ∈ fq, H' b = none := fun {P' σ' H' s'} I' => by
      have pin' : ∀ b ∈ fq, ∀ o, s7.heap.get? b = some o → s'.heap.get? b = some o ∧ H' b = none := fun b hb o e =>
        let z := I'.pin (b, o) (List.mem_append_right _ (List.mem_append_right _ (List.mem_append_right _ (mem_pinsAt hb e))))
        ⟨z.1, z.2.1⟩
      refine ⟨?_, T.keep _ _ _ st7 fun b hb o e => (pin' b hb o e).1, fun b hb => ?_⟩
      · rw [← List.append_assoc] at I'
        exact I'.unpinned
      · obtain ⟨o, e, _⟩ := T.obj _ _ st7 b hb
        exact (pin' b hb o e).2
    -- the next turn
    have next : ∀ {P' : List (Addr × Obj)} {σ' : L2.St} {H' : Hp} {s' : Shared} {S' : Store} {φ' : Nat → Addr} {acc' : List D} {env2 : Env}, Inv G ((ap :: P') ++ (pl ++ pinsAt fq s7.heap)) σ' H' s' → Wd G.K H' φ' S' → Le H7 φ S.length H' φ' S'.length → AccOk G.K f S0 acc' P' H' φ' S'.length → RepE G.K H' φ' S'.length env2 σ' → wipeE env2 own = env1 →
        compL src.gd (fun d S acc nx => WT.g d env1 S fun σ1 S2 => WI.ts σ1 S2 fun b S3 => if b then WE.e σ1 S3 fun y S4 => stepG f acc y S4 nx Q else nx S3 acc) fin ds S' acc' →
        Sg (model G.prog G.w) A R (YG G f ap S0 Q H0 φ0 N0) (.compLoop e dp (.ref it) .none G.env) (.pure (.again (.compLoop e dp (.ref it) .none G.env))) fs s' := fun {P' σ' H' s' S' φ' acc' env2} I' w' l' a' re' hw hc' => by
      obtain ⟨I2, t2, n2⟩ := pinned I'
      refine sg_again hquiet (ih (i + 1) S' acc' H' φ' s' hn' hds' ⟨⟨P', L2.wipe σ' own, I2.weak (L2.wipe_length _ _) fun j v q => (L2.wipe_some q).1, ?_, a'⟩, w', hle0 _ _ _ (le7.trans l'), n2⟩ (le7.trans l') t2 hc')
      rw [← hw]
      exact re'.wipe own
    refine sg_bind_wrap ?_
    rw [hover]
    have hb' := hown _ _ _ _ hb
    have step1 : tG CS G WT.g x σ H7 fun σ8 H8 => ∃ env2 S2 φ2, Le H7 φ S.length H8 φ2 S2.length ∧ At CS G env2 S2 φ2 σ8 H8 ∧ (wipeE env2 own = wipeE env1 own ∧ WI.ts env2 S2 fun b S3 => if b then WE.e env2 S3 fun y S4 => stepG f acc y S4 (fun S' acc' => compL src.gd (fun d S acc nx => WT.g d env1 S fun σ1 S2 => WI.ts σ1 S2 fun b S3 => if b then WE.e σ1 S3 fun y S4 => stepG f acc y S4 nx Q else nx S3 acc) fin ds S' acc') Q
        else compL src.gd (fun d S acc nx => WT.g d env1 S fun σ1 S2 => WI.ts σ1 S2 fun b S3 => if b then WE.e σ1 S3 fun y S4 => stepG f acc y S4 nx Q else nx S3 acc) fin ds S3 acc) :=
      tG_mk mT a7 rv7 hb' fun env2 S2 φ2 σ8 H8 l8 a8 r8 => ⟨env2, S2, φ2, l8, a8, r8⟩
    refine thnF (wpAny_mono (hg.run _ s7 σ H7 x u _ I7' r7 step1) (fun _ _ q => q) fun _ _ q => by rw [hxe] at q; exact q) fun _ s8 ⟨σ8, H8, I8, env2, S2, φ2, l8, a8, hw8, q8⟩ => ?_
    rw [hw1] at hw8
    refine sg_bind_wrap ?_
    rw [hover]
    have step2 := tTs_mk (G := fun b H9 => ∃ S3 φ3, Le H8 φ2 S2.length H9 φ3 S3.length ∧ At CS G env2 S3 φ3 σ8 H9 ∧ _) mI a8 q8 fun b S3 φ3 H9 l9 a9 r9 => ⟨S3, φ3, l9, a9, r9⟩
    refine thnF (wpAny_mono (hi.run _ s8 σ8 H8 _ I8 step2) (fun _ _ q => q) fun _ _ q => by rw [hxe] at q; exact q) fun b s9 ⟨H9, I9, S3, φ3, l9, a9, q9⟩ => ?_
    rw [List.append_assoc] at I9
    have l89 : Le H7 φ S.length H9 φ3 S3.length := l8.trans l9
    cases b with
    | false =>
      simp only [Bool.false_eq_true, if_false] at q9 ⊢
      exact next I9 a9.w l89 ((ao.mono l7).mono l89) a9.e hw8 q9
    | true =>
      simp only [if_true] at q9 ⊢
      have hy : ∀ v, yieldOut G.env v = yieldValue v := fun v => by simp only [yieldOut, hco, Bool.false_eq_true, if_false]
      simp only [hy]
      rw [Sem.bind_eq_wrap', Sem.bind_eq_wrap', Sem.wrap_wrap, Sem.wrap_wrap]
      refine sg_wrap ?_
      rw [hover]
      have step3 := tE_mk (G := fun y H10 => ∃ d4 S4 φ4, Le H9 φ3 S3.length H10 φ4 S4.length ∧ At CS G env2 S4 φ4 σ8 H10 ∧ RepV G.K H10 φ4 S4.length d4 y ∧ _) mE a9 q9 fun d4 S4 φ4 y H10 l10 a10 rv10 r10 => ⟨d4, S4, φ4, l10, a10, rv10, r10⟩
      refine thnF (wpAny_mono (he.run _ s9 σ8 H9 _ I9 step3) (fun _ _ q => q) fun _ _ q => by rw [hxe] at q; exact q) fun z s10 ⟨yv, H10, I10, r10, d4, S4, φ4, l10, a10, rv10, q10⟩ => ?_
      have l710 : Le H7 φ S.length H10 φ4 S4.length := l89.trans l10
      refine sg_at (sg_yield hsplit rfl hguard ⟨P, pl ++ pinsAt fq s7.heap, σ8, H10, S4, φ4, acc, d4, yv, _, fun hf p hp => ?_, I10, a10.w, r10, rv10, hle0 _ _ _ (le7.trans l710), (ao.mono l7).mono l710, q10, fun s'' q => q⟩ ?_)
      · rcases List.mem_append.mp hp with hp | hp
        · exact hpl hf p hp
        · obtain ⟨o, ho⟩ := ao.mem hf
          exact fun z => (hfq H7 P ⟨_, _, _, ao.mono l7⟩ n7 p.1 (of_pinsAt hp).1).2.2.2.2.2 (S0, o) (List.mem_append_right _ (List.mem_append_left _ (List.mem_cons_of_mem _ ho))) z.symm
      · rintro s'' ⟨P', H', S', φ', acc', I', w', l', a', hc'⟩
        exact next I' w' (l710.trans l') a' (a10.e.mono l') hw8 hc'
end
end Pw
set_option maxHeartbeats 1000000
/-! Pw9: who draws a generator: all, any, sum, next, tuple. -/
namespace Pw
open PySem PySem.Spec PyProof.Rows L2

/-- a value's truth, the state behind it -/
theorem tru_st {X : Cx} {pins : List (Addr × Obj)} {σ : L2.St} {H : Hp} {s : Shared} {x : V} {v : Value} {k : Bool} {A : Around} {Q : Bool → Shared → Prop} {E : Value → Shared → Prop} (I : Inv X pins σ H s) (rx : RelV x v) (e : TruV X.K x H k)
    (q : ∀ t, Q k { s with toks := t }) : wpAny (model X.prog X.w) A (truthy v) Q E s := by
  have hl := line63
  have hs : sizeLine = 16777216 := sizeLine_eq
  cases x with
  | non =>
    cases rx
    have e' : k = false := e
    subst e'
    exact truthy_none (q s.toks)
  | bl b =>
    cases rx
    have e' : k = b := e
    subst e'
    exact wpAny_truthy_bool (q s.toks)
  | int i =>
    obtain ⟨t, rfl⟩ := rx
    have e' : k = (i != 0) := e
    subst e'
    exact PySem.P.truthy_int (q s.toks)
  | str y =>
    obtain ⟨t, rfl⟩ := rx
    obtain ⟨hy, e'⟩ : y.length ≤ sizeLine ∧ k = ((y.length : Int) != 0) := e
    subst e'
    exact PySem.P.truthy_str (by omega) (q _)
  | byt y =>
    obtain ⟨t, rfl⟩ := rx
    obtain ⟨hy, e'⟩ : y.size ≤ sizeLine ∧ k = ((y.size : Int) != 0) := e
    subst e'
    exact PySem.W.truthy_bytes (by omega) (q _)
  | ref p =>
    cases rx
    have e' : (∃ xs, SqL X.K H p xs ∧ k = !xs.isEmpty) ∨ (∃ xs, SqT X.K H p xs ∧ k = !xs.isEmpty) ∨ ∃ kvs, H p = some (.dK kvs) ∧ k = !kvs.isEmpty := e
    rcases e' with ⟨xs, hx, e'⟩ | ⟨xs, hx, e'⟩ | ⟨kvs, hx, e'⟩
    · subst e'
      obtain ⟨its, r, pl, hz⟩ := I.list hx
      have hlen := r.length
      exact wpAny_truthy_list pl.isList (by simp only [List.size_toArray]; omega) (by rw [isEmpty_of r]; exact q _)
    · subst e'
      obtain ⟨its, r, pl, hz⟩ := I.tuple hx
      have hlen := r.length
      exact truthy_tuple pl (by simp only [List.size_toArray]; omega) (by rw [isEmpty_of r]; exact q _)
    · subst e'
      obtain ⟨hz, hS, vs, r, m⟩ : kvs.length ≤ sizeLine ∧ (p == sysModules) = false ∧ ∃ vs, KV kvs vs ∧ s.heap.DictOf (mixKind X.prog X.w) p vs := I.hok p _ hx
      have hlen : kvs.length = vs.length := Paired.length r
      exact wpAny_truthy_dict hS m (by omega) (by rw [isEmpty_kv r]; exact q _)
  | _ => exact (show False from e).elim
theorem isEmpty_len {α β : Type} {a : List α} {b : List β} (h : a.length = b.length) : (!a.isEmpty) = !b.isEmpty := by
  cases a <;> cases b <;> simp at h ⊢
theorem paired_isEmpty {α β : Type} {F : α → β → Prop} {a : List α} {b : List β} (h : Paired F a b) : (!a.isEmpty) = !b.isEmpty := by
  cases h <;> rfl
theorem Wd.tru {K : PySem.W.Frag} {H : Hp} {φ : Nat → Addr} {S : Store} (w : Wd K H φ S) {d : D} {x : V} {k : Bool} (r : RepV K H φ S.length d x) (h : truD S d = some k) : TruV K x H k := by
  cases r with
  | non => cases h; rfl
  | bl b => cases h; rfl
  | int i => cases h; rfl
  | str s =>
    unfold truD at h
    dsimp only at h
    split at h
    · rename_i hs; cases h; exact ⟨hs, rfl⟩
    · cases h
  | tup q r =>
    cases h
    exact .inr (.inl ⟨_, q.sqt, isEmpty_len r.length⟩)
  | loc n hn =>
    unfold truD at h
    dsimp only at h
    split at h
    · rename_i xs hx
      cases h
      obtain ⟨vs, q, r⟩ := w.seq (.inl hx)
      exact .inl ⟨vs, q, isEmpty_len r.length⟩
    · rename_i xs hx
      cases h
      obtain ⟨vs, q, r⟩ := w.seq (.inr hx)
      exact .inl ⟨vs, q, isEmpty_len r.length⟩
    · rename_i kvs hx
      cases h
      obtain ⟨k, q, r⟩ := w.cell _ _ hx
      exact .inr (.inr ⟨k, q, paired_isEmpty r⟩)
    · cases h

section
variable (G : Cx) (H0 : Hp) (φ0 : Nat → Addr) (N0 : Nat) (Q : KD)
/-- what the drawer hands back -/
def OutG (u : Value) (s : Shared) : Prop := ∃ pins σ H φ S d x, Inv G pins σ H s ∧ Le H0 φ0 N0 H φ S.length ∧ Wd G.K H φ S ∧ RelV x u ∧ RepV G.K H φ S.length d x ∧ Q d S
end
/-- the end of the generator, as a result -/
def RG (G : Cx) (f : Gc) (ap : Addr × Obj) (S0 : Addr) (H0 : Hp) (φ0 : Nat → Addr) (N0 : Nat) (fin : Store → List D → Prop) : Result → Shared → Prop := fun r s => r = .ok .next ∧ FG G f ap S0 H0 φ0 N0 fin s
section
variable {G : Cx} {ap : Addr × Obj} {pl : List (Addr × Obj)} {g : Nat} {H0 : Hp} {φ0 : Nat → Addr} {N0 : Nat} {Q : KD} {A : Around} {dflt : D}
theorem setGen_toks (s : Shared) (g : Nat) (x : GenState) (t : Nat) : ({ s with toks := t } : Shared).setGen g x = { s.setGen g x with toks := t } := rfl
theorem gens_at {s : Shared} {g : Nat} {x : GenState} (h : g < s.gens.size) : (s.setGen g x).gens[g]? = some x := setGen_at h
theorem inv_ap {P ip : List (Addr × Obj)} {σ : L2.St} {H : Hp} {s : Shared} (I : Inv G ((ap :: P) ++ ip) σ H s) : s.heap.get? ap.1 = some ap.2 := (I.pin ap (List.mem_append_right _ (List.mem_append_left _ List.mem_cons_self))).1
theorem le_refl' (H : Hp) (φ : Nat → Addr) (N : Nat) : Le H φ N H φ N := .refl H φ N

theorem all_loop {S0 : Addr} (hh : A.handled = none) (hroom : A.depth < recursionLimit) (hgo : ∀ h : Heap, h.get? ap.1 = some ap.2 → h.IsGen ap.1 g) {c : Code} {t : Sem PySem.Fin} {fs : List Frame} {s : Shared}
    (hs : Sg (model G.prog G.w) A.in1.in1 (RG G .all ap S0 H0 φ0 N0 fun S acc => endG .all dflt acc S Q) (YG G .all ap S0 Q H0 φ0 N0) c t fs s) :
    ∀ (s0 : Shared) (gs : GenState), s0.gens[g]? = some gs → Wk (model G.prog G.w) gs c t fs → s0.setGen g .running = s → s0.heap.get? ap.1 = some ap.2 → s0.heap.NoLimit →
      codeAny (model G.prog G.w) A (.builtin "all.loop" ⟨[.ref ap.1], []⟩) (fun r s' => ∃ u, r = .ok (.ret u) ∧ OutG G H0 φ0 N0 Q u s') s0 := by
  induction hs with
  | @mk c t fs s Z hst hz ih =>
    intro s0 gs hgs hw he hap hl
    subst he
    refine codeAny_builtin F.entry_all_loop ?_
    rw [Around.under_plainId F.plain_all_loop _]
    show wpAny _ A.in1 (pyNext (.ref ap.1) >>= _) _ _ s0
    refine wpAny_bind (next_sg (A := A.in1) hh hl hroom (hgo _ hap) hgs hw hst (fun v s1 gs' c' t' fs' hsz hb hw' hv => ?_) fun s1 hF h' hk => ?_)
    · obtain ⟨K, ⟨P, ip, σ, H, S, φ, acc, y, x, nx, hip, I, wd, rx, ry, le, ao, stp, hK⟩, hKZ⟩ := hv
      refine wpAny_bind (wpAny_holding ?_)
      have I1 : Inv G ((ap :: P) ++ ip) σ H (s1.setGen g gs') := I.setGen hb
      cases hy : truD S y with
      | none => simp only [stepG, hy] at stp
      | some k =>
        refine tru_st I1 rx (wd.tru ry hy) fun tk => ?_
        refine wpAny_bind (wpAny_letGo ?_)
        have I2 : Inv G ((ap :: P) ++ ip) σ H { s1.setGen g gs' with toks := tk } := I1.tok tk
        cases k with
        | true =>
          simp only [stepG, hy] at stp
          simp only [if_true]
          refine wpAny_pure ⟨plainId_quiet F.plain_all_loop _, ih _ _ _ _ (hKZ _ (hK _ ?_)) _ gs' (gens_at hsz) hw' rfl (inv_ap I2) I2.nolimit⟩
          exact ⟨P, H, S, φ, acc, I2.setGen rfl, wd, .refl _ _ _, ao, stp⟩
        | false =>
          simp only [stepG, hy] at stp
          simp only [Bool.false_eq_true, if_false]
          refine wpAny_bind (wpAny_rule (wpAny_pure ?_))
          exact ⟨_, rfl, _, _, _, _, S, .bl false, .bl false, I2, le, wd, rfl, .bl _, stp⟩
    · obtain ⟨P, ip, σ, H, S, φ, acc, hip, I, wd, le, ao, fin⟩ := hF
      refine wpAny_bind (wpAny_rule (wpAny_pure ?_))
      have I1 := (I.setGen (g := g) (x := .finished) rfl).kept (t' := (s1.setGen g .finished).toks) hk
      exact ⟨_, rfl, _, _, _, _, S, .bl true, .bl true, I1, le, wd, rfl, .bl _, fin⟩
theorem any_loop {S0 : Addr} (hh : A.handled = none) (hroom : A.depth < recursionLimit) (hgo : ∀ h : Heap, h.get? ap.1 = some ap.2 → h.IsGen ap.1 g) {c : Code} {t : Sem PySem.Fin} {fs : List Frame} {s : Shared}
    (hs : Sg (model G.prog G.w) A.in1.in1 (RG G .any ap S0 H0 φ0 N0 fun S acc => endG .any dflt acc S Q) (YG G .any ap S0 Q H0 φ0 N0) c t fs s) :
    ∀ (s0 : Shared) (gs : GenState), s0.gens[g]? = some gs → Wk (model G.prog G.w) gs c t fs → s0.setGen g .running = s → s0.heap.get? ap.1 = some ap.2 → s0.heap.NoLimit →
      codeAny (model G.prog G.w) A (.builtin "any.loop" ⟨[.ref ap.1], []⟩) (fun r s' => ∃ u, r = .ok (.ret u) ∧ OutG G H0 φ0 N0 Q u s') s0 := by
  induction hs with
  | @mk c t fs s Z hst hz ih =>
    intro s0 gs hgs hw he hap hl
    subst he
    refine codeAny_builtin F.entry_any_loop ?_
    rw [Around.under_plainId F.plain_any_loop _]
    show wpAny _ A.in1 (pyNext (.ref ap.1) >>= _) _ _ s0
    refine wpAny_bind (next_sg (A := A.in1) hh hl hroom (hgo _ hap) hgs hw hst (fun v s1 gs' c' t' fs' hsz hb hw' hv => ?_) fun s1 hF h' hk => ?_)
    · obtain ⟨K, ⟨P, ip, σ, H, S, φ, acc, y, x, nx, hip, I, wd, rx, ry, le, ao, stp, hK⟩, hKZ⟩ := hv
      refine wpAny_bind (wpAny_holding ?_)
      have I1 : Inv G ((ap :: P) ++ ip) σ H (s1.setGen g gs') := I.setGen hb
      cases hy : truD S y with
      | none => simp only [stepG, hy] at stp
      | some k =>
        refine tru_st I1 rx (wd.tru ry hy) fun tk => ?_
        refine wpAny_bind (wpAny_letGo ?_)
        have I2 : Inv G ((ap :: P) ++ ip) σ H { s1.setGen g gs' with toks := tk } := I1.tok tk
        cases k with
        | false =>
          simp only [stepG, hy] at stp
          simp only [Bool.false_eq_true, if_false]
          refine wpAny_pure ⟨plainId_quiet F.plain_any_loop _, ih _ _ _ _ (hKZ _ (hK _ ?_)) _ gs' (gens_at hsz) hw' rfl (inv_ap I2) I2.nolimit⟩
          exact ⟨P, H, S, φ, acc, I2.setGen rfl, wd, .refl _ _ _, ao, stp⟩
        | true =>
          simp only [stepG, hy] at stp
          simp only [if_true]
          refine wpAny_bind (wpAny_rule (wpAny_pure ?_))
          exact ⟨_, rfl, _, _, _, _, S, .bl true, .bl true, I2, le, wd, rfl, .bl _, stp⟩
    · obtain ⟨P, ip, σ, H, S, φ, acc, hip, I, wd, le, ao, fin⟩ := hF
      refine wpAny_bind (wpAny_rule (wpAny_pure ?_))
      have I1 := (I.setGen (g := g) (x := .finished) rfl).kept (t' := (s1.setGen g .finished).toks) hk
      exact ⟨_, rfl, _, _, _, _, S, .bl false, .bl false, I1, le, wd, rfl, .bl _, fin⟩
/-- the drawer's own list is written -/
theorem repin {S0 : Addr} {ip : List (Addr × Obj)} {σ : L2.St} {H : Hp} {s : Shared} {o o' : Obj} {h' : Heap} {t' : Nat} (hpn : G.pn = []) (hS : G.s_0.heap.objs.size ≤ S0) (hap : ap.1 ≠ S0) (hip : ∀ p ∈ ip, p.1 ≠ S0) (hc : ∀ v, o'.data ≠ .cell v) (I : Inv G ((ap :: [(S0, o)]) ++ ip) σ H s)
    (k : ∀ b u, b ≠ S0 → s.heap.get? b = some u → h'.get? b = some u) (e : h'.get? S0 = some o') : Inv G ((ap :: [(S0, o')]) ++ ip) σ H { s with heap := h', toks := t' } := by
  obtain ⟨e1, e2, e3, e4, e5⟩ := I.pin (S0, o) (List.mem_append_right _ (List.mem_append_left _ (List.mem_cons_of_mem _ List.mem_cons_self)))
  have I0 : Inv G (ap :: ip) σ H s := I.pins_of fun p hp => I.pin p (List.mem_append_right _ (by
    rcases List.mem_cons.mp hp with rfl | hp
    · exact List.mem_append_left _ List.mem_cons_self
    · exact List.mem_append_right _ hp))
  have I1 : Inv G (ap :: ip) σ H { s with heap := h', toks := t' } := I0.turned k e2 e3 (.inr hS) (fun x c hx z => by
    obtain ⟨v, oc, ho, hd⟩ := I.cell x c hx
    rw [z, e1] at ho; cases ho
    exact e5 v hd) fun p hp => by
      rw [hpn, List.nil_append] at hp
      rcases List.mem_cons.mp hp with rfl | hp
      · exact hap
      · exact hip p hp
  refine I1.pins_of fun p hp => ?_
  rcases List.mem_append.mp hp with hp | hp
  · rcases List.mem_cons.mp hp with rfl | hp
    · exact I1.pin p (List.mem_append_right _ List.mem_cons_self)
    · rw [List.mem_singleton.mp hp]
      exact ⟨e, e2, e3, e4, hc⟩
  · exact I1.pin p (List.mem_append_right _ (List.mem_cons_of_mem _ hp))
theorem lstObj_cell (acc : Array Value) (c : Nat) : ∀ v, (lstObj acc c).data ≠ .cell v := fun v q => by cases q
theorem ext_loop {S0 : Addr} {res : Value} (hpn : G.pn = []) (hS : G.s_0.heap.objs.size ≤ S0) (haS : ap.1 ≠ S0) (hh : A.handled = none) (hroom : A.depth < recursionLimit) (hgo : ∀ h : Heap, h.get? ap.1 = some ap.2 → h.IsGen ap.1 g) {fin : Store → List D → Prop} {c : Code} {t : Sem PySem.Fin} {fs : List Frame} {s : Shared}
    (hs : Sg (model G.prog G.w) A.in1.in1 (RG G .tuple ap S0 H0 φ0 N0 fin) (YG G .tuple ap S0 Q H0 φ0 N0) c t fs s) :
    ∀ (s0 : Shared) (gs : GenState), s0.gens[g]? = some gs → Wk (model G.prog G.w) gs c t fs → s0.setGen g .running = s → s0.heap.get? ap.1 = some ap.2 → s0.heap.NoLimit →
      codeAny (model G.prog G.w) A (.builtin "list.extend.loop" ⟨[.ref S0, .ref ap.1, res], []⟩) (fun r s' => r = .ok (.ret res) ∧ FG G .tuple ap S0 H0 φ0 N0 fin s') s0 := by
  induction hs with
  | @mk c t fs s Z hst hz ih =>
    intro s0 gs hgs hw he hap hl
    subst he
    refine codeAny_builtin F.entry_extend_loop ?_
    rw [Around.under_plainId F.plain_extend_loop _]
    show wpAny _ A.in1 (pyNext (.ref ap.1) >>= _) _ _ s0
    refine wpAny_bind (next_sg (A := A.in1) hh hl hroom (hgo _ hap) hgs hw hst (fun v s1 gs' c' t' fs' hsz hb hw' hv => ?_) fun s1 hF h' hk => ?_)
    · obtain ⟨K, ⟨P, ip, σ, H, S, φ, acc, y, x, nx, hip, I, wd, rx, ry, le, ⟨arr, ca, vs, rfl, ra, rl, hal⟩, ⟨hlen, stp⟩, hK⟩, hKZ⟩ := hv
      have I1 : Inv G ((ap :: [(S0, lstObj arr ca)]) ++ ip) σ H (s1.setGen g gs') := I.setGen hb
      obtain ⟨e1, e2, e3, e4, e5⟩ := I1.pin (S0, lstObj arr ca) (List.mem_append_right _ (List.mem_append_left _ (List.mem_cons_of_mem _ List.mem_cons_self)))
      have hsz2 : arr.size < sizeLine := by
        have q1 := ra.length
        have q2 := rl.length
        have q3 : arr.toList.length = arr.size := by simp
        omega
      show wpAny _ A.in1 (updateSeq S0 (·.push v) >>= _) _ _ _
      refine wpAny_bind ?_
      obtain ⟨c2, hup⟩ : ∃ c2, ((s1.setGen g gs').heap.update S0 (Obj.mapSeq (·.push v))).get? S0 = some (lstObj (arr.push v) c2) := ⟨_, Heap.get?_update_self _ e1 rfl⟩
      have I2 := repin (t' := (s1.setGen g gs').toks) hpn hS haS (hip (.inl rfl)) (lstObj_cell (arr.push v) c2) I1 (fun b u hb q => (Heap.get?_update_other _ _ (Ne.symm hb)).trans q) hup
      refine wpAny_updateSeq e1 rfl (wpAny_pure ⟨plainId_quiet F.plain_extend_loop _, ih _ _ _ _ (hKZ _ (hK _ ?_)) _ gs' (gens_at hsz) hw' rfl (inv_ap I2) I2.nolimit⟩) (Nat.le_of_lt hsz2) (by show (arr.push v).size ≤ sizeLine + 1; rw [Array.size_push]; omega)
      refine ⟨_, H, S, φ, acc ++ [y], I2.setGen rfl, wd, .refl _ _ _, ⟨arr.push v, _, vs ++ [x], rfl, ?_, rl.snoc ry, by rw [List.length_append]; exact hlen⟩, stp⟩
      rw [Array.toList_push]
      exact ra.append (.cons rx .nil)
    · obtain ⟨P, ip, σ, H, S, φ, acc, hip, I, wd, le, ao, fin⟩ := hF
      have I1 := (I.setGen (g := g) (x := .finished) rfl).kept (t' := (s1.setGen g .finished).toks) hk
      exact wpAny_pure ⟨rfl, P, ip, σ, H, S, φ, acc, hip, I1, wd, le, ao, fin⟩
end

/-! ### the calls -/
section
variable {G : Cx} {ap : Addr × Obj} {pl : List (Addr × Obj)} {g : Nat} {H0 : Hp} {φ0 : Nat → Addr} {N0 : Nat} {Q : KD} {A : Around} {dflt : D} {c : Code} {s : Shared} {σ : L2.St} {H : Hp} {E : Value → Shared → Prop}
/-- the generator has not begun -/
structure Fresh (G : Cx) (ap : Addr × Obj) (pl : List (Addr × Obj)) (g : Nat) (c : Code) (σ : L2.St) (H : Hp) (s : Shared) : Prop where
  inv : Inv G (ap :: pl) σ H s
  gen : s.gens[g]? = some (.fresh c)
  go : ∀ h : Heap, h.get? ap.1 = some ap.2 → h.IsGen ap.1 g
theorem Fresh.at_ (f : Fresh G ap pl g c σ H s) : s.heap.get? ap.1 = some ap.2 := (f.inv.pin ap (List.mem_append_right _ List.mem_cons_self)).1
theorem call_all_g {S0 : Addr} (hh : A.handled = none) (hroom : A.depth < recursionLimit) (fr : Fresh G ap pl g c σ H s)
    (hs : ∀ s', Inv G (ap :: pl) σ H s' → Sg (model G.prog G.w) A.in1.in1 (RG G .all ap S0 H0 φ0 N0 fun S acc => endG .all dflt acc S Q) (YG G .all ap S0 Q H0 φ0 N0) c ((model G.prog G.w).den c) [] s') :
    wpAny (model G.prog G.w) A (call (.builtin "all") [.ref ap.1]) (OutG G H0 φ0 N0 Q) E s := by
  refine call_function_tree F.kind_all F.plain_all F.entry_all (F.args_all1 _) ?_
  unfold Builtin.«all»
  refine wpAny_bind (m := oneArg "all" _) (wpAny_pure ?_)
  refine wpAny_bind (wpAny_pyIter_gen (fr.go _ fr.at_) ?_)
  refine wpAny_pure ⟨plainId_quiet F.plain_all_loop _, codeAny_mono (all_loop hh hroom fr.go (hs _ (fr.inv.setGen rfl)) s _ fr.gen (.inl ⟨rfl, rfl, rfl⟩) rfl fr.at_ fr.inv.nolimit) fun r s' hr => ?_⟩
  obtain ⟨u, rfl, ho⟩ := hr
  exact ho
theorem call_any_g {S0 : Addr} (hh : A.handled = none) (hroom : A.depth < recursionLimit) (fr : Fresh G ap pl g c σ H s)
    (hs : ∀ s', Inv G (ap :: pl) σ H s' → Sg (model G.prog G.w) A.in1.in1 (RG G .any ap S0 H0 φ0 N0 fun S acc => endG .any dflt acc S Q) (YG G .any ap S0 Q H0 φ0 N0) c ((model G.prog G.w).den c) [] s') :
    wpAny (model G.prog G.w) A (call (.builtin "any") [.ref ap.1]) (OutG G H0 φ0 N0 Q) E s := by
  refine call_function_tree F.kind_any F.plain_any F.entry_any (F.args_any1 _) ?_
  unfold Builtin.«any»
  refine wpAny_bind (m := oneArg "any" _) (wpAny_pure ?_)
  refine wpAny_bind (wpAny_pyIter_gen (fr.go _ fr.at_) ?_)
  refine wpAny_pure ⟨plainId_quiet F.plain_any_loop _, codeAny_mono (any_loop hh hroom fr.go (hs _ (fr.inv.setGen rfl)) s _ fr.gen (.inl ⟨rfl, rfl, rfl⟩) rfl fr.at_ fr.inv.nolimit) fun r s' hr => ?_⟩
  obtain ⟨u, rfl, ho⟩ := hr
  exact ho
/-- next(g, None) -/
theorem call_next_g {S0 : Addr} (hh : A.handled = none) (hroom : A.depth < recursionLimit) (fr : Fresh G ap pl g c σ H s)
    (hs : ∀ s', Inv G (ap :: pl) σ H s' → Sg (model G.prog G.w) A.in1.in1 (RG G .next ap S0 H0 φ0 N0 fun S acc => endG .next .non acc S Q) (YG G .next ap S0 Q H0 φ0 N0) c ((model G.prog G.w).den c) [] s') :
    wpAny (model G.prog G.w) A (call (.builtin "next") [.ref ap.1, .none]) (OutG G H0 φ0 N0 Q) E s := by
  have hg := fr.go _ fr.at_
  refine Calls.call_function_entry (by decide +kernel) (by decide +kernel) PySem.W.kdk_entry_next (by unfold argsOk; kernel_rfl) ?_
  unfold Builtin.«next»
  refine wpAny_bind (m := someArgs "next" 1 2 _) (wpAny_of_eq (a := [Value.ref ap.1, Value.none]) (by first | rfl | kernel_rfl!) ?_)
  dsimp only
  refine wpAny_bind (wpAny_specialOf (name := Str.ofString "__next__") hg.typeIs slot_gen_next.lookup ?_)
  refine wpAny_ite_split (fun hab => absurd hab (by decide)) (fun _ => ?_)
  have hst := sg_iff.mp (hs _ (fr.inv.setGen (g := g) (x := .running) rfl))
  refine wpAny_bind (next_sg (A := A.in1) hh fr.inv.nolimit hroom hg fr.gen (.inl ⟨rfl, rfl, rfl⟩) hst (fun v s1 gs' c' t' fs' hsz hb hw' hv => ?_) fun s1 hF h' hk => ?_)
  · obtain ⟨K, ⟨P, ip, σ, H, S, φ, acc, y, x, nx, hip, I, wd, rx, ry, le, ao, stp, hK⟩, hKZ⟩ := hv
    have I1 : Inv G ((ap :: P) ++ ip) σ H (s1.setGen g gs') := I.setGen hb
    exact wpAny_pure ⟨v, rfl, _, _, _, _, S, y, x, I1, le, wd, rx, ry, stp⟩
  · obtain ⟨P, ip, σ, H, S, φ, acc, hip, I, wd, le, ao, fin⟩ := hF
    have I1 := (I.setGen (g := g) (x := .finished) rfl).kept (t' := (s1.setGen g .finished).toks) hk
    exact wpAny_pure ⟨_, rfl, _, _, _, _, S, .non, .non, I1, le, wd, rfl, .non, fin⟩
/-- another list of the drawer's is pinned -/
theorem inv_pin1 {σ : L2.St} {H : Hp} {s s' : Shared} {S0 : Addr} {o : Obj} (I0 : Inv G (ap :: pl) σ H s) (hz : s.heap.objs.size ≤ S0) (I : Inv G (ap :: pl) σ H s') (e : s'.heap.get? S0 = some o) (hc : ∀ v, o.data ≠ .cell v) : Inv G ((ap :: [(S0, o)]) ++ pl) σ H s' := by
  refine I.pins_of fun p hp => ?_
  rcases List.mem_append.mp hp with hp | hp
  · rcases List.mem_cons.mp hp with rfl | hp
    · exact I.pin p (List.mem_append_right _ List.mem_cons_self)
    · rw [List.mem_singleton.mp hp]
      exact ⟨e, I0.hok.fresh hz, Nat.ne_of_gt (Nat.lt_of_lt_of_le I0.lt hz), I0.nofs hz, hc⟩
  · exact I.pin p (List.mem_append_right _ (List.mem_cons_of_mem _ hp))
theorem collect_c (hpn : G.pn = []) (hh : A.handled = none) (hroom : A.depth < recursionLimit) (fr : Fresh G ap pl g c σ H s) {fin : Store → List D → Prop}
    (hs : ∀ S0 s' ca, s.heap.objs.size ≤ S0 → ap.1 ≠ S0 → Inv G ((ap :: [(S0, lstObj #[] ca)]) ++ pl) σ H s' → Sg (model G.prog G.w) A.in1.in1 (RG G .tuple ap S0 H0 φ0 N0 fin) (YG G .tuple ap S0 Q H0 φ0 N0) c ((model G.prog G.w).den c) [] s') :
    codeAny (model G.prog G.w) A (.builtin "proto.collect" ⟨[.ref ap.1], []⟩) (fun r s' => ∃ S0 arr cb vs σ H φ S acc, r = .ok (.ret (.ref S0)) ∧ s'.heap.get? S0 = some (lstObj arr cb) ∧ Inv G [] σ H s' ∧ Wd G.K H φ S ∧ Le H0 φ0 N0 H φ S.length ∧ Vals vs arr.toList ∧ RepL G.K H φ S.length acc vs ∧ acc.length ≤ sizeLine ∧ fin S acc) s := by
  have hg := fr.go _ fr.at_
  have hapl := Heap.lt_size fr.at_
  have hSI : s.heap.objs.size ≠ ap.1 := Nat.ne_of_gt hapl
  refine codeAny_builtin F.entry_proto_collect ?_
  rw [Around.under_plainId F.plain_proto_collect _]
  show wpAny _ A.in1 (newList [] >>= fun l => again (.builtin "list.__iadd__" ⟨[l, .ref ap.1], []⟩)) _ _ s
  refine wpAny_bind (wpAny_newObj_type ?_)
  refine wpAny_pure ⟨plainId_quiet F.plain_list_iadd _, codeAny_builtin F.entry_list_iadd ?_⟩
  rw [Around.under_plainId F.plain_list_iadd _]
  have k1 : ∀ b o, s.heap.get? b = some o → (s.heap.push { cls := .type "list", data := .seq ([] : List Value).toArray }).get? b = some o := fun b o e => Heap.get?_push_of_some _ e
  have hg1 : (s.heap.push { cls := .type "list", data := .seq ([] : List Value).toArray }).IsGen ap.1 g := fr.go _ (k1 _ _ fr.at_)
  have ty : ({ s with heap := s.heap.push { cls := .type "list", data := .seq ([] : List Value).toArray } } : Shared).TypeIs (.ref ap.1) "generator" := Heap.IsGen.typeIs (s := { s with heap := s.heap.push { cls := .type "list", data := .seq ([] : List Value).toArray } }) hg1
  show wpAny _ A.in1 (Builtin.List.listExtendWith (.ref s.heap.objs.size) (.ref ap.1) (.ref s.heap.objs.size)) _ _ _
  unfold Builtin.List.listExtendWith
  refine wpAny_bind (wpAny_typeOf ty ?_)
  have h1 : Builtin.List.listSameRef (.ref s.heap.objs.size) (.ref ap.1) = false := by simp [Builtin.List.listSameRef, hSI]
  have h2 : (Value.type "generator" == Value.type "list") = false := by decide
  have h3 : (Value.type "generator" == Value.type "tuple") = false := by decide
  simp only [h1, h2, h3, Bool.or_false, Bool.false_eq_true, if_false]
  refine wpAny_bind (wpAny_pyIter_gen hg1 ?_)
  refine wpAny_bind (wpAny_holding ?_)
  unfold Builtin.List.listLengthHint
  refine wpAny_bind (wpAny_specialOf ty F.gen_no_len ?_)
  show wpAny _ A.in1 (specialOf (Value.ref ap.1) (Str.ofString "__length_hint__") >>= _) _ _ _
  refine wpAny_bind (wpAny_specialOf ty F.gen_no_hint ?_)
  refine wpAny_pure ?_
  show wpAny _ A.in1 (rule "list.extend.makes-room" >>= fun _ => Builtin.List.listTouch (.ref s.heap.objs.size) >>= fun _ =>
    again (.builtin "list.extend.loop" ⟨[.ref s.heap.objs.size, .ref ap.1, .ref s.heap.objs.size], []⟩)) _ _ _
  refine wpAny_bind (wpAny_rule ?_)
  have hS₁ : (s.heap.push { cls := .type "list", data := .seq ([] : List Value).toArray }).get? s.heap.objs.size = some { cls := .type "list", data := .seq ([] : List Value).toArray } := Heap.get?_push_size _ rfl
  refine wpAny_bind ?_
  show wpAny _ A.in1 (updateSeq s.heap.objs.size (·.push .none) >>= fun _ => updateSeq s.heap.objs.size (·.pop)) _ _ _
  refine wpAny_bind (wpAny_updateSeq hS₁ rfl ?_)
  have hS₂ := Heap.get?_update_self (Obj.mapSeq (·.push Value.none)) hS₁ rfl
  refine wpAny_updateSeq hS₂ rfl ?_
  obtain ⟨ca, hS₃⟩ : ∃ ca, (((s.heap.push { cls := .type "list", data := .seq ([] : List Value).toArray }).update s.heap.objs.size (Obj.mapSeq (·.push Value.none))).update s.heap.objs.size (Obj.mapSeq (·.pop))).get? s.heap.objs.size = some (lstObj #[] ca) := ⟨_, Heap.get?_update_self (Obj.mapSeq (·.pop)) hS₂ rfl⟩
  have oth : ∀ b o, s.heap.get? b = some o →
      (((s.heap.push { cls := .type "list", data := .seq ([] : List Value).toArray }).update s.heap.objs.size (Obj.mapSeq (·.push Value.none))).update s.heap.objs.size (Obj.mapSeq (·.pop))).get? b = some o :=
    fun b o e => (Heap.get?_update_other _ _ (Nat.ne_of_gt (Heap.lt_size e))).trans ((Heap.get?_update_other _ _ (Nat.ne_of_gt (Heap.lt_size e))).trans (k1 b o e))
  have I3 : Inv G (ap :: pl) σ H { s with heap := ((s.heap.push { cls := .type "list", data := .seq ([] : List Value).toArray }).update s.heap.objs.size (Obj.mapSeq (·.push Value.none))).update s.heap.objs.size (Obj.mapSeq (·.pop)) } := fr.inv.kept (t' := s.toks) oth
  have I4 := inv_pin1 fr.inv (Nat.le_refl _) I3 hS₃ (lstObj_cell _ _)
  refine wpAny_pure ⟨plainId_quiet F.plain_extend_loop _, codeAny_mono (ext_loop (Q := Q) hpn fr.inv.sz (Ne.symm hSI) hh hroom fr.go (hs _ _ ca (Nat.le_refl _) (Ne.symm hSI) (I4.setGen rfl)) _ _ fr.gen (.inl ⟨rfl, rfl, rfl⟩) rfl (oth _ _ fr.at_) I3.nolimit) fun r s' hr => ?_⟩
  obtain ⟨rfl, P, ip, σ', H', S, φ, acc, hip, I, wd, le, ⟨arr, cb, vs, rfl, ra, rl, hal⟩, hfin⟩ := hr
  have e1 := (I.pin (s.heap.objs.size, lstObj arr cb) (List.mem_append_right _ (List.mem_append_left _ (List.mem_cons_of_mem _ List.mem_cons_self)))).1
  exact ⟨_, arr, cb, vs, σ', H', φ, S, acc, rfl, e1, I.pins_of fun p hp => (by cases hp), wd, le, ra, rl, hal, hfin⟩
end
section
variable {G : Cx} {ap : Addr × Obj} {pl : List (Addr × Obj)} {g : Nat} {H0 : Hp} {φ0 : Nat → Addr} {N0 : Nat} {Q : KD} {A : Around} {c : Code} {s : Shared} {σ : L2.St} {H : Hp} {E : Value → Shared → Prop}
theorem call_tuple_g (hpn : G.pn = []) (hh : A.handled = none) (hroom : A.depth < recursionLimit) (fr : Fresh G ap pl g c σ H s)
    (hs : ∀ S0 s' ca, s.heap.objs.size ≤ S0 → ap.1 ≠ S0 → Inv G ((ap :: [(S0, lstObj #[] ca)]) ++ pl) σ H s' → Sg (model G.prog G.w) A.in1.in1.in1.in1 (RG G .tuple ap S0 H0 φ0 N0 fun S acc => Q (.tup .kn acc) S) (YG G .tuple ap S0 Q H0 φ0 N0) c ((model G.prog G.w).den c) [] s') :
    wpAny (model G.prog G.w) A (call (.type "tuple") [.ref ap.1]) (OutG G H0 φ0 N0 Q) E s := by
  have hg := fr.go _ fr.at_
  refine callType_codes (Q₁ := fun obj s₁ => s₁.TypeIs obj "tuple" ∧ OutG G H0 φ0 N0 Q obj s₁) F.called_tuple (F.typeCall_tuple_1 _) F.entry_object_init ?_ fun obj s₁ h₁ =>
      ⟨h₁.1, F.args_object_init_2 obj _, object_init_meets F.called_tuple.init.lookup F.called_tuple.made (by decide) G.prog G.w A.in1 _ s₁ ⟨h₁.1, rfl, h₁.2⟩⟩
  refine codeAny_of_tree ?_
  show wpAny _ A.in1.in1 (do checkBuiltinCall "tuple.__new__" ⟨[.type "tuple", .ref ap.1], []⟩; again (.builtin "tuple.__new__" ⟨[.type "tuple", .ref ap.1], []⟩)) _ _ s
  refine wpAny_bind (wpAny_of_eq (F.newCall_tuple_1 _) (wpAny_pure ⟨plainId_quiet F.plain_tuple_new _, codeAny_builtin F.entry_tuple_new ?_⟩))
  rw [Around.under_plainId F.plain_tuple_new _]
  have hsub := sub_tuple_self
  have hinit := init_tuple_lookup
  have hmh := madeHere_tuple
  have hTI : s.TypeIs (.ref ap.1) "generator" := Heap.IsGen.typeIs hg
  wp_walk using wpAny_typeOf hTI
  refine codeAny_mono (collect_c (A := A.in1.in1) (Q := Q) hpn hh hroom fr hs) fun r s' hr => ?_
  obtain ⟨S0, arr, cb, vs, σ', H', φ, S, acc, rfl, e1, I, wd, le, ra, rl, hlen, hq⟩ := hr
  refine wpAny_bind (wpAny_load e1 ?_)
  refine wpAny_pure (wpAny_bind (wpAny_pure ?_))
  show wpAny _ _ (Builtin.Tuple.tupleExact arr.toList.toArray >>= fun v => ret v) _ _ _
  unfold Builtin.Tuple.tupleExact
  have ea : arr.toList.toArray = arr := by simp
  rw [ea]
  have hl2 : arr.size ≤ sizeLine := by
    have q1 := ra.length
    have q2 := rl.length
    have q3 : arr.toList.length = arr.size := by simp
    omega
  refine wpAny_bind (wpAny_newObj_type ?_ hl2)
  refine wpAny_pure ⟨⟨_, Heap.get?_push_size _ rfl, rfl⟩, ?_⟩
  have hn : H' s'.heap.objs.size = none := I.hok.fresh (Nat.le_refl _)
  have I2 := I.laid (a := s'.heap.objs.size) (o := .frz { cls := .type "tuple", data := .seq arr } (.tup vs)) (t' := s'.toks) (h' := s'.heap.push { cls := .type "tuple", data := .seq arr }) (fun b u q => Heap.get?_push_of_some _ q) (Nat.le_refl _)
    ⟨Heap.get?_push_size _ rfl, by have q1 := ra.length; have q3 : arr.toList.length = arr.size := (by simp); omega, arr.toList, ra, by rw [ea]; exact ⟨_, Heap.get?_push_size _ rfl, rfl, 0, rfl⟩⟩
  exact ⟨[], σ', _, φ, S, .tup .kn acc, .ref s'.heap.objs.size, I2, le.trans (.fresh hn), wd.fresh hn (fun _ => nofun), rfl, .tup (k := .kn) ⟨_, upd_same, rfl⟩ (rl.mono (.fresh hn)), hq⟩
end
end Pw
set_option maxHeartbeats 1000000
/-! Pw10: a generator expression as it is made, and its first turn. -/
namespace Pw
open PySem PySem.Spec PyProof.Rows L2

theorem over_cs {A : Around} {elt : Expr} {gs : List Comprehension} {scope : Scope} {pos : Pos} {it acc : Value} {env : PySem.Env} : A.over (.compStart (.GeneratorExp elt gs scope pos) 0 it acc env) [] = A.deeper env := by
  first
    | rfl
    | (obtain ⟨hd, d, fr, gs, u⟩ := A; simp [Around.over, Around.deeper, marksOver, frameCount, unitsOf, envsOf, guardsOf, pushEnvs, pushGuards, Code.envs, Code.env?, Code.isFrame, Code.guards, Code.isGuard, Code.weight, Code.frames, Code.isCreation, Code.isCaller, Code.cUnits])
theorem over_cl {A : Around} {elt : Expr} {gs : List Comprehension} {scope : Scope} {pos : Pos} {it acc : Value} {env : PySem.Env} : A.over (.compLoop (.GeneratorExp elt gs scope pos) 0 it acc env) [] = A.deeper env := by
  first
    | rfl
    | (obtain ⟨hd, d, fr, gs, u⟩ := A; simp [Around.over, Around.deeper, marksOver, frameCount, unitsOf, envsOf, guardsOf, pushEnvs, pushGuards, Code.envs, Code.env?, Code.isFrame, Code.guards, Code.isGuard, Code.weight, Code.frames, Code.isCreation, Code.isCaller, Code.cUnits])
theorem Walks.later {K : PySem.W.Frag} {H0 H1 : Hp} {φ0 φ1 : Nat → Addr} {N0 N1 : Nat} {J : It} {src : Src} (l : Le H0 φ0 N0 H1 φ1 N1) (h : Walks K H0 φ0 N0 J src) : Walks K H1 φ1 N1 J src :=
  ⟨fun i φ S H hi hl => h.go i φ S H hi (l.trans hl), fun i φ S H x H' hi hl => h.yld i φ S H x H' hi (l.trans hl), fun φ S H hl => h.stop φ S H (l.trans hl)⟩

/-- a generator expression, just made -/
structure Made (CS : List Addr) (X : Cx) (pins : List (Addr × Obj)) (σ : L2.St) (env : Env) (own : List (Str × Nat)) (scope : Scope) (tg : Expr) (cs : Value → PySem.Env → Code) (H : Hp) (φ : Nat → Addr) (N : Nat) (src : Src) (S1 : Store) (u : Value) (s5 : Shared) : Prop where
  ex : ∃ (it : Addr) (fp : List Addr) (tn : Nat → Heap → Prop) (J : It) (H3 : Hp) (φ1 : Nat → Addr) (s3 : Shared) (c' : Addr) (ap : Addr × Obj) (g : Nat),
    u = .ref ap.1 ∧ Inv X pins σ H3 s3 ∧ RepE X.K H3 φ1 S1.length env σ ∧ Wd X.K H3 φ1 S1 ∧ Le H φ N H3 φ1 S1.length ∧ Walks X.K H3 φ1 S1.length J src ∧ Turn X.prog X.w X.K tg J fp it tn ∧ tn 0 s5.heap ∧ (∀ b ∈ fp, FpOk X pins H3 b ∧ b < s3.heap.objs.size) ∧ s3.heap.objs.size ≤ ap.1 ∧
    (∀ B : Around, B.handled = none → B.frames = some X.stack → Fresh (gcx X B s3 H3 (gEnv X scope s3.heap.objs.size c') fp) ap (pinsAt fp s5.heap) g (cs (.ref it) (gEnv X scope s3.heap.objs.size c')) (L2.wipe σ (own.map (·.2))) H3 s5) ∧ CodeRef X H3 c' ∧ s3.heap.objs.size ≤ s5.heap.objs.size ∧ ∀ P ∈ CS, ∃ ps, H3 P = some (.tbl ps)
section
variable {CS : List Addr} {X : Cx} {pins : List (Addr × Obj)} {σ : L2.St} {H : Hp} {s : Shared} {env : Env} {S : Store} {φ : Nat → Addr} {elt tg iter : Expr} {ifs : List Expr} {more : List Comprehension} {scope : Scope} {own : List (Str × Nat)} {gpos : Pos} {WS : W} {R : Src → Store → Prop} {Q' : Value → Shared → Prop}
theorem gexp_made (hroom : X.A.depth < recursionLimit) (hN : X.N.Nodup) (hi : PI X tg iter (tI CS X WS.i)) (mS : MW WS) (ok : BlkOk X.N X.env.scope scope own) (hco : scope.isCoroutine = false) (h0 : scope.names.lookup (".0" : Str) = some NameKind.local) (hs : foldOk iter = true)
    (I : Inv X pins σ H s) (a : At CS X env S φ σ H) (h : WS.i env S R)
    (k : ∀ src S1 u s5, R src S1 → Made CS X pins σ env own scope tg (fun it cenv => .compStart (.GeneratorExp elt (⟨tg, iter, ifs, 0⟩ :: more) scope gpos) 0 it .none cenv) H φ S.length src S1 u s5 → Q' u s5) :
    wpAny (model X.prog X.w) X.A (eval (.GeneratorExp elt (⟨tg, iter, ifs, 0⟩ :: more) scope gpos) X.env) Q' X.xe s := by
  have hfree : ∀ y ∈ scope.names, y.2 = .free → ∃ c, X.env.cells.lookup y.1 = some c := fun y hy e => by
    rcases ok.free y hy e with k | k
    · exact I.ok.has _ (.inl k)
    · exact I.ok.has _ (.inr k)
  have hr := tI_mk (G := fun J H1 => ∃ src S1 φ1, Le H φ S.length H1 φ1 S1.length ∧ At CS X env S1 φ1 σ H1 ∧ Walks X.K H1 φ1 S1.length J src ∧ R src S1) mS a h fun src S1 φ1 H1 J l a1 wk r => ⟨src, S1, φ1, l, a1, wk, r⟩
  refine gen_make hco (closure_ok hfree) h0 ok.kind hroom hs (thn (hi.run pins s σ H _ I hr) fun xv s1 hx => thn hx fun itv s2 h2 => ?_)
  obtain ⟨it, fp, tn, J, H2, rfl, I2, T, st2, f2, src, S1, φ1, l2, a2, wk2, r⟩ := h2
  refine ⟨I2.nolimit, ?_⟩
  refine gen_code (N := S1.length) I2 a2.c a2.w fun c' H3 s3 I3 l3 wd3 cr keep hsz hgens => ?_
  obtain ⟨P, hcX, ⟨ps, hP⟩, hbm, hgP⟩ := id cr
  obtain ⟨bm, ob, e1, e2, e3, e4, e5, e6, e7, e8⟩ := hbm
  refine wpAny_builtinsFor (m := X.mg) (by rw [I3.ok.glob]; exact I3.mod.glob.keeps I3.bk) e1 e2 (I3.bk _ _ e5) e6 e7 e8 ?_
  intro h' tk1 tk2 tk3 hn hs'
  have sz : ∀ b ∈ fp, b < s2.heap.objs.size := fun b hb => by
    obtain ⟨o, e, _⟩ := T.obj _ _ st2 b hb
    exact Heap.lt_size e
  have f3 : ∀ b ∈ fp, FpOk X pins H3 b ∧ b < s3.heap.objs.size := fun b hb => by
    obtain ⟨o, e, _⟩ := T.obj _ _ st2 b hb
    exact ⟨⟨(keep b o (f2 b hb).1 e).2, (f2 b hb).2⟩, Nat.lt_of_lt_of_le (sz b hb) hsz⟩
  have hk : ∀ b o, h'.get? b = some o → (h'.push { cls := .type "generator", data := .fields #[.int s3.gens.size 0, .str "<genexpr>" tk1, .str (X.env.qual ++ "<genexpr>") tk2] }).get? b = some o := fun b o e => Heap.get?_push_of_some _ e
  have hfr : ∀ b o, s3.heap.get? b = some o → h'.get? b = some o := fun b o e => (hs'.2 b (Nat.ne_of_lt (Heap.lt_size e))).trans (pushCells_keeps _ _ _ _ (Heap.get?_push_of_some _ e))
  have st5 : tn 0 (h'.push { cls := .type "generator", data := .fields #[.int s3.gens.size 0, .str "<genexpr>" tk1, .str (X.env.qual ++ "<genexpr>") tk2] }) := T.keep _ _ _ st2 fun b hb o e => hk b o (hfr b o (keep b o (f2 b hb).1 e).1)
  have hsz5 : s3.heap.objs.size ≤ h'.objs.size := by
    rw [hs'.1]
    exact Nat.le_trans (by rw [Heap.size_push]; exact Nat.le_succ _) (pushCells_size scope.names (s3.heap.push { cls := .type "frame", data := .dict #[] }))
  have hgo : ∀ h : Heap, h.get? h'.objs.size = some { cls := .type "generator", data := .fields #[.int s3.gens.size 0, .str "<genexpr>" tk1, .str (X.env.qual ++ "<genexpr>") tk2] } → h.IsGen h'.objs.size s3.gens.size := fun h e => ⟨_, _, _, e, rfl, rfl, rfl⟩
  refine k src S1 _ _ r ⟨it, fp, tn, J, H3, φ1, s3, c', (h'.objs.size, { cls := .type "generator", data := .fields #[.int s3.gens.size 0, .str "<genexpr>" tk1, .str (X.env.qual ++ "<genexpr>") tk2] }), s3.gens.size, rfl, I3, a2.e.mono l3, wd3, l2.trans l3, wk2.later l3, T, st5, f3, hsz5, fun B hB hBf => ?_, cr, by rw [Heap.size_push]; exact Nat.le_succ_of_le hsz5, (a2.c.mono l3.t).1⟩
  have IG := gen_start (it := .ref it) (c' := c') (B := B) (g' := s3.gens.push (.fresh (.compStart (.GeneratorExp elt (⟨tg, iter, ifs, 0⟩ :: more) scope gpos) 0 (.ref it) .none (gEnv X scope s3.heap.objs.size c')))) (tk := tk3) I3 ok hN hB hBf f3 hn hs' hk (AllBare.push I3.bare rfl)
  have hle : (gEnv X scope s3.heap.objs.size c').locals < h'.objs.size := by
    show s3.heap.objs.size < h'.objs.size
    exact hn.lt
  refine ⟨IG.pins_of fun p hp => ?_, Array.getElem?_push_size .., hgo⟩
  rcases List.mem_cons.mp hp with rfl | hp
  · refine ⟨Heap.get?_push_size _ rfl, I3.hok.fresh hsz5, Nat.ne_of_gt hle, fun z => ?_, fun v z => by cases z⟩
    obtain ⟨_, o, ho, _⟩ := IG.ok.funs.mem z
    exact absurd (Nat.lt_of_lt_of_le (Heap.lt_size ho) hsz5) (Nat.lt_irrefl _)
  · obtain ⟨hb, e⟩ := of_pinsAt hp
    obtain ⟨o, e', hd⟩ := T.obj _ _ st5 p.1 hb
    have e2 : o = p.2 := by
      have q : _ = some p.2 := e
      rw [e'] at q
      exact Option.some.inj q
    exact ⟨e, (f3 p.1 hb).1.1, (IG.ok.exf p.1 hb).1, IG.ok.exfs p.1 hb, fun v z => hd v (by rw [e2]; exact z)⟩
end
end Pw
set_option maxHeartbeats 1000000
/-! Pw11: a generator expression of one clause, drawn by all, any, next, tuple. -/
namespace Pw
open PySem PySem.Spec PyProof.Rows L2

section
variable {CS : List Addr} {X : Cx} {B : Around} {pins : List (Addr × Obj)} {s3 s5 : Shared} {H3 : Hp} {c' : Addr} {fp : List Addr} {scope : Scope} {own : List (Str × Nat)} {σ : L2.St} {env : Env} {S1 : Store} {φ1 : Nat → Addr} {it : Addr} {tn : Nat → Heap → Prop} {J : It} {src : Src} {ap : Addr × Obj} {f : Gc} {S0 : Addr} {Hb : Hp} {φb : Nat → Addr} {Nb : Nat} {Q : KD}
  {elt tg iter : Expr} {ifs : List Expr} {gpos : Pos} {WT WI WE : W} {fin : Store → List D → Prop}
theorem sg_first (hco : scope.isCoroutine = false) (hIX : Inv X pins σ H3 s3) (hre : RepE X.K H3 φ1 S1.length env σ) (hwd : Wd X.K H3 φ1 S1) (hle : Le Hb φb Nb H3 φ1 S1.length) (wk : Walks X.K H3 φ1 S1.length J src) (T : Turn X.prog X.w X.K tg J fp it tn) (st5 : tn 0 s5.heap)
    (f3 : ∀ b ∈ fp, FpOk X pins H3 b ∧ b < s3.heap.objs.size) (hap : s3.heap.objs.size ≤ ap.1) (hS0 : S0 ∉ fp) (cr : CodeRef X H3 c') (hcs : ∀ P ∈ CS, ∃ ps, H3 P = some (.tbl ps))
    (hg : PG (gcx X B s3 H3 (gEnv X scope s3.heap.objs.size c') fp) tg (tG CS (gcx X B s3 H3 (gEnv X scope s3.heap.objs.size c') fp) WT.g))
    (hi : PTs (gcx X B s3 H3 (gEnv X scope s3.heap.objs.size c') fp) ifs (tT CS (gcx X B s3 H3 (gEnv X scope s3.heap.objs.size c') fp) WI.ts))
    (he : PE (gcx X B s3 H3 (gEnv X scope s3.heap.objs.size c') fp) elt (tE CS (gcx X B s3 H3 (gEnv X scope s3.heap.objs.size c') fp) WE.e)) (mT : MW WT) (mI : MW WI) (mE : MW WE)
    (hown : ∀ d env S R, WT.g d env S R → WT.g d env S fun σ1 S1 => wipeE σ1 (own.map (·.2)) = wipeE env (own.map (·.2)) ∧ R σ1 S1)
    (hc : compL src.gd (fun d S acc nx => WT.g d (wipeE env (own.map (·.2))) S fun σ1 S2 => WI.ts σ1 S2 fun b S3 => if b then WE.e σ1 S3 fun y S4 => stepG f acc y S4 nx Q else nx S3 acc) fin src.items S1 (startG f))
    (s' : Shared) (P : List (Addr × Obj)) (I : Inv (gcx X B s3 H3 (gEnv X scope s3.heap.objs.size c') fp) ((ap :: P) ++ pinsAt fp s5.heap) (L2.wipe σ (own.map (·.2))) H3 s') (ao : AccOk X.K f S0 (startG f) P H3 φ1 S1.length) :
    Sg (model X.prog X.w) B (RG (gcx X B s3 H3 (gEnv X scope s3.heap.objs.size c') fp) f ap S0 Hb φb Nb fin) (YG (gcx X B s3 H3 (gEnv X scope s3.heap.objs.size c') fp) f ap S0 Q Hb φb Nb)
      (.compStart (.GeneratorExp elt [⟨tg, iter, ifs, 0⟩] scope gpos) 0 (.ref it) .none (gEnv X scope s3.heap.objs.size c')) ((model X.prog X.w).den (.compStart (.GeneratorExp elt [⟨tg, iter, ifs, 0⟩] scope gpos) 0 (.ref it) .none (gEnv X scope s3.heap.objs.size c'))) [] s' := by
  have st' : tn 0 s'.heap := T.keep _ _ _ st5 fun b hb o e => (I.pin (b, o) (List.mem_append_right _ (List.mem_append_right _ (mem_pinsAt hb e)))).1
  have I' : Inv (gcx X B s3 H3 (gEnv X scope s3.heap.objs.size c') fp) ((ap :: P) ++ []) (L2.wipe σ (own.map (·.2))) H3 s' := by
    rw [List.append_nil]; exact I.unpinned
  have nofp : ∀ b ∈ fp, H3 b = none := fun b hb => (f3 b hb).1.1
  have ww : ∀ (e : Env) (l : List Nat), wipeE (wipeE e l) l = wipeE e l := by
    intro e l
    have key : ∀ (l : List Nat) (e : Env) (i : Nat), i ∈ l → i < e.length → (wipeE e l)[i]? = some none := by
      intro l
      induction l with
      | nil => intro e i hi; cases hi
      | cons v l ih =>
        intro e i hi hlen
        have len : ∀ (l : List Nat) (e : Env), (wipeE e l).length = e.length := by
          intro l
          induction l with
          | nil => intro e; rfl
          | cons v l ih => intro e; show ((wipeE e l).set v none).length = _; rw [List.length_set, ih]
        show ((wipeE e l).set v none)[i]? = _
        by_cases z : v = i
        · subst z; rw [List.getElem?_set_self (by rw [len]; exact hlen)]
        · rw [List.getElem?_set_ne z]
          rcases List.mem_cons.mp hi with h | h
          · exact absurd h.symm z
          · exact ih e i h hlen
    have out : ∀ (l : List Nat) (e : Env) (i : Nat), i ∉ l → (wipeE e l)[i]? = e[i]? := by
      intro l
      induction l with
      | nil => intro e i _; rfl
      | cons v l ih =>
        intro e i hi
        show ((wipeE e l).set v none)[i]? = _
        rw [List.getElem?_set_ne (fun z => hi (by rw [← z]; exact List.mem_cons_self)), ih e i fun z => hi (List.mem_cons_of_mem _ z)]
    have len : ∀ (l : List Nat) (e : Env), (wipeE e l).length = e.length := by
      intro l
      induction l with
      | nil => intro e; rfl
      | cons v l ih => intro e; show ((wipeE e l).set v none).length = _; rw [List.length_set, ih]
    apply List.ext_getElem?
    intro i
    by_cases h : i ∈ l
    · by_cases hl : i < e.length
      · rw [key l _ i h (by rw [len]; exact hl), key l _ i h hl]
      · rw [List.getElem?_eq_none (by rw [len, len]; omega), List.getElem?_eq_none (by rw [len]; omega)]
    · rw [out l _ i h]
  have loop : Sg (model X.prog X.w) B (RG (gcx X B s3 H3 (gEnv X scope s3.heap.objs.size c') fp) f ap S0 Hb φb Nb fin) (YG (gcx X B s3 H3 (gEnv X scope s3.heap.objs.size c') fp) f ap S0 Q Hb φb Nb)
      (.compLoop (.GeneratorExp elt [⟨tg, iter, ifs, 0⟩] scope gpos) 0 (.ref it) .none (gEnv X scope s3.heap.objs.size c')) ((model X.prog X.w).den (.compLoop (.GeneratorExp elt [⟨tg, iter, ifs, 0⟩] scope gpos) 0 (.ref it) .none (gEnv X scope s3.heap.objs.size c'))) [] s' := by
    refine sg_loop (G := gcx X B s3 H3 (gEnv X scope s3.heap.objs.size c') fp) (fs := []) (pl := []) (fq := fp) (hnd := leaving (gEnv X scope s3.heap.objs.size c')) (fun _ p hp => by cases hp) rfl rfl hco rfl (compTurn_gen elt tg iter ifs scope gpos (.ref it) .none _) rfl over_cl rfl rfl T wk ?_ hg hi he mT mI mE hown (ww env _)
      (fun H φ N l => ?_) (fun H φ N l => hle.trans l) (fun S acc H φ s hh hl hf => ?_) src.items 0 S1 (startG f) H3 φ1 s' (by simp) rfl ⟨⟨P, _, I', hre.wipe _, ao⟩, hwd, hle, nofp⟩ (.refl _ _ _) st' hc
    · rintro H P ⟨_, _, _, hP⟩ hn b hb
      refine ⟨hn b hb, (I.ok.exf b hb).1, I.ok.exfs b hb, .inl hb, (I.ok.exf b hb).2, fun p hp => ?_⟩
      have hp : p ∈ (ap :: P) ++ [] := hp
      rw [List.append_nil] at hp
      rcases List.mem_cons.mp hp with rfl | hp
      · exact Nat.ne_of_gt (Nat.lt_of_lt_of_le (f3 b hb).2 hap)
      · rw [hP.at_ p hp]; exact fun z => hS0 (z ▸ hb)
    · obtain ⟨P', e1, e2, e3, e4⟩ := cr
      obtain ⟨ps, e2⟩ := e2
      obtain ⟨m, e2'⟩ := l.t.b _ _ e2
      exact ⟨fun P hP => let ⟨ps, q⟩ := hcs P hP; let ⟨more, q'⟩ := l.t.b _ _ q; ⟨_, q'⟩, c', P', rfl, .inr (l.t.x _ _ e1), ⟨_, e2'⟩, e3, e4⟩
    · obtain ⟨⟨P', σ', I2, re2, ao2⟩, wd2, le2, nf2⟩ := hh
      exact sg_end (.ok .next) ⟨rfl, P', [], σ', H, S, φ, acc, fun _ p hp => (by cases hp), I2, wd2, le2, ao2, hf⟩
  show Sg _ B _ _ _ ((compStart (.GeneratorExp elt [⟨tg, iter, ifs, 0⟩] scope gpos) 0 (.ref it) .none (gEnv X scope s3.heap.objs.size c')).onRaise (leaving (gEnv X scope s3.heap.objs.size c'))) [] s'
  unfold compStart
  rw [Sem.onRaise_eq_wrap]
  show Sg _ B _ _ _ ((ask >>= _).wrap _ _ _ _) [] s'
  refine sg_bind_wrap (wpAny_askSetting ?_)
  split
  · exact sg_again rfl loop
  · first
      | exact sg_bind_wrap (wpAny_rule (sg_bind_wrap (wpAny_standAt (sg_bind_wrap (T.self _ 0 _ _ _ st' (sg_again rfl loop))))))
      | (refine sg_bind_wrap (wpAny_rule ?_); show Sg _ B _ _ _ ((standAt iter.pos >>= _).wrap _ _ _ _) [] s'; exact sg_bind_wrap (wpAny_standAt (sg_bind_wrap (T.self _ 0 _ _ _ st' (sg_again rfl loop)))))
end
/-- the contexts of a generator expression's frame -/
def GCtx (X : Cx) (k : Nat) (scope : Scope) (G : Cx) : Prop := ∃ B s H c' fp, G = gcx X B s H (gEnv X scope s.heap.objs.size c') fp ∧ Room k G.A ∧ G.A.guards = X.A.guards
theorem room_g {X : Cx} {k : Nat} (r : Room (k + 1) X.A) (env : PySem.Env) : Room k (X.A.in1.in1.deeper env) :=
  ⟨r.hd, by have := r.dp; show X.A.depth + 1 + 3 * k + 5 < _; omega, by have := r.un; show X.A.units + 1 + 1 + 3 + 16 * k + 200 < _; omega⟩
theorem room_g4 {X : Cx} {k : Nat} (r : Room (k + 1) X.A) (env : PySem.Env) : Room k (X.A.in1.in1.in1.in1.deeper env) :=
  ⟨r.hd, by have := r.dp; show X.A.depth + 1 + 3 * k + 5 < _; omega, by have := r.un; show X.A.units + 1 + 1 + 1 + 1 + 3 + 16 * k + 200 < _; omega⟩
/-- what the reading of a generator expression asks -/
structure GenOk (CS : List Addr) (X : Cx) (k : Nat) (tg iter elt : Expr) (ifs : List Expr) (scope : Scope) (own : List (Str × Nat)) (WS WT WI WE : W) : Prop where
  room : Room (k + 1) X.A
  nd : X.N.Nodup
  src : PI X tg iter (tI CS X WS.i)
  blk : BlkOk X.N X.env.scope scope own
  co : scope.isCoroutine = false
  dot : scope.names.lookup (".0" : Str) = some NameKind.local
  fold : foldOk iter = true
  g : ∀ G, GCtx X k scope G → PG G tg (tG CS G WT.g)
  i : ∀ G, GCtx X k scope G → PTs G ifs (tT CS G WI.ts)
  e : ∀ G, GCtx X k scope G → PE G elt (tE CS G WE.e)
  mS : MW WS
  mT : MW WT
  mI : MW WI
  mE : MW WE
  own : ∀ d env S R, WT.g d env S R → WT.g d env S fun σ1 S1 => wipeE σ1 (own.map (·.2)) = wipeE env (own.map (·.2)) ∧ R σ1 S1
/-- the reading -/
def gRd (f : Gc) (dflt : D) (own : List (Str × Nat)) (WS WT WI WE : W) : Env → Store → KD → Prop := fun env S Q => WS.i env S fun src S1 =>
  compL src.gd (fun d S acc nx => WT.g d (wipeE env (own.map (·.2))) S fun σ1 S2 => WI.ts σ1 S2 fun b S3 => if b then WE.e σ1 S3 fun y S4 => stepG f acc y S4 nx Q else nx S3 acc) (fun S acc => endG f dflt acc S Q) src.items S1 (startG f)
section
variable {CS : List Addr} {X : Cx} {k : Nat} {tg iter elt : Expr} {ifs : List Expr} {scope : Scope} {own : List (Str × Nat)} {WS WT WI WE : W} {pins : List (Addr × Obj)} {σ : L2.St} {H : Hp} {s : Shared} {gpos p pos : Pos}
theorem gen_out {s3 s' : Shared} {H3 : Hp} {B : Around} {cenv : PySem.Env} {fp : List Addr} {φ : Nat → Addr} {S : Store} {Q : VK} {u : Value} (I3 : Inv X pins σ H3 s3) (f3 : ∀ b ∈ fp, FpOk X pins H3 b) (h : OutG (gcx X B s3 H3 cenv fp) H φ S.length (KQ X.K H φ S.length Q) u s') : EP X pins σ Q u s' := by
  obtain ⟨pins', σ', H', φ', S', d, x, I, le, wd, rx, rd, q⟩ := h
  exact ⟨x, H', I3.call' (ch := fp) I.os I.base I.hok I.bare fun b hb => ⟨(f3 b hb).2.2.2.1, (f3 b hb).2.1, (f3 b hb).2.2.2.2.1, (f3 b hb).2.2.2.2.2⟩, rx, q φ' x H' le wd rd⟩
theorem pe_gall (ok : GenOk CS X k tg iter elt ifs scope own WS WT WI WE) (hgl : Gl X "all") (hm : X.mg "all" = none) {dflt : D} :
    PE X (.Call (.Name "all" p) [.GeneratorExp elt [⟨tg, iter, ifs, 0⟩] scope gpos] [] pos) (tE CS X (gRd .all dflt own WS WT WI WE)) := by
  refine ⟨fun pins s σ H Q I h => ?_⟩
  obtain ⟨env, S, φ, a, h⟩ := h
  refine wpAny_Call_Name_kw (ld_blt I hgl hm (by decide +kernel : bootBuiltins "all" = some (.builtin "all")) ?_)
  refine PyProof.Rows.callWith_builtin1 ?_ rfl rfl
  show wpAny _ _ (spliced ((false, eval (.GeneratorExp elt [⟨tg, iter, ifs, 0⟩] scope gpos) X.env) :: backTo pos (starEach [] X.env))) _ _ s
  have hdp : X.A.depth < recursionLimit := by have := ok.room.dp; omega
  refine Calls.spliced_cons (gexp_made hdp ok.nd ok.src ok.mS ok.blk ok.co ok.dot ok.fold I a h fun src S1 u s5 hc md => ?_)
  refine Calls.spliced_nil ?_
  obtain ⟨it, fp, tn, J, H3, φ1, s3, c', ap, g, rfl, I3, re3, wd3, le3, wk, T, st5, f3, hap, hF, cr, hsz, hcs⟩ := md.ex
  have gc : GCtx X k scope (gcx X X.A.in1.in1 s3 H3 (gEnv X scope s3.heap.objs.size c') fp) := ⟨_, _, _, _, _, rfl, room_g ok.room _, rfl⟩
  have hS0 : s5.heap.objs.size ∉ fp := fun z => Nat.lt_irrefl _ (Nat.lt_of_lt_of_le (f3 _ z).2 hsz)
  exact thn (call_all_g (G := gcx X X.A.in1.in1 s3 H3 (gEnv X scope s3.heap.objs.size c') fp) (A := X.A) (S0 := s5.heap.objs.size) ok.room.hd hdp (hF X.A.in1.in1 ok.room.hd I.ok.frames) fun s' I' =>
    sg_first ok.co I3 re3 wd3 le3 wk T st5 f3 hap hS0 cr hcs (ok.g _ gc) (ok.i _ gc) (ok.e _ gc) ok.mT ok.mI ok.mE ok.own hc s' [] I' rfl) fun u s' ho => gen_out I3 (fun b hb => (f3 b hb).1) ho
theorem pe_gany (ok : GenOk CS X k tg iter elt ifs scope own WS WT WI WE) (hgl : Gl X "any") (hm : X.mg "any" = none) {dflt : D} :
    PE X (.Call (.Name "any" p) [.GeneratorExp elt [⟨tg, iter, ifs, 0⟩] scope gpos] [] pos) (tE CS X (gRd .any dflt own WS WT WI WE)) := by
  refine ⟨fun pins s σ H Q I h => ?_⟩
  obtain ⟨env, S, φ, a, h⟩ := h
  refine wpAny_Call_Name_kw (ld_blt I hgl hm (by decide +kernel : bootBuiltins "any" = some (.builtin "any")) ?_)
  refine PyProof.Rows.callWith_builtin1 ?_ rfl rfl
  show wpAny _ _ (spliced ((false, eval (.GeneratorExp elt [⟨tg, iter, ifs, 0⟩] scope gpos) X.env) :: backTo pos (starEach [] X.env))) _ _ s
  have hdp : X.A.depth < recursionLimit := by have := ok.room.dp; omega
  refine Calls.spliced_cons (gexp_made hdp ok.nd ok.src ok.mS ok.blk ok.co ok.dot ok.fold I a h fun src S1 u s5 hc md => ?_)
  refine Calls.spliced_nil ?_
  obtain ⟨it, fp, tn, J, H3, φ1, s3, c', ap, g, rfl, I3, re3, wd3, le3, wk, T, st5, f3, hap, hF, cr, hsz, hcs⟩ := md.ex
  have gc : GCtx X k scope (gcx X X.A.in1.in1 s3 H3 (gEnv X scope s3.heap.objs.size c') fp) := ⟨_, _, _, _, _, rfl, room_g ok.room _, rfl⟩
  have hS0 : s5.heap.objs.size ∉ fp := fun z => Nat.lt_irrefl _ (Nat.lt_of_lt_of_le (f3 _ z).2 hsz)
  exact thn (call_any_g (G := gcx X X.A.in1.in1 s3 H3 (gEnv X scope s3.heap.objs.size c') fp) (A := X.A) (S0 := s5.heap.objs.size) ok.room.hd hdp (hF X.A.in1.in1 ok.room.hd I.ok.frames) fun s' I' =>
    sg_first ok.co I3 re3 wd3 le3 wk T st5 f3 hap hS0 cr hcs (ok.g _ gc) (ok.i _ gc) (ok.e _ gc) ok.mT ok.mI ok.mE ok.own hc s' [] I' rfl) fun u s' ho => gen_out I3 (fun b hb => (f3 b hb).1) ho
/-- next(.., None) -/
theorem pe_gnext (ok : GenOk CS X k tg iter elt ifs scope own WS WT WI WE) (hgl : Gl X "next") (hm : X.mg "next" = none) {kn : Nat} {pn : Pos} :
    PE X (.Call (.Name "next" p) [.GeneratorExp elt [⟨tg, iter, ifs, 0⟩] scope gpos, .Constant .none kn pn] [] pos) (tE CS X (gRd .next .non own WS WT WI WE)) := by
  refine ⟨fun pins s σ H Q I h => ?_⟩
  obtain ⟨env, S, φ, a, h⟩ := h
  refine wpAny_Call_Name_kw (ld_blt I hgl hm (by decide +kernel : bootBuiltins "next" = some (.builtin "next")) ?_)
  refine PyProof.Rows.callWith_builtin1 ?_ rfl rfl
  show wpAny _ _ (spliced ((false, eval (.GeneratorExp elt [⟨tg, iter, ifs, 0⟩] scope gpos) X.env) :: (false, eval (.Constant .none kn pn) X.env) :: backTo pos (starEach [] X.env))) _ _ s
  have hdp : X.A.depth < recursionLimit := by have := ok.room.dp; omega
  refine Calls.spliced_cons (gexp_made hdp ok.nd ok.src ok.mS ok.blk ok.co ok.dot ok.fold I a h fun src S1 u s5 hc md => ?_)
  refine Calls.spliced_cons (Constant_none ?_)
  refine Calls.spliced_nil ?_
  obtain ⟨it, fp, tn, J, H3, φ1, s3, c', ap, g, rfl, I3, re3, wd3, le3, wk, T, st5, f3, hap, hF, cr, hsz, hcs⟩ := md.ex
  have gc : GCtx X k scope (gcx X X.A.in1.in1 s3 H3 (gEnv X scope s3.heap.objs.size c') fp) := ⟨_, _, _, _, _, rfl, room_g ok.room _, rfl⟩
  have hS0 : s5.heap.objs.size ∉ fp := fun z => Nat.lt_irrefl _ (Nat.lt_of_lt_of_le (f3 _ z).2 hsz)
  exact thn (call_next_g (G := gcx X X.A.in1.in1 s3 H3 (gEnv X scope s3.heap.objs.size c') fp) (A := X.A) (S0 := s5.heap.objs.size) ok.room.hd hdp (hF X.A.in1.in1 ok.room.hd I.ok.frames) fun s' I' =>
    sg_first ok.co I3 re3 wd3 le3 wk T st5 f3 hap hS0 cr hcs (ok.g _ gc) (ok.i _ gc) (ok.e _ gc) ok.mT ok.mI ok.mE ok.own hc s' [] I' rfl) fun u s' ho => gen_out I3 (fun b hb => (f3 b hb).1) ho
theorem pe_gtuple (ok : GenOk CS X k tg iter elt ifs scope own WS WT WI WE) (hgl : Gl X "tuple") (hm : X.mg "tuple" = none) {dflt : D} :
    PE X (.Call (.Name "tuple" p) [.GeneratorExp elt [⟨tg, iter, ifs, 0⟩] scope gpos] [] pos) (tE CS X (gRd .tuple dflt own WS WT WI WE)) := by
  refine ⟨fun pins s σ H Q I h => ?_⟩
  obtain ⟨env, S, φ, a, h⟩ := h
  refine wpAny_Call_Name_kw (ld_blt I hgl hm (by decide +kernel : bootBuiltins "tuple" = some (.type "tuple")) ?_)
  refine PyProof.Rows.callWith_type1 ?_ rfl rfl
  show wpAny _ _ (spliced ((false, eval (.GeneratorExp elt [⟨tg, iter, ifs, 0⟩] scope gpos) X.env) :: backTo pos (starEach [] X.env))) _ _ s
  have hdp : X.A.depth < recursionLimit := by have := ok.room.dp; omega
  refine Calls.spliced_cons (gexp_made hdp ok.nd ok.src ok.mS ok.blk ok.co ok.dot ok.fold I a h fun src S1 u s5 hc md => ?_)
  refine Calls.spliced_nil ?_
  obtain ⟨it, fp, tn, J, H3, φ1, s3, c', ap, g, rfl, I3, re3, wd3, le3, wk, T, st5, f3, hap, hF, cr, hsz, hcs⟩ := md.ex
  have gc : GCtx X k scope (gcx X X.A.in1.in1.in1.in1 s3 H3 (gEnv X scope s3.heap.objs.size c') fp) := ⟨_, _, _, _, _, rfl, room_g4 ok.room _, rfl⟩
  refine thn (call_tuple_g (G := gcx X X.A.in1.in1.in1.in1 s3 H3 (gEnv X scope s3.heap.objs.size c') fp) (A := X.A) (H0 := H) (φ0 := φ) (N0 := S.length) (Q := KQ X.K H φ S.length Q) rfl ok.room.hd hdp (hF X.A.in1.in1.in1.in1 ok.room.hd I.ok.frames) fun S0 s' ca hz hne I' => ?_) fun u s' ho => gen_out I3 (fun b hb => (f3 b hb).1) ho
  have hS0 : S0 ∉ fp := fun z => Nat.lt_irrefl _ (Nat.lt_of_lt_of_le (Nat.lt_of_lt_of_le (f3 _ z).2 hsz) hz)
  exact sg_first ok.co I3 re3 wd3 le3 wk T st5 f3 hap hS0 cr hcs (ok.g _ gc) (ok.i _ gc) (ok.e _ gc) ok.mT ok.mI ok.mE ok.own hc s' [(S0, lstObj #[] ca)] I' ⟨#[], ca, [], rfl, .nil, .nil, Nat.zero_le _⟩
end
end Pw
set_option maxHeartbeats 1000000
/-! Pw12: a generator expression of two clauses, gathered by tuple. -/
namespace Pw
open PySem PySem.Spec PyProof.Rows L2

theorem wipeE_len : ∀ (l : List Nat) (e : Env), (wipeE e l).length = e.length
  | [], _ => rfl
  | v :: l, e => by show ((wipeE e l).set v none).length = _; rw [List.length_set, wipeE_len l e]
theorem wipeE_out : ∀ (l : List Nat) (e : Env) (i : Nat), i ∉ l → (wipeE e l)[i]? = e[i]?
  | [], _, _, _ => rfl
  | v :: l, e, i, h => by
    show ((wipeE e l).set v none)[i]? = _
    rw [List.getElem?_set_ne (fun z => h (by rw [← z]; exact List.mem_cons_self)), wipeE_out l e i fun z => h (List.mem_cons_of_mem _ z)]
theorem wipeE_in : ∀ (l : List Nat) (e : Env) (i : Nat), i ∈ l → i < e.length → (wipeE e l)[i]? = some none
  | [], _, _, h, _ => by cases h
  | v :: l, e, i, h, hl => by
    show ((wipeE e l).set v none)[i]? = _
    by_cases z : v = i
    · subst z; rw [List.getElem?_set_self (by rw [wipeE_len]; exact hl)]
    · rw [List.getElem?_set_ne z]
      rcases List.mem_cons.mp h with h | h
      · exact absurd h.symm z
      · exact wipeE_in l e i h hl
/-- wiping more at once -/
theorem wipeE_sub {l l2 : List Nat} (h : ∀ i ∈ l2, i ∈ l) (e : Env) : wipeE (wipeE e l2) l = wipeE e l := by
  apply List.ext_getElem?
  intro i
  by_cases hi : i ∈ l
  · by_cases hl : i < e.length
    · rw [wipeE_in l _ i hi (by rw [wipeE_len]; exact hl), wipeE_in l _ i hi hl]
    · rw [List.getElem?_eq_none (by rw [wipeE_len, wipeE_len]; omega), List.getElem?_eq_none (by rw [wipeE_len]; omega)]
  · rw [wipeE_out l _ i hi, wipeE_out l _ i hi, wipeE_out l2 _ i fun z => hi (h i z)]

section
variable {CS : List Addr} {G : Cx} {f : Gc} {ap : Addr × Obj} {S0 : Addr} {Q : KD} {H0 : Hp} {φ0 : Nat → Addr} {N0 : Nat}
variable {B : Around} {R : Result → Shared → Prop} {it : Addr} {tg iter tg2 iter2 elt : Expr} {ifs ifs2 : List Expr} {scope : Scope} {gpos : Pos} {WT WI WS2 WT2 WI2 WE : W} {own own2 : List Nat} {env1 : Env} {J : It} {src : Src} {tn : Nat → Heap → Prop} {H1 : Hp} {φ1 : Nat → Addr} {N1 : Nat} {fq : List Addr}
abbrev G2 (elt tg iter : Expr) (ifs : List Expr) (tg2 iter2 : Expr) (ifs2 : List Expr) (scope : Scope) (gpos : Pos) : Expr := .GeneratorExp elt [⟨tg, iter, ifs, 0⟩, ⟨tg2, iter2, ifs2, 0⟩] scope gpos
/-- the second clause's turns -/
abbrev body2 (f : Gc) (Q : KD) (WT2 WI2 WE : W) (e2 : Env) : D → Store → List D → (Store → List D → Prop) → Prop := fun d2 S5 acc5 nx2 => WT2.g d2 e2 S5 fun σ2 S6 => WI2.ts σ2 S6 fun b2 S7 => if b2 then WE.e σ2 S7 fun y S8 => stepG f acc5 y S8 nx2 Q else nx2 S7 acc5
abbrev body1 (f : Gc) (Q : KD) (own2 : List Nat) (WT WI WS2 WT2 WI2 WE : W) (env1 : Env) : D → Store → List D → (Store → List D → Prop) → Prop := fun d S acc nx => WT.g d env1 S fun σ1 S2 => WI.ts σ1 S2 fun b S3 => if b then WS2.i σ1 S3 fun src2 S4 => compL src2.gd (body2 f Q WT2 WI2 WE (wipeE σ1 own2)) nx src2.items S4 acc else nx S3 acc
theorem sg_loop2 (hcalm : G.calm = true) (hxe : G.xe = fun _ _ => False) (hpn : G.pn = []) (hco : G.env.scope.isCoroutine = false) (hover : B.deeper G.env = G.A) (hfold : foldOk iter2 = true)
    (T : Turn G.prog G.w G.K tg J fq it tn) (wk : Walks G.K H1 φ1 N1 J src)
    (hfq : ∀ (H : Hp) (P : List (Addr × Obj)), (∃ acc φ N, AccOk G.K f S0 acc P H φ N) → (∀ b ∈ fq, H b = none) → ∀ b ∈ fq, FpOk G ((ap :: P) ++ []) H b)
    (hg : PG G tg (tG CS G WT.g)) (hi : PTs G ifs (tT CS G WI.ts)) (hs2 : PI G tg2 iter2 (tI CS G WS2.i)) (hg2 : PG G tg2 (tG CS G WT2.g)) (hi2 : PTs G ifs2 (tT CS G WI2.ts)) (he : PE G elt (tE CS G WE.e))
    (mT : MW WT) (mI : MW WI) (mS2 : MW WS2) (mT2 : MW WT2) (mI2 : MW WI2) (mE : MW WE)
    (hown : ∀ d env S R, WT.g d env S R → WT.g d env S fun σ1 S1 => wipeE σ1 own = wipeE env own ∧ R σ1 S1)
    (hown2 : ∀ d env S R, WT2.g d env S R → WT2.g d env S fun σ1 S1 => wipeE σ1 own2 = wipeE env own2 ∧ R σ1 S1) (hsub : ∀ i ∈ own2, i ∈ own)
    (hw1 : wipeE env1 own = env1) {fin : Store → List D → Prop} (hcode : ∀ H φ N, Le H1 φ1 N1 H φ N → CodeAt CS G H)
    (hle0 : ∀ H φ N, Le H1 φ1 N1 H φ N → Le H0 φ0 N0 H φ N)
    (hend : ∀ S acc H φ s, GHead G f ap S0 fq [] H0 φ0 N0 env1 S acc H φ s → Le H1 φ1 N1 H φ S.length → fin S acc → Sg (model G.prog G.w) B R (YG G f ap S0 Q H0 φ0 N0) (.compLoop (G2 elt tg iter ifs tg2 iter2 ifs2 scope gpos) 0 (.ref it) .none G.env) (leafOf (.ok .next)) [] s) :
    ∀ (ds : List D) (i : Nat) (S : Store) (acc : List D) (H : Hp) (φ : Nat → Addr) (s : Shared), i + ds.length = src.items.length → src.items.drop i = ds → GHead G f ap S0 fq [] H0 φ0 N0 env1 S acc H φ s → Le H1 φ1 N1 H φ S.length → tn i s.heap →
      compL src.gd (body1 f Q own2 WT WI WS2 WT2 WI2 WE env1) fin ds S acc →
      Sg (model G.prog G.w) B R (YG G f ap S0 Q H0 φ0 N0) (.compLoop (G2 elt tg iter ifs tg2 iter2 ifs2 scope gpos) 0 (.ref it) .none G.env) ((model G.prog G.w).den (.compLoop (G2 elt tg iter ifs tg2 iter2 ifs2 scope gpos) 0 (.ref it) .none G.env)) [] s := by
  have hturn : compTurn (G2 elt tg iter ifs tg2 iter2 ifs2 scope gpos) 0 (.ref it) .none G.env = (do
      standAt iter.pos
      match ← pyNext (.ref it) with
      | none => pure (.done .next)
      | some v =>
        letOwnedTupleGo tg (.ref it) v
        assign tg G.env v
        let mut ok := true
        for c in ifs do
          if ok then ok ← isTrue c G.env (eval c G.env)
        if ok then
          let x ← eval iter2 G.env
          standAt iter2.pos
          let x ← foldedSetIterable iter2 G.env x
          let _ ← runOwn (.compStart (G2 elt tg iter ifs tg2 iter2 ifs2 scope gpos) 1 (← holding [x] (pyIter x)) .none G.env) G.env
        again (.compLoop (G2 elt tg iter ifs tg2 iter2 ifs2 scope gpos) 0 (.ref it) .none G.env)) := by rfl
  have hov : B.over (.compLoop (G2 elt tg iter ifs tg2 iter2 ifs2 scope gpos) 0 (.ref it) .none G.env) [] = G.A := over_cl.trans hover
  intro ds
  induction ds with
  | nil =>
    intro i S acc H φ s hn hds hh hle ht hc
    obtain ⟨hgd, hfin⟩ := hc
    obtain ⟨⟨P, σ, I, re, ao⟩, wd, le0, nofp⟩ := hh
    have hn : i = src.items.length := hn
    show Sg _ B _ _ _ ((compTurn (G2 elt tg iter ifs tg2 iter2 ifs2 scope gpos) 0 (.ref it) .none G.env).onRaise (leaving G.env)) [] s
    rw [hturn, Sem.onRaise_eq_wrap]
    refine sg_bind_wrap (wpAny_standAt ?_)
    refine sg_bind_wrap ?_
    rw [hov]
    refine thnF (T.done G rfl rfl rfl hcalm i _ s σ H (fun _ _ => False) I (hfq H P ⟨_, _, _, ao⟩ nofp) ht (by rw [hn]; exact wk.stop φ S H hle wd hgd)) fun r s' ⟨hr, I'⟩ => ?_
    subst hr
    exact hend S acc H φ s' ⟨⟨P, σ, I', re, ao⟩, wd, le0, nofp⟩ hle hfin
  | cons d ds ih =>
    intro i S acc H φ s hn hds hh hle ht hc
    obtain ⟨hgd, hb⟩ := hc
    obtain ⟨⟨P, σ, I, re, ao⟩, wd, le0, nofp⟩ := hh
    have hlt : i < src.items.length := by rw [← hn]; simp
    have hd : src.items[i]? = some d := by
      have q := congrArg (·[0]?) hds
      simp only [List.getElem?_drop, Nat.add_zero, List.getElem?_cons_zero] at q
      exact q
    have hds' : src.items.drop (i + 1) = ds := by
      have q := congrArg (List.drop 1) hds
      simpa [List.drop_drop] using q
    have hn' : i + 1 + ds.length = src.items.length := by rw [← hn]; simp only [List.length_cons]; omega
    show Sg _ B _ _ _ ((compTurn (G2 elt tg iter ifs tg2 iter2 ifs2 scope gpos) 0 (.ref it) .none G.env).onRaise (leaving G.env)) [] s
    rw [hturn, Sem.onRaise_eq_wrap]
    refine sg_bind_wrap (wpAny_standAt ?_)
    refine sg_bind_wrap ?_
    rw [hov]
    refine thnF (T.item G rfl rfl rfl hcalm i _ s σ H (fun _ _ => False) I (hfq H P ⟨_, _, _, ao⟩ nofp) ht (wk.go i φ S H hlt hle wd hgd)) fun r s6 ⟨u, hr, h6⟩ => ?_
    subst hr
    refine sg_bind_wrap ?_
    rw [hov]
    refine thnF h6 fun _ s7 ⟨x, H7, I7, r7, y7, st7, n7⟩ => ?_
    obtain ⟨d', hd', l7, wd7, rv7⟩ := wk.yld i φ S H x H7 hlt hle wd hgd y7
    rw [hd] at hd'; cases hd'
    have I7' := I7.pinned (hfq H7 P ⟨_, _, _, ao.mono l7⟩ n7) (T.obj _ _ st7)
    have le7 : Le H1 φ1 N1 H7 φ S.length := hle.trans l7
    have a7 : At CS G env1 S φ σ H7 := ⟨re.mono l7, wd7, hcode _ _ _ le7⟩
    have dj7 : Dj f S0 (pinsAt fq s7.heap) := fun hf p hp => by
      obtain ⟨o, ho⟩ := ao.mem hf
      exact fun z => (hfq H7 P ⟨_, _, _, ao.mono l7⟩ n7 p.1 (of_pinsAt hp).1).2.2.2.2.2 (S0, o) (List.mem_append_right _ (List.mem_append_left _ (List.mem_cons_of_mem _ ho))) z.symm
    have assoc : ∀ (P' : List (Addr × Obj)), ((ap :: P') ++ []) ++ pinsAt fq s7.heap = (ap :: P') ++ pinsAt fq s7.heap := fun P' => by rw [List.append_nil]
    have pinned : ∀ {P' : List (Addr × Obj)} {σ' : L2.St} {H' : Hp} {s' : Shared}, Inv G ((ap :: P') ++ pinsAt fq s7.heap) σ' H' s' → Inv G ((ap :: P') ++ []) σ' H' s' ∧ tn (i + 1) s'.heap ∧ ∀ b ∈ fq, H' b = none := fun {P' σ' H' s'} I' => by
      have pin' : ∀ b ∈ fq, ∀ o, s7.heap.get? b = some o → s'.heap.get? b = some o ∧ H' b = none := fun b hb o e =>
        let z := I'.pin (b, o) (List.mem_append_right _ (List.mem_append_right _ (mem_pinsAt hb e)))
        ⟨z.1, z.2.1⟩
      refine ⟨?_, T.keep _ _ _ st7 fun b hb o e => (pin' b hb o e).1, fun b hb => ?_⟩
      · rw [List.append_nil]; exact I'.unpinned
      · obtain ⟨o, e, _⟩ := T.obj _ _ st7 b hb
        exact (pin' b hb o e).2
    have next : ∀ {P' : List (Addr × Obj)} {σ' : L2.St} {H' : Hp} {s' : Shared} {S' : Store} {φ' : Nat → Addr} {acc' : List D} {env2 : Env}, Inv G ((ap :: P') ++ pinsAt fq s7.heap) σ' H' s' → Wd G.K H' φ' S' → Le H7 φ S.length H' φ' S'.length → AccOk G.K f S0 acc' P' H' φ' S'.length → RepE G.K H' φ' S'.length env2 σ' → wipeE env2 own = env1 →
        compL src.gd (body1 f Q own2 WT WI WS2 WT2 WI2 WE env1) fin ds S' acc' →
        Sg (model G.prog G.w) B R (YG G f ap S0 Q H0 φ0 N0) (.compLoop (G2 elt tg iter ifs tg2 iter2 ifs2 scope gpos) 0 (.ref it) .none G.env) (.pure (.again (.compLoop (G2 elt tg iter ifs tg2 iter2 ifs2 scope gpos) 0 (.ref it) .none G.env))) [] s' := fun {P' σ' H' s' S' φ' acc' env2} I' w' l' a' re' hw hc' => by
      obtain ⟨I2, t2, n2⟩ := pinned I'
      refine sg_again rfl (ih (i + 1) S' acc' H' φ' s' hn' hds' ⟨⟨P', L2.wipe σ' own, I2.weak (L2.wipe_length _ _) fun j v q => (L2.wipe_some q).1, ?_, a'⟩, w', hle0 _ _ _ (le7.trans l'), n2⟩ (le7.trans l') t2 hc')
      rw [← hw]
      exact re'.wipe own
    refine sg_bind_wrap ?_
    rw [hov]
    have hb' := hown _ _ _ _ hb
    have step1 := tG_mk (G := fun σ8 H8 => ∃ env2 S2 φ2, Le H7 φ S.length H8 φ2 S2.length ∧ At CS G env2 S2 φ2 σ8 H8 ∧ _) mT a7 rv7 hb' fun env2 S2 φ2 σ8 H8 l8 a8 r8 => ⟨env2, S2, φ2, l8, a8, r8⟩
    refine thnF (wpAny_mono (hg.run _ s7 σ H7 x u _ I7' r7 step1) (fun _ _ q => q) fun _ _ q => by rw [hxe] at q; exact q) fun _ s8 ⟨σ8, H8, I8, env2, S2, φ2, l8, a8, hw8, q8⟩ => ?_
    rw [hw1] at hw8
    refine sg_bind_wrap ?_
    rw [hov]
    have step2 := tTs_mk (G := fun b H9 => ∃ S3 φ3, Le H8 φ2 S2.length H9 φ3 S3.length ∧ At CS G env2 S3 φ3 σ8 H9 ∧ _) mI a8 q8 fun b S3 φ3 H9 l9 a9 r9 => ⟨S3, φ3, l9, a9, r9⟩
    refine thnF (wpAny_mono (hi.run _ s8 σ8 H8 _ I8 step2) (fun _ _ q => q) fun _ _ q => by rw [hxe] at q; exact q) fun b s9 ⟨H9, I9, S3, φ3, l9, a9, q9⟩ => ?_
    rw [assoc] at I9
    have l89 : Le H7 φ S.length H9 φ3 S3.length := l8.trans l9
    cases b with
    | false =>
      simp only [Bool.false_eq_true, if_false] at q9 ⊢
      exact next I9 a9.w l89 ((ao.mono l7).mono l89) a9.e hw8 q9
    | true =>
      simp only [if_true] at q9 ⊢
      have step3 := tI_mk (G := fun J2 H10 => ∃ src2 S4 φ4, Le H9 φ3 S3.length H10 φ4 S4.length ∧ At CS G env2 S4 φ4 σ8 H10 ∧ Walks G.K H10 φ4 S4.length J2 src2 ∧ _) mS2 a9 q9 fun src2 S4 φ4 H10 J2 l10 a10 wk10 r10 => ⟨src2, S4, φ4, l10, a10, wk10, r10⟩
      refine sg_bind_wrap ?_
      rw [hov]
      refine thnF (wpAny_mono (hs2.run _ s9 σ8 H9 _ I9 step3) (fun _ _ q => q) fun _ _ q => by rw [hxe] at q; exact q) fun xv s10 hx => ?_
      refine sg_bind_wrap (wpAny_standAt ?_)
      refine sg_bind_wrap (wpAny_of_eq (foldOk_set hfold G.env xv) ?_)
      refine sg_bind_wrap (wpAny_holding ?_)
      rw [hov]
      refine thnF (wpAny_mono hx (fun _ _ q => q) fun _ _ q => by rw [hxe] at q; exact q) fun itv s11 ⟨it2, fq2, tn2, J2, H10, e11, I11, T2, st11, f11, src2, S4, φ4, l10, a10, wk10, q10⟩ => ?_
      subst e11
      have l710 : Le H7 φ S.length H10 φ4 S4.length := l89.trans l10
      refine sg_call (c' := .compStart (G2 elt tg iter ifs tg2 iter2 ifs2 scope gpos) 1 (.ref it2) .none G.env) fun p => ?_
      have inner : ∀ kf : Result → Sem PySem.Fin, kf (.ok .next) = .pure (.again (.compLoop (G2 elt tg iter ifs tg2 iter2 ifs2 scope gpos) 0 (.ref it) .none G.env)) →
          Sg (model G.prog G.w) B R (YG G f ap S0 Q H0 φ0 N0) (.compStart (G2 elt tg iter ifs tg2 iter2 ifs2 scope gpos) 1 (.ref it2) .none G.env) ((model G.prog G.w).den (.compStart (G2 elt tg iter ifs tg2 iter2 ifs2 scope gpos) 1 (.ref it2) .none G.env))
            [.ret kf none false [] (.compLoop (G2 elt tg iter ifs tg2 iter2 ifs2 scope gpos) 0 (.ref it) .none G.env) p []] s11 := fun kf hkf => by
        have hov2 : ∀ c2 : Code, c2.weight = 0 → c2.cUnits = 0 → B.over c2 [.ret kf none false [] (.compLoop (G2 elt tg iter ifs tg2 iter2 ifs2 scope gpos) 0 (.ref it) .none G.env) p []] = G.A := fun c2 h1 h2 => (GenW.over_loop h1 h2).trans hov
        have le10 : Le H1 φ1 N1 H10 φ4 S4.length := le7.trans l710
        have loop : Sg (model G.prog G.w) B R (YG G f ap S0 Q H0 φ0 N0) (.compLoop (G2 elt tg iter ifs tg2 iter2 ifs2 scope gpos) 1 (.ref it2) .none G.env) ((model G.prog G.w).den (.compLoop (G2 elt tg iter ifs tg2 iter2 ifs2 scope gpos) 1 (.ref it2) .none G.env))
            [.ret kf none false [] (.compLoop (G2 elt tg iter ifs tg2 iter2 ifs2 scope gpos) 0 (.ref it) .none G.env) p []] s11 := by
          refine sg_loop (f := f) (tg := tg2) (elt := elt) (ifs := ifs2) (p0 := iter2.pos) (hnd := fun x => do noteFrame x G.env; theTreesLotGoes x) (WT := WT2) (WI := WI2) (WE := WE) (own := own2) (env1 := wipeE env2 own2) (pl := pinsAt fq s7.heap) (fq := fq2) (H1 := H10) (φ1 := φ4) (N1 := S4.length) (fin := fun S' acc' => compL src.gd (body1 f Q own2 WT WI WS2 WT2 WI2 WE env1) fin ds S' acc')
            dj7 hcalm hxe hco rfl rfl rfl (hov2 _ rfl rfl) rfl rfl T2 wk10 ?_ hg2 hi2 he mT2 mI2 mE hown2 (wipeE_sub (fun _ h => h) env2) (fun H φ N l => hcode _ _ _ (le10.trans l)) (fun H φ N l => hle0 _ _ _ (le10.trans l)) ?_ src2.items 0 S4 acc H10 φ4 s11 (by simp) rfl ⟨⟨P, L2.wipe σ8 own2, I11.weak (L2.wipe_length _ _) fun j v q => (L2.wipe_some q).1, a10.e.wipe own2, (ao.mono l7).mono l710⟩, a10.w, hle0 _ _ _ le10, fun b hb => (f11 b hb).1⟩ (.refl _ _ _) st11 q10
          · rintro H P' ⟨_, _, _, hP'⟩ hn b hb
            obtain ⟨f0, f1, f2, f3, f4, f5⟩ := f11 b hb
            refine ⟨hn b hb, f1, f2, f3, f4, fun p hp => ?_⟩
            rw [hpn, List.nil_append] at hp
            rcases List.mem_append.mp hp with hp | hp
            · rcases List.mem_cons.mp hp with rfl | hp
              · exact f5 _ (List.mem_append_right _ (List.mem_append_left _ List.mem_cons_self))
              · have hS : p.1 = S0 := hP'.at_ p hp
                have hf : f = .tuple ∨ f = .sum := by
                  cases f with
                  | tuple => exact .inl rfl
                  | sum => exact .inr rfl
                  | all => rw [show P' = [] from hP'] at hp; cases hp
                  | any => rw [show P' = [] from hP'] at hp; cases hp
                  | next => rw [show P' = [] from hP'] at hp; cases hp
                obtain ⟨o, ho⟩ := ao.mem hf
                rw [hS]
                exact f5 (S0, o) (List.mem_append_right _ (List.mem_append_left _ (List.mem_cons_of_mem _ ho)))
            · exact f5 p (List.mem_append_right _ (List.mem_append_right _ hp))
          · rintro S' acc' H' φ' s' ⟨⟨P', σ', I', re', ao'⟩, wd', le', nf'⟩ hl hfin'
            refine sg_leaf (.ok .next) ?_
            rw [hkf]
            exact next I' wd' (l710.trans hl) ao' re' ((wipeE_sub hsub env2).trans hw8) hfin'
        show Sg _ B _ _ _ ((compStart (G2 elt tg iter ifs tg2 iter2 ifs2 scope gpos) 1 (.ref it2) .none G.env).onRaise (fun x => do noteFrame x G.env; standAt theWindowsPlace)) _ s11
        unfold compStart
        rw [Sem.onRaise_eq_wrap]
        show Sg _ B _ _ _ ((ask >>= _).wrap _ _ _ _) _ s11
        refine sg_bind_wrap (wpAny_askSetting ?_)
        split
        · exact sg_again rfl loop
        · first
            | exact sg_bind_wrap (wpAny_rule (sg_bind_wrap (wpAny_standAt (sg_bind_wrap (T2.self _ 0 _ _ _ st11 (sg_again rfl loop))))))
            | (refine sg_bind_wrap (wpAny_rule ?_); show Sg _ B _ _ _ ((standAt iter2.pos >>= _).wrap _ _ _ _) _ s11; exact sg_bind_wrap (wpAny_standAt (sg_bind_wrap (T2.self _ 0 _ _ _ st11 (sg_again rfl loop)))))
      exact inner _ rfl
end
section
variable {CS : List Addr} {X : Cx} {B : Around} {pins : List (Addr × Obj)} {s3 s5 : Shared} {H3 : Hp} {c' : Addr} {fp : List Addr} {scope : Scope} {own : List (Str × Nat)} {own2 : List Nat} {σ : L2.St} {env : Env} {S1 : Store} {φ1 : Nat → Addr} {it : Addr} {tn : Nat → Heap → Prop} {J : It} {src : Src} {ap : Addr × Obj} {f : Gc} {S0 : Addr} {Hb : Hp} {φb : Nat → Addr} {Nb : Nat} {Q : KD}
  {elt tg iter tg2 iter2 : Expr} {ifs ifs2 : List Expr} {gpos : Pos} {WT WI WS2 WT2 WI2 WE : W} {fin : Store → List D → Prop}
theorem sg_first2 (hco : scope.isCoroutine = false) (hfold : foldOk iter2 = true) (hIX : Inv X pins σ H3 s3) (hre : RepE X.K H3 φ1 S1.length env σ) (hwd : Wd X.K H3 φ1 S1) (hle : Le Hb φb Nb H3 φ1 S1.length) (wk : Walks X.K H3 φ1 S1.length J src) (T : Turn X.prog X.w X.K tg J fp it tn) (st5 : tn 0 s5.heap)
    (f3 : ∀ b ∈ fp, FpOk X pins H3 b ∧ b < s3.heap.objs.size) (hap : s3.heap.objs.size ≤ ap.1) (hS0 : S0 ∉ fp) (cr : CodeRef X H3 c') (hcs : ∀ P ∈ CS, ∃ ps, H3 P = some (.tbl ps))
    (hg : PG (gcx X B s3 H3 (gEnv X scope s3.heap.objs.size c') fp) tg (tG CS (gcx X B s3 H3 (gEnv X scope s3.heap.objs.size c') fp) WT.g))
    (hi : PTs (gcx X B s3 H3 (gEnv X scope s3.heap.objs.size c') fp) ifs (tT CS (gcx X B s3 H3 (gEnv X scope s3.heap.objs.size c') fp) WI.ts))
    (hs2 : PI (gcx X B s3 H3 (gEnv X scope s3.heap.objs.size c') fp) tg2 iter2 (tI CS (gcx X B s3 H3 (gEnv X scope s3.heap.objs.size c') fp) WS2.i))
    (hg2 : PG (gcx X B s3 H3 (gEnv X scope s3.heap.objs.size c') fp) tg2 (tG CS (gcx X B s3 H3 (gEnv X scope s3.heap.objs.size c') fp) WT2.g))
    (hi2 : PTs (gcx X B s3 H3 (gEnv X scope s3.heap.objs.size c') fp) ifs2 (tT CS (gcx X B s3 H3 (gEnv X scope s3.heap.objs.size c') fp) WI2.ts))
    (he : PE (gcx X B s3 H3 (gEnv X scope s3.heap.objs.size c') fp) elt (tE CS (gcx X B s3 H3 (gEnv X scope s3.heap.objs.size c') fp) WE.e)) (mT : MW WT) (mI : MW WI) (mS2 : MW WS2) (mT2 : MW WT2) (mI2 : MW WI2) (mE : MW WE)
    (hown : ∀ d env S R, WT.g d env S R → WT.g d env S fun σ1 S1 => wipeE σ1 (own.map (·.2)) = wipeE env (own.map (·.2)) ∧ R σ1 S1)
    (hown2 : ∀ d env S R, WT2.g d env S R → WT2.g d env S fun σ1 S1 => wipeE σ1 own2 = wipeE env own2 ∧ R σ1 S1) (hsub : ∀ i ∈ own2, i ∈ own.map (·.2))
    (hc : compL src.gd (body1 f Q own2 WT WI WS2 WT2 WI2 WE (wipeE env (own.map (·.2)))) fin src.items S1 (startG f))
    (s' : Shared) (P : List (Addr × Obj)) (I : Inv (gcx X B s3 H3 (gEnv X scope s3.heap.objs.size c') fp) ((ap :: P) ++ pinsAt fp s5.heap) (L2.wipe σ (own.map (·.2))) H3 s') (ao : AccOk X.K f S0 (startG f) P H3 φ1 S1.length) :
    Sg (model X.prog X.w) B (RG (gcx X B s3 H3 (gEnv X scope s3.heap.objs.size c') fp) f ap S0 Hb φb Nb fin) (YG (gcx X B s3 H3 (gEnv X scope s3.heap.objs.size c') fp) f ap S0 Q Hb φb Nb)
      (.compStart (G2 elt tg iter ifs tg2 iter2 ifs2 scope gpos) 0 (.ref it) .none (gEnv X scope s3.heap.objs.size c')) ((model X.prog X.w).den (.compStart (G2 elt tg iter ifs tg2 iter2 ifs2 scope gpos) 0 (.ref it) .none (gEnv X scope s3.heap.objs.size c'))) [] s' := by
  have st' : tn 0 s'.heap := T.keep _ _ _ st5 fun b hb o e => (I.pin (b, o) (List.mem_append_right _ (List.mem_append_right _ (mem_pinsAt hb e)))).1
  have I' : Inv (gcx X B s3 H3 (gEnv X scope s3.heap.objs.size c') fp) ((ap :: P) ++ []) (L2.wipe σ (own.map (·.2))) H3 s' := by
    rw [List.append_nil]; exact I.unpinned
  have nofp : ∀ b ∈ fp, H3 b = none := fun b hb => (f3 b hb).1.1
  have loop : Sg (model X.prog X.w) B (RG (gcx X B s3 H3 (gEnv X scope s3.heap.objs.size c') fp) f ap S0 Hb φb Nb fin) (YG (gcx X B s3 H3 (gEnv X scope s3.heap.objs.size c') fp) f ap S0 Q Hb φb Nb)
      (.compLoop (G2 elt tg iter ifs tg2 iter2 ifs2 scope gpos) 0 (.ref it) .none (gEnv X scope s3.heap.objs.size c')) ((model X.prog X.w).den (.compLoop (G2 elt tg iter ifs tg2 iter2 ifs2 scope gpos) 0 (.ref it) .none (gEnv X scope s3.heap.objs.size c'))) [] s' := by
    refine sg_loop2 (G := gcx X B s3 H3 (gEnv X scope s3.heap.objs.size c') fp) (fq := fp) rfl rfl rfl hco rfl hfold T wk ?_ hg hi hs2 hg2 hi2 he mT mI mS2 mT2 mI2 mE hown hown2 hsub (wipeE_sub (fun _ h => h) env)
      (fun H φ N l => ?_) (fun H φ N l => hle.trans l) (fun S acc H φ s hh hl hf => ?_) src.items 0 S1 (startG f) H3 φ1 s' (by simp) rfl ⟨⟨P, _, I', hre.wipe _, ao⟩, hwd, hle, nofp⟩ (.refl _ _ _) st' hc
    · rintro H P ⟨_, _, _, hP⟩ hn b hb
      refine ⟨hn b hb, (I.ok.exf b hb).1, I.ok.exfs b hb, .inl hb, (I.ok.exf b hb).2, fun p hp => ?_⟩
      have hp : p ∈ (ap :: P) ++ [] := hp
      rw [List.append_nil] at hp
      rcases List.mem_cons.mp hp with rfl | hp
      · exact Nat.ne_of_gt (Nat.lt_of_lt_of_le (f3 b hb).2 hap)
      · rw [hP.at_ p hp]; exact fun z => hS0 (z ▸ hb)
    · obtain ⟨P', e1, e2, e3, e4⟩ := cr
      obtain ⟨ps, e2⟩ := e2
      obtain ⟨m, e2'⟩ := l.t.b _ _ e2
      exact ⟨fun P hP => let ⟨ps, q⟩ := hcs P hP; let ⟨more, q'⟩ := l.t.b _ _ q; ⟨_, q'⟩, c', P', rfl, .inr (l.t.x _ _ e1), ⟨_, e2'⟩, e3, e4⟩
    · obtain ⟨⟨P', σ', I2, re2, ao2⟩, wd2, le2, nf2⟩ := hh
      exact sg_end (.ok .next) ⟨rfl, P', [], σ', H, S, φ, acc, fun _ p hp => (by cases hp), I2, wd2, le2, ao2, hf⟩
  show Sg _ B _ _ _ ((compStart (G2 elt tg iter ifs tg2 iter2 ifs2 scope gpos) 0 (.ref it) .none (gEnv X scope s3.heap.objs.size c')).onRaise (leaving (gEnv X scope s3.heap.objs.size c'))) [] s'
  unfold compStart
  rw [Sem.onRaise_eq_wrap]
  show Sg _ B _ _ _ ((ask >>= _).wrap _ _ _ _) [] s'
  refine sg_bind_wrap (wpAny_askSetting ?_)
  split
  · exact sg_again rfl loop
  · first
      | exact sg_bind_wrap (wpAny_rule (sg_bind_wrap (wpAny_standAt (sg_bind_wrap (T.self _ 0 _ _ _ st' (sg_again rfl loop))))))
      | (refine sg_bind_wrap (wpAny_rule ?_); show Sg _ B _ _ _ ((standAt iter.pos >>= _).wrap _ _ _ _) [] s'; exact sg_bind_wrap (wpAny_standAt (sg_bind_wrap (T.self _ 0 _ _ _ st' (sg_again rfl loop)))))
end
/-- the second clause -/
structure Gen2Ok (CS : List Addr) (X : Cx) (k : Nat) (tg2 iter2 : Expr) (ifs2 : List Expr) (scope : Scope) (own : List (Str × Nat)) (own2 : List Nat) (WS2 WT2 WI2 : W) : Prop where
  src : ∀ G, GCtx X k scope G → PI G tg2 iter2 (tI CS G WS2.i)
  fold : foldOk iter2 = true
  g : ∀ G, GCtx X k scope G → PG G tg2 (tG CS G WT2.g)
  i : ∀ G, GCtx X k scope G → PTs G ifs2 (tT CS G WI2.ts)
  mS : MW WS2
  mT : MW WT2
  mI : MW WI2
  sub : ∀ i ∈ own2, i ∈ own.map (·.2)
  own : ∀ d env S R, WT2.g d env S R → WT2.g d env S fun σ1 S1 => wipeE σ1 own2 = wipeE env own2 ∧ R σ1 S1
def gRd2 (f : Gc) (own : List (Str × Nat)) (own2 : List Nat) (WS WT WI WS2 WT2 WI2 WE : W) : Env → Store → KD → Prop := fun env S Q => WS.i env S fun src S1 =>
  compL src.gd (body1 f Q own2 WT WI WS2 WT2 WI2 WE (wipeE env (own.map (·.2)))) (fun S acc => endG f .non acc S Q) src.items S1 (startG f)
section
variable {CS : List Addr} {X : Cx} {k : Nat} {tg iter elt tg2 iter2 : Expr} {ifs ifs2 : List Expr} {scope : Scope} {own : List (Str × Nat)} {own2 : List Nat} {WS WT WI WE WS2 WT2 WI2 : W} {gpos p pos : Pos}
theorem pe_gtuple2 (ok : GenOk CS X k tg iter elt ifs scope own WS WT WI WE) (ok2 : Gen2Ok CS X k tg2 iter2 ifs2 scope own own2 WS2 WT2 WI2) (hgl : Gl X "tuple") (hm : X.mg "tuple" = none) :
    PE X (.Call (.Name "tuple" p) [G2 elt tg iter ifs tg2 iter2 ifs2 scope gpos] [] pos) (tE CS X (gRd2 .tuple own own2 WS WT WI WS2 WT2 WI2 WE)) := by
  refine ⟨fun pins s σ H Q I h => ?_⟩
  obtain ⟨env, S, φ, a, h⟩ := h
  refine wpAny_Call_Name_kw (ld_blt I hgl hm (by decide +kernel : bootBuiltins "tuple" = some (.type "tuple")) ?_)
  refine PyProof.Rows.callWith_type1 ?_ rfl rfl
  show wpAny _ _ (spliced ((false, eval (G2 elt tg iter ifs tg2 iter2 ifs2 scope gpos) X.env) :: backTo pos (starEach [] X.env))) _ _ s
  have hdp : X.A.depth < recursionLimit := by have := ok.room.dp; omega
  refine Calls.spliced_cons (gexp_made hdp ok.nd ok.src ok.mS ok.blk ok.co ok.dot ok.fold I a h fun src S1 u s5 hc md => ?_)
  refine Calls.spliced_nil ?_
  obtain ⟨it, fp, tn, J, H3, φ1, s3, c', ap, g, rfl, I3, re3, wd3, le3, wk, T, st5, f3, hap, hF, cr, hsz, hcs⟩ := md.ex
  have gc : GCtx X k scope (gcx X X.A.in1.in1.in1.in1 s3 H3 (gEnv X scope s3.heap.objs.size c') fp) := ⟨_, _, _, _, _, rfl, room_g4 ok.room _, rfl⟩
  refine thn (call_tuple_g (G := gcx X X.A.in1.in1.in1.in1 s3 H3 (gEnv X scope s3.heap.objs.size c') fp) (A := X.A) (H0 := H) (φ0 := φ) (N0 := S.length) (Q := KQ X.K H φ S.length Q) rfl ok.room.hd hdp (hF X.A.in1.in1.in1.in1 ok.room.hd I.ok.frames) fun S0 s' ca hz hne I' => ?_) fun u s' ho => gen_out I3 (fun b hb => (f3 b hb).1) ho
  have hS0 : S0 ∉ fp := fun z => Nat.lt_irrefl _ (Nat.lt_of_lt_of_le (Nat.lt_of_lt_of_le (f3 _ z).2 hsz) hz)
  exact sg_first2 ok.co ok2.fold I3 re3 wd3 le3 wk T st5 f3 hap hS0 cr hcs (ok.g _ gc) (ok.i _ gc) (ok2.src _ gc) (ok2.g _ gc) (ok2.i _ gc) (ok.e _ gc) ok.mT ok.mI ok2.mS ok2.mT ok2.mI ok.mE ok.own ok2.own ok2.sub hc s' [(S0, lstObj #[] ca)] I' ⟨#[], ca, [], rfl, .nil, .nil, Nat.zero_le _⟩
end
end Pw
set_option maxHeartbeats 1000000
/-! Pw13: operators, comparisons, subscripts, stores, by values. -/
namespace Pw
open PySem PySem.Spec PyProof.Rows L2

section
variable {X : Cx}
theorem bin_ok (op : Operator) : OpR X (binaryOp op) (rD2 X.K (binD op)) := by
  intro pins s σ H x y v u Q I rx ry h
  obtain ⟨dx, dy, S, φ, w, hx, hy, h⟩ := h
  cases op with
  | Add =>
    cases hx with
    | int i =>
      cases hy with
      | int j => exact op_add pins s σ H _ _ v u Q I rx ry ⟨i, j, rfl, rfl, KQ.here h w (.int _)⟩
      | _ => exact h.elim
    | str i =>
      cases hy with
      | str j => exact op_add_str pins s σ H _ _ v u Q I rx ry ⟨i, j, rfl, rfl, h.1, KQ.here h.2 w (.str _)⟩
      | _ => exact h.elim
    | tup q r =>
      cases hy with
      | tup q' r' =>
        refine op_catA pins s σ H _ _ v u Q I rx ry ⟨_, _, _, _, rfl, rfl, q.sqt, q'.sqt, by rw [← r.length, ← r'.length]; exact h.1, fun e => ?_, fun _ e => ?_, fun _ _ p hp => ?_⟩
        · subst e
          cases r
          exact KQ.here h.2 w (.tup (k := .any) q'.sqt r')
        · subst e
          cases r'
          exact KQ.here h.2 w (.tup (k := .any) q.sqt (by rw [List.append_nil]; exact r))
        · exact h.2 φ (.ref p) _ (.fresh hp) (w.fresh hp fun _ => nofun) (.tup (k := .any) (.of upd_same) ((r.mono (.fresh hp)).append (r'.mono (.fresh hp))))
      | _ => exact h.elim
    | loc m hm =>
      cases hy with
      | loc n hn =>
        unfold binD at h
        dsimp only at h
        split at h
        · rename_i xs ys e1 e2
          obtain ⟨vs, h1, r1⟩ := w.lst e1
          obtain ⟨us, h2, r2⟩ := w.lst e2
          refine op_cat pins s σ H _ _ v u Q I rx ry ⟨_, _, vs, us, rfl, rfl, h1, h2, by rw [← r1.length, ← r2.length]; exact h.1, fun p hp => ?_⟩
          exact KQ.new h.2 w hp (fun _ => nofun) ⟨_, upd_same, (r1.mono (Le.alloc hp)).append (r2.mono (Le.alloc hp))⟩
        · exact h.elim
      | _ => exact h.elim
    | _ => cases hy <;> exact h.elim
  | Sub =>
    cases hx with
    | int i =>
      cases hy with
      | int j => exact op_sub pins s σ H _ _ v u Q I rx ry ⟨i, j, rfl, rfl, KQ.here h w (.int _)⟩
      | _ => exact h.elim
    | _ => exact h.elim
  | Mult =>
    cases hx with
    | int i =>
      cases hy with
      | int j => exact op_mul pins s σ H _ _ v u Q I rx ry ⟨i, j, rfl, rfl, h.1, KQ.here h.2 w (.int _)⟩
      | _ => exact h.elim
    | loc m hm =>
      cases hy with
      | int j =>
        unfold binD at h
        dsimp only at h
        split at h
        · rename_i xs e1
          obtain ⟨vs, h1, r1⟩ := w.lst e1
          obtain ⟨hl, ⟨hs1, hs2⟩, h⟩ := h
          refine op_rep pins s σ H _ _ v u Q I rx ry ⟨_, j, vs, rfl, rfl, h1, by omega, by omega, by rw [← r1.length]; exact hl, fun p hp => ?_⟩
          exact KQ.new h w hp (fun _ => nofun) ⟨_, upd_same, (r1.mono (Le.alloc hp)).rep _⟩
        · exact h.elim
      | _ => exact h.elim
    | _ => exact h.elim
  | Mod =>
    cases hx with
    | int i =>
      cases hy with
      | int j => exact op_mod pins s σ H _ _ v u Q I rx ry ⟨i, j, rfl, rfl, h.1, KQ.here h.2 w (.int _)⟩
      | _ => exact h.elim
    | _ => exact h.elim
  | FloorDiv =>
    cases hx with
    | int i =>
      cases hy with
      | int j => exact op_fdiv pins s σ H _ _ v u Q I rx ry ⟨i, j, rfl, rfl, h.1, KQ.here h.2 w (.int _)⟩
      | _ => exact h.elim
    | _ => exact h.elim
  | Pow =>
    cases hx with
    | int i =>
      cases hy with
      | int j => exact op_pow pins s σ H _ _ v u Q I rx ry ⟨i, j, rfl, rfl, h.1, KQ.here h.2 w (.int _)⟩
      | _ => exact h.elim
    | _ => exact h.elim
  | _ => exact h.elim
theorem iop_ok (op : Operator) : OpR X (inplaceOp op) (rD2 X.K (iopD op)) := by
  intro pins s σ H x y v u Q I rx ry h
  obtain ⟨dx, dy, S, φ, w, hx, hy, h⟩ := h
  cases op with
  | Add =>
    cases hx with
    | int i =>
      cases hy with
      | int j => exact iop_add pins s σ H _ _ v u Q I rx ry ⟨i, j, rfl, rfl, KQ.here h w (.int _)⟩
      | _ => exact h.elim
    | _ => exact h.elim
  | Sub =>
    cases hx with
    | int i =>
      cases hy with
      | int j => exact iop_sub pins s σ H _ _ v u Q I rx ry ⟨i, j, rfl, rfl, KQ.here h w (.int _)⟩
      | _ => exact h.elim
    | _ => exact h.elim
  | _ => exact h.elim
theorem eqD_inv {p q : Option PyData} {k : Bool} (h : (match p, q with
    | some p, some q => if (SeqAt.shaped p && SeqAt.shaped q) = true then some (PyData.eqv p q) else none
    | _, _ => none) = some k) : ∃ p' q', p = some p' ∧ q = some q' ∧ SeqAt.shaped p' = true ∧ SeqAt.shaped q' = true ∧ k = PyData.eqv p' q' := by
  cases p with
  | none => cases h
  | some p =>
    cases q with
    | none => cases h
    | some q =>
      dsimp only at h
      split at h
      · rename_i hs
        rw [Bool.and_eq_true] at hs
        cases h
        exact ⟨p, q, rfl, rfl, hs.1, hs.2, rfl⟩
      · cases h
section
variable {pins : List (Addr × Obj)} {s : Shared} {σ : L2.St} {H : Hp} {x y : V} {v u : Value} {Q : VK} {dx dy : D} {S : Store} {φ : Nat → Addr} {k : Bool}
theorem eq_scal (hu : X.A.units + 65 < cLine) (w : Wd X.K H φ S) (hx : RepV X.K H φ S.length dx x) (hy : RepV X.K H φ S.length dy y) (h : eqD S dx dy = some k) :
    (scal x y = true ∧ k = decide (x = y)) ∨ ∃ p q, Dp X.K H x p ∧ Dp X.K H y q ∧ SeqAt.shaped p = true ∧ SeqAt.shaped q = true ∧ k = PyData.eqv p q := by
  have ex := hx
  have ey := hy
  cases hx <;> cases hy <;> first
    | (refine .inl ⟨rfl, ?_⟩; unfold eqD at h; dsimp only at h; cases h; simp; done)
    | (right; unfold eqD at h; dsimp only at h; split at h
       · rename_i p q e1 e2
         split at h
         · rename_i hs
           rw [Bool.and_eq_true] at hs
           cases h
           exact ⟨p, q, w.dp 16 ex e1, w.dp 16 ey e2, hs.1, hs.2, rfl⟩
         · cases h
       · cases h)
theorem eq_ok (hu : X.A.units + 65 < cLine) (I : Inv X pins σ H s) (rx : RelV x v) (ry : RelV y u) (w : Wd X.K H φ S) (hx : RepV X.K H φ S.length dx x) (hy : RepV X.K H φ S.length dy y) (h : eqD S dx dy = some k) (q : Q (.bl k) H) :
    wpAny (model X.prog X.w) X.A (compareOp .Eq v u) (EP X pins σ Q) X.xe s := by
  rcases eq_scal hu w hx hy h with ⟨h1, rfl⟩ | ⟨p, e, hp, he, h1, h2, rfl⟩
  · exact op_eq pins s σ H _ _ v u Q I rx ry ⟨h1, q⟩
  · exact op_eqD (by omega) pins s σ H _ _ v u Q I rx ry ⟨p, e, hp, he, h1, h2, q⟩
theorem ne_ok (hu : X.A.units + 65 < cLine) (I : Inv X pins σ H s) (rx : RelV x v) (ry : RelV y u) (w : Wd X.K H φ S) (hx : RepV X.K H φ S.length dx x) (hy : RepV X.K H φ S.length dy y) (h : eqD S dx dy = some k) (q : Q (.bl (!k)) H) :
    wpAny (model X.prog X.w) X.A (compareOp .NotEq v u) (EP X pins σ Q) X.xe s := by
  rcases eq_scal hu w hx hy h with ⟨h1, rfl⟩ | ⟨p, e, hp, he, h1, h2, rfl⟩
  · exact op_ne pins s σ H _ _ v u Q I rx ry ⟨h1, q⟩
  · exact op_neD (by omega) pins s σ H _ _ v u Q I rx ry ⟨p, e, hp, he, h1, h2, q⟩
theorem lt_ok (hu : X.A.units + 65 < cLine) (I : Inv X pins σ H s) (rx : RelV x v) (ry : RelV y u) (w : Wd X.K H φ S) (hx : RepV X.K H φ S.length dx x) (hy : RepV X.K H φ S.length dy y) (h : ltD S dx dy = some k) (q : Q (.bl k) H) :
    wpAny (model X.prog X.w) X.A (compareOp .Lt v u) (EP X pins σ Q) X.xe s := by
  cases hx with
  | int i =>
    cases hy with
    | int j => cases h; exact op_lt pins s σ H _ _ v u Q I rx ry ⟨i, j, rfl, rfl, q⟩
    | _ => cases h
  | str i =>
    cases hy with
    | str j => cases h; exact op_lt_str pins s σ H _ _ v u Q I rx ry ⟨i, j, rfl, rfl, q⟩
    | _ => cases h
  | tup qx rx' =>
    cases hy with
    | tup qy ry' =>
      unfold ltD at h
      dsimp only at h
      split at h
      · rename_i p e hp he
        split at h
        · rename_i hs
          rw [Bool.and_eq_true, Bool.and_eq_true, decide_eq_true_eq, decide_eq_true_eq] at hs
          cases h
          obtain ⟨as, r1⟩ := Dp.reads I p _ v (w.dp 16 (.tup qx rx') hp) rx
          obtain ⟨bs, r2⟩ := Dp.reads I e _ u (w.dp 16 (.tup qy ry') he) ry
          have hn : p ≠ .none := fun z => by
            subst z
            unfold dq at hp
            dsimp only at hp
            cases hm : (List.mapM (dq 15 S) _) with
            | none => rw [hm] at hp; cases hp
            | some z => rw [hm] at hp; cases hp
          exact PySem.W.rcLt_alike p e X.A s v u as bs r1 r2 hs.1 hn (by have := hs.2.1; omega) _ _ _ _ ⟨.bl _, H, I, rfl, q⟩
        · cases h
      · cases h
    | _ => cases h
  | _ => cases hy <;> cases h
theorem keyK_inv {d : D} {x : V} {K : PySem.W.Frag} {N : Nat} {kk : L2.Key} (r : RepV K H φ N d x) (h : keyK d = some kk) : x = kV kk := by
  cases r <;> cases h <;> rfl
theorem keys_inv {K : PySem.W.Frag} {N : Nat} : ∀ {ds : List D} {vs : List V} {ks : List L2.Key}, RepL K H φ N ds vs → ds.mapM keyK = some ks → vs = ks.map kV
  | _, _, ks, .nil, e => by
    have e : some [] = some ks := by simpa using e
    cases e; rfl
  | d :: ds, _, ks, .cons r t, e => by
    rw [List.mapM_cons] at e
    cases h1 : keyK d with
    | none => rw [h1] at e; cases e
    | some p =>
      cases h2 : ds.mapM keyK with
      | none => rw [h1, h2] at e; cases e
      | some qs =>
        rw [h1, h2] at e
        have e : some (p :: qs) = some ks := e
        cases e
        rw [keyK_inv r h1, keys_inv t h2]; rfl
theorem keyT_inv {d : D} {x : V} {K : PySem.W.Frag} {N : Nat} {kk : List L2.Key} (r : RepV K H φ N d x) (h : keyT d = some kk) : ∃ b, x = .ref b ∧ H b = some (.tup (kk.map kV)) := by
  cases r with
  | @tup a xs ds tk q r =>
    cases tk with
    | key =>
      have h : ds.mapM keyK = some kk := h
      have q : H a = some (.tup xs) := q
      exact ⟨a, rfl, by rw [q, keys_inv r h]⟩
    | kn => cases h
    | any => cases h
  | _ => cases h
theorem valD_val {κ : Type} [DecidableEq κ] {K : PySem.W.Frag} {N : Nat} : ∀ {kvs : List (κ × D)} {k : List (κ × V)} (q : κ), PairsR K H φ N kvs k → match valD kvs q, valV k q with
    | some d, some v => RepV K H φ N d v
    | none, none => True
    | _, _ => False
  | _, _, q, .nil => trivial
  | (a, d) :: kvs, (b, v) :: k, q, .cons ⟨h1, h2⟩ t => by
    have ih := valD_val q t
    have h1 : a = b := h1
    subst h1
    unfold valD valV at ih ⊢
    by_cases z : a = q
    · simp only [List.find?_cons, z, decide_true, Option.map_some]; exact h2
    · simp only [List.find?_cons, z, decide_false]; exact ih
theorem valD_isSome {κ : Type} [DecidableEq κ] {K : PySem.W.Frag} {N : Nat} {kvs : List (κ × D)} {k : List (κ × V)} (q : κ) (h : PairsR K H φ N kvs k) : (valD kvs q).isSome = (valV k q).isSome := by
  have := valD_val q h
  split at this <;> simp_all
theorem in_ok (neg : Bool) (hu : X.A.units + 65 < cLine) (I : Inv X pins σ H s) (rx : RelV x v) (ry : RelV y u) (w : Wd X.K H φ S) (hx : RepV X.K H φ S.length dx x) (hy : RepV X.K H φ S.length dy y) (h : inD S dx dy = some k) (q : Q (.bl (if neg then !k else k)) H) :
    wpAny (model X.prog X.w) X.A (compareOp (if neg then .NotIn else .In) v u) (EP X pins σ Q) X.xe s := by
  cases hy with
  | str b =>
    cases hx with
    | str a =>
      cases h
      cases neg with
      | false => exact op_in_str pins s σ H _ _ v u Q I rx ry ⟨a, b, rfl, rfl, q⟩
      | true => exact op_notin_str pins s σ H _ _ v u Q I rx ry ⟨a, b, rfl, rfl, q⟩
    | _ => cases h
  | @tup a xs ys tk qy ry' =>
    have h : (match dq 16 S dx, dqs S ys with
      | some p, some qs => if (SeqAt.shaped p && SeqAt.shaped (.tuple qs)) = true then some (qs.any fun q => PyData.eqv q p) else none
      | _, _ => none) = some k := h
    cases hp : dq 16 S dx with
    | none => rw [hp] at h; cases h
    | some p =>
      cases hqs : dqs S ys with
      | none => rw [hp, hqs] at h; cases h
      | some qs =>
        rw [hp, hqs] at h
        dsimp only at h
        split at h
        · rename_i hs
          rw [Bool.and_eq_true] at hs
          cases h
          obtain ⟨as, r1⟩ := Dp.reads I p _ v (w.dp 16 hx hp) rx
          obtain ⟨bs, r2⟩ := Dp.reads I (.tuple qs) _ u (.tup qy.sqt (w.dps ry' hqs)) ry
          cases neg with
          | false => exact SeqAt.in_tuple_reads r2 r1 (SeqAt.canLay_of_shaped hs.2) (SeqAt.canLay_of_shaped hs.1) (room_in_shaped hs.1 hu) ⟨.bl _, H, I, rfl, q⟩
          | true => exact SeqAt.notIn_tuple_reads r2 r1 (SeqAt.canLay_of_shaped hs.2) (SeqAt.canLay_of_shaped hs.1) (room_in_shaped hs.1 hu) ⟨.bl _, H, I, rfl, q⟩
        · cases h
  | loc n hn =>
    unfold inD at h
    dsimp only at h
    split at h
    · rename_i ys hc
      cases hp : dq 16 S dx with
      | none => rw [hp] at h; cases h
      | some p =>
        cases hqs : dqs S ys with
        | none => rw [hp, hqs] at h; cases h
        | some qs =>
          rw [hp, hqs] at h
          dsimp only at h
          split at h
          · rename_i hs
            rw [Bool.and_eq_true] at hs
            cases h
            obtain ⟨vs, h1, r1⟩ := w.lst hc
            cases neg with
            | false => exact op_inD hu pins s σ H _ _ v u Q I rx ry ⟨p, qs, w.dp 16 hx hp, .lst (.of h1) (w.dps r1 hqs), hs.1, hs.2, q⟩
            | true => exact op_notInD hu pins s σ H _ _ v u Q I rx ry ⟨p, qs, w.dp 16 hx hp, .lst (.of h1) (w.dps r1 hqs), hs.1, hs.2, q⟩
          · cases h
    · rename_i kvs hc
      obtain ⟨kk, hk, rfl⟩ := Option.map_eq_some_iff.mp h
      obtain ⟨vs, h1, r1⟩ := w.cell _ _ hc
      have e := keyK_inv hx hk
      subst e
      have g := DGet.k (k := kk) h1
      rw [valD_isSome kk r1] at q
      cases (show u = Value.ref (φ n) from ry)
      cases neg with
      | false => exact d_in (by omega) I g rx fun s' I' => ⟨.bl _, H, I', rfl, q⟩
      | true => exact d_notIn (by omega) I g rx fun s' I' => ⟨.bl _, H, I', rfl, q⟩
    · rename_i kvs hc
      obtain ⟨kk, hk, rfl⟩ := Option.map_eq_some_iff.mp h
      obtain ⟨vs, h1, r1⟩ := w.cell _ _ hc
      obtain ⟨b, rfl, hb⟩ := keyT_inv hx hk
      have g := DGet.t (k := kk) h1 hb
      rw [valD_isSome kk r1] at q
      cases (show u = Value.ref (φ n) from ry)
      cases neg with
      | false => exact d_in (by omega) I g rx fun s' I' => ⟨.bl _, H, I', rfl, q⟩
      | true => exact d_notIn (by omega) I g rx fun s' I' => ⟨.bl _, H, I', rfl, q⟩
    · cases h
  | _ => cases h
/-- a comparison, as an operation on values -/
def cmpK (op : CmpOp) : D → D → Store → KD → Prop := fun x y S Q => match cmpD op S x y with
  | some k => Q (.bl k) S
  | none => False
end
theorem cmp_ok (hu : X.A.units + 65 < cLine) (op : CmpOp) : OpR X (compareOp op) (rD2 X.K (cmpK op)) := by
  intro pins s σ H x y v u Q I rx ry h
  obtain ⟨dx, dy, S, φ, w, hx, hy, h⟩ := h
  unfold cmpK at h
  split at h
  · rename_i k hk
    have q := KQ.here h w (.bl k)
    cases op with
    | Eq => exact eq_ok hu I rx ry w hx hy hk q
    | NotEq =>
      obtain ⟨k', hk', rfl⟩ := Option.map_eq_some_iff.mp hk
      exact ne_ok hu I rx ry w hx hy hk' q
    | Lt => exact lt_ok hu I rx ry w hx hy hk q
    | In => exact in_ok false hu I rx ry w hx hy hk q
    | NotIn =>
      obtain ⟨k', hk', rfl⟩ := Option.map_eq_some_iff.mp hk
      exact in_ok true hu I rx ry w hx hy hk' q
    | Gt =>
      cases hx with
      | int i =>
        cases hy with
        | int j => cases hk; exact op_gt pins s σ H _ _ v u Q I rx ry ⟨i, j, rfl, rfl, q⟩
        | _ => cases hk
      | _ => cases hk
    | LtE =>
      cases hx with
      | int i =>
        cases hy with
        | int j => cases hk; exact op_le pins s σ H _ _ v u Q I rx ry ⟨i, j, rfl, rfl, q⟩
        | _ => cases hk
      | _ => cases hk
    | GtE =>
      cases hx with
      | int i =>
        cases hy with
        | int j => cases hk; exact op_ge pins s σ H _ _ v u Q I rx ry ⟨i, j, rfl, rfl, q⟩
        | _ => cases hk
      | _ => cases hk
    | _ => cases hk
  · exact h.elim
end
end Pw
set_option maxHeartbeats 1000000
/-! Pw14: subscripts, slices, stores, methods, by values. -/
namespace Pw
open PySem PySem.Spec PyProof.Rows L2

section
variable {X : Cx}
theorem KQ.here' {K : PySem.W.Frag} {H : Hp} {φ : Nat → Addr} {S : Store} {Q : VK} {d : D} {v : V} (w : Wd K H φ S) (r : RepV K H φ S.length d v) (h : KQ K H φ S.length Q d S) : Q v H := KQ.here h w r
theorem sub_ok (hu : X.A.units + 65 < cLine) : IxR X (rD2 X.K subD) := by
  intro value slice pins s σ H x y v u Q I rx ry h hs
  obtain ⟨dx, dy, S, φ, w, hx, hy, h⟩ := h
  cases hx with
  | tup q r =>
    cases hy with
    | int i =>
      unfold subD at h
      dsimp only at h
      split at h
      · rename_i d hd
        obtain ⟨z, hz, rz⟩ := r.atI hd
        exact ix_tup value slice pins s σ H _ _ v u Q I rx ry ⟨_, _, i, z, rfl, rfl, q.sqt, hz, KQ.here' w rz h⟩ hs
      · exact h.elim
    | _ => exact h.elim
  | str z =>
    cases hy with
    | int i =>
      unfold subD at h
      dsimp only at h
      obtain ⟨hz, h⟩ := h
      split at h
      · rename_i c hc
        exact ix_str value slice pins s σ H _ _ v u Q I rx ry ⟨z, i, c, rfl, rfl, hz, hc, KQ.here' w (.str _) h⟩ hs
      · exact h.elim
    | _ => exact h.elim
  | loc n hn =>
    have ry0 := ry
    unfold subD at h
    dsimp only at h
    split at h
    · rename_i xs hc
      obtain ⟨vs, h1, r1⟩ := w.seq (.inl hc)
      cases hy with
      | int i =>
        dsimp only at h
        split at h
        · rename_i d hd
          obtain ⟨z, hz, rz⟩ := r1.atI hd
          exact ix_list value slice pins s σ H _ _ v u Q I rx ry ⟨_, _, i, z, rfl, rfl, h1, hz, KQ.here' w rz h⟩ hs
        · exact h.elim
      | _ => exact h.elim
    · rename_i xs hc
      obtain ⟨vs, h1, r1⟩ := w.seq (.inr hc)
      cases hy with
      | int i =>
        dsimp only at h
        split at h
        · rename_i d hd
          obtain ⟨z, hz, rz⟩ := r1.atI hd
          exact ix_list value slice pins s σ H _ _ v u Q I rx ry ⟨_, _, i, z, rfl, rfl, h1, hz, KQ.here' w rz h⟩ hs
        · exact h.elim
      | _ => exact h.elim
    · rename_i kvs hc
      split at h
      · rename_i kk hk
        split at h
        · rename_i d hd
          obtain ⟨vs, h1, r1⟩ := w.cell _ _ hc
          have e := keyK_inv hy hk
          have g := DGet.k (k := kk) h1
          have rz := valD_val kk r1
          rw [hd] at rz
          cases e2 : valV vs kk with
          | none => rw [e2] at rz; exact rz.elim
          | some z' =>
            rw [e2] at rz g
            cases (show v = Value.ref (φ n) from rx)
            exact tail_any (dict_typeIs I g) PySem.F.slot_dict_getitem.lookup (d_getItem (by omega) I g (by rw [← e]; exact ry) fun w' s3 I3 rw' => ⟨z', H, I3, rw', KQ.here' w rz h⟩) hs
        · exact h.elim
      · exact h.elim
    · rename_i kvs hc
      split at h
      · rename_i kk hk
        split at h
        · rename_i d hd
          obtain ⟨vs, h1, r1⟩ := w.cell _ _ hc
          obtain ⟨b, rfl, hb⟩ := keyT_inv hy hk
          have g := DGet.t (k := kk) h1 hb
          have rz := valD_val kk r1
          rw [hd] at rz
          cases e2 : valV vs kk with
          | none => rw [e2] at rz; exact rz.elim
          | some z' =>
            rw [e2] at rz g
            cases (show v = Value.ref (φ n) from rx)
            exact tail_any (dict_typeIs I g) PySem.F.slot_dict_getitem.lookup (d_getItem (by omega) I g ry fun w' s3 I3 rw' => ⟨z', H, I3, rw', KQ.here' w rz h⟩) hs
        · exact h.elim
      · exact h.elim
    · exact h.elim
  | _ => exact h.elim
/-- a slice -/
def rDs (K : PySem.W.Frag) : V → Option Int → Option Int → Hp → VK → Prop := fun v lo hi H Q => ∃ x S φ, Wd K H φ S ∧ RepV K H φ S.length x v ∧ sliceD x lo hi S (KQ K H φ S.length Q)
theorem sl_ok : SlR X (rDs X.K) := by
  intro pins s σ H x v vl vu lo hi sl Q I rx hs pl pu h
  obtain ⟨dx, S, φ, w, hx, h⟩ := h
  cases hx with
  | tup q r =>
    refine sl_tupA pins s σ H _ v vl vu lo hi sl Q I rx hs pl pu ⟨_, _, rfl, q.sqt, fun e => ?_, fun _ p hp => ?_⟩
    · refine KQ.here' w (.tup (k := .any) q.sqt ?_) h
      unfold cutD
      rw [r.length, e.1, e.2]
      simp only [List.drop_zero, Nat.sub_zero]
      rw [← r.length, List.take_length]
      exact r
    · exact h φ (.ref p) _ (.fresh hp) (w.fresh hp fun _ => nofun) (.tup (k := .any) (.of upd_same) ((r.cut lo hi).mono (.fresh hp)))
  | loc n hn =>
    unfold sliceD at h
    dsimp only at h
    split at h
    · rename_i xs hc
      obtain ⟨vs, h1, r1⟩ := w.seq (.inl hc)
      exact sl_list pins s σ H _ v vl vu lo hi sl Q I rx hs pl pu ⟨_, vs, rfl, h1, fun p hp => KQ.new h w hp (fun _ => nofun) ⟨_, upd_same, (r1.cut lo hi).mono (Le.alloc hp)⟩⟩
    · rename_i xs hc
      obtain ⟨vs, h1, r1⟩ := w.seq (.inr hc)
      exact sl_list pins s σ H _ v vl vu lo hi sl Q I rx hs pl pu ⟨_, vs, rfl, h1, fun p hp => KQ.new h w hp (fun _ => nofun) ⟨_, upd_same, (r1.cut lo hi).mono (Le.alloc hp)⟩⟩
    · exact h.elim
  | _ => exact h.elim
/-- a store -/
def rDset (K : PySem.W.Frag) : TSet := fun o i v H Q => ∃ x k z S φ, Wd K H φ S ∧ RepV K H φ S.length x o ∧ RepV K H φ S.length k i ∧ RepV K H φ S.length z v ∧ setD x k z S (KS K H φ S.length Q)
theorem putD_put {κ : Type} [DecidableEq κ] {K : PySem.W.Frag} {H : Hp} {φ : Nat → Addr} {N : Nat} {kvs : List (κ × D)} {k : List (κ × V)} (q : κ) {d : D} {v : V} (h : PairsR K H φ N kvs k) (r : RepV K H φ N d v) : PairsR K H φ N (putD kvs q d) (putK k q v) := by
  have hany : ∀ {kvs : List (κ × D)} {k : List (κ × V)}, PairsR K H φ N kvs k → (kvs.any fun kv => decide (kv.1 = q)) = (k.any fun kv => decide (kv.1 = q)) := by
    intro kvs k h
    induction h with
    | nil => rfl
    | cons z t ih => simp only [List.any_cons, ih, z.1]
  have hmap : ∀ {kvs : List (κ × D)} {k : List (κ × V)}, PairsR K H φ N kvs k → PairsR K H φ N (kvs.map fun kv => if kv.1 = q then (kv.1, d) else kv) (k.map fun kv => if kv.1 = q then (kv.1, v) else kv) := by
    intro kvs k h
    induction h with
    | nil => exact .nil
    | @cons a b _ _ z t ih =>
      simp only [List.map_cons]
      refine .cons ?_ ih
      rw [← z.1]
      by_cases e : a.1 = q
      · rw [if_pos e, if_pos e]; exact ⟨rfl, r⟩
      · rw [if_neg e, if_neg e]; exact z
  have happ : ∀ {kvs : List (κ × D)} {k : List (κ × V)}, PairsR K H φ N kvs k → PairsR K H φ N (kvs ++ [(q, d)]) (k ++ [(q, v)]) := by
    intro kvs k h
    induction h with
    | nil => exact .cons ⟨rfl, r⟩ .nil
    | cons z t ih => exact .cons z ih
  unfold putD putK
  rw [hany h]
  split
  · exact hmap h
  · exact happ h
theorem KS.write {K : PySem.W.Frag} {H : Hp} {φ : Nat → Addr} {S : Store} {Q : Hp → Prop} {n : Nat} {c c' : Cell} {o : HO} (h : KS K H φ S.length Q (S.set n c')) (w : Wd K H φ S) (e : S[n]? = some c) (m : c.mut) (m' : c'.mut) (ho : ∀ ps, o ≠ .tbl ps)
    (hc : CellOk K (upd H (φ n) o) φ S.length (φ n) c') : Q (upd H (φ n) o) := by
  obtain ⟨u, hu, wu⟩ := (w.cell n _ e).wr m
  have el : (S.set n c').length = S.length := by simp
  exact h φ _ (by rw [el]; exact ⟨Nat.le_refl _, fun _ _ => rfl, .write hu wu⟩) (w.write e m hu wu ho m' hc)
theorem set_ok (hu : X.A.units + 65 < cLine) : PSet X (rDset X.K) := by
  intro pins s σ H o i v ov iv u Q I ro ri rv h
  obtain ⟨x, k, z, S, φ, w, hx, hk, hz, h⟩ := h
  cases hx with
  | loc n hn =>
    unfold setD at h
    dsimp only at h
    split at h
    · rename_i xs hc
      obtain ⟨vs, h1, r1⟩ := w.lst hc
      cases hk with
      | int i' =>
        dsimp only at h
        split at h
        · rename_i j hj
          refine set_list pins s σ H _ _ _ ov iv u Q I ro ri rv ⟨_, vs, i', j, rfl, rfl, h1, by rw [← r1.length]; exact hj, ?_⟩
          have l := Le.write (φ := φ) (n := n) (N := S.length) (o := .lst (vs.set j v)) h1 trivial
          exact KS.write h w hc trivial trivial (fun _ => nofun) ⟨_, upd_same, (r1.mono l).set (hz.mono l) j⟩
        · exact h.elim
      | _ => exact h.elim
    · rename_i kvs hc
      split at h
      · rename_i kk hkk
        obtain ⟨vs, h1, r1⟩ := w.cell _ _ hc
        have e := keyK_inv hk hkk
        subst e
        have hl : vs.length < sizeLine := by rw [← Paired.length r1]; exact h.1
        refine set_dict (by omega) pins s σ H _ _ _ ov iv u Q I ro ri rv ⟨_, _, rfl, DPut.k h1 hl, ?_⟩
        have l := Le.write (φ := φ) (n := n) (N := S.length) (o := .dK (putK vs kk v)) h1 trivial
        exact KS.write h.2 w hc trivial trivial (fun _ => nofun) ⟨_, upd_same, putD_put kk (pairsR_mono l r1) (hz.mono l)⟩
      · exact h.elim
    · rename_i kvs hc
      split at h
      · rename_i kk hkk
        obtain ⟨vs, h1, r1⟩ := w.cell _ _ hc
        obtain ⟨b, rfl, hb⟩ := keyT_inv hk hkk
        have hl : vs.length < sizeLine := by rw [← Paired.length r1]; exact h.1
        refine set_dict (by omega) pins s σ H _ _ _ ov iv u Q I ro ri rv ⟨_, _, rfl, DPut.t h1 hb hl, ?_⟩
        have l := Le.write (φ := φ) (n := n) (N := S.length) (o := .dT (putK vs kk v)) h1 trivial
        exact KS.write h.2 w hc trivial trivial (fun _ => nofun) ⟨_, upd_same, putD_put kk (pairsR_mono l r1) (hz.mono l)⟩
      · exact h.elim
    · exact h.elim
  | _ => exact h.elim
end
end Pw
set_option maxHeartbeats 1000000
/-! Pw15: methods, by values. -/
namespace Pw
open PySem PySem.Spec PyProof.Rows L2

section
variable {CS : List Addr} {X : Cx}
theorem vals2 {x y : V} {us : List Value} (h : Vals [x, y] us) : ∃ a b, us = [a, b] ∧ RelV x a ∧ RelV y b := Vals.two h
theorem mt_append_ok : MtR X "list.append" (rDm X.K (meD .append)) := by
  intro pins s σ H x xs v us Q I rx rs h
  obtain ⟨dx, ds, S, φ, w, hx, hds, h⟩ := h
  cases hx with
  | loc n hn =>
    cases hds with
    | @cons d z _ _ r1 rt =>
      cases rt with
      | nil =>
        unfold meD at h
        dsimp only at h
        split at h
        · rename_i ys hc
          obtain ⟨vs, h1, r⟩ := w.lst hc
          refine mt_append pins s σ H _ _ v us Q I rx rs ⟨_, vs, _, rfl, rfl, h1, by rw [← r.length]; exact h.1, ?_⟩
          have l := Le.write (φ := φ) (n := n) (N := S.length) (o := .lst (vs ++ [z])) h1 trivial
          exact KQ.write h.2 w hc trivial trivial (fun _ => nofun) ⟨_, upd_same, (r.mono l).snoc (r1.mono l)⟩ .non
        · exact h.elim
      | cons _ _ => unfold meD at h; exact h.elim
    | nil => unfold meD at h; exact h.elim
  | _ => cases hds <;> unfold meD at h <;> exact h.elim
theorem mt_pop_ok : MtR X "list.pop" (rDm X.K (meD .pop)) := by
  intro pins s σ H x xs v us Q I rx rs h
  obtain ⟨dx, ds, S, φ, w, hx, hds, h⟩ := h
  cases hx with
  | loc n hn =>
    cases hds with
    | nil => unfold meD at h; exact h.elim
    | cons r1 rt =>
      cases rt with
      | cons _ _ => cases r1 <;> unfold meD at h <;> exact h.elim
      | nil =>
        cases r1 with
        | int i =>
          unfold meD at h
          dsimp only at h
          split at h
          · rename_i ys hc
            obtain ⟨vs, h1, r⟩ := w.lst hc
            split at h
            · rename_i j hj
              split at h
              · rename_i y hy
                obtain ⟨z, hz, rz⟩ := r.get hy
                obtain ⟨k1, k2, k3, k4⟩ := ixN_seq hj
                have hlen := r.length
                obtain ⟨hzl, _⟩ := I.lstM h1
                have hl63 := line63
                refine mt_popAt pins s σ H _ _ v us Q I rx rs ⟨_, vs, i, j, z, rfl, rfl, h1, by omega, by omega, by rw [← hlen]; exact k1, hz, ?_⟩
                have l := Le.write (φ := φ) (n := n) (N := S.length) (o := .lst (vs.eraseIdx j)) h1 trivial
                exact KQ.write h w hc trivial trivial (fun _ => nofun) ⟨_, upd_same, (r.mono l).eraseIdx j⟩ (rz.mono l)
              · exact h.elim
            · exact h.elim
          · exact h.elim
        | _ => unfold meD at h; exact h.elim
  | _ => cases hds with
    | nil => unfold meD at h; exact h.elim
    | cons r1 rt => cases r1 <;> cases rt <;> unfold meD at h <;> exact h.elim
theorem findIdx_first {α : Type} {p : α → Bool} : ∀ {l : List α} {j : Nat}, l.findIdx? p = some j → (∃ a, l[j]? = some a ∧ p a = true) ∧ ∀ m, m < j → ∀ a, l[m]? = some a → p a = false
  | [], _, h => by simp at h
  | a :: l, j, h => by
    rw [List.findIdx?_cons] at h
    split at h
    · rename_i hp
      cases h
      exact ⟨⟨a, rfl, hp⟩, fun m hm => absurd hm (Nat.not_lt_zero _)⟩
    · rename_i hp
      obtain ⟨i, hi, rfl⟩ := Option.map_eq_some_iff.mp h
      obtain ⟨⟨b, h1, h2⟩, h3⟩ := findIdx_first hi
      refine ⟨⟨b, by simpa using h1, h2⟩, fun m hm c hc => ?_⟩
      cases m with
      | zero => simp at hc; subst hc; simpa using hp
      | succ m => exact h3 m (by omega) c (by simpa using hc)
theorem mt_index_ok : MtR X "tuple.index" (rDm X.K (meD .index)) := by
  intro pins s σ H x xs v us Q I rx rs h
  obtain ⟨dx, ds, S, φ, w, hx, hds, h⟩ := h
  cases hx with
  | @tup a vs ys tk q r =>
    cases tk with
    | kn =>
      cases hds with
      | nil => unfold meD at h; exact h.elim
      | cons r1 rt =>
        cases rt with
        | cons _ _ => cases r1 <;> unfold meD at h <;> exact h.elim
        | nil =>
          cases r1 with
          | str z =>
            unfold meD at h
            dsimp only at h
            split at h
            · rename_i ss hss
              split at h
              · rename_i j hj
                have e := r.strs hss
                subst e
                obtain ⟨⟨b, h1, h2⟩, h3⟩ := findIdx_first hj
                have h2 : b = z := of_decide_eq_true h2
                subst h2
                refine mt_tup_index pins s σ H _ _ v us Q I rx rs ⟨a, ss, b, j, rfl, rfl, q.sqt, h1, fun m hm hc => ?_, KQ.here' w (.int _) h⟩
                have := h3 m hm b hc
                simp at this
              · exact h.elim
            · exact h.elim
          | _ => unfold meD at h; exact h.elim
    | key => cases hds with
      | nil => unfold meD at h; exact h.elim
      | cons r1 rt => cases r1 <;> cases rt <;> unfold meD at h <;> exact h.elim
    | any => cases hds with
      | nil => unfold meD at h; exact h.elim
      | cons r1 rt => cases r1 <;> cases rt <;> unfold meD at h <;> exact h.elim
  | _ => cases hds with
    | nil => unfold meD at h; exact h.elim
    | cons r1 rt => cases r1 <;> cases rt <;> unfold meD at h <;> exact h.elim
theorem getD_rep {κ : Type} [DecidableEq κ] {K : PySem.W.Frag} {H : Hp} {φ : Nat → Addr} {N : Nat} {kvs : List (κ × D)} {k : List (κ × V)} (q : κ) (h : PairsR K H φ N kvs k) {d : D} {v : V} (r : RepV K H φ N d v) : RepV K H φ N ((valD kvs q).getD d) ((valV k q).getD v) := by
  have z := valD_val q h
  cases e1 : valD kvs q with
  | none => cases e2 : valV k q with
    | none => exact r
    | some b => rw [e1, e2] at z; exact z.elim
  | some a => cases e2 : valV k q with
    | none => rw [e1, e2] at z; exact z.elim
    | some b => rw [e1, e2] at z; exact z
theorem mt_get_ok (hu : X.A.units + 65 < cLine) : MtR X "dict.get" (rDm X.K (meD .get)) := by
  intro pins s σ H x xs v us Q I rx rs h
  obtain ⟨dx, ds, S, φ, w, hx, hds, h⟩ := h
  cases hx with
  | loc n hn =>
    cases hds with
    | nil => unfold meD at h; exact h.elim
    | cons r1 rt =>
      cases rt with
      | nil => unfold meD at h; exact h.elim
      | cons r2 rt =>
        cases rt with
        | cons _ _ => unfold meD at h; exact h.elim
        | nil =>
          obtain ⟨u1, u2, rfl, ru1, ru2⟩ := vals2 rs
          cases (show v = Value.ref (φ n) from rx)
          unfold meD at h
          dsimp only at h
          split at h
          · rename_i kvs hc
            split at h
            · rename_i kk hk
              obtain ⟨vs, h1, r⟩ := w.cell _ _ hc
              obtain ⟨b, rfl, hb⟩ := keyT_inv r1 hk
              exact d_get2 (by omega) I (DGet.t (k := kk) h1 hb) ru1 ru2 fun w' s4 I4 rw' => ⟨_, H, I4, rw', KQ.here' w (getD_rep kk r r2) h⟩
            · exact h.elim
          · rename_i kvs hc
            split at h
            · rename_i kk hk
              obtain ⟨vs, h1, r⟩ := w.cell _ _ hc
              have e := keyK_inv r1 hk
              subst e
              exact d_get2 (by omega) I (DGet.k (k := kk) h1) ru1 ru2 fun w' s4 I4 rw' => ⟨_, H, I4, rw', KQ.here' w (getD_rep kk r r2) h⟩
            · exact h.elim
          · exact h.elim
  | _ => cases hds with
    | nil => unfold meD at h; exact h.elim
    | cons r1 rt => cases rt <;> unfold meD at h <;> first | exact h.elim | (rename_i r2 rt; cases rt <;> exact h.elim)
theorem mt_join_ok : MtR X "str.join" (rDm X.K (meD .join)) := by
  intro pins s σ H x xs v us Q I rx rs h
  obtain ⟨dx, ds, S, φ, w, hx, hds, h⟩ := h
  cases hx with
  | str z =>
    cases hds with
    | nil => unfold meD at h; exact h.elim
    | cons r1 rt =>
      cases rt with
      | cons _ _ => cases r1 <;> unfold meD at h <;> exact h.elim
      | nil =>
        cases r1 with
        | loc n hn =>
          unfold meD at h
          dsimp only at h
          split at h
          · rename_i ys hc
            obtain ⟨vs, h1, r⟩ := w.lst hc
            split at h
            · rename_i ss hss
              have e := r.strs hss
              subst e
              exact mt_join pins s σ H _ _ v us Q I rx rs ⟨z, _, ss, rfl, rfl, .inl (.of h1), by have := sizeLine_eq; omega, KQ.here' w (.str _) h.2⟩
            · exact h.elim
          · exact h.elim
        | _ => unfold meD at h; exact h.elim
  | _ => cases hds with
    | nil => unfold meD at h; exact h.elim
    | cons r1 rt => cases r1 <;> cases rt <;> unfold meD at h <;> exact h.elim

/-- the type that has the method -/
def meTy : Me → String
  | .append => "list" | .pop => "list" | .remove => "list" | .index => "tuple" | .get => "dict" | .join => "str"
theorem me_ty {pins : List (Addr × Obj)} {s : Shared} {σ : L2.St} {H : Hp} {m : Me} {x : V} {v : Value} {dx : D} {S : Store} {φ : Nat → Addr} (I : Inv X pins σ H s) (rx : RelV x v) (w : Wd X.K H φ S) (hx : RepV X.K H φ S.length dx x) (h : meOk m dx S) :
    s.TypeIs v (meTy m) ∧ ∀ a, v = .ref a → ∃ ob, s.heap.get? a = some ob ∧ ob.dict = none := by
  have list : ∀ {n : Nat}, (match S[n]? with | some (.lst _) => True | _ => False) → v = Value.ref (φ n) → s.TypeIs v "list" ∧ ∀ a, v = .ref a → ∃ ob, s.heap.get? a = some ob ∧ ob.dict = none := fun {n} h e => by
    subst e
    split at h
    · rename_i ys hc
      obtain ⟨vs, h1, r⟩ := w.lst hc
      obtain ⟨its, _, pl, _⟩ := I.list (.of h1)
      refine ⟨pl.isList.typeIs, fun a e => ?_⟩
      cases e
      obtain ⟨o, n, e, c, hd, _⟩ := pl
      exact ⟨o, e, hd⟩
    · exact h.elim
  cases m with
  | append =>
    cases hx with
    | loc n hn => exact list (n := n) h rx
    | _ => exact h.elim
  | pop =>
    cases hx with
    | loc n hn => exact list (n := n) h rx
    | _ => exact h.elim
  | remove =>
    cases hx with
    | loc n hn => exact list (n := n) h rx
    | _ => exact h.elim
  | index =>
    cases hx with
    | @tup a xs ds tk q r =>
      cases tk with
      | kn =>
        obtain ⟨o, h1, hd⟩ := q
        cases (show v = Value.ref a from rx)
        obtain ⟨e1, _, its, _, ob, e2, e3, e4⟩ := I.hok a _ h1
        rw [e1] at e2; cases e2
        exact ⟨⟨o, e1, e3⟩, fun b e => by cases e; exact ⟨o, e1, hd⟩⟩
      | key => exact h.elim
      | any => exact h.elim
    | _ => exact h.elim
  | get =>
    cases hx with
    | loc n hn =>
      cases (show v = Value.ref (φ n) from rx)
      have h : (match S[n]? with | some (.dT _) => True | some (.dK _) => True | _ => False) := h
      have hd : IsD H (φ n) := by
        split at h
        · rename_i kvs hc
          obtain ⟨vs, h1, r⟩ := w.cell _ _ hc
          exact .inr ⟨vs, .inl h1⟩
        · rename_i kvs hc
          obtain ⟨vs, h1, r⟩ := w.cell _ _ hc
          exact .inl ⟨vs, .inl h1⟩
        · exact h.elim
      obtain ⟨t1, t2, _⟩ := isD_at I hd
      exact ⟨t1, t2⟩
    | _ => exact h.elim
  | join =>
    cases hx with
    | str z =>
      obtain ⟨t, rfl⟩ := rx
      exact ⟨typeIs_str s z t, fun _ e => nomatch e⟩
    | _ => exact h.elim
/-- o.name(..), by values -/
theorem pe_mw {m : Me} {name : Str} {id : String} {o e : Expr} {es : List Expr} {apos cpos : Pos} {WO WA : W} (pa : PlainAttrs (meTy m)) (slot : Slot (meTy m) name id) (hty : typeOf (.builtin id) = pure (.type "method_descriptor")) (hm : MtR X id (rDm X.K (meD m)))
    (ho : PE X o (tE CS X WO.e)) (ha : PA X (e :: es) (tA CS X WA.a)) (mO : MW WO) (mA : MW WA)
    (hbase : attributeBase o name X.env (eval o X.env) = eval o X.env)
    (hfew : ((backTo cpos (starEach (e :: es) X.env)).all (fun x => !x.1) && (backToKw cpos (keywordEach [] X.env)).all (fun x => x.1.isSome)
      && decide ((e :: es).length + ([] : List Keyword).length + (if ([] : List Keyword).isEmpty then 0 else 1) < 30)) = true)
    (hline : (apos.endLine == cpos.line) = true) (hs : starEach (e :: es) X.env = (false, eval e X.env) :: starEach es X.env) (hplain : (backTo cpos (starEach es X.env)).any (·.1) = false) :
    PE X (.Call (.Attribute o name apos) (e :: es) [] cpos) (tE CS X fun env S Q => WO.e env S fun x S1 => meOk m x S1 ∧ WA.a env S1 fun ds S2 => meD m x ds S2 Q) := by
  refine ⟨fun pins s σ H Q I h => ?_⟩
  obtain ⟨env, S, φ, a, h⟩ := h
  have h1 := tE_mk (G := fun v H1 => ∃ x S1 φ1, Le H φ S.length H1 φ1 S1.length ∧ At CS X env S1 φ1 σ H1 ∧ RepV X.K H1 φ1 S1.length x v ∧ _) mO a h fun x S1 φ1 v H1 l a1 rv r => ⟨x, S1, φ1, l, a1, rv, r⟩
  refine wpAny_Call_method_late hbase hfew hline rfl (thn (ho.run pins s σ H _ I h1) fun v s1 ⟨xv, H1, I1, r1, x, S1, φ1, l1, a1, rx, ok, q1⟩ => ?_)
  obtain ⟨t1, t2⟩ := me_ty I1 r1 a1.w rx ok
  refine ⟨meTy m, id, pa, slot, hty, t1, t2, ?_⟩
  have h2 := tA_mk (G := fun vs H2 => ∃ ds S2 φ2, Le H1 φ1 S1.length H2 φ2 S2.length ∧ At CS X env S2 φ2 σ H2 ∧ RepL X.K H2 φ2 S2.length ds vs ∧ _) mA a1 q1 fun ds S2 φ2 vs H2 l a2 rv r => ⟨ds, S2, φ2, l, a2, rv, r⟩
  have hA := ha.run cpos pins s1 σ H1 _ I1 h2
  rw [hs] at hA ⊢
  refine Calls.callWith_builtin (by show (false || (backTo cpos (starEach es X.env)).any (·.1)) = false; rw [hplain] <;> rfl) (Calls.evalArgs_plain ?_)
  refine thn hA fun us s2 ⟨vs, H2, I2, r2, ds, S2, φ2, l2, a2, rds, q2⟩ => hm pins s2 σ H2 xv vs v us Q I2 r1 r2 ⟨x, ds, S2, φ2, a2.w, rx.mono l2, rds, ?_⟩
  exact meD_mono q2 fun d S' q => KQ.le (l1.trans l2) q
end
end Pw
set_option maxHeartbeats 1000000
/-! Pw16: built-ins, by values. -/
namespace Pw
open PySem PySem.Spec PyProof.Rows L2

section
variable {X : Cx}
theorem rl1 {K : PySem.W.Frag} {H : Hp} {φ : Nat → Addr} {N : Nat} {xs : List V} {d : D} (h : RepL K H φ N [d] xs) : ∃ v, xs = [v] ∧ RepV K H φ N d v := by
  cases h with
  | cons r t => cases t; exact ⟨_, rfl, r⟩
theorem rl2 {K : PySem.W.Frag} {H : Hp} {φ : Nat → Addr} {N : Nat} {xs : List V} {d e : D} (h : RepL K H φ N [d, e] xs) : ∃ v u, xs = [v, u] ∧ RepV K H φ N d v ∧ RepV K H φ N e u := by
  cases h with
  | cons r t => cases t with
    | cons r' t => cases t; exact ⟨_, _, rfl, r, r'⟩
theorem b_len : CallR X (.builtin "len") (rDn X.K (biD .len)) := by
  intro pins s σ H xs us Q I rs h
  obtain ⟨ds, S, φ, w, hds, h⟩ := h
  match ds, hds, h with
  | [], _, h => exact h.elim
  | _ :: _ :: _, _, h => exact h.elim
  | [d], hds, h =>
    obtain ⟨v, rfl, hd⟩ := rl1 hds
    have h : (match lenD S d with | some n => KQ X.K H φ S.length Q (.int n) S | none => False) := h
    split at h
    · rename_i n hn
      have q := KQ.here' w (.int _) h
      cases hd with
      | str z =>
        unfold lenD at hn
        dsimp only at hn
        split at hn
        · rename_i hz; cases hn; exact call_len_str pins s σ H _ us Q I rs ⟨z, rfl, hz, q⟩
        · cases hn
      | tup qt r =>
        cases hn
        exact call_len_seq pins s σ H _ us Q I rs ⟨_, _, rfl, .inr qt.sqt, by rw [← r.length]; exact q⟩
      | loc m hm =>
        unfold lenD at hn
        dsimp only at hn
        split at hn
        · rename_i ys hc
          cases hn
          obtain ⟨vs, h1, r⟩ := w.seq (.inl hc)
          exact call_len_seq pins s σ H _ us Q I rs ⟨_, _, rfl, .inl h1, by rw [← r.length]; exact q⟩
        · rename_i ys hc
          cases hn
          obtain ⟨vs, h1, r⟩ := w.seq (.inr hc)
          exact call_len_seq pins s σ H _ us Q I rs ⟨_, _, rfl, .inl h1, by rw [← r.length]; exact q⟩
        · cases hn
      | _ => cases hn
    · exact h.elim
theorem b_int : CallR X (.type "int") (rDn X.K (biD .int)) := by
  intro pins s σ H xs us Q I rs h
  obtain ⟨ds, S, φ, w, hds, h⟩ := h
  match ds, hds, h with
  | [.int i], hds, h =>
    obtain ⟨v, rfl, hd⟩ := rl1 hds
    cases hd
    exact call_int1 pins s σ H _ us Q I rs (.inl ⟨i, rfl, KQ.here' w (.int _) h⟩)
theorem b_abs : CallR X (.builtin "abs") (rDn X.K (biD .abs)) := by
  intro pins s σ H xs us Q I rs h
  obtain ⟨ds, S, φ, w, hds, h⟩ := h
  match ds, hds, h with
  | [.int i], hds, h =>
    obtain ⟨v, rfl, hd⟩ := rl1 hds
    cases hd
    exact call_abs pins s σ H _ us Q I rs ⟨i, rfl, KQ.here' w (.int _) h⟩
theorem b_divmod : CallR X (.builtin "divmod") (rDn X.K (biD .divmod)) := by
  intro pins s σ H xs us Q I rs h
  obtain ⟨ds, S, φ, w, hds, h⟩ := h
  match ds, hds, h with
  | [.int i, .int j], hds, h =>
    obtain ⟨v, u, rfl, h1, h2⟩ := rl2 hds
    cases h1
    cases h2
    exact call_divmod pins s σ H _ us Q I rs ⟨i, j, rfl, h.1, fun p hp => h.2 φ (.ref p) _ (.fresh hp) (w.fresh hp fun _ => nofun) (.tup (k := .any) (.of upd_same) (.cons (.int _) (.cons (.int _) .nil)))⟩
/-- what the items of a list, of a tuple read as -/
theorem seq_reads {pins : List (Addr × Obj)} {s : Shared} {σ : L2.St} {H : Hp} {x : D} {v : V} {S : Store} {φ : Nat → Addr} {ds : List D} {ps : List PyData} (I : Inv X pins σ H s) (w : Wd X.K H φ S) (hx : RepV X.K H φ S.length x v) (e : seqD S x = some ds) (hp : dqs S ds = some ps) :
    ∃ (a : Addr) (vs : List V) (its : List Value) (as : List Addr), v = .ref a ∧ RepL X.K H φ S.length ds vs ∧ Vals vs its ∧ (s.heap.IsList a its.toArray ∨ s.heap.IsTuple a its.toArray) ∧ ReadsAll s.heap its.toArray.toList ps as := by
  obtain ⟨a, vs, rfl, h, r⟩ := w.seqD hx e
  rcases h with h | h
  · obtain ⟨its, rv, pl, hz⟩ := I.list h
    obtain ⟨as, rr⟩ := Dp.readsAll I ps vs its (w.dps r hp) rv
    exact ⟨a, vs, its, as, rfl, r, rv, .inl pl.isList, rr⟩
  · obtain ⟨its, rv, pl, hz⟩ := I.tuple h
    obtain ⟨as, rr⟩ := Dp.readsAll I ps vs its (w.dps r hp) rv
    exact ⟨a, vs, its, as, rfl, r, rv, .inr pl, rr⟩
theorem ints_dqs {S : Store} : ∀ {ds : List D} {is : List Int}, intsD ds = some is → dqs S ds = some (is.map .int)
  | [], is, h => by cases h; rfl
  | .int i :: r, is, h => by
    obtain ⟨js, e, rfl⟩ := Option.map_eq_some_iff.mp (show (intsD r).map (i :: ·) = some is from h)
    have ih := ints_dqs (S := S) e
    unfold dqs at ih ⊢
    rw [List.mapM_cons, ih]
    rfl
  | .non :: _, _, h => by cases h
  | .bl _ :: _, _, h => by cases h
  | .str _ :: _, _, h => by cases h
  | .tup _ _ :: _, _, h => by cases h
  | .loc _ :: _, _, h => by cases h
theorem alike_ints : ∀ is : List Int, PySem.W.AlikeAll (is.map .int) := fun is => by
  refine ⟨fun x hx y hy => ?_, fun x hx => ?_⟩
  · obtain ⟨i, _, rfl⟩ := List.mem_map.mp hx
    obtain ⟨j, _, rfl⟩ := List.mem_map.mp hy
    rfl
  · obtain ⟨i, _, rfl⟩ := List.mem_map.mp hx
    exact fun z => by cases z
theorem depthAll_le : ∀ {ps : List PyData} {n : Nat}, (∀ p ∈ ps, p.depth ≤ n) → PyData.depthAll ps ≤ n + 1
  | [], n, _ => by simp [PyData.depthAll]
  | p :: ps, n, h => by
    have h1 := h p List.mem_cons_self
    have h2 := depthAll_le fun q hq => h q (List.mem_cons_of_mem _ hq)
    simp only [PyData.depthAll]
    omega
theorem dqs_at {S : Store} : ∀ {ds : List D} {ps : List PyData} {i : Nat} {p : PyData}, dqs S ds = some ps → ps[i]? = some p → ∃ d, ds[i]? = some d ∧ dq 16 S d = some p
  | [], ps, i, p, h, e => by
    have h : some [] = some ps := by simpa [dqs] using h
    cases h; simp at e
  | d :: ds, ps, i, p, h, e => by
    unfold dqs at h
    rw [List.mapM_cons] at h
    cases h1 : dq 16 S d with
    | none => rw [h1] at h; cases h
    | some q =>
      cases h2 : ds.mapM (dq 16 S) with
      | none => rw [h1, h2] at h; cases h
      | some qs =>
        rw [h1, h2] at h
        have h : some (q :: qs) = some ps := h
        cases h
        cases i with
        | zero => simp at e; subst e; exact ⟨d, rfl, h1⟩
        | succ i =>
          obtain ⟨d', a, b⟩ := dqs_at (ds := ds) (i := i) h2 (by simpa using e)
          exact ⟨d', by simpa using a, b⟩
theorem b_max (hc : X.calm = true) (hu : X.A.units + 70 < cLine) : CallR X (.builtin "max") (rDn X.K (biD .max)) := by
  intro pins s σ H xs us Q I rs h
  obtain ⟨ds, S, φ, w, hds, h⟩ := h
  match ds, hds, h with
  | [.int i, .int j], hds, h =>
    obtain ⟨v, u, rfl, h1, h2⟩ := rl2 hds
    cases h1
    cases h2
    exact call_max2 hc pins s σ H _ us Q I rs ⟨i, j, rfl, KQ.here' w (.int _) h⟩
  | [x], hds, h =>
    obtain ⟨v, rfl, hd⟩ := rl1 hds
    have h : (match (seqD S x).bind intsD with
      | some (i :: r) => KQ X.K H φ S.length Q (.int (r.foldl max i)) S
      | _ => match seqD S x with
        | some (y :: ys) => match dqs S (y :: ys) with
          | some (p :: ps) => (∀ a ∈ p :: ps, ∀ b ∈ p :: ps, PySem.W.alike a b = true) ∧ (∀ a ∈ p :: ps, a ≠ .none ∧ a.depth ≤ 60) ∧
            ∀ (i : Nat) (d : D), (y :: ys)[i]? = some d → (p :: ps)[i]? = some (PySem.W.maxD p ps) → KQ X.K H φ S.length Q d S
          | _ => False
        | _ => False) := by cases x <;> exact h
    split at h
    · rename_i i r hir
      obtain ⟨ds, e1, e2⟩ := Option.bind_eq_some_iff.mp hir
      obtain ⟨a, vs, its, as, rfl, rl, rv, hl, rr⟩ := seq_reads I w hd e1 (ints_dqs e2)
      obtain ⟨u, rfl, ru⟩ := Vals.one rs
      cases ru
      have q := KQ.here' w (.int _) h
      have hdp : PyData.depthAll ((i :: r).map .int) ≤ 2 := depthAll_le fun p hp => by
        obtain ⟨j, _, rfl⟩ := List.mem_map.mp hp
        simp [PyData.depth]
      have fin : ∀ (i' : Nat) v h' tk bs, its.toArray[i']? = some v → Reads h' v (PySem.W.maxD (.int i) (r.map .int)) bs → (∀ b o, s.heap.get? b = some o → h'.get? b = some o) → EP X pins σ Q v { s with heap := h', toks := tk } := fun i' v h' tk bs _ rd k => by
        rw [PySem.W.maxD_ints] at rd
        cases rd
        exact ⟨.int _, H, I.kept k, ⟨_, rfl⟩, q⟩
      rcases hl with hl | hl
      · exact PySem.W.max_list_data (x := .int i) (xs := r.map .int) (I.ok.hd hc) hl rr (alike_ints (i :: r)) (by have := hdp; simp only [List.map_cons] at this; omega) fin
      · exact PySem.W.max_tuple_data (x := .int i) (xs := r.map .int) (I.ok.hd hc) hl rr (alike_ints (i :: r)) (by have := hdp; simp only [List.map_cons] at this; omega) fin
    ·
      split at h
      · rename_i y ys e1
        split at h
        · rename_i p ps e2
          obtain ⟨hal, hcl, h⟩ := h
          obtain ⟨a, vs, its, as, rfl, rl, rv, hl, rr⟩ := seq_reads I w hd e1 e2
          obtain ⟨u, rfl, ru⟩ := Vals.one rs
          cases ru
          have hdp : PyData.depthAll (p :: ps) ≤ 61 := depthAll_le fun q hq => (hcl q hq).2
          have fin : ∀ (i' : Nat) v h' tk bs, its.toArray[i']? = some v → Reads h' v (PySem.W.maxD p ps) bs → (∀ b o, s.heap.get? b = some o → h'.get? b = some o) → EP X pins σ Q v { s with heap := h', toks := tk } := fun i' v h' tk bs hv rd k => by
            have hv' : its[i']? = some v := by simpa using hv
            obtain ⟨cs, r1, hi, hm, _⟩ := PySem.W.readsAll_atA rr i' v hv
            have hpi : (p :: ps)[i']? = some ((p :: ps).getD i' .none) := by
              rw [List.getD_eq_getElem?_getD, List.getElem?_eq_getElem hi]; rfl
            obtain ⟨d, hd1, hd2⟩ := dqs_at e2 hpi
            obtain ⟨z, hz, rz⟩ := rl.get hd1
            obtain ⟨v2, hv2, rv2⟩ := rv.get hz
            rw [hv'] at hv2; cases hv2
            have eq : (p :: ps).getD i' .none = PySem.W.maxD p ps := (Reads.unique (Reads.keeps k r1) _ _ rd).1
            exact ⟨z, H, I.kept k, rv2, KQ.here' w rz (h i' d hd1 (by rw [hpi, eq]))⟩
          rcases hl with hl | hl
          · exact PySem.W.max_list_data (x := p) (xs := ps) (I.ok.hd hc) hl rr ⟨hal, fun q hq => (hcl q hq).1⟩ (by omega) fin
          · exact PySem.W.max_tuple_data (x := p) (xs := ps) (I.ok.hd hc) hl rr ⟨hal, fun q hq => (hcl q hq).1⟩ (by omega) fin
        · exact h.elim
      · exact h.elim
theorem b_min (hc : X.calm = true) (hu : X.A.units + 70 < cLine) : CallR X (.builtin "min") (rDn X.K (biD .min)) := by
  intro pins s σ H xs us Q I rs h
  obtain ⟨ds, S, φ, w, hds, h⟩ := h
  match ds, hds, h with
  | [.int i, .int j], hds, h =>
    obtain ⟨v, u, rfl, h1, h2⟩ := rl2 hds
    cases h1
    cases h2
    exact call_min2 hc pins s σ H _ us Q I rs ⟨i, j, rfl, KQ.here' w (.int _) h⟩
  | [x], hds, h =>
    obtain ⟨v, rfl, hd⟩ := rl1 hds
    have h : (match seqD S x with
      | some (y :: ys) => match dqs S (y :: ys) with
        | some (p :: ps) => (∀ a ∈ p :: ps, ∀ b ∈ p :: ps, PySem.W.alike a b = true) ∧ (∀ a ∈ p :: ps, a ≠ .none ∧ a.depth ≤ 60) ∧
          ∀ (i : Nat) (d : D), (y :: ys)[i]? = some d → (p :: ps)[i]? = some (PySem.W.minD p ps) → KQ X.K H φ S.length Q d S
        | _ => False
      | _ => False) := by cases x <;> exact h
    split at h
    · rename_i y ys e1
      split at h
      · rename_i p ps e2
        obtain ⟨hal, hcl, h⟩ := h
        obtain ⟨a, vs, its, as, rfl, rl, rv, hl, rr⟩ := seq_reads I w hd e1 e2
        obtain ⟨u, rfl, ru⟩ := Vals.one rs
        cases ru
        have hdp : PyData.depthAll (p :: ps) ≤ 61 := depthAll_le fun q hq => (hcl q hq).2
        have fin : ∀ (i' : Nat) v h' tk bs, its.toArray[i']? = some v → Reads h' v (PySem.W.minD p ps) bs → (∀ b o, s.heap.get? b = some o → h'.get? b = some o) → EP X pins σ Q v { s with heap := h', toks := tk } := fun i' v h' tk bs hv rd k => by
          have hv' : its[i']? = some v := by simpa using hv
          obtain ⟨cs, r1, hi, hm, _⟩ := PySem.W.readsAll_atA rr i' v hv
          have hpi : (p :: ps)[i']? = some ((p :: ps).getD i' .none) := by
            rw [List.getD_eq_getElem?_getD, List.getElem?_eq_getElem hi]; rfl
          obtain ⟨d, hd1, hd2⟩ := dqs_at e2 hpi
          obtain ⟨z, hz, rz⟩ := rl.get hd1
          obtain ⟨v2, hv2, rv2⟩ := rv.get hz
          rw [hv'] at hv2; cases hv2
          have eq : (p :: ps).getD i' .none = PySem.W.minD p ps := (Reads.unique (Reads.keeps k r1) _ _ rd).1
          exact ⟨z, H, I.kept k, rv2, KQ.here' w rz (h i' d hd1 (by rw [hpi, eq]))⟩
        rcases hl with hl | hl
        · exact PySem.W.min_list_data (x := p) (xs := ps) (I.ok.hd hc) hl rr ⟨hal, fun q hq => (hcl q hq).1⟩ (by omega) fin
        · exact PySem.W.min_tuple_data (x := p) (xs := ps) (I.ok.hd hc) hl rr ⟨hal, fun q hq => (hcl q hq).1⟩ (by omega) fin
      · exact h.elim
    · exact h.elim
theorem sum_tup {prog : Program} {w : World} {A : Around} {E : Value → Shared → Prop} {s : Shared} {xs : Array (Int × Tok)} {l : Addr} {Q : Value → Shared → Prop} (hh : A.handled = none) (hl : s.heap.IsTuple l (intItems xs))
    (h : ∀ h' tk t', (∀ b o, s.heap.get? b = some o → h'.get? b = some o) → Q (.int (preSum (numAt xs) xs.size) t') { s with heap := h', toks := tk }) :
    wpAny (model prog w) A (call (.builtin "sum") [.ref l]) Q E s := by
  have hlt : l < s.heap.objs.size := let ⟨_, ho, _⟩ := hl; Heap.lt_size ho
  refine call_sum_walkG (wpAny_pyIter_tuple hl ?_)
  refine ⟨s.heap.objs.size, [s.heap.objs.size, l], [s.heap.objs.size], _, _, _, numAt xs, rfl, Walks.tuple (A := A.in1) hh _ l (Nat.ne_of_lt hlt) (intItems xs), ⟨⟨_, Heap.get?_push_size _ rfl, rfl, rfl⟩, let ⟨o, ho, r⟩ := hl; ⟨o, Heap.get?_push_of_some _ ho, r⟩⟩, fun b hb => ?_, (fun _ _ => intItems_at), fun h' tk t' hk => ?_⟩
  · rw [Heap.size_push]
    rcases List.mem_cons.mp hb with rfl | hb
    · exact Nat.lt_succ_self _
    · rw [List.mem_singleton.mp hb]; exact Nat.lt_succ_of_lt hlt
  · have := h h' tk t' fun b o e => hk b o (fun z => by
      rw [List.mem_singleton.mp z] at e
      exact Nat.lt_irrefl _ (Heap.lt_size e)) (Heap.get?_push_of_some _ e)
    simpa [intItems] using this
/-- a list -/
theorem Wd.lstD {K : PySem.W.Frag} {H : Hp} {φ : Nat → Addr} {S : Store} {x : D} {v : V} {ds : List D} (w : Wd K H φ S) (r : RepV K H φ S.length x v) (e : Pw.lstD S x = some ds) : ∃ a xs, v = .ref a ∧ SqL K H a xs ∧ RepL K H φ S.length ds xs := by
  unfold Pw.lstD at e
  split at e
  · rename_i n
    cases r with
    | loc _ hn =>
      rcases seqD_inv e with ⟨_, z⟩ | ⟨m, z, h⟩
      · cases z
      · cases z
        obtain ⟨xs, q, r⟩ := w.seq h
        exact ⟨_, xs, rfl, q, r⟩
  · cases e
theorem b_sum (hc : X.calm = true) : CallR X (.builtin "sum") (rDn X.K (biD .sum)) := by
  intro pins s σ H xs us Q I rs h
  obtain ⟨ds, S, φ, w, hds, h⟩ := h
  match ds, hds, h with
  | [x], hds, h =>
    obtain ⟨v, rfl, hd⟩ := rl1 hds
    have h : (match (seqD S x).bind intsD with
      | some is => KQ X.K H φ S.length Q (.int is.sum) S
      | _ => False) := by cases x <;> exact h
    split at h
    · rename_i is hir
      obtain ⟨ds, e1, e2⟩ := Option.bind_eq_some_iff.mp hir
      obtain ⟨a, vs, rfl, hs, r⟩ := w.seqD hd e1
      have e := r.ints e2
      subst e
      have q := KQ.here' w (.int _) h
      rcases hs with hs | hs
      · exact cr_sum hc pins s σ H _ us Q I rs ⟨a, is, rfl, hs, q⟩
      · obtain ⟨u, rfl, ru⟩ := Vals.one rs
        cases ru
        obtain ⟨its, rv, pl, hz⟩ := I.tuple hs
        have hi := rv.ints
        obtain ⟨xs, e⟩ := hi.allInts.items
        have hn : numsOf (intItems xs).toList = is := by rw [← e]; exact hi.numsOf
        rw [nums_intItems] at hn
        rw [e] at pl
        refine sum_tup (I.ok.hd hc) pl fun h' tk t' hk => ?_
        rw [preSum_eq, List.take_of_length_le (by simp), hn]
        exact ⟨.int _, H, I.kept hk, ⟨_, rfl⟩, q⟩
    · exact h.elim
theorem b_sorted : CallR X (.builtin "sorted") (rDn X.K (biD .sorted)) := by
  intro pins s σ H xs us Q I rs h
  obtain ⟨ds, S, φ, w, hds, h⟩ := h
  match ds, hds, h with
  | [x], hds, h =>
    obtain ⟨v, rfl, hd⟩ := rl1 hds
    have h : (match lstD S x with
      | some ds => match strsD ds with
        | some ss => ss.length < 64 ∧ ∀ ys : List Str, ys.Perm ss → PyProof.Rows.sortedS ys = true → KQ X.K H φ S.length Q (.loc S.length) (S ++ [.lst (ys.map .str)])
        | none => False
      | none => False) := by cases x <;> exact h
    split at h
    · rename_i ds e1
      split at h
      · rename_i ss e2
        obtain ⟨a, vs, rfl, hs, r⟩ := w.lstD hd e1
        have e := r.strs e2
        subst e
        refine cr_sortedS pins s σ H _ us Q I rs ⟨a, ss, rfl, hs, h.1, fun ys p hp hsd hn => ?_⟩
        exact KQ.new (h.2 ys hp hsd) w hn (fun _ => nofun) ⟨_, upd_same, .of_strs ys⟩
      · exact h.elim
    · exact h.elim
theorem b_all (hc : X.calm = true) : CallR X (.builtin "all") (rDn X.K (biD .all)) := by
  intro pins s σ H xs us Q I rs h
  obtain ⟨ds, S, φ, w, hds, h⟩ := h
  match ds, hds, h with
  | [x], hds, h =>
    obtain ⟨v, rfl, hd⟩ := rl1 hds
    have h : (match (lstD S x).bind bools with
      | some bs => KQ X.K H φ S.length Q (.bl (bs.all id)) S
      | none => False) := by cases x <;> exact h
    split at h
    · rename_i bs hir
      obtain ⟨ds, e1, e2⟩ := Option.bind_eq_some_iff.mp hir
      obtain ⟨a, vs, rfl, hs, r⟩ := w.lstD hd e1
      have e := r.bls e2
      subst e
      exact cr_all hc pins s σ H _ us Q I rs ⟨a, bs, rfl, hs, KQ.here' w (.bl _) h⟩
    · exact h.elim
theorem b_any (hc : X.calm = true) : CallR X (.builtin "any") (rDn X.K (biD .any)) := by
  intro pins s σ H xs us Q I rs h
  obtain ⟨ds, S, φ, w, hds, h⟩ := h
  match ds, hds, h with
  | [x], hds, h =>
    obtain ⟨v, rfl, hd⟩ := rl1 hds
    have h : (match (lstD S x).bind bools with
      | some bs => KQ X.K H φ S.length Q (.bl (bs.any id)) S
      | none => False) := by cases x <;> exact h
    split at h
    · rename_i bs hir
      obtain ⟨ds, e1, e2⟩ := Option.bind_eq_some_iff.mp hir
      obtain ⟨a, vs, rfl, hs, r⟩ := w.lstD hd e1
      have e := r.bls e2
      subst e
      exact cr_any hc pins s σ H _ us Q I rs ⟨a, bs, rfl, hs, KQ.here' w (.bl _) h⟩
    · exact h.elim
theorem b_tuple : CallR X (.type "tuple") (rDn X.K (biD .tuple)) := by
  intro pins s σ H xs us Q I rs h
  obtain ⟨ds, S, φ, w, hds, h⟩ := h
  match ds, hds, h with
  | [.tup k ys], hds, h =>
    obtain ⟨v, rfl, hd⟩ := rl1 hds
    cases hd with
    | tup q r =>
      exact call_tuple_of pins s σ H _ us Q I rs ⟨_, _, rfl, .inr ⟨q.sqt, KQ.here' w (.tup q r) h⟩⟩
  | [.loc n], hds, h =>
    obtain ⟨v, rfl, hd⟩ := rl1 hds
    have h : (match seqD S (.loc n) with | some xs => KQ X.K H φ S.length Q (.tup .kn xs) S | none => False) := h
    split at h
    · rename_i ds e1
      rcases seqD_inv e1 with ⟨_, z⟩ | ⟨m, z, hc⟩
      · cases z
      · cases z
        cases hd with
        | loc _ hn =>
          obtain ⟨vs, hs, r⟩ := w.seq hc
          obtain ⟨u, rfl, ru⟩ := Vals.one rs
          cases ru
          obtain ⟨its, rv, pl, hz⟩ := I.list hs
          have hlen := rv.length
          refine call_tuple_list pl.isList (fun h' hk => ?_) (by rw [List.size_toArray]; omega)
          have I1 : Inv X pins σ H { s with heap := h' } := I.kept (t' := s.toks) hk
          have hn : H h'.objs.size = none := I1.hok.fresh (Nat.le_refl _)
          have I2 := I1.laid (a := h'.objs.size) (o := .frz { cls := .type "tuple", data := .seq its.toArray } (.tup vs)) (t' := s.toks) (h' := h'.push { cls := .type "tuple", data := .seq its.toArray }) (fun b u q => Heap.get?_push_of_some _ q) (Nat.le_refl _)
            ⟨Heap.get?_push_size _ rfl, hz, its, rv, ⟨_, Heap.get?_push_size _ rfl, rfl, 0, rfl⟩⟩
          exact ⟨.ref h'.objs.size, _, I2, rfl, h φ _ _ (.fresh hn) (w.fresh hn fun _ => nofun) (.tup (k := .kn) ⟨_, upd_same, rfl⟩ (r.mono (.fresh hn)))⟩
    · exact h.elim
end
end Pw
set_option maxHeartbeats 1000000
/-! Pw17: expressions, by their parts. -/
namespace Pw
open PySem PySem.Spec PyProof.Rows L2

section
variable {CS : List Addr} {X : Cx} {A B C : W} {a b d : Expr} {pos : Pos}
/-- two values in a row -/
theorem two_imp (mA : MW A) (mB : MW B) {f : D → D → Store → KD → Prop} (mf : ∀ {x y S} {Q Q' : KD}, f x y S Q → (∀ d S', Q d S' → Q' d S') → f x y S Q') {σ : L2.St} {H : Hp} {Q : VK}
    (h : tE CS X (fun σ S Q => A.e σ S fun x S1 => B.e σ S1 fun y S2 => f x y S2 Q) σ H Q) : tOp (rD2 X.K f) (tE CS X A.e) (tE CS X B.e) σ H Q := by
  obtain ⟨env, S, φ, at0, h⟩ := h
  refine tE_mk mA at0 h fun x S1 φ1 v H1 l1 a1 rx h => ?_
  refine tE_mk mB a1 h fun y S2 φ2 u H2 l2 a2 ry h => ?_
  exact ⟨x, y, S2, φ2, a2.w, rx.mono l2, ry, mf h fun d S' q => KQ.le (l1.trans l2) q⟩
theorem one_imp (mA : MW A) {f : D → Store → KD → Prop} (mf : ∀ {x S} {Q Q' : KD}, f x S Q → (∀ d S', Q d S' → Q' d S') → f x S Q') {σ : L2.St} {H : Hp} {Q : VK}
    (h : tE CS X (fun σ S Q => A.e σ S fun x S1 => f x S1 Q) σ H Q) : tUn (rD1 X.K f) (tE CS X A.e) σ H Q := by
  obtain ⟨env, S, φ, at0, h⟩ := h
  refine tE_mk mA at0 h fun x S1 φ1 v H1 l1 a1 rx h => ?_
  exact ⟨x, S1, φ1, a1.w, rx, mf h fun d S' q => KQ.le l1 q⟩
theorem r_bin (op : Operator) (mA : MW A) (mB : MW B) (ha : PE X a (tE CS X A.e)) (hb : PE X b (tE CS X B.e)) : PE X (.BinOp a op b pos) (tE CS X fun σ S Q => A.e σ S fun x S1 => B.e σ S1 fun y S2 => binD op x y S2 Q) :=
  (pe_op (bin_ok op) ha hb).imp fun _ _ _ h => two_imp (f := binD op) mA mB binD_mono h
theorem r_sub (hu : X.A.units + 65 < cLine) (mA : MW A) (mB : MW B) (ha : PE X a (tE CS X A.e)) (hb : PE X b (tE CS X B.e)) (hs : PlainIx b) : PE X (.Subscript a b pos) (tE CS X fun σ S Q => A.e σ S fun x S1 => B.e σ S1 fun y S2 => subD x y S2 Q) :=
  (pe_ix (sub_ok hu) ha hb hs).imp fun _ _ _ h => two_imp (f := subD) mA mB subD_mono h
theorem un_negD : UnR X (unaryOp .USub) (rD1 X.K fun x S Q => match x with | .int i => Q (.int (-i)) S | _ => False) := by
  intro pins s σ H x v Q I rx h
  obtain ⟨dx, S, φ, w, hx, h⟩ := h
  cases hx with
  | int i => exact un_neg pins s σ H _ v Q I rx ⟨i, rfl, KQ.here' w (.int _) h⟩
  | _ => exact h.elim
theorem r_neg (mA : MW A) (ha : PE X a (tE CS X A.e)) : PE X (.UnaryOp .USub a pos) (tE CS X fun σ S Q => A.e σ S fun x S1 => match x with | .int i => Q (.int (-i)) S1 | _ => False) :=
  (pe_un un_negD ha).imp fun _ _ _ h => one_imp (f := fun x S Q => match x with | .int i => Q (.int (-i)) S | _ => False) mA (fun {x S Q Q'} h k => by cases x <;> first | exact k _ _ h | exact h.elim) h
theorem cmpK_mono {op : CmpOp} {x y : D} {S : Store} {Q Q' : KD} (h : cmpK op x y S Q) (k : ∀ d S', Q d S' → Q' d S') : cmpK op x y S Q' := by
  unfold cmpK at h ⊢
  cases e : cmpD op S x y with
  | none => rw [e] at h; exact h
  | some b => rw [e] at h; exact k _ _ h
/-- the reading of a test as a value -/
abbrev asV (t : Env → Store → (Bool → Store → Prop) → Prop) : Env → Store → KD → Prop := fun σ S Q => t σ S fun b S' => Q (.bl b) S'
abbrev rdCmp (op : CmpOp) (A B : W) : Env → Store → (Bool → Store → Prop) → Prop := fun σ S Q => A.e σ S fun x S1 => B.e σ S1 fun y S2 => match cmpD op S2 x y with
  | some k => Q k S2
  | none => False
theorem r_cmp (hu : X.A.units + 65 < cLine) (op : CmpOp) (mA : MW A) (mB : MW B) (ha : PE X a (tE CS X A.e)) (hb : PE X b (tE CS X B.e)) (hm : behindInMarks op b = false) : PE X (.Compare a [op] [b] pos) (tE CS X (asV (rdCmp op A B))) :=
  (pe_cmpR (cmp_ok hu op) ha hb hm).imp fun _ _ _ h => two_imp (f := cmpK op) mA mB cmpK_mono h
theorem t_cmp (hu : X.A.units + 65 < cLine) (op : CmpOp) (mA : MW A) (mB : MW B) (ha : PE X a (tE CS X A.e)) (hb : PE X b (tE CS X B.e)) (hm : behindInMarks op b = false) : PT X (.Compare a [op] [b] pos) (tT CS X (rdCmp op A B)) :=
  (pt_cmpR (cmp_ok hu op) ha hb hm).imp fun σ H Q h => by
    obtain ⟨env, S, φ, at0, h⟩ := h
    show tOp (rD2 X.K (cmpK op)) (tE CS X A.e) (tE CS X B.e) σ H _
    refine two_imp (f := cmpK op) mA mB cmpK_mono ⟨env, S, φ, at0, ?_⟩
    refine mA.e h fun x S1 h => mB.e h fun y S2 h => ?_
    unfold cmpK
    cases e : cmpD op S2 x y with
    | none => rw [e] at h; exact h
    | some k => rw [e] at h; exact fun φ' v H' l w r => by cases r; exact ⟨k, rfl, h φ' H' l w⟩
/-- a value's own test -/
theorem t_val (mA : MW A) (ha : PE X a (tE CS X A.e)) (he : ∀ whole, isTrue a X.env whole = (do let v ← whole; standAt a.pos; holding [v] (truthy v))) : PT X a (tT CS X fun σ S Q => A.e σ S fun d S' => match truD S' d with | some b => Q b S' | none => False) :=
  (pt_truth ha he).imp fun σ H Q h => by
    obtain ⟨env, S, φ, at0, h⟩ := h
    refine tE_mk mA at0 h fun x S1 φ1 v H1 l1 a1 rx h => ?_
    split at h
    · rename_i k hk
      exact ⟨k, a1.w.tru rx hk, h φ1 H1 l1 a1.w⟩
    · exact h.elim
theorem t_not (mA : MW A) (ha : PT X a (tT CS X A.t)) : PT X (.UnaryOp .Not a pos) (tT CS X fun σ S Q => A.t σ S fun b S1 => Q (!b) S1) :=
  (pt_not ha).imp fun σ H Q h => by
    obtain ⟨env, S, φ, at0, h⟩ := h
    exact ⟨env, S, φ, at0, mA.t h fun b S1 h => h⟩
abbrev rdAnd (A B : W) : Env → Store → (Bool → Store → Prop) → Prop := fun σ S Q => A.t σ S fun b S1 => if b then B.t σ S1 Q else Q false S1
abbrev rdOr (A B : W) : Env → Store → (Bool → Store → Prop) → Prop := fun σ S Q => A.t σ S fun b S1 => if b then Q true S1 else B.t σ S1 Q
theorem w_and {rest : List Expr} (mA : MW A) (mB : MW B) (ha : PT X a (tT CS X A.t)) (hb : PW X (.BoolOp .And (b :: rest) pos) (tT CS X B.t)) : PW X (.BoolOp .And (a :: b :: rest) pos) (tT CS X (rdAnd A B)) :=
  (pw_and ha hb).imp fun σ H Q h => by
    obtain ⟨env, S, φ, at0, h⟩ := h
    refine tT_mk mA at0 h fun k S1 φ1 H1 l1 a1 h => ?_
    cases k with
    | true => exact tT_mk mB a1 h fun k S2 φ2 H2 l2 a2 h => h φ2 H2 (l1.trans l2) a2.w
    | false => exact h φ1 H1 l1 a1.w
theorem w_or {rest : List Expr} (mA : MW A) (mB : MW B) (ha : PT X a (tT CS X A.t)) (hb : PW X (.BoolOp .Or (b :: rest) pos) (tT CS X B.t)) : PW X (.BoolOp .Or (a :: b :: rest) pos) (tT CS X (rdOr A B)) :=
  (pw_or ha hb).imp fun σ H Q h => by
    obtain ⟨env, S, φ, at0, h⟩ := h
    refine tT_mk mA at0 h fun k S1 φ1 H1 l1 a1 h => ?_
    cases k with
    | true => exact h φ1 H1 l1 a1.w
    | false => exact tT_mk mB a1 h fun k S2 φ2 H2 l2 a2 h => h φ2 H2 (l1.trans l2) a2.w
theorem asV_mk (mA : MW A) {env : Env} {S : Store} {φ : Nat → Addr} {σ : L2.St} {H : Hp} (a : At CS X env S φ σ H) {R : Bool → Store → Prop} (h : A.t env S R) {G : VK}
    (k : ∀ b S1 φ1 H1, Le H φ S.length H1 φ1 S1.length → At CS X env S1 φ1 σ H1 → R b S1 → G (.bl b) H1) : tE CS X (asV A.t) σ H G :=
  ⟨env, S, φ, a, mA.t h fun b S1 hb φ1 v H1 l w r => by cases r; exact k b S1 φ1 H1 l (a.mono l w) hb⟩
theorem r_and {rest : List Expr} (mA : MW A) (mB : MW B) (ha : PE X a (tE CS X A.e)) (hb : PE X (.BoolOp .And (b :: rest) pos) (tE CS X B.e)) : PE X (.BoolOp .And (a :: b :: rest) pos) (tE CS X fun σ S Q => A.e σ S fun d S1 => byTru S1 d (B.e σ S1 Q) (Q d S1)) :=
  (pe_andT ha hb).imp fun σ H Q h => by
    obtain ⟨env, S, φ, at0, h⟩ := h
    refine tE_mk mA at0 h fun x S1 φ1 v H1 l1 a1 rx h => ?_
    unfold byTru at h
    split at h
    · rename_i hk
      exact ⟨true, a1.w.tru rx hk, tE_mk mB a1 h fun y S2 φ2 u H2 l2 a2 ry h => h φ2 u H2 (l1.trans l2) a2.w ry⟩
    · rename_i hk
      exact ⟨false, a1.w.tru rx hk, h φ1 v H1 l1 a1.w rx⟩
    · exact h.elim
theorem r_or {rest : List Expr} (mA : MW A) (mB : MW B) (ha : PE X a (tE CS X A.e)) (hb : PE X (.BoolOp .Or (b :: rest) pos) (tE CS X B.e)) : PE X (.BoolOp .Or (a :: b :: rest) pos) (tE CS X fun σ S Q => A.e σ S fun d S1 => byTru S1 d (Q d S1) (B.e σ S1 Q)) :=
  (pe_orT ha hb).imp fun σ H Q h => by
    obtain ⟨env, S, φ, at0, h⟩ := h
    refine tE_mk mA at0 h fun x S1 φ1 v H1 l1 a1 rx h => ?_
    unfold byTru at h
    split at h
    · rename_i hk
      exact ⟨true, a1.w.tru rx hk, h φ1 v H1 l1 a1.w rx⟩
    · rename_i hk
      exact ⟨false, a1.w.tru rx hk, tE_mk mB a1 h fun y S2 φ2 u H2 l2 a2 ry h => h φ2 u H2 (l1.trans l2) a2.w ry⟩
    · exact h.elim
theorem r_not (mA : MW A) (ha : PE X a (tE CS X A.e)) : PE X (.UnaryOp .Not a pos) (tE CS X fun σ S Q => A.e σ S fun d S1 => byTru S1 d (Q (.bl false) S1) (Q (.bl true) S1)) :=
  (pe_notT ha).imp fun σ H Q h => by
    obtain ⟨env, S, φ, at0, h⟩ := h
    refine tE_mk mA at0 h fun x S1 φ1 v H1 l1 a1 rx h => ?_
    unfold byTru at h
    split at h
    · rename_i hk
      exact ⟨true, a1.w.tru rx hk, h φ1 _ H1 l1 a1.w (.bl _)⟩
    · rename_i hk
      exact ⟨false, a1.w.tru rx hk, h φ1 _ H1 l1 a1.w (.bl _)⟩
    · exact h.elim
theorem r_ite (mA : MW A) (mB : MW B) (mC : MW C) (ha : PT X a (tT CS X A.t)) (hb : PE X b (tE CS X B.e)) (hd : PE X d (tE CS X C.e)) : PE X (.IfExp a b d pos) (tE CS X fun σ S Q => A.t σ S fun k S1 => if k then B.e σ S1 Q else C.e σ S1 Q) :=
  (pe_ifExp ha hb hd).imp fun σ H Q h => by
    obtain ⟨env, S, φ, at0, h⟩ := h
    refine tT_mk mA at0 h fun k S1 φ1 H1 l1 a1 h => ?_
    cases k with
    | true => exact tE_mk mB a1 h fun x S2 φ2 v H2 l2 a2 r h => h φ2 v H2 (l1.trans l2) a2.w r
    | false => exact tE_mk mC a1 h fun x S2 φ2 v H2 l2 a2 r h => h φ2 v H2 (l1.trans l2) a2.w r
/-- a op b op c -/
abbrev rdChain (o1 o2 : CmpOp) (A B C : W) : Env → Store → (Bool → Store → Prop) → Prop := fun σ S Q => A.e σ S fun x S1 => B.e σ S1 fun y S2 => match cmpD o1 S2 x y with
  | some true => C.e σ S2 fun z S3 => (match cmpD o2 S3 y z with
    | some k => Q k S3
    | none => False)
  | some false => Q false S2
  | none => False
theorem chain_imp {o1 o2 : CmpOp} (mA : MW A) (mB : MW B) (mC : MW C) {σ : L2.St} {H : Hp} {Q : Bool → Hp → Prop} {Q' : VK} (hQ : ∀ b H, Q b H → Q' (.bl b) H) (h : tT CS X (rdChain o1 o2 A B C) σ H Q) :
    tChain (rD2 X.K (cmpK o1)) (rD2 X.K (cmpK o2)) (tE CS X A.e) (tE CS X B.e) (tE CS X C.e) σ H Q' := by
  obtain ⟨env, S, φ, at0, h⟩ := h
  refine tE_mk mA at0 h fun x S1 φ1 v H1 l1 a1 rx h => ?_
  refine tE_mk mB a1 h fun y S2 φ2 u H2 l2 a2 ry h => ?_
  refine ⟨x, y, S2, φ2, a2.w, rx.mono l2, ry, ?_⟩
  unfold cmpK
  split at h
  · rename_i hk
    rw [hk]
    intro φ3 v3 H3 l3 w3 r3
    cases r3
    refine ⟨true, rfl, ?_⟩
    rw [if_pos rfl]
    refine tE_mk mC (a2.mono l3 w3) h fun z S4 φ4 v4 H4 l4 a4 rz h => ?_
    refine ⟨y, z, S4, φ4, a4.w, (ry.mono l3).mono l4, rz, ?_⟩
    split at h
    · rename_i k hk2
      rw [hk2]
      intro φ5 v5 H5 l5 w5 r5
      cases r5
      exact hQ _ _ (h φ5 H5 ((((l1.trans l2).trans l3).trans l4).trans l5) w5)
    · exact h.elim
  · rename_i hk
    rw [hk]
    intro φ3 v3 H3 l3 w3 r3
    cases r3
    refine ⟨false, rfl, ?_⟩
    rw [if_neg Bool.false_ne_true]
    exact hQ _ _ (h φ3 H3 ((l1.trans l2).trans l3) w3)
  · exact h.elim
theorem r_chain (hu : X.A.units + 65 < cLine) (o1 o2 : CmpOp) (mA : MW A) (mB : MW B) (mC : MW C) (ha : PE X a (tE CS X A.e)) (hb : PE X b (tE CS X B.e)) (hd : PE X d (tE CS X C.e)) (hm : lastMarks [o1, o2] [b, d] = false) :
    PE X (.Compare a [o1, o2] [b, d] pos) (tE CS X (asV (rdChain o1 o2 A B C))) :=
  (pe_chain (cmp_ok hu o1) (cmp_ok hu o2) ha hb hd hm).imp fun σ H Q h => by
    obtain ⟨env, S, φ, at0, h⟩ := h
    refine chain_imp (Q := fun b H => Q (.bl b) H) mA mB mC (fun _ _ q => q) ⟨env, S, φ, at0, ?_⟩
    refine mA.e h fun x S1 h => mB.e h fun y S2 h => ?_
    split at h
    · refine mC.e h fun z S3 h => ?_
      split at h
      · rename_i k hk2; exact fun φ' H' l w => h φ' _ H' l w (.bl _)
      · exact h.elim
    · exact fun φ' H' l w => h φ' _ H' l w (.bl _)
    · exact h.elim
theorem t_chain (hu : X.A.units + 65 < cLine) (o1 o2 : CmpOp) (mA : MW A) (mB : MW B) (mC : MW C) (ha : PE X a (tE CS X A.e)) (hb : PE X b (tE CS X B.e)) (hd : PE X d (tE CS X C.e)) (hm : lastMarks [o1, o2] [b, d] = false) :
    PT X (.Compare a [o1, o2] [b, d] pos) (tT CS X (rdChain o1 o2 A B C)) :=
  (pt_chain (cmp_ok hu o1) (cmp_ok hu o2) ha hb hd hm).imp fun σ H Q h => chain_imp mA mB mC (fun b H q => ⟨b, rfl, q⟩) h
/-- is None -/
theorem isn_ok : OpR X (compareOp .Is) (rD2 X.K fun x y S Q => y matches .non ∧ Q (.bl (match x with | .non => true | _ => false)) S) := by
  intro pins s σ H x y v u Q I rx ry h
  obtain ⟨dx, dy, S, φ, w, hx, hy, e, h⟩ := h
  cases hy with
  | non =>
    have q := KQ.here' w (.bl _) h
    refine op_isN pins s σ H _ _ v u Q I rx ry ⟨rfl, ?_⟩
    cases hx <;> exact q
  | _ => cases e
theorem notn_ok : OpR X (compareOp .IsNot) (rD2 X.K fun x y S Q => y matches .non ∧ Q (.bl (match x with | .non => false | _ => true)) S) := by
  intro pins s σ H x y v u Q I rx ry h
  obtain ⟨dx, dy, S, φ, w, hx, hy, e, h⟩ := h
  cases hy with
  | non =>
    have q := KQ.here' w (.bl _) h
    refine op_notN pins s σ H _ _ v u Q I rx ry ⟨rfl, ?_⟩
    cases hx <;> exact q
  | _ => cases e
theorem w_non : MW (w .non ⟨fun _ _ _ _ _ => False, fun _ _ => False⟩) := mw .non fun _ _ _ _ _ _ h _ => h.elim
theorem pe_nonD {j : Nat} {p : Pos} : PE X (.Constant .none j p) (tE CS X fun _ S Q => Q .non S) :=
  pe_non.imp fun σ H Q h => by
    obtain ⟨env, S, φ, at0, h⟩ := h
    exact h φ .non H (.refl _ _ _) at0.w .non
theorem r_isn {j : Nat} {p : Pos} (mA : MW A) (ha : PE X a (tE CS X A.e)) : PE X (.Compare a [.Is] [.Constant .none j p] pos) (tE CS X (asV fun σ S Q => A.e σ S fun x S1 => Q (match x with | .non => true | _ => false) S1)) :=
  (pe_cmpR isn_ok ha (pe_nonD (CS := CS)) rfl).imp fun σ H Q h => by
    refine two_imp (B := W.ex fun _ S Q => Q .non S) (f := fun x y S Q => y matches .non ∧ Q (.bl (match x with | .non => true | _ => false)) S) mA (MW.ex fun h k => k _ _ h) (fun h k => ⟨h.1, k _ _ h.2⟩) ?_
    obtain ⟨env, S, φ, at0, h⟩ := h
    exact ⟨env, S, φ, at0, mA.e h fun x S1 h => ⟨rfl, h⟩⟩
theorem r_notn {j : Nat} {p : Pos} (mA : MW A) (ha : PE X a (tE CS X A.e)) : PE X (.Compare a [.IsNot] [.Constant .none j p] pos) (tE CS X (asV fun σ S Q => A.e σ S fun x S1 => Q (match x with | .non => false | _ => true) S1)) :=
  (pe_cmpR notn_ok ha (pe_nonD (CS := CS)) rfl).imp fun σ H Q h => by
    refine two_imp (B := W.ex fun _ S Q => Q .non S) (f := fun x y S Q => y matches .non ∧ Q (.bl (match x with | .non => false | _ => true)) S) mA (MW.ex fun h k => k _ _ h) (fun h k => ⟨h.1, k _ _ h.2⟩) ?_
    obtain ⟨env, S, φ, at0, h⟩ := h
    exact ⟨env, S, φ, at0, mA.e h fun x S1 h => ⟨rfl, h⟩⟩
theorem t_of_cmp {o : CmpOp} {t : Env → Store → (Bool → Store → Prop) → Prop} {r : R2} {ta tb : TE} (ho : OpR X (compareOp o) r) (ha : PE X a ta) (hb : PE X b tb) (hm : behindInMarks o b = false) (k : ∀ σ H Q, tT CS X t σ H Q → tTest (tOp r ta tb) σ H Q) : PT X (.Compare a [o] [b] pos) (tT CS X t) := (pt_cmpR ho ha hb hm).imp k
theorem t_isn {j : Nat} {p : Pos} (mA : MW A) (ha : PE X a (tE CS X A.e)) : PT X (.Compare a [.Is] [.Constant .none j p] pos) (tT CS X fun σ S Q => A.e σ S fun x S1 => Q (match x with | .non => true | _ => false) S1) :=
  t_of_cmp isn_ok ha (pe_nonD (CS := CS)) rfl fun σ H Q h => by
    show tOp _ _ _ σ H _
    refine two_imp (B := W.ex fun _ S Q => Q .non S) (f := fun x y S Q => y matches .non ∧ Q (.bl (match x with | .non => true | _ => false)) S) mA (MW.ex fun h k => k _ _ h) (fun h k => ⟨h.1, k _ _ h.2⟩) ?_
    obtain ⟨env, S, φ, at0, h⟩ := h
    exact ⟨env, S, φ, at0, mA.e h fun x S1 h => ⟨rfl, fun φ' v H' l w r => by cases r; exact ⟨_, rfl, h φ' H' l w⟩⟩⟩
theorem t_notn {j : Nat} {p : Pos} (mA : MW A) (ha : PE X a (tE CS X A.e)) : PT X (.Compare a [.IsNot] [.Constant .none j p] pos) (tT CS X fun σ S Q => A.e σ S fun x S1 => Q (match x with | .non => false | _ => true) S1) :=
  t_of_cmp notn_ok ha (pe_nonD (CS := CS)) rfl fun σ H Q h => by
    show tOp _ _ _ σ H _
    refine two_imp (B := W.ex fun _ S Q => Q .non S) (f := fun x y S Q => y matches .non ∧ Q (.bl (match x with | .non => false | _ => true)) S) mA (MW.ex fun h k => k _ _ h) (fun h k => ⟨h.1, k _ _ h.2⟩) ?_
    obtain ⟨env, S, φ, at0, h⟩ := h
    exact ⟨env, S, φ, at0, mA.e h fun x S1 h => ⟨rfl, fun φ' v H' l w r => by cases r; exact ⟨_, rfl, h φ' H' l w⟩⟩⟩
end
end Pw
set_option maxHeartbeats 1000000
/-! Pw18: atoms, lists, displays, slices, targets, statements. -/
namespace Pw
open PySem PySem.Spec PyProof.Rows L2

section
variable {CS : List Addr} {X : Cx} {A B C : W} {a b d e : Expr} {es : List Expr} {pos : Pos}
theorem tE_atom {x : D} {v : V} {σ : L2.St} {H : Hp} {Q : VK} (h : tE CS X (fun _ S Q => Q x S) σ H Q) (k : ∀ (S : Store) (φ : Nat → Addr), Wd X.K H φ S → RepV X.K H φ S.length x v) : Q v H := by
  obtain ⟨env, S, φ, at0, h⟩ := h
  exact h φ v H (.refl _ _ _) at0.w (k S φ at0.w)
theorem r_int {i : Int} {j : Nat} : PE X (.Constant (.int i) j pos) (tE CS X fun _ S Q => Q (.int i) S) := pe_int.imp fun _ _ _ h => tE_atom h fun _ _ _ => .int i
theorem r_str {s : Str} {j : Nat} : PE X (.Constant (.str s) j pos) (tE CS X fun _ S Q => Q (.str s) S) := pe_str.imp fun _ _ _ h => tE_atom h fun _ _ _ => .str s
theorem r_bl {b : Bool} {j : Nat} : PE X (.Constant (.bool b) j pos) (tE CS X fun _ S Q => Q (.bl b) S) := pe_bl.imp fun _ _ _ h => tE_atom h fun _ _ _ => .bl b
theorem r_non {j : Nat} : PE X (.Constant .none j pos) (tE CS X fun _ S Q => Q .non S) := pe_nonD
theorem r_var {i : Nat} {x : Str} (hN : X.N[i]? = some x) (hv : Vis X.env.scope x) (hd : (x == ("__debug__" : Str)) = false) (hcd : (x == ("__classdict__" : Str)) = false) : PE X (.Name x pos) (tE CS X fun σ S Q => match σ[i]? with | some (some d) => Q d S | _ => False) :=
  (pe_var hN hv hd hcd).imp fun σ H Q h => by
    obtain ⟨env, S, φ, at0, h⟩ := h
    split at h
    · rename_i d hd
      obtain ⟨v, h1, h2⟩ := at0.e.at_ i d hd
      exact ⟨v, h1, h φ v H (.refl _ _ _) at0.w h2⟩
    · exact h.elim
theorem r_gint {x : Str} {i : Int} {t : Tok} (hg : Gl X x) (hm : X.mg x = some (.int i t)) (hd : (x == ("__debug__" : Str)) = false) : PE X (.Name x pos) (tE CS X fun _ S Q => Q (.int i) S) := (pe_glob (v := .int i) hg hm ⟨t, rfl⟩ hd).imp fun _ _ _ h => tE_atom h fun _ _ _ => .int i
theorem r_gstr {x s : Str} {t : Tok} (hg : Gl X x) (hm : X.mg x = some (.str s t)) (hd : (x == ("__debug__" : Str)) = false) : PE X (.Name x pos) (tE CS X fun _ S Q => Q (.str s) S) := (pe_glob (v := .str s) hg hm ⟨t, rfl⟩ hd).imp fun _ _ _ h => tE_atom h fun _ _ _ => .str s
theorem r_gtups {x : Str} {ss : List Str} {p : Addr} (hg : Gl X x) (hm : X.mg x = some (.ref p)) (hk : ∀ H, SqT X.K H p (ss.map V.str)) (hd : (x == ("__debug__" : Str)) = false) : PE X (.Name x pos) (tE CS X fun _ S Q => Q (.tup .any (ss.map .str)) S) :=
  (pe_glob (v := .ref p) hg hm rfl hd).imp fun _ _ _ h => tE_atom h fun _ _ _ => .tup (k := .any) (hk _) (.of_strs ss)

/-! ### lists of values -/
theorem r_anil : PA X [] (tA CS X fun _ S Q => Q [] S) := pa_nil.imp fun σ H Q h => by
  obtain ⟨env, S, φ, at0, h⟩ := h
  exact h φ [] H (.refl _ _ _) at0.w .nil
theorem r_acons (mA : MW A) (mB : MW B) (ha : PE X e (tE CS X A.e)) (hb : PA X es (tA CS X B.a)) (hs : starEach (e :: es) X.env = (false, eval e X.env) :: starEach es X.env) : PA X (e :: es) (tA CS X fun σ S Q => A.e σ S fun d S1 => B.a σ S1 fun ds S2 => Q (d :: ds) S2) :=
  (pa_cons ha hb hs).imp fun σ H Q h => by
    obtain ⟨env, S, φ, at0, h⟩ := h
    refine tE_mk mA at0 h fun x S1 φ1 v H1 l1 a1 rx h => ?_
    exact tA_mk mB a1 h fun ds S2 φ2 vs H2 l2 a2 rs h => h φ2 (v :: vs) H2 (l1.trans l2) a2.w (.cons (rx.mono l2) rs)
theorem r_tup {k : Nat} (mA : MW A) (ha : PA X es (tA CS X A.a)) : PE X (.Tuple es k pos) (tE CS X fun σ S Q => A.a σ S fun ds S1 => ds.length ≤ sizeLine ∧ Q (.tup .key ds) S1) :=
  (pe_tup ha).imp fun σ H Q h => by
    obtain ⟨env, S, φ, at0, h⟩ := h
    refine tA_mk mA at0 h fun ds S1 φ1 vs H1 l1 a1 rs h => ?_
    obtain ⟨hl, h⟩ := h
    exact ⟨by rw [← rs.length]; exact hl, fun p hp => h φ1 (.ref p) _ (l1.trans (.fresh hp)) (a1.w.fresh hp fun _ => nofun) (.tup (k := .key) upd_same (rs.mono (.fresh hp)))⟩
theorem r_lst (mA : MW A) (ha : PA X es (tA CS X A.a)) : PE X (.List es pos) (tE CS X fun σ S Q => A.a σ S fun ds S1 => ds.length ≤ sizeLine ∧ Q (.loc S1.length) (S1 ++ [.lst ds])) :=
  (pe_lst ha).imp fun σ H Q h => by
    obtain ⟨env, S, φ, at0, h⟩ := h
    refine tA_mk mA at0 h fun ds S1 φ1 vs H1 l1 a1 rs h => ?_
    obtain ⟨hl, h⟩ := h
    exact ⟨by rw [← rs.length]; exact hl, fun p hp => KQ.new (KQ.le l1 h) a1.w hp (fun _ => nofun) ⟨_, upd_same, rs.mono (Le.alloc hp)⟩⟩

/-! ### slices -/
theorem r_onone : PO X none (tP CS X fun _ S Q => Q none S) := ⟨fun pins s σ H Q I h => po_none.run pins s σ H Q I (by
  obtain ⟨env, S, φ, at0, h⟩ := h
  exact h φ H (.refl _ _ _) at0.w)⟩
theorem r_osome (mA : MW A) (ha : PE X e (tE CS X A.e)) : PO X (some e) (tP CS X fun σ S Q => A.e σ S fun d S' => match d with | .int i => Q (some i) S' | _ => False) := (po_some ha).imp fun σ H Q h => by
  obtain ⟨env, S, φ, at0, h⟩ := h
  refine tE_mk mA at0 h fun x S1 φ1 v H1 l1 a1 rx h => ?_
  cases rx with
  | int i => exact ⟨i, rfl, h φ1 H1 l1 a1.w⟩
  | _ => exact h.elim
theorem r_slice {lo hi : Option Expr} {p2 : Pos} (mA : MW A) (mB : MW B) (mC : MW C) (ha : PE X e (tE CS X A.e)) (hl : PO X lo (tP CS X B.p)) (hh : PO X hi (tP CS X C.p)) :
    PE X (.Subscript e (.Slice lo hi none p2) pos) (tE CS X fun σ S Q => A.e σ S fun x S1 => B.p σ S1 fun l S2 => C.p σ S2 fun h S3 => sliceD x l h S3 Q) :=
  (pe_slice sl_ok ha hl hh).imp fun σ H Q h => by
    obtain ⟨env, S, φ, at0, h⟩ := h
    refine tE_mk mA at0 h fun x S1 φ1 v H1 l1 a1 rx h => ?_
    refine tP_mk mB a1 h fun l S2 φ2 H2 l2 a2 h => ?_
    refine tP_mk mC a2 h fun u S3 φ3 H3 l3 a3 h => ?_
    exact ⟨x, S3, φ3, a3.w, (rx.mono l2).mono l3, sliceD_mono h fun d S' q => KQ.le ((l1.trans l2).trans l3) q⟩

/-! ### targets -/
theorem r_gname {i : Nat} {x : Str} (hN : X.N.Nodup) (hi : X.N[i]? = some x) (hx : Loc X.env.scope x) (hf : X.fn x = true ∨ X.env.scope.names.lookup x = some .local) : PG X (.Name x pos) (tG CS X fun d σ S Q => Q (σ.set i (some d)) S) :=
  (pg_name hN hi hx hf).imp fun v σ H Q h => by
    obtain ⟨env, S, φ, dd, at0, rd, h⟩ := h
    exact h φ _ H (.refl _ _ _) ⟨at0.e.set rd, at0.w, at0.c⟩
theorem r_gnil : PGs X [] (tGs CS X fun ds σ S Q => ds = [] ∧ Q σ S) := pgs_nil.imp fun v σ H Q h => by
  obtain ⟨env, S, φ, ds, at0, rd, e, h⟩ := h
  subst e
  cases rd
  exact ⟨rfl, h φ _ H (.refl _ _ _) at0⟩
theorem r_gcons (mA : MW A) (mB : MW B) (ha : PG X e (tG CS X A.g)) (hb : PGs X es (tGs CS X B.gs)) (hs : (assignEach (e :: es) X.env).map (·.2) = assign e X.env :: (assignEach es X.env).map (·.2)) :
    PGs X (e :: es) (tGs CS X fun ds σ S Q => match ds with | d :: r => A.g d σ S fun σ1 S1 => B.gs r σ1 S1 Q | [] => False) := (pgs_cons ha hb hs).imp fun v σ H Q h => by
  obtain ⟨env, S, φ, ds, at0, rd, h⟩ := h
  cases rd with
  | nil => exact h.elim
  | @cons d v ds vs r t =>
    refine ⟨v, vs, rfl, ?_⟩
    have h : A.g d env S fun σ1 S1 => B.gs ds σ1 S1 (KN CS X H φ S.length Q) := h
    refine tG_mk (R := fun σ1 S1 => B.gs ds σ1 S1 (KN CS X H φ S.length Q)) mA at0 r h fun env1 S1 φ1 σ1 H1 l1 a1 h => ?_
    exact tGs_mk mB a1 (t.mono l1) h fun env2 S2 φ2 σ2 H2 l2 a2 h => h φ2 σ2 H2 (l1.trans l2) a2
theorem r_gtup {k n : Nat} (hc : X.calm = true) (mB : MW B) (hb : PGs X es (tGs CS X B.gs)) (hn : (assignEach es X.env).length = n) (hst : (assignEach es X.env).findIdx? (·.1) = none) :
    PG X (.Tuple es k pos) (tG CS X fun d σ S Q => match d with | .tup _ ds => ds.length = n ∧ B.gs ds σ S Q | _ => False) := (pg_tup hc hb hn hst).imp fun v σ H Q h => by
  obtain ⟨env, S, φ, d, at0, rd, h⟩ := h
  cases rd with
  | tup q r =>
    obtain ⟨hlen, h⟩ := h
    have h : B.gs _ env S (KN CS X H φ S.length Q) := h
    exact ⟨_, _, rfl, q.sqt, by rw [← r.length]; exact hlen, tGs_mk mB at0 r h fun env2 S2 φ2 σ2 H2 l2 a2 h => h φ2 σ2 H2 l2 a2⟩
  | _ => exact h.elim
theorem r_gsub (hu : X.A.units + 65 < cLine) (mA : MW A) (mB : MW B) (ha : PE X a (tE CS X A.e)) (hb : PE X b (tE CS X B.e))
    (hasg : ∀ v, assign (.Subscript a b pos) X.env v = (do
      let ov ← holding [v] (eval a X.env)
      let iv ← holding [v, ov] (eval b X.env)
      standAt pos
      holding [v, ov, iv] (setItem ov iv v)
      release [v, ov, iv] [])) : PG X (.Subscript a b pos) (tG CS X fun v σ S Q => A.e σ S fun x S1 => B.e σ S1 fun y S2 => setD x y v S2 fun S3 => Q σ S3) :=
  (pg_sub ha hb (set_ok hu) hasg).imp fun v σ H Q h => by
    obtain ⟨env, S, φ, d, at0, rd, h⟩ := h
    refine tE_mk mA at0 h fun x S1 φ1 v1 H1 l1 a1 rx h => ?_
    refine tE_mk mB a1 h fun y S2 φ2 v2 H2 l2 a2 ry h => ?_
    exact ⟨x, y, d, S2, φ2, a2.w, rx.mono l2, ry, (rd.mono l1).mono l2, setD_mono h fun S' q φ' H' l w => q φ' σ H' ((l1.trans l2).trans l) (a2.mono l w)⟩

/-! ### statements -/
theorem KE_nx {H : Hp} {φ : Nat → Addr} {N : Nat} {D : L2.Ends} {H1 : Hp} {φ1 : Nat → Addr} {N1 : Nat} (l : Le H φ N H1 φ1 N1) : Ends.Le (KE CS X H φ N D) (KE CS X H1 φ1 N1 D) :=
  ⟨fun _ _ h => KN.le l h, fun _ _ h => KQ.le l h, fun _ _ h => KN.le l h, fun _ _ h => KN.le l h⟩
theorem r_snil : PSs X [] (tS CS X fun D σ S => D.nx σ S) := pss_nil.imp fun D σ H h => by
  obtain ⟨env, S, φ, at0, h⟩ := h
  exact h φ σ H (.refl _ _ _) at0
theorem r_scons {st : Stmt} {ss : List Stmt} (mA : MW A) (mB : MW B) (ha : PS X st (tS CS X A.s)) (hb : PSs X ss (tS CS X B.s)) : PSs X (st :: ss) (tS CS X fun D σ S => A.s { D with nx := fun σ1 S1 => B.s D σ1 S1 } σ S) :=
  (pss_cons ha hb).imp fun D σ H h => by
    obtain ⟨env, S, φ, at0, h⟩ := h
    refine tS_mk mA at0 h (fun env1 S1 φ1 σ1 H1 l1 a1 h => ?_) (fun x S1 φ1 v H1 l1 w1 r h => h φ1 v H1 l1 w1 r) (fun env1 S1 φ1 σ1 H1 l1 a1 h => h φ1 σ1 H1 l1 a1) (fun env1 S1 φ1 σ1 H1 l1 a1 h => h φ1 σ1 H1 l1 a1)
    exact ⟨env1, S1, φ1, a1, mB.s h (KE_nx l1)⟩
theorem r_expr (mA : MW A) (ha : PE X e (tE CS X A.e)) (hs : swapsWith e none pos.line X.env = pure false) : PS X (.Expr e pos) (tS CS X fun D σ S => A.e σ S fun _ S1 => D.nx σ S1) := (ps_expr ha hs).imp fun D σ H h => by
  obtain ⟨env, S, φ, at0, h⟩ := h
  exact tE_mk mA at0 h fun x S1 φ1 v H1 l1 a1 rx h => h φ1 σ H1 l1 a1
theorem asg_imp (mA : MW A) (mB : MW B) {D : L2.Ends} {σ : L2.St} {H : Hp} (h : tS CS X (fun D σ S => A.e σ S fun x S1 => B.g x σ S1 D.nx) D σ H) : tAsg (tE CS X A.e) (tG CS X B.g) D σ H := by
  obtain ⟨env, S, φ, at0, h⟩ := h
  refine tE_mk mA at0 h fun x S1 φ1 v H1 l1 a1 rx h => ?_
  exact tG_mk mB a1 rx h fun env1 S2 φ2 σ2 H2 l2 a2 h => h φ2 σ2 H2 (l1.trans l2) a2
theorem r_asg {tg : Expr} (mA : MW A) (mB : MW B) (ha : PE X e (tE CS X A.e)) (hb : PG X tg (tG CS X B.g)) (hs : swapsWithSole [tg] e pos.line X.env = pure false) (hw : swappedStores [tg] e X.env = pure none) (h1 : (assignEach [tg] X.env).map (·.2) = [assign tg X.env]) :
    PS X (.Assign [tg] e pos) (tS CS X fun D σ S => A.e σ S fun x S1 => B.g x σ S1 D.nx) := (ps_asg ha hb hs hw h1).imp fun D σ H h => asg_imp mA mB h
theorem r_ret (mA : MW A) (ha : PE X e (tE CS X A.e)) : PS X (.Return (some e) pos) (tS CS X fun D σ S => A.e σ S D.rt) := (ps_ret ha).imp fun D σ H h => by
  obtain ⟨env, S, φ, at0, h⟩ := h
  exact tE_mk mA at0 h fun x S1 φ1 v H1 l1 a1 rx h => h φ1 v H1 l1 a1.w rx
theorem r_retn : PS X (.Return none pos) (tS CS X fun D _ S => D.rt .non S) := ps_retN.imp fun D σ H h => by
  obtain ⟨env, S, φ, at0, h⟩ := h
  exact h φ .non H (.refl _ _ _) at0.w .non
theorem r_pass : PS X (.Pass pos) (tS CS X fun D σ S => D.nx σ S) := ps_pass.imp fun D σ H h => by
  obtain ⟨env, S, φ, at0, h⟩ := h
  exact h φ σ H (.refl _ _ _) at0
theorem r_brk : PS X (.Break pos) (tS CS X fun D σ S => D.bk σ S) := ps_break.imp fun D σ H h => by
  obtain ⟨env, S, φ, at0, h⟩ := h
  exact h φ σ H (.refl _ _ _) at0
theorem r_cont : PS X (.Continue pos) (tS CS X fun D σ S => D.ct σ S) := ps_continue.imp fun D σ H h => by
  obtain ⟨env, S, φ, at0, h⟩ := h
  exact h φ σ H (.refl _ _ _) at0
theorem r_ifs {p q : List Stmt} (mA : MW A) (mB : MW B) (mC : MW C) (ha : PT X e (tT CS X A.t)) (hb : PSs X p (tS CS X B.s)) (hd : PSs X q (tS CS X C.s)) : PS X (.If e p q pos) (tS CS X fun D σ S => A.t σ S fun k S1 => if k then B.s D σ S1 else C.s D σ S1) :=
  (ps_if ha hb hd).imp fun D σ H h => by
    obtain ⟨env, S, φ, at0, h⟩ := h
    refine tT_mk mA at0 h fun k S1 φ1 H1 l1 a1 h => ?_
    cases k with
    | true => exact ⟨env, S1, φ1, a1, mB.s h (KE_nx l1)⟩
    | false => exact ⟨env, S1, φ1, a1, mC.s h (KE_nx l1)⟩
theorem r_for {tg iter : Expr} {body : List Stmt} (hxe : X.xe = fun _ _ => False) (hc : X.calm = true) (mS : MW A) (mG : MW B) (mB : MW C) (hi : PI X tg iter (tI CS X A.i)) (hg : PG X tg (tG CS X B.g)) (hb : PSs X body (tS CS X C.s)) (hs : ∀ x, foldedSetIterable iter X.env x = pure x) :
    PS X (.For tg iter body [] pos) (tS CS X fun D σ S => A.i σ S fun src S1 => forL src.gd (fun d σ S nx => B.g d σ S fun σ1 S2 => C.s { D with nx := nx, ct := nx, bk := D.nx } σ1 S2) D.nx src.items σ S1) := by
  have hp : PassesOwn (model X.prog X.w) X.A X.env X.xe := fun e s h => by rw [hxe] at h; exact h.elim
  refine (ps_for hp hc hi hg hb hs).imp fun D σ H h => ?_
  obtain ⟨env, S, φ, at0, h⟩ := h
  refine tI_mk mS at0 h fun src S1 φ1 H1 J l1 a1 wk h => ?_
  generalize hE : KE CS X H φ S.length D = E at h
  refine ⟨fun i m σ' H' => ∃ env' S' φ', i + m = src.items.length ∧ Le H1 φ1 S1.length H' φ' S'.length ∧ At CS X env' S' φ' σ' H' ∧
    forL src.gd (fun d σ S nx => B.g d σ S fun σ1 S2 => C.s { E with nx := nx, ct := nx, bk := E.nx } σ1 S2) E.nx (src.items.drop i) env' S', ⟨src.items.length, env, S1, φ1, Nat.zero_add _, .refl _ _ _, a1, h⟩, ?_⟩
  rintro i m σ' H' ⟨env', S', φ', hm, le, a, hf⟩
  cases hdr : src.items.drop i with
  | nil =>
    rw [hdr] at hf
    obtain ⟨hgd, hf⟩ := hf
    have hi' : i = src.items.length := by
      have := congrArg List.length hdr
      rw [List.length_drop] at this
      simp only [List.length_nil] at this
      omega
    subst hE
    exact .inl ⟨by rw [hi']; exact wk.stop φ' S' H' le a.w hgd, hf φ' σ' H' (l1.trans le) a⟩
  | cons d ds =>
    rw [hdr] at hf
    obtain ⟨hgd, hb'⟩ := hf
    have hlt : i < src.items.length := by
      have := congrArg List.length hdr
      rw [List.length_drop] at this
      simp only [List.length_cons] at this
      omega
    have hd : src.items[i]? = some d := by
      have q := congrArg (·[0]?) hdr
      simp only [List.getElem?_drop, Nat.add_zero, List.getElem?_cons_zero] at q
      exact q
    have hds' : src.items.drop (i + 1) = ds := by
      have q := congrArg (List.drop 1) hdr
      simpa [List.drop_drop] using q
    refine .inr ⟨wk.go i φ' S' H' hlt le a.w hgd, fun σ2 H2 => ∃ env' S' φ', i + 1 + (m - 1) = src.items.length ∧ Le H1 φ1 S1.length H2 φ' S'.length ∧ At CS X env' S' φ' σ2 H2 ∧
      forL src.gd (fun d σ S nx => B.g d σ S fun σ1 S2 => C.s { E with nx := nx, ct := nx, bk := E.nx } σ1 S2) E.nx (src.items.drop (i + 1)) env' S', fun σ2 H2 h2 => ⟨m - 1, by omega, h2⟩, fun x H2 y2 => ?_⟩
    obtain ⟨d', hd', l2, w2, rv⟩ := wk.yld i φ' S' H' x H2 hlt le a.w hgd y2
    rw [hd] at hd'; cases hd'
    have next : ∀ env3 S3 φ3 σ3 H3, Le H' φ' S'.length H3 φ3 S3.length → At CS X env3 S3 φ3 σ3 H3 → forL src.gd (fun d σ S nx => B.g d σ S fun σ1 S2 => C.s { E with nx := nx, ct := nx, bk := E.nx } σ1 S2) E.nx ds env3 S3 → ∃ env' S' φ', i + 1 + (m - 1) = src.items.length ∧ Le H1 φ1 S1.length H3 φ' S'.length ∧ At CS X env' S' φ' σ3 H3 ∧
      forL src.gd (fun d σ S nx => B.g d σ S fun σ1 S2 => C.s { E with nx := nx, ct := nx, bk := E.nx } σ1 S2) E.nx (src.items.drop (i + 1)) env' S' := fun env3 S3 φ3 σ3 H3 l3 a3 q => ⟨env3, S3, φ3, by omega, le.trans l3, a3, by rw [hds']; exact q⟩
    refine tG_mk mG (a.mono l2 w2) rv hb' fun env4 S4 φ4 σ4 H4 l4 a4 h4 => ?_
    subst hE
    refine tS_mk mB a4 h4 (fun env5 S5 φ5 σ5 H5 l5 a5 q => next env5 S5 φ5 σ5 H5 (l2.trans (l4.trans l5)) a5 q) (fun x5 S5 φ5 v5 H5 l5 w5 r5 q => q φ5 v5 H5 (l1.trans (le.trans (l2.trans (l4.trans l5)))) w5 r5) (fun env5 S5 φ5 σ5 H5 l5 a5 q => q φ5 σ5 H5 (l1.trans (le.trans (l2.trans (l4.trans l5)))) a5) (fun env5 S5 φ5 σ5 H5 l5 a5 q => next env5 S5 φ5 σ5 H5 (l2.trans (l4.trans l5)) a5 q)
end
end Pw
set_option maxHeartbeats 1000000
/-! Pw19: while, op=, pairs of stores. -/
namespace Pw
open PySem PySem.Spec PyProof.Rows L2

section
variable {CS : List Addr} {X : Cx} {A B C : W} {a b d e : Expr} {es : List Expr} {pos : Pos}
theorem r_while {body : List Stmt} (hxe : X.xe = fun _ _ => False) (mA : MW A) (mC : MW C) (ha : PT X a (tT CS X A.t)) (hb : PSs X body (tS CS X C.s)) :
    PS X (.While a body [] pos) (tS CS X fun D σ S => ∃ I : Nat → Env → Store → Prop, (∃ m, I m σ S) ∧ ∀ m σ S, I m σ S →
      A.t σ S fun b S1 => if b then ∃ N : Env → Store → Prop, (∀ σ' S', N σ' S' → ∃ m', m' < m ∧ I m' σ' S') ∧ C.s { D with nx := N, ct := N, bk := D.nx } σ S1 else D.nx σ S1) := by
  have hp : PassesOwn (model X.prog X.w) X.A X.env X.xe := fun e s h => by rw [hxe] at h; exact h.elim
  refine (ps_while hp ha hb).imp fun D σ H h => ?_
  obtain ⟨env, S, φ, at0, I, ⟨m0, i0⟩, turn⟩ := h
  refine ⟨fun m σ' H' => ∃ env' S' φ', Le H φ S.length H' φ' S'.length ∧ At CS X env' S' φ' σ' H' ∧ I m env' S', ⟨m0, env, S, φ, .refl _ _ _, at0, i0⟩, ?_⟩
  rintro m σ1 H1 ⟨env1, S1, φ1, l1, a1, i1⟩
  refine tT_mk mA a1 (turn m env1 S1 i1) fun b S2 φ2 H2 l2 a2 q => ?_
  cases b with
  | false =>
    simp only [Bool.false_eq_true, if_false] at q ⊢
    exact q φ2 σ1 H2 (l1.trans l2) a2
  | true =>
    simp only [if_true] at q ⊢
    obtain ⟨N, hN, q⟩ := q
    refine ⟨fun σ3 H3 => ∃ env3 S3 φ3, Le H φ S.length H3 φ3 S3.length ∧ At CS X env3 S3 φ3 σ3 H3 ∧ N env3 S3, ?_, ?_⟩
    · rintro σ3 H3 ⟨env3, S3, φ3, l3, a3, n3⟩
      obtain ⟨m', hm, im⟩ := hN _ _ n3
      exact ⟨m', hm, env3, S3, φ3, l3, a3, im⟩
    · exact tS_mk mC a2 q (fun env5 S5 φ5 σ5 H5 l5 a5 q => ⟨env5, S5, φ5, l1.trans (l2.trans l5), a5, q⟩) (fun x5 S5 φ5 v5 H5 l5 w5 r5 q => q φ5 v5 H5 (l1.trans (l2.trans l5)) w5 r5) (fun env5 S5 φ5 σ5 H5 l5 a5 q => q φ5 σ5 H5 (l1.trans (l2.trans l5)) a5) (fun env5 S5 φ5 σ5 H5 l5 a5 q => ⟨env5, S5, φ5, l1.trans (l2.trans l5), a5, q⟩)

/-! ### op= -/
theorem r_aug {i : Nat} {x : Str} {op : Operator} {p : Pos} (hN : X.N.Nodup) (hi : X.N[i]? = some x) (hx : Loc X.env.scope x) (hf : X.fn x = true ∨ X.env.scope.names.lookup x = some .local) (mA : MW A) (ha : PE X e (tE CS X A.e)) :
    PS X (.AugAssign (.Name x p) op e pos) (tS CS X fun D σ S => match σ[i]? with
        | some (some x) => A.e σ S fun y S1 => iopD op x y S1 fun z S2 => D.nx (σ.set i (some z)) S2
        | _ => False) := (ps_aug hN hi hx ha (iop_ok op) hf).imp fun D σ H h => by
  obtain ⟨env, S, φ, at0, h⟩ := h
  split at h
  · rename_i d0 hd
    obtain ⟨v, h1, h2⟩ := at0.e.at_ i d0 hd
    refine ⟨v, h1, tE_mk mA at0 h fun y S1 φ1 u H1 l1 a1 ry h => ?_⟩
    exact ⟨d0, y, S1, φ1, a1.w, h2.mono l1, ry, iopD_mono h fun z S2 q φ2 w H2 l2 w2 rz => q φ2 _ H2 (l1.trans l2) ⟨(a1.e.mono l2).set rz, w2, a1.c.mono l2.t⟩⟩
  · exact h.elim
theorem PGet_ok (hu : X.A.units + 65 < cLine) : PGet X (rD2 X.K lgetD) := by
  intro pins s σ H x y v u Q I rx ry h
  obtain ⟨dx, dy, S, φ, w, hx, hy, h⟩ := h
  cases hx with
  | loc n hn =>
    unfold lgetD at h
    dsimp only at h
    split at h
    · rename_i xs hc
      obtain ⟨vs, h1, r1⟩ := w.seq (.inl hc)
      cases hy with
      | int i =>
        dsimp only at h
        split at h
        · rename_i d hd
          obtain ⟨z, hz, rz⟩ := r1.atI hd
          cases (show v = Value.ref (φ n) from rx)
          obtain ⟨t, rfl⟩ := ry
          obtain ⟨its, r, pl, hsz⟩ := I.list h1
          obtain ⟨j, h1, h2, h3, h4, h5⟩ := atI_get hz
          obtain ⟨w', ew, rw'⟩ := r.get h2
          have hl := r.length
          have hn' := line63
          have fin : EP X pins σ Q w' s := ⟨z, H, I, rw', KQ.here' w rz h⟩
          by_cases h0 : 0 ≤ i
          · have hj : i.toNat = j := by
              rw [seqIndex_of h0 h5] at h1
              exact Option.some.inj h1
            exact wpAny_getItem_list pl.isList h0 (by omega) (by rw [hj]; simpa using ew) fin
          · have hj : (i + (its.toArray.size : Int)).toNat = j := by
              rw [seqIndex_neg (by omega) h4] at h1
              rw [List.size_toArray, ← hl]
              exact Option.some.inj h1
            exact wpAny_getItem_list_neg pl.isList (by omega) (by rw [List.size_toArray] <;> omega) (by omega) (by rw [hj]; simpa using ew) fin
        · exact h.elim
      | _ => exact h.elim
    · rename_i kvs hc
      split at h
      · rename_i kk hk
        split at h
        · rename_i d hd
          obtain ⟨vs, h1, r1⟩ := w.cell _ _ hc
          have e := keyK_inv hy hk
          have g := DGet.k (k := kk) h1
          have rz := valD_val kk r1
          rw [hd] at rz
          cases e2 : valV vs kk with
          | none => rw [e2] at rz; exact rz.elim
          | some z' =>
            rw [e2] at rz g
            cases (show v = Value.ref (φ n) from rx)
            exact d_getItem (by omega) I g (by rw [← e]; exact ry) fun w' s3 I3 rw' => ⟨z', H, I3, rw', KQ.here' w rz h⟩
        · exact h.elim
      · exact h.elim
    · exact h.elim
  | _ => exact h.elim
theorem r_augS {op : Operator} {p : Pos} (hu : X.A.units + 65 < cLine) (mA : MW A) (mB : MW B) (mC : MW C) (ha : PE X a (tE CS X A.e)) (hb : PE X b (tE CS X B.e)) (he : PE X e (tE CS X C.e))
    (hst : ∀ ov iv new, augStore b ov iv new = (do holding [new, ov, iv] (setItem ov iv new); release [new, ov, iv] []; pure .next)) :
    PS X (.AugAssign (.Subscript a b p) op e pos) (tS CS X fun D σ S => A.e σ S fun x S1 => B.e σ S1 fun k S2 => lgetD x k S2 fun old S3 => C.e σ S3 fun y S4 => iopD op old y S4 fun z S5 => setD x k z S5 fun S6 => D.nx σ S6) :=
  (ps_augS ha hb (PGet_ok hu) he (iop_ok op) (set_ok hu) hst).imp fun D σ H h => by
    obtain ⟨env, S, φ, at0, h⟩ := h
    refine tE_mk mA at0 h fun x S1 φ1 v1 H1 l1 a1 rx h => ?_
    refine tE_mk mB a1 h fun k S2 φ2 v2 H2 l2 a2 rk h => ?_
    refine ⟨x, k, S2, φ2, a2.w, rx.mono l2, rk, lgetD_mono h fun old S3 h φ3 v3 H3 l3 w3 ro => ?_⟩
    refine tE_mk mC (a2.mono l3 w3) h fun y S4 φ4 v4 H4 l4 a4 ry h => ?_
    refine ⟨old, y, S4, φ4, a4.w, ro.mono l4, ry, iopD_mono h fun z S5 h φ5 v5 H5 l5 w5 rz => ?_⟩
    refine ⟨x, k, z, S5, φ5, w5, ((rx.mono l2).mono l3 |>.mono l4).mono l5, ((rk.mono l3).mono l4).mono l5, rz, setD_mono h fun S6 q φ6 H6 l6 w6 => q φ6 σ H6 ((((((l1.trans l2).trans l3).trans l4).trans l5).trans l6)) ((a4.mono l5 w5).mono l6 w6)⟩

/-! ### stores from the right -/
def swN (sc : Scope) (ts : List Expr) : List Str :=
  let line := (ts.head?.map (·.pos.line)).getD 0
  ts.filterMap fun
    | .Name id pos => if sc.names.lookup id == some .local && pos.line == line then some id else none
    | _ => none
def swapP (sc : Scope) (ts vs : List Expr) : Option (Option (List Str)) :=
  if !(ts.length == 2 || ts.length == 3) || vs.length != ts.length || sc.kind != .function then some none
  else if vs.any fun | .Starred .. => true | _ => false then some none
  else if (swN sc ts).length != ts.length || (swN sc ts).eraseDups.length != (swN sc ts).length then some none
  else if vs.all (foldedForSure 8) then some none
  else if vs.all (constantsAlone 8) then none
  else some (some (swN sc ts))
theorem swapP_ok {ts vs : List Expr} {k k2 : Nat} {p p2 : Pos} {env : PySem.Env} {r : Option (List Str)} (hk : env.scope.kind = .function) (h : swapP env.scope ts vs = some r) : swappedStores [.Tuple ts k p] (.Tuple vs k2 p2) env = pure r := by
  have hb : env.blockKind = .function := by unfold Env.blockKind; rw [hk]; rfl
  have key : ∀ nm : List Str, nm = swN env.scope ts → (if (!(ts.length == 2 || ts.length == 3) || vs.length != ts.length || env.blockKind != ScopeKind.function) = true then (pure none : Sem (Option (List Str)))
      else if (vs.any fun | .Starred .. => true | _ => false) = true then pure none
      else if (nm.length != ts.length || nm.eraseDups.length != nm.length) = true then pure none
      else if vs.all (foldedForSure 8) = true then pure none
      else if vs.all (constantsAlone 8) = true then unsupported "assign.tuple-of-constant-expressions:order-of-the-stores"
      else pure (some nm)) = pure r := by
    rintro _ rfl
    unfold swapP at h
    rw [hb]
    rw [hk] at h
    split at h
    · rename_i c; rw [if_pos c]; cases h; rfl
    · rename_i c; rw [if_neg c]
      split at h
      · rename_i c; rw [if_pos c]; cases h; rfl
      · rename_i c; rw [if_neg c]
        split at h
        · rename_i c; rw [if_pos c]; cases h; rfl
        · rename_i c; rw [if_neg c]
          split at h
          · rename_i c; rw [if_pos c]; cases h; rfl
          · rename_i c; rw [if_neg c]
            split at h
            · cases h
            · rename_i c; rw [if_neg c]; cases h; rfl
  exact key (swN env.scope ts) rfl
end
end Pw
set_option maxHeartbeats 1000000
/-! Pw20: what loops walk: iterators by values. The turn of enumerate over a tuple follows HandS.turn_enum. -/
namespace Pw
open PySem PySem.Spec PyProof.Rows L2

/-! ### enumerate over a tuple -/
theorem meets_enum_new {v : Value} {o : Obj} {H : Heap → Prop} (B : Begins v o H) :
    Meets (Builtin.«enumerate.__new__» ⟨[.type "enumerate", v], []⟩) (fun _ R s => H s.heap ∧
      R (.ok (.ret (.ref (s.heap.push o).objs.size))) { s with heap := (s.heap.push o).push { cls := .type "enumerate", data := .fields #[.none, .bool false, .ref s.heap.objs.size, rawInt 0, .none, .none] } }) :=
  .of_wp fun prog w A R s h => by
    obtain ⟨hp, g, d, tk, os⟩ := s; obtain ⟨h1, h⟩ := h
    have hsub := sub_enumerate
    have q1 : ∀ {A' : Around} {E : Value → Shared → Prop} {Q : Value → Shared → Prop}, Q (.ref hp.objs.size) ⟨hp.push o, g, d, tk, os⟩ → wpAny (model prog w) A' (pyIter v) Q E ⟨hp, g, d, tk, os⟩ :=
      fun q => B.iter prog w _ _ ⟨hp, g, d, tk, os⟩ _ h1 q
    wp_walk using q1
    refine wpAny_stack_any fun st => wpAny_pure ?_
    split
    · rename_i c _ _ _ _ _
      cases (c == Value.type "enumerate")
      · wp_walk using q1
        exact ⟨_, rfl, h⟩
      · wp_walk using q1
        exact ⟨_, rfl, h⟩
    · wp_walk using q1
      exact ⟨_, rfl, h⟩
theorem enum_begins1 {prog : Program} {w : World} {A : Around} {E : Value → Shared → Prop} {s : Shared} {v : Value} {o : Obj} {H : Heap → Prop} {Q : Value → Shared → Prop} (B : Begins v o H) (h1 : H s.heap)
    (h : ∀ h', IsEnum h' (s.heap.objs.size + 1) s.heap.objs.size 0 .none → h'.get? s.heap.objs.size = some o → h'.objs.size = s.heap.objs.size + 2 →
      (∀ b o, s.heap.get? b = some o → h'.get? b = some o) → Q (.ref (s.heap.objs.size + 1)) { s with heap := h' }) :
    wpAny (model prog w) A (call (.type "enumerate") [v]) Q E s := by
  refine callType_new F.called_enumerate (by decide) (F.typeCall_enumerate_1 _) (F.newCall_enumerate_1 _) (fun obj => F.args_object_init_2 obj _) F.entry_enumerate_new
    (meets_enum_new B) ⟨h1, ?_⟩
  have hz : (s.heap.push o).objs.size = s.heap.objs.size + 1 := Heap.size_push ..
  show _ ∧ _
  rw [hz]
  have he : IsEnum ((s.heap.push o).push { cls := .type "enumerate", data := .fields #[.none, .bool false, .ref s.heap.objs.size, rawInt 0, .none, .none] }) (s.heap.objs.size + 1) s.heap.objs.size 0 .none := by
    have := Heap.get?_push_size (s.heap.push o) (o := { cls := .type "enumerate", data := .fields #[.none, .bool false, .ref s.heap.objs.size, rawInt 0, .none, .none] }) rfl
    rw [hz] at this; exact this
  refine ⟨⟨_, he, rfl⟩, h _ he (Heap.get?_push_of_some _ (Heap.get?_push_size _ B.free)) (by rw [Heap.size_push, hz]) fun b o x => Heap.get?_push_of_some _ (Heap.get?_push_of_some _ x)⟩
def IteT (K : PySem.W.Frag) (a : Addr) : It :=
  ⟨fun i H => ∃ (xs : List V) (x : V), SqT K H a xs ∧ xs[i]? = some x, fun i H v H' => ∃ T x, v = .ref T ∧ H T = none ∧ H' = upd H T (.tup [.int (i : Nat), x]) ∧ ∀ xs, SqT K H a xs → xs[i]? = some x, fun i H => ∃ xs : List V, SqT K H a xs ∧ xs.length = i⟩
theorem turn_enumT {P : Program} {w : World} {K : PySem.W.Frag} {elts : List Expr} {kk : Nat} {tpos : Pos} (a e it : Addr) :
    Turn P w K (.Tuple elts kk tpos) (IteT K a) [e, it] e (fun i h => (∃ old, IsEnum h e it ((i : Nat) : Int) old) ∧ h.IsTupleIter it a i ∧ e ≠ it ∧ a ≠ it ∧ e ≠ a) where
  mem := by simp
  obj := fun i h st b hb => by
    obtain ⟨⟨old, he⟩, ⟨o, ho, hc, hd⟩, _⟩ := st
    have e' : b = e ∨ b = it := by simpa using hb
    rcases e' with z | z
    · rw [z]; exact ⟨_, he, fun v q => nomatch q⟩
    · rw [z]; exact ⟨o, ho, fun v q => by rw [hd] at q; cases q⟩
  keep := fun i h h' st k => let ⟨⟨old, he⟩, hi, hne⟩ := st; ⟨⟨old, k e (by simp) _ he⟩, hi.at fun o q => k it (by simp) o q, hne⟩
  item := by
    intro X hP hw hK hc i pins s σ H E I hf st hg
    subst hP hw hK
    obtain ⟨⟨old, he⟩, hit, hne, hai, hea⟩ := st
    obtain ⟨xs, x, hq, hx⟩ := hg
    obtain ⟨its, rv, p, hz⟩ := I.tuple hq
    obtain ⟨u, hu, ru⟩ := rv.get hx
    have hel : e < s.heap.objs.size := Heap.lt_size he
    have hil : it < s.heap.objs.size := by obtain ⟨_, q, _⟩ := hit; exact Heap.lt_size q
    have hlt : i < its.toArray.size := by
      have := (List.getElem?_eq_some_iff.mp hu).1
      simpa using this
    refine wpAny_pyNext_enum_itemD (Draws.tuple (A := X.A.in1) (I.ok.hd hc) it a hai its.toArray) he ⟨hit, show s.heap.IsTuple a its.toArray from p⟩ hlt hne (by simp [hne, hea]) fun y h' tk hy ho hit' hT hsz hk => ?_
    have hy' : y = u := by
      have hy : its.toArray[i]? = some y := hy
      rw [List.getElem?_toArray, hu] at hy
      exact (Option.some.inj hy).symm
    subst hy'
    refine ⟨_, rfl, wpAny_letOwnedTupleGo_enum (s := { s with heap := h', toks := tk + 1 }) ho fun h'' he' sb => ?_⟩
    have hT2 : h''.get? s.heap.objs.size = some { cls := .type "tuple", data := .seq #[.int i tk, y] } := (sb.2 _ (Nat.ne_of_gt hel)).trans hT
    have new : ObjOk X.prog X.w (upd H s.heap.objs.size (.tup [.int (i : Nat), x])) h'' s.heap.objs.size (.tup [.int (i : Nat), x]) :=
      ⟨by show 2 ≤ sizeLine; decide, [.int i tk, y], .cons ⟨_, rfl⟩ (.cons ru .nil), ⟨_, hT2, rfl, _, rfl⟩⟩
    have I1 : Inv X pins σ (upd H s.heap.objs.size (.tup [.int (i : Nat), x])) { s with heap := h'', toks := tk + 1 } :=
      I.turnedNew (ch := [e, it]) (fun b ob hb q => (sb.2 b (fun z => hb (by simp [z]))).trans (hk b ob (fun z => hb (by simp [z])) (fun z => hb (by simp [z])) q)) hf (Nat.le_refl _) new
    refine ⟨.ref s.heap.objs.size, _, I1, rfl, ⟨_, x, rfl, I.hok.fresh (Nat.le_refl _), rfl, fun ys hy => by rw [I.tuple_inj hy hq]; exact hx⟩, ⟨⟨y, ?_⟩, hit'.1.at fun o q => (sb.2 it (Ne.symm hne)).trans q, hne, hai, hea⟩, fun b hb => ?_⟩
    · have e1 : ((i + 1 : Nat) : Int) = (i : Int) + 1 := by omega
      rw [e1]; exact he'
    · have hb' : b < s.heap.objs.size := by
        have e' : b = e ∨ b = it := by simpa using hb
        rcases e' with z | z
        · rw [z]; exact hel
        · rw [z]; exact hil
      rw [upd_ne (Nat.ne_of_lt hb')]
      exact (hf b hb).1
  done := by
    intro X hP hw hK hc i pins s σ H E I hf st hg
    subst hP hw hK
    obtain ⟨⟨old, he⟩, hit, hne, hai, hea⟩ := st
    obtain ⟨xs, hq, hx⟩ := hg
    obtain ⟨its, rv, p, hz⟩ := I.tuple hq
    obtain ⟨f0, f1, f2, f3, f4, f5⟩ := hf it (by simp)
    have hl := rv.length
    refine wpAny_pyNext_enum_endD (Draws.tuple (A := X.A.in1) (I.ok.hd hc) it a hai its.toArray) he ⟨?_, show s.heap.IsTuple a its.toArray from p⟩ fun h' eb => ⟨rfl, I.turned (t' := s.toks) (fun b o hb q => eb b o hb q) f0 f1 f3 f4 f5⟩
    have e : its.toArray.size = i := by simp; omega
    rw [e]; exact hit
  self := fun A i s Q E st h => let ⟨⟨_, he⟩, _⟩ := st; wpAny_pyIter_enum he h
def iEnumT (K : PySem.W.Frag) (ta : TA) : TI := fun σ H R => ta σ H fun vs H1 => ∃ a xs, vs = [.ref a] ∧ ((SqL K H1 a xs ∧ R (Ite K a) H1) ∨ (SqT K H1 a xs ∧ R (IteT K a) H1))
theorem pi_enumT {X : Cx} {e : Expr} {ta : TA} {p pos tpos : Pos} {elts : List Expr} {kk : Nat} (hg : Gl X "enumerate") (hm : X.mg "enumerate" = none) (ha : PA X [e] ta) (hs : starEach [e] X.env = [(false, eval e X.env)]) :
    PI X (.Tuple elts kk tpos) (.Call (.Name "enumerate" p) [e] [] pos) (iEnumT X.K ta) := by
  refine ⟨fun pins s σ H R I h => ?_⟩
  refine Call_ (ld_blt I hg hm boot_enumerate (PyProof.Rows.callWith_type1 (thn (ha.run pos pins s σ H _ I h) fun us s1 ⟨vs, H1, I1, r1, q1⟩ => ?_) hs rfl))
  obtain ⟨a, xs, ex, q1⟩ := q1
  subst ex
  cases r1 with
  | cons r rr =>
    cases rr
    cases r
    have fr : ∀ b ∈ [s1.heap.objs.size + 1, s1.heap.objs.size], FpOk X pins H1 b := fun b hb => by
      have e' : b = s1.heap.objs.size + 1 ∨ b = s1.heap.objs.size := by simpa using hb
      have hle : s1.heap.objs.size ≤ b := by
        rcases e' with z | z
        · rw [z]; exact Nat.le_add_right _ _
        · rw [z]; exact Nat.le_refl _
      exact I1.fpOk hle (I1.hok.fresh hle)
    rcases q1 with ⟨hq, q⟩ | ⟨hq, q⟩
    · obtain ⟨its, rv, p', hz⟩ := I1.list hq
      refine call_enumerate_list p'.isList fun h' he hit hsz hk => wpAny_pyIter_enum he ?_
      have I2 : Inv X pins σ H1 { s1 with heap := h' } := I1.kept (t' := s1.toks) hk
      exact ⟨s1.heap.objs.size + 1, [s1.heap.objs.size + 1, s1.heap.objs.size], _, _, H1, rfl, I2, turn_enum a (s1.heap.objs.size + 1) s1.heap.objs.size, ⟨⟨.none, he⟩, hit, Nat.succ_ne_self _⟩, fr, q⟩
    · obtain ⟨its, rv, p', hz⟩ := I1.tuple hq
      have pt : s1.heap.IsTuple a its.toArray := p'
      have hal : a < s1.heap.objs.size := by obtain ⟨o, q, _⟩ := id pt; exact Heap.lt_size q
      refine enum_begins1 (begins_tuple a its.toArray) pt fun h' he hit hsz hk => wpAny_pyIter_enum he ?_
      have I2 : Inv X pins σ H1 { s1 with heap := h' } := I1.kept (t' := s1.toks) hk
      exact ⟨s1.heap.objs.size + 1, [s1.heap.objs.size + 1, s1.heap.objs.size], _, _, H1, rfl, I2, turn_enumT a (s1.heap.objs.size + 1) s1.heap.objs.size, ⟨⟨.none, he⟩, ⟨_, hit, rfl, rfl⟩, Nat.succ_ne_self _, Nat.ne_of_lt hal, Nat.ne_of_gt (Nat.lt_succ_of_lt hal)⟩, fr, q⟩
end Pw
set_option maxHeartbeats 1000000
/-! Pw21: iterators by values: what they walk. -/
namespace Pw
open PySem PySem.Spec PyProof.Rows L2

section
variable {K : PySem.W.Frag} {H0 : Hp} {φ0 : Nat → Addr} {N0 : Nat}
theorem items_at {ds : List D} {i : Nat} (h : i < ds.length) : ∃ d, ds[i]? = some d := ⟨ds[i], List.getElem?_eq_getElem h⟩
theorem wk_tup {a : Addr} {xs : List V} {ds : List D} (q : SqT K H0 a xs) (r : RepL K H0 φ0 N0 ds xs) : Walks K H0 φ0 N0 (Itt K a) ⟨[], ds⟩ where
  go := fun i φ S H hi l w g => by
    obtain ⟨d, hd⟩ := items_at hi
    obtain ⟨v, hv, _⟩ := r.get hd
    exact ⟨xs, v, l.t.sqt q, hv⟩
  yld := fun i φ S H x H' hi l w g y => by
    obtain ⟨e, hy⟩ := y
    subst e
    obtain ⟨d, hd⟩ := items_at hi
    obtain ⟨v, hv, rv⟩ := (r.mono l).get hd
    have := hy xs (l.t.sqt q)
    rw [hv] at this
    cases this
    exact ⟨d, hd, .refl _ _ _, w, rv⟩
  stop := fun φ S H l w g => ⟨xs, l.t.sqt q, by rw [← r.length]; exact Nat.le_refl _⟩
theorem wk_list {n : Nat} {c : Cell} {ds : List D} (hn : n < N0) (hc : c = .lst ds ∨ c = .rol ds) : Walks K H0 φ0 N0 (Itl K (φ0 n)) ⟨[(n, c)], ds⟩ := by
  have get : ∀ {φ : Nat → Addr} {S : Store} {H : Hp}, Le H0 φ0 N0 H φ S.length → Wd K H φ S → gdOk [(n, c)] S → ∃ xs, SqL K H (φ0 n) xs ∧ RepL K H φ S.length ds xs := fun {φ S H} l w g => by
    have e := g (n, c) (List.mem_singleton.mpr rfl)
    rw [← l.p n hn]
    rcases hc with rfl | rfl
    · exact w.seq (.inl e)
    · exact w.seq (.inr e)
  refine ⟨fun i φ S H hi l w g => ?_, fun i φ S H x H' hi l w g y => ?_, fun φ S H l w g => ?_⟩
  · obtain ⟨xs, q, r⟩ := get l w g
    obtain ⟨d, hd⟩ := items_at hi
    obtain ⟨v, hv, _⟩ := r.get hd
    exact ⟨xs, v, q, hv⟩
  · obtain ⟨e, hy⟩ := y
    subst e
    obtain ⟨xs, q, r⟩ := get l w g
    obtain ⟨d, hd⟩ := items_at hi
    obtain ⟨v, hv, rv⟩ := r.get hd
    have := hy xs q
    rw [hv] at this
    cases this
    exact ⟨d, hd, .refl _ _ _, w, rv⟩
  · obtain ⟨xs, q, r⟩ := get l w g
    exact ⟨xs, q, by rw [← r.length]; exact Nat.le_refl _⟩
theorem signsD_length {z : Str} : (signsD z).length = z.cps.size := by simp [signsD]
theorem wk_str {z : Str} : Walks K H0 φ0 N0 (Its z) ⟨[], signsD z⟩ where
  go := fun i φ S H hi l w g => by
    have hi : i < (signsD z).length := hi
    rw [signsD_length] at hi; exact hi
  yld := fun i φ S H x H' hi l w g y => by
    obtain ⟨rfl, c, hc, rfl⟩ := y
    refine ⟨.str ⟨#[c]⟩, ?_, .refl _ _ _, w, .str _⟩
    show (signsD z)[i]? = _
    simp [signsD, hc]
  stop := fun φ S H l w g => by
    show z.cps.size ≤ (signsD z).length
    rw [signsD_length]; exact Nat.le_refl _
theorem rangeD_length {lo hi : Int} : (rangeD lo hi).length = (hi - lo).toNat := by simp [rangeD]
theorem wk_rng {lo hi : Int} : Walks K H0 φ0 N0 (Itr lo (hi - lo).toNat) ⟨[], rangeD lo hi⟩ where
  go := fun i φ S H hi l w g => by
    have hi : i < (rangeD _ _).length := hi
    rw [rangeD_length] at hi; exact hi
  yld := fun i φ S H x H' hi l w g y => by
    obtain ⟨rfl, rfl⟩ := y
    have hi : i < (rangeD _ _).length := hi
    rw [rangeD_length] at hi
    refine ⟨.int (lo + i), ?_, .refl _ _ _, w, .int _⟩
    show (rangeD _ _)[i]? = _
    simp [rangeD, hi]
  stop := fun φ S H l w g => by
    show _ ≤ (rangeD _ _).length
    rw [rangeD_length]; exact Nat.le_refl _
/-- pairs in new tuples -/
theorem pair_new {H : Hp} {φ : Nat → Addr} {S : Store} {T : Addr} {d e : D} {v u : V} (w : Wd K H φ S) (hT : H T = none) (rd : RepV K H φ S.length d v) (re : RepV K H φ S.length e u) :
    Le H φ S.length (upd H T (.tup [v, u])) φ S.length ∧ Wd K (upd H T (.tup [v, u])) φ S ∧ RepV K (upd H T (.tup [v, u])) φ S.length (.tup .key [d, e]) (.ref T) :=
  ⟨.fresh hT, w.fresh hT fun _ => nofun, .tup (k := .key) upd_same (.cons (rd.mono (.fresh hT)) (.cons (re.mono (.fresh hT)) .nil))⟩
theorem enumD_length {ds : List D} : (enumD ds).length = ds.length := by simp [enumD]
theorem enumD_at {ds : List D} {i : Nat} {d : D} (h : ds[i]? = some d) : (enumD ds)[i]? = some (.tup .key [.int (i : Nat), d]) := by simp [enumD, List.getElem?_zipIdx, h]
theorem wk_enumT {a : Addr} {xs : List V} {ds : List D} (q : SqT K H0 a xs) (r : RepL K H0 φ0 N0 ds xs) : Walks K H0 φ0 N0 (IteT K a) ⟨[], enumD ds⟩ where
  go := fun i φ S H hi l w g => by
    have hi : i < (enumD ds).length := hi
    rw [enumD_length] at hi
    obtain ⟨d, hd⟩ := items_at hi
    obtain ⟨v, hv, _⟩ := r.get hd
    exact ⟨xs, v, l.t.sqt q, hv⟩
  yld := fun i φ S H x H' hi l w g y => by
    obtain ⟨T, z, rfl, hT, rfl, hy⟩ := y
    have hi : i < (enumD ds).length := hi
    rw [enumD_length] at hi
    obtain ⟨d, hd⟩ := items_at hi
    obtain ⟨v, hv, rv⟩ := (r.mono l).get hd
    have := hy xs (l.t.sqt q)
    rw [hv] at this
    cases this
    exact ⟨_, enumD_at hd, pair_new w hT (.int _) rv⟩
  stop := fun φ S H l w g => ⟨xs, l.t.sqt q, by show xs.length = (enumD ds).length; rw [enumD_length, ← r.length]⟩
theorem wk_enumL {n : Nat} {c : Cell} {ds : List D} (hn : n < N0) (hc : c = .lst ds ∨ c = .rol ds) : Walks K H0 φ0 N0 (Ite K (φ0 n)) ⟨[(n, c)], enumD ds⟩ := by
  have get : ∀ {φ : Nat → Addr} {S : Store} {H : Hp}, Le H0 φ0 N0 H φ S.length → Wd K H φ S → gdOk [(n, c)] S → ∃ xs, SqL K H (φ0 n) xs ∧ RepL K H φ S.length ds xs := fun {φ S H} l w g => by
    have e := g (n, c) (List.mem_singleton.mpr rfl)
    rw [← l.p n hn]
    rcases hc with rfl | rfl
    · exact w.seq (.inl e)
    · exact w.seq (.inr e)
  refine ⟨fun i φ S H hi l w g => ?_, fun i φ S H x H' hi l w g y => ?_, fun φ S H l w g => ?_⟩
  · obtain ⟨xs, q, r⟩ := get l w g
    have hi : i < (enumD ds).length := hi
    rw [enumD_length] at hi
    obtain ⟨d, hd⟩ := items_at hi
    obtain ⟨v, hv, _⟩ := r.get hd
    exact ⟨xs, v, q, hv⟩
  · obtain ⟨T, z, rfl, hT, rfl, hy⟩ := y
    obtain ⟨xs, q, r⟩ := get l w g
    have hi : i < (enumD ds).length := hi
    rw [enumD_length] at hi
    obtain ⟨d, hd⟩ := items_at hi
    obtain ⟨v, hv, rv⟩ := r.get hd
    have := hy xs q
    rw [hv] at this
    cases this
    exact ⟨_, enumD_at hd, pair_new w hT (.int _) rv⟩
  · obtain ⟨xs, q, r⟩ := get l w g
    exact ⟨xs, q, by show xs.length ≤ (enumD ds).length; rw [enumD_length, ← r.length]; exact Nat.le_refl _⟩
theorem zipD_length {ds es : List D} : (zipD ds es).length = min ds.length es.length := by simp [zipD]
theorem zipD_at {ds es : List D} {i : Nat} {d e : D} (h : ds[i]? = some d) (h2 : es[i]? = some e) : (zipD ds es)[i]? = some (.tup .key [d, e]) := by
  have z : (ds.zip es)[i]? = some (d, e) := List.getElem?_zip_eq_some.mpr ⟨h, h2⟩
  simp only [zipD, List.getElem?_map, z, Option.map_some]
theorem wk_zipT {a b : Addr} {xs ys : List V} {ds es : List D} (q : SqT K H0 a xs) (r : RepL K H0 φ0 N0 ds xs) (q2 : SqT K H0 b ys) (r2 : RepL K H0 φ0 N0 es ys) : Walks K H0 φ0 N0 (RZ.ItzT K a b) ⟨[], zipD ds es⟩ where
  go := fun i φ S H hi l w g => by
    have hi : i < (zipD ds es).length := hi
    rw [zipD_length] at hi
    obtain ⟨d, hd⟩ := items_at (show i < ds.length by omega)
    obtain ⟨e, he⟩ := items_at (show i < es.length by omega)
    obtain ⟨v, hv, _⟩ := r.get hd
    obtain ⟨u, hu, _⟩ := r2.get he
    exact ⟨xs, ys, v, u, l.t.sqt q, l.t.sqt q2, hv, hu⟩
  yld := fun i φ S H x H' hi l w g y => by
    obtain ⟨T, z1, z2, rfl, hT, rfl, hy1, hy2⟩ := y
    have hi : i < (zipD ds es).length := hi
    rw [zipD_length] at hi
    obtain ⟨d, hd⟩ := items_at (show i < ds.length by omega)
    obtain ⟨e, he⟩ := items_at (show i < es.length by omega)
    obtain ⟨v, hv, rv⟩ := (r.mono l).get hd
    obtain ⟨u, hu, ru⟩ := (r2.mono l).get he
    have h1 := hy1 xs (l.t.sqt q)
    have h2 := hy2 ys (l.t.sqt q2)
    rw [hv] at h1
    rw [hu] at h2
    cases h1; cases h2
    exact ⟨_, zipD_at hd he, pair_new w hT rv ru⟩
  stop := fun φ S H l w g => ⟨xs, ys, l.t.sqt q, l.t.sqt q2, by
    show _ ≤ (zipD ds es).length ∨ _ ≤ (zipD ds es).length
    rw [zipD_length, ← r.length, ← r2.length]; omega⟩
end

section
variable {CS : List Addr} {X : Cx} {A B : W} {a b e tg : Expr} {p pos : Pos}
/-- what a loop walks, by its value -/
def iVal (K : PySem.W.Frag) (te : TE) : TI := fun σ H R => te σ H fun x H1 => (∃ a xs, x = .ref a ∧ SqL K H1 a xs ∧ R (Itl K a) H1) ∨ (∃ a xs, x = .ref a ∧ SqT K H1 a xs ∧ R (Itt K a) H1) ∨ ∃ z, x = .str z ∧ R (Its z) H1
theorem pi_val {te : TE} (he : PE X e te) : PI X tg e (iVal X.K te) := by
  refine ⟨fun pins s σ H R I h => ?_⟩
  refine thn (he.run pins s σ H _ I h) fun v s1 ⟨y, H1, I1, r1, q⟩ => ?_
  rcases q with ⟨a, xs, rfl, hq, q⟩ | ⟨a, xs, rfl, hq, q⟩ | ⟨z, rfl, q⟩
  · cases r1
    obtain ⟨its, rv, p, hz⟩ := I1.list hq
    refine wpAny_pyIter_list p.isList ?_
    refine ⟨s1.heap.objs.size, [s1.heap.objs.size], _, _, H1, rfl, I1.kept (t' := s1.toks) fun b o e => Heap.get?_push_of_some _ e, turn_list a _, ⟨_, Heap.get?_push_size _ rfl, rfl, rfl⟩, fun b hb => ?_, q⟩
    have e : b = s1.heap.objs.size := by simpa using hb
    subst e
    exact I1.fpOk (Nat.le_refl _) (I1.hok.fresh (Nat.le_refl _))
  · cases r1
    obtain ⟨its, rv, p, hz⟩ := I1.tuple hq
    refine wpAny_pyIter_tuple (show s1.heap.IsTuple a its.toArray from p) ?_
    refine ⟨s1.heap.objs.size, [s1.heap.objs.size], _, _, H1, rfl, I1.kept (t' := s1.toks) fun b o e => Heap.get?_push_of_some _ e, turn_tuple a _, ⟨_, Heap.get?_push_size _ rfl, rfl, rfl⟩, fun b hb => ?_, q⟩
    have e : b = s1.heap.objs.size := by simpa using hb
    subst e
    exact I1.fpOk (Nat.le_refl _) (I1.hok.fresh (Nat.le_refl _))
  · obtain ⟨t, rfl⟩ := r1
    cases ha : z.cps.all (· < 128)
    · exact wpAny_pyIter_wide ha (pi_one (tk := s1.toks) I1 _ (turn_str _ z t "str_iterator" (.inr rfl)) ⟨_, Heap.get?_push_size _ rfl, rfl, rfl⟩ q)
    · exact wpAny_pyIter_ascii ha (pi_one (tk := s1.toks) I1 _ (turn_str _ z t "str_ascii_iterator" (.inl rfl)) ⟨_, Heap.get?_push_size _ rfl, rfl, rfl⟩ q)
/-- a value's walk -/
theorem src_walk {K : PySem.W.Frag} {H : Hp} {φ : Nat → Addr} {S : Store} {x : D} {v : V} {s : Src} (w : Wd K H φ S) (r : RepV K H φ S.length x v) (h : srcD S x = some s) :
    (∃ a xs, v = .ref a ∧ SqL K H a xs ∧ Walks K H φ S.length (Itl K a) s ∧ Walks K H φ S.length (Ite K a) ⟨s.gd, enumD s.items⟩) ∨ (∃ a xs, v = .ref a ∧ SqT K H a xs ∧ RepL K H φ S.length s.items xs ∧ Walks K H φ S.length (Itt K a) s ∧ Walks K H φ S.length (IteT K a) ⟨s.gd, enumD s.items⟩ ∧ s.gd = []) ∨ ∃ z, v = .str z ∧ Walks K H φ S.length (Its z) s := by
  cases r with
  | @tup a xs ds k q r => cases h; exact .inr (.inl ⟨a, xs, rfl, q.sqt, r, wk_tup q.sqt r, wk_enumT q.sqt r, rfl⟩)
  | str z => cases h; exact .inr (.inr ⟨z, rfl, wk_str⟩)
  | loc n hn =>
    unfold srcD at h
    dsimp only at h
    split at h
    · rename_i xs hc
      cases h
      obtain ⟨vs, q, r⟩ := w.seq (.inl hc)
      exact .inl ⟨φ n, vs, rfl, q, wk_list hn (.inl rfl), wk_enumL hn (.inl rfl)⟩
    · rename_i xs hc
      cases h
      obtain ⟨vs, q, r⟩ := w.seq (.inr hc)
      exact .inl ⟨φ n, vs, rfl, q, wk_list hn (.inr rfl), wk_enumL hn (.inr rfl)⟩
    · cases h
  | _ => cases h
theorem r_ival (mA : MW A) (ha : PE X e (tE CS X A.e)) : PI X tg e (tI CS X fun σ S Q => A.e σ S fun d S' => match srcD S' d with
    | some s => Q s S'
    | none => False) := (pi_val ha).imp fun σ H R h => by
  obtain ⟨env, S, φ, at0, h⟩ := h
  refine tE_mk mA at0 h fun x S1 φ1 v H1 l1 a1 rx h => ?_
  split at h
  · rename_i s hs
    rcases src_walk a1.w rx hs with ⟨a, xs, rfl, q, wk, _⟩ | ⟨a, xs, rfl, q, _, wk, _, _⟩ | ⟨z, rfl, wk⟩
    · exact .inl ⟨a, xs, rfl, q, h φ1 H1 _ l1 a1 wk⟩
    · exact .inr (.inl ⟨a, xs, rfl, q, h φ1 H1 _ l1 a1 wk⟩)
    · exact .inr (.inr ⟨z, rfl, h φ1 H1 _ l1 a1 wk⟩)
  · exact h.elim
theorem seqS_inv {S : Store} {x : D} {s : Src} (h : seqS S x = some s) : srcD S x = some s ∧ ∀ z, x ≠ .str z := by
  unfold seqS at h
  split at h
  · cases h
  · exact ⟨h, by assumption⟩
theorem r_enum {elts : List Expr} {kk : Nat} {tpos : Pos} (hg : Gl X "enumerate") (hm : X.mg "enumerate" = none) (mA : MW A) (ha : PA X [e] (tA CS X A.a)) (hs : starEach [e] X.env = [(false, eval e X.env)]) :
    PI X (.Tuple elts kk tpos) (.Call (.Name "enumerate" p) [e] [] pos) (tI CS X fun σ S Q => A.a σ S fun ds S1 => match ds with
      | [x] => match seqS S1 x with
        | some s => Q ⟨s.gd, enumD s.items⟩ S1
        | none => False
      | _ => False) := (pi_enumT hg hm ha hs).imp fun σ H R h => by
  obtain ⟨env, S, φ, at0, h⟩ := h
  refine tA_mk mA at0 h fun ds S1 φ1 vs H1 l1 a1 rx h => ?_
  split at h
  · rename_i x
    split at h
    · rename_i s hs
      obtain ⟨hs, hn⟩ := seqS_inv hs
      cases rx with
      | cons rv rn =>
        cases rn
        rcases src_walk a1.w rv hs with ⟨a, xs, rfl, q, _, wk⟩ | ⟨a, xs, rfl, q, _, _, wk, _⟩ | ⟨z, rfl, wk⟩
        · exact ⟨a, xs, rfl, .inl ⟨q, h φ1 H1 _ l1 a1 wk⟩⟩
        · exact ⟨a, xs, rfl, .inr ⟨q, h φ1 H1 _ l1 a1 wk⟩⟩
        · cases rv; exact absurd rfl (hn z)
    · exact h.elim
  · exact h.elim
def rngR (A : W) : Env → Store → (Src → Store → Prop) → Prop := fun σ S Q => A.a σ S fun ds S1 => match ds with
      | [.int n] => small62 n ∧ Q ⟨[], rangeD 0 n⟩ S1
      | [.int lo, .int hi] => small62 lo ∧ small62 hi ∧ Q ⟨[], rangeD lo hi⟩ S1
      | _ => False
/-- A's list has n items -/
def ALen (A : W) (n : Nat) : Prop := ∀ σ S Q, A.a σ S Q → A.a σ S fun ds S' => ds.length = n ∧ Q ds S'
theorem r_range1 (hg : Gl X "range") (hm : X.mg "range" = none) (mA : MW A) (hl : ALen A 1) (ha : PA X [e] (tA CS X A.a)) (hs : starEach [e] X.env = [(false, eval e X.env)]) :
    PI X tg (.Call (.Name "range" p) [e] [] pos) (tI CS X (rngR A)) := (pi_range1 hg hm ha hs).imp fun σ H R h => by
  obtain ⟨env, S, φ, at0, h⟩ := h
  refine tA_mk mA at0 (hl _ _ _ h) fun ds S1 φ1 vs H1 l1 a1 rx h => ?_
  obtain ⟨hn, h⟩ := h
  split at h
  · rename_i n
    obtain ⟨hs, h⟩ := h
    obtain ⟨v, rfl, rv⟩ := rl1 rx
    cases rv
    have := h φ1 H1 (Itr 0 (n - 0).toNat) l1 a1 wk_rng
    rw [Int.sub_zero] at this
    exact ⟨n, rfl, hs.1, hs.2, this⟩
  · cases hn
  · exact h.elim
theorem r_range2 (hg : Gl X "range") (hm : X.mg "range" = none) (mA : MW A) (hl : ALen A 2) (ha : PA X [a, b] (tA CS X A.a)) (hs : starEach [a, b] X.env = [(false, eval a X.env), (false, eval b X.env)]) (hs2 : starEach [b] X.env = [(false, eval b X.env)]) :
    PI X tg (.Call (.Name "range" p) [a, b] [] pos) (tI CS X (rngR A)) := (pi_range2 hg hm ha hs hs2).imp fun σ H R h => by
  obtain ⟨env, S, φ, at0, h⟩ := h
  refine tA_mk mA at0 (hl _ _ _ h) fun ds S1 φ1 vs H1 l1 a1 rx h => ?_
  obtain ⟨hn, h⟩ := h
  split at h
  · cases hn
  · rename_i lo hi
    obtain ⟨hs, hs', h⟩ := h
    obtain ⟨v, u, rfl, rv, ru⟩ := rl2 rx
    cases rv
    cases ru
    exact ⟨lo, hi, rfl, ⟨hs.1, hs.2, hs'.1, hs'.2⟩, h φ1 H1 _ l1 a1 wk_rng⟩
  · exact h.elim
theorem r_zip {elts : List Expr} {kk : Nat} {tpos : Pos} (hg : Gl X "zip") (hm : X.mg "zip" = none) (mA : MW A) (ha : PA X [a, b] (tA CS X A.a)) (hs : starEach [a, b] X.env = (false, eval a X.env) :: starEach [b] X.env) (hpl : (backTo pos (starEach [b] X.env)).any (·.1) = false) :
    PI X (.Tuple elts kk tpos) (.Call (.Name "zip" p) [a, b] [] pos) (tI CS X fun σ S Q => A.a σ S fun ds S1 => match ds with
      | [.tup _ xs, .tup _ ys] => Q ⟨[], zipD xs ys⟩ S1
      | _ => False) := (RZ.pi_zipA hg hm ha hs hpl).imp fun σ H R h => by
  obtain ⟨env, S, φ, at0, h⟩ := h
  refine tA_mk mA at0 h fun ds S1 φ1 vs H1 l1 a1 rx h => ?_
  split at h
  · obtain ⟨v, u, rfl, rv, ru⟩ := rl2 rx
    cases rv with
    | tup q1 r1 =>
      cases ru with
      | tup q2 r2 => exact ⟨_, _, _, _, rfl, .inr ⟨q1.sqt, q2.sqt, h φ1 H1 _ l1 a1 (wk_zipT q1.sqt r1 q2.sqt r2)⟩⟩
  · exact h.elim
end
end Pw
set_option maxHeartbeats 1000000
/-! Pw22: list comprehensions. -/
namespace Pw
open PySem PySem.Spec PyProof.Rows L2

/-! ### targets of a block's own slots -/
def tGw (CS : List Addr) (X : Cx) (vs : List Nat) (g : D → Env → Store → (Env → Store → Prop) → Prop) : TG := fun v σ H Q => ∃ env S φ d, At CS X env S φ σ H ∧ RepV X.K H φ S.length d v ∧ g d env S fun env' S' => ∀ φ' σ' H', Le H φ S.length H' φ' S'.length → At CS X env' S' φ' σ' H' → wipe σ' vs = wipe σ vs → Q σ' H'
def tGsw (CS : List Addr) (X : Cx) (vs : List Nat) (g : List D → Env → Store → (Env → Store → Prop) → Prop) : TGs := fun us σ H Q => ∃ env S φ ds, At CS X env S φ σ H ∧ RepL X.K H φ S.length ds us ∧ g ds env S fun env' S' => ∀ φ' σ' H', Le H φ S.length H' φ' S'.length → At CS X env' S' φ' σ' H' → wipe σ' vs = wipe σ vs → Q σ' H'
theorem wipe_get {σ : L2.St} {vs : List Nat} {i : Nat} (h : i < σ.length) : (wipe σ vs)[i]? = if i ∈ vs then some none else σ[i]? := by
  induction vs with
  | nil => rfl
  | cons v vs ih =>
    unfold wipe
    by_cases e : v = i
    · subst e
      rw [List.getElem?_set_self (by rw [wipe_length]; exact h)]
      simp
    · rw [List.getElem?_set_ne e, ih]
      simp [Ne.symm e]
theorem wipe_set {σ : L2.St} {vs : List Nat} {i : Nat} {v : Option V} (hi : i ∈ vs) : wipe (σ.set i v) vs = wipe σ vs := by
  apply List.ext_getElem?
  intro j
  by_cases hj : j < σ.length
  · rw [wipe_get (by simpa using hj), wipe_get hj]
    by_cases e : i = j
    · subst e; simp [hi]
    · rw [List.getElem?_set_ne e]
  · rw [List.getElem?_eq_none (by rw [wipe_length, List.length_set]; omega), List.getElem?_eq_none (by rw [wipe_length]; omega)]
theorem ww_st {σ : L2.St} {vs : List Nat} : wipe (wipe σ vs) vs = wipe σ vs := by
  apply List.ext_getElem?
  intro j
  by_cases hj : j < σ.length
  · rw [wipe_get (by rw [wipe_length]; exact hj), wipe_get hj]
    by_cases e : j ∈ vs <;> simp [e]
  · rw [List.getElem?_eq_none (by rw [wipe_length, wipe_length]; omega), List.getElem?_eq_none (by rw [wipe_length]; omega)]
section
variable {CS : List Addr} {X : Cx} {A B : W} {e : Expr} {es : List Expr} {pos : Pos} {vs : List Nat}
theorem w_gname {i : Nat} {x : Str} (hi0 : i ∈ vs) (hN : X.N.Nodup) (hi : X.N[i]? = some x) (hx : Loc X.env.scope x) (hf : X.fn x = true ∨ X.env.scope.names.lookup x = some .local) : PG X (.Name x pos) (tGw CS X vs fun d σ S Q => Q (σ.set i (some d)) S) :=
  (pg_name hN hi hx hf).imp fun v σ H Q h => by
    obtain ⟨env, S, φ, dd, at0, rd, h⟩ := h
    exact h φ _ H (.refl _ _ _) ⟨at0.e.set rd, at0.w, at0.c⟩ (wipe_set hi0)
theorem w_gnil : PGs X [] (tGsw CS X vs fun ds σ S Q => ds = [] ∧ Q σ S) := pgs_nil.imp fun v σ H Q h => by
  obtain ⟨env, S, φ, ds, at0, rd, e, h⟩ := h
  subst e
  cases rd
  exact ⟨rfl, h φ _ H (.refl _ _ _) at0 rfl⟩
theorem w_gcons (mA : MW A) (mB : MW B) (ha : PG X e (tGw CS X vs A.g)) (hb : PGs X es (tGsw CS X vs B.gs)) (hs : (assignEach (e :: es) X.env).map (·.2) = assign e X.env :: (assignEach es X.env).map (·.2)) :
    PGs X (e :: es) (tGsw CS X vs fun ds σ S Q => match ds with | d :: r => A.g d σ S fun σ1 S1 => B.gs r σ1 S1 Q | [] => False) := (pgs_cons ha hb hs).imp fun v σ H Q h => by
  obtain ⟨env, S, φ, ds, at0, rd, h⟩ := h
  cases rd with
  | nil => exact h.elim
  | @cons d v ds us r t =>
    refine ⟨v, us, rfl, env, S, φ, d, at0, r, mA.g h fun env1 S1 h φ1 σ1 H1 l1 a1 w1 => ?_⟩
    exact ⟨env1, S1, φ1, ds, a1, t.mono l1, mB.gs h fun env2 S2 h φ2 σ2 H2 l2 a2 w2 => h φ2 σ2 H2 (l1.trans l2) a2 (w2.trans w1)⟩
theorem w_gtup {k n : Nat} (hc : X.calm = true) (mB : MW B) (hb : PGs X es (tGsw CS X vs B.gs)) (hn : (assignEach es X.env).length = n) (hst : (assignEach es X.env).findIdx? (·.1) = none) :
    PG X (.Tuple es k pos) (tGw CS X vs fun d σ S Q => match d with | .tup _ ds => ds.length = n ∧ B.gs ds σ S Q | _ => False) := (pg_tup hc hb hn hst).imp fun v σ H Q h => by
  obtain ⟨env, S, φ, d, at0, rd, h⟩ := h
  cases rd with
  | tup q r =>
    exact ⟨_, _, rfl, q.sqt, by rw [← r.length]; exact h.1, env, S, φ, _, at0, r, h.2⟩
  | _ => exact h.elim

/-! ### the comprehension -/
/-- what is asked of a list comprehension's parts -/
structure LcOk (CS : List Addr) (X : Cx) (tg iter elt : Expr) (ifs : List Expr) (scope : Scope) (own : List (Str × Nat)) (WS WT WI WE : W) : Prop where
  calm : X.calm = true
  nd : X.N.Nodup
  src : PI X tg iter (tI CS X WS.i)
  blk : BlkOk X.N X.env.scope scope own
  fold : ∀ x, foldedSetIterable iter X.env x = pure x
  g : ∀ (s : Shared) (H : Hp) (C : Addr) (cl : List (Str × Addr)) (fp : List Addr), PG (X.blk s H scope (compEnvC scope cl C X.env) fp) tg (tGw CS X (own.map (·.2)) WT.g)
  i : ∀ (s : Shared) (H : Hp) (C : Addr) (cl : List (Str × Addr)) (fp : List Addr), PTs (X.blk s H scope (compEnvC scope cl C X.env) fp) ifs (tT CS X WI.ts)
  e : ∀ (s : Shared) (H : Hp) (C : Addr) (cl : List (Str × Addr)) (fp : List Addr), PE (X.blk s H scope (compEnvC scope cl C X.env) fp) elt (tE CS X WE.e)
  mS : MW WS
  mT : MW WT
  mI : MW WI
  mE : MW WE
theorem lc_imp {tg iter elt : Expr} {ifs : List Expr} {scope : Scope} {own : List (Str × Nat)} {WS WT WI WE : W} (ok : LcOk CS X tg iter elt ifs scope own WS WT WI WE) {σ : L2.St} {H : Hp} {Q : VK} (h : tE CS X (lcRd (own.map (·.2)) WS WT WI WE) σ H Q) :
    tLc (tI CS X WS.i) (tGw CS X (own.map (·.2)) WT.g) (tT CS X WI.ts) (tE CS X WE.e) (own.map (·.2)) σ H Q := by
  obtain ⟨env, S, φ, at0, h⟩ := h
  refine tI_mk ok.mS at0 h fun src S1 φ1 H1 J l1 a1 wk h D hD => ?_
  have hlen : (S1 ++ [Cell.lst []]).length = S1.length + 1 := by simp
  have le0 : Le H1 φ1 S1.length (upd H1 D (.lst [])) (extA φ1 S1.length D) (S1 ++ [Cell.lst []]).length := by rw [hlen]; exact .alloc hD
  have w0 : Wd X.K (upd H1 D (.lst [])) (extA φ1 S1.length D) (S1 ++ [Cell.lst []]) := a1.w.alloc hD (fun _ => nofun) ⟨[], upd_same, .nil⟩
  refine ⟨fun i m H' => ∃ S' φ', i + m = src.items.length ∧ Le (upd H1 D (.lst [])) (extA φ1 S1.length D) (S1 ++ [Cell.lst []]).length H' φ' S'.length ∧ Wd X.K H' φ' S' ∧
    compL src.gd (fun d S (_ : Unit) nx => WT.g d (wipeE env (own.map (·.2))) S fun σ1 S2 => WI.ts σ1 S2 fun b S3 =>
        if b then WE.e σ1 S3 fun y S4 => lcPut S1.length y S4 fun S5 => nx S5 () else nx S3 ())
        (fun S' _ => KQ X.K H φ S.length Q (.loc S1.length) S') (src.items.drop i) S' (), ⟨src.items.length, _, _, Nat.zero_add _, .refl _ _ _, w0, h⟩, ?_⟩
  rintro i m H' ⟨S', φ', hm, le, wd, hf⟩
  have le1 := le0.trans le
  have hp : φ' S1.length = D := by
    rw [le.p _ (by rw [hlen]; exact Nat.lt_succ_self _), extA_same]
  have hN' : S1.length < S'.length := Nat.lt_of_lt_of_le (by rw [hlen]; exact Nat.lt_succ_self _) le.n
  cases hdr : src.items.drop i with
  | nil =>
    rw [hdr] at hf
    obtain ⟨hgd, hf⟩ := hf
    have hi' : i = src.items.length := by
      have := congrArg List.length hdr
      rw [List.length_drop] at this
      simp only [List.length_nil] at this
      omega
    refine .inl ⟨by rw [hi']; exact wk.stop φ' S' H' le1 wd hgd, ?_⟩
    have := RepV.loc (K := X.K) (H := H') (φ := φ') (N := S'.length) S1.length hN'
    rw [hp] at this
    exact hf φ' _ H' (l1.trans le1) wd this
  | cons d ds =>
    rw [hdr] at hf
    obtain ⟨hgd, hb'⟩ := hf
    have hlt : i < src.items.length := by
      have := congrArg List.length hdr
      rw [List.length_drop] at this
      simp only [List.length_cons] at this
      omega
    have hd : src.items[i]? = some d := by
      have q := congrArg (·[0]?) hdr
      simp only [List.getElem?_drop, Nat.add_zero, List.getElem?_cons_zero] at q
      exact q
    have hds' : src.items.drop (i + 1) = ds := by
      have q := congrArg (List.drop 1) hdr
      simpa [List.drop_drop] using q
    refine .inr ⟨wk.go i φ' S' H' hlt le1 wd hgd, fun H2 => ∃ S2 φ2, i + 1 + (m - 1) = src.items.length ∧ Le (upd H1 D (.lst [])) (extA φ1 S1.length D) (S1 ++ [Cell.lst []]).length H2 φ2 S2.length ∧ Wd X.K H2 φ2 S2 ∧
      compL src.gd (fun d S (_ : Unit) nx => WT.g d (wipeE env (own.map (·.2))) S fun σ1 S2 => WI.ts σ1 S2 fun b S3 =>
        if b then WE.e σ1 S3 fun y S4 => lcPut S1.length y S4 fun S5 => nx S5 () else nx S3 ())
        (fun S' _ => KQ X.K H φ S.length Q (.loc S1.length) S') (src.items.drop (i + 1)) S2 (), fun H2 h2 => ⟨m - 1, by omega, h2⟩, fun x H2 y2 => ?_⟩
    obtain ⟨d', hd', l2, w2, rv⟩ := wk.yld i φ' S' H' x H2 hlt le1 wd hgd y2
    rw [hd] at hd'; cases hd'
    have l02 := le.trans l2
    have a2 : At CS X (wipeE env (own.map (·.2))) S' φ' (wipe σ (own.map (·.2))) H2 := ⟨(a1.e.mono (le1.trans l2)).wipe _, w2, a1.c.mono (le1.trans l2).t⟩
    refine ⟨_, S', φ', d, a2, rv, ok.mT.g hb' fun env3 S3 h3 φ3 σ3 H3 l3 a3 e3 => ?_⟩
    refine ⟨e3.trans (by rw [ww_st]), ?_⟩
    refine tTs_mk ok.mI a3 h3 fun b S4 φ4 H4 l4 a4 h4 => ?_
    cases b with
    | false =>
      simp only [Bool.false_eq_true, if_false] at h4 ⊢
      exact ⟨S4, φ4, by omega, (l02.trans l3).trans l4, a4.w, by rw [hds']; exact h4⟩
    | true =>
      simp only [if_true] at h4 ⊢
      refine tE_mk ok.mE a4 h4 fun y S5 φ5 v H5 l5 a5 ry h5 => ?_
      have l05 : Le (upd H1 D (.lst [])) (extA φ1 S1.length D) (S1 ++ [Cell.lst []]).length H5 φ5 S5.length := ((l02.trans l3).trans l4).trans l5
      have hp5 : φ5 S1.length = D := by
        rw [l05.p _ (by rw [hlen]; exact Nat.lt_succ_self _), extA_same]
      unfold lcPut at h5
      split at h5
      · rename_i acc hacc
        obtain ⟨hz, h5⟩ := h5
        obtain ⟨xs, hx, rx⟩ := a5.w.cell _ _ hacc
        rw [hp5] at hx
        have el : (S5.set S1.length (.lst (acc ++ [y]))).length = S5.length := by simp
        have hw : Wr (.lst xs) := trivial
        have lw : Le H5 φ5 S5.length (upd H5 D (.lst (xs ++ [v]))) φ5 S5.length := ⟨Nat.le_refl _, fun _ _ => rfl, .write hx hw⟩
        have wr := a5.w.write (n := S1.length) (c' := .lst (acc ++ [y])) (u := .lst xs) (o := .lst (xs ++ [v])) hacc trivial (by rw [hp5]; exact hx) hw (fun _ => nofun) trivial (by
          rw [hp5]
          exact ⟨xs ++ [v], upd_same, (rx.mono lw).snoc (ry.mono lw)⟩)
        rw [hp5] at wr
        exact ⟨xs, hx, by rw [← rx.length]; exact hz, _, φ5, by omega, by rw [el]; exact l05.trans lw, wr, by rw [hds']; exact h5⟩
      · exact h5.elim
theorem r_lc {tg iter elt : Expr} {ifs : List Expr} {scope : Scope} {own : List (Str × Nat)} {WS WT WI WE : W} (ok : LcOk CS X tg iter elt ifs scope own WS WT WI WE) : PE X (.ListComp elt [⟨tg, iter, ifs, 0⟩] scope pos) (tE CS X (lcRd (own.map (·.2)) WS WT WI WE)) :=
  (pe_lc ok.calm ok.nd ok.src ok.blk ok.g ok.i ok.e ok.fold).imp fun σ H Q h => lc_imp ok h
end
end Pw
set_option maxHeartbeats 1000000
/-! Pw23: dict comprehensions with tuples as keys (the walk of the block goes as HandS.DictComp's does for plain keys); comprehensions that are assigned at once; reversed slices. -/
namespace Pw
open PySem PySem.Spec PyProof.Rows L2

/-- d[k] = v by a comprehension, k a tuple -/
theorem dT_dictSet {X : Cx} {pins : List (Addr × Obj)} {σ : L2.St} {H : Hp} {s : Shared} {E : Value → Shared → Prop} {D b : Addr} {kvs : List (List Key × V)} {k : List Key} {v : V} {r : Value} {Q : Unit → Shared → Prop} (hu : X.A.units + 1 < cLine) (I : Inv X pins σ H s) (hD : H D = some (.dT kvs)) (hz : kvs.length < sizeLine)
    (eb : H b = some (.tup (k.map kV))) (rv : RelV v r) (h : ∀ s', Inv X pins σ (upd H D (.dT (putK kvs k v))) s' → Q () s') : wpAny (model X.prog X.w) X.A (dictSet D (.ref b) r) Q E s := by
  obtain ⟨z, hd, xs, rel, dd⟩ := dt_of I.hok hD
  have hzv : xs.length ≤ sizeLine := by rw [← Paired.length rel]; exact z
  have hl : (putK kvs k v).length ≤ sizeLine := by have := length_putK kvs k v; omega
  refine wpAny_dictSet_heap (hsz := hzv) (show X.A.units < cLine by omega) (key_of I.hok eb) dd fun h' dd' hs => h _ ?_
  obtain ⟨q, es, ep, hq, h2, h3, h4, _, h5⟩ := dd'
  refine d_write I (by rw [hD]; exact True.intro) hs ⟨q, hq⟩ ⟨hl, hd, _, (rel.put k eb rv).keeps fun c ys ec => ?_, q, es, ep, hq, h2, h3, h4, h5⟩
  rw [upd_ne (ne_of ec hD (fun z => nomatch z))]
  exact ec
section
variable {CS : List Addr} {X : Cx}
structure DcOk (CS : List Addr) (X : Cx) (tg iter kx vx : Expr) (scope : Scope) (own : List (Str × Nat)) (WS WT WK WV : W) : Prop where
  calm : X.calm = true
  nd : X.N.Nodup
  room : X.A.units + 1 < cLine
  src : PI X tg iter (tI CS X WS.i)
  blk : BlkOk X.N X.env.scope scope own
  fold : ∀ x, foldedSetIterable iter X.env x = pure x
  g : ∀ (s : Shared) (H : Hp) (C : Addr) (cl : List (Str × Addr)) (fp : List Addr), PG (X.blk s H scope (compEnvC scope cl C X.env) fp) tg (tGw CS X (own.map (·.2)) WT.g)
  k : ∀ (s : Shared) (H : Hp) (C : Addr) (cl : List (Str × Addr)) (fp : List Addr), PE (X.blk s H scope (compEnvC scope cl C X.env) fp) kx (tE CS X WK.e)
  e : ∀ (s : Shared) (H : Hp) (C : Addr) (cl : List (Str × Addr)) (fp : List Addr), PE (X.blk s H scope (compEnvC scope cl C X.env) fp) vx (tE CS X WV.e)
  mS : MW WS
  mT : MW WT
  mK : MW WK
  mV : MW WV
section
variable {pins : List (Addr × Obj)} {s : Shared} {σ : L2.St} {H : Hp} {Q : VK} {kx vx tg iter : Expr} {scope : Scope} {own : List (Str × Nat)} {pos pos' : Pos} {WS WT WK WV : W} {use : Option (Value → Sem Unit)} {Qf : Value → Shared → Prop}
theorem dcT_core (ok : DcOk CS X tg iter kx vx scope own WS WT WK WV) (I : Inv X pins σ H s) (h : tE CS X (dcRd (own.map (·.2)) WS WT WK WV) σ H Q)
    (hRR : ∀ D C s' m H', Inv X pins σ H' s' → Q (.ref D) H' → s'.heap.Ns C m → FpOk X pins H' C → compPost (model X.prog X.w) X.A X.xe use Qf (.ref D) C (.ok .next) s') :
    wpAny (model X.prog X.w) X.A (comprehension (.DictComp kx vx [⟨tg, iter, [], 0⟩] scope pos) scope X.env pos' newDict false (eval iter X.env) use) Qf X.xe s := by
  obtain ⟨env, S, φ, at0, h⟩ := h
  have hcl : ∀ y ∈ scope.names, y.2 = .free → ∃ c, X.env.cells.lookup y.1 = some c := fun y hy e => (ok.blk.free y hy e).elim (fun k => I.ok.has _ (.inl k)) fun k => I.ok.has _ (.inr k)
  have hr := tI_mk (G := fun J H1 => ∃ src S1 φ1, Le H φ S.length H1 φ1 S1.length ∧ At CS X env S1 φ1 σ H1 ∧ Walks X.K H1 φ1 S1.length J src ∧ compL src.gd (fun d S (_ : Unit) nx => WT.g d (wipeE env (own.map (·.2))) S fun σ1 S2 => WK.e σ1 S2 fun x S3 => WV.e σ1 S3 fun y S4 => dcPut S1.length x y S4 fun S5 => nx S5 ())
    (fun S' _ => KQ X.K H φ S.length Q (.loc S1.length) S') src.items (S1 ++ [.dT []]) ()) ok.mS at0 h fun src S1 φ1 H1 J l a1 wk r => ⟨src, S1, φ1, l, a1, wk, r⟩
  refine wpAny_comprehension_free (use := use) rfl ok.fold (closure_ok hcl) ok.blk.kind (fun y hy e => by rw [ok.blk.uniq y hy, e]) (thn (ok.src.run pins s σ H _ I hr) fun xv s1 hx => thn hx fun itv s2 h2 => ?_)
  obtain ⟨it, fp, tn, J, H2, rfl, I2, T, st2, f2, src, S1, φ1, l1, a1, wk, h⟩ := h2
  refine wpAny_newObj_type (newEnv_comp ?_)
  have szf : ∀ b ∈ fp, b < s2.heap.objs.size := fun b hb => let ⟨o, e, _⟩ := T.obj _ _ st2 b hb; Heap.lt_size e
  generalize hs3 : ({ s2 with heap := s2.heap.push { cls := .type "dict", data := .dict #[] } } : Shared) = s3
  have h3 : s3.heap = s2.heap.push { cls := .type "dict", data := .dict #[] } := by rw [← hs3]
  generalize hD : s2.heap.objs.size = D at szf
  have hDn : H2 D = none := I2.hok.fresh (Nat.le_of_eq hD)
  have I3 : Inv X pins σ (upd H2 D (.dT [])) s3 := by
    rw [← hs3, ← hD]
    exact I2.laid (t' := s2.toks) (fun b o e => Heap.get?_push_of_some _ e) (Nat.le_refl _) (dt_empty s2.heap I2.big)
  have hlen : (S1 ++ [Cell.dT []]).length = S1.length + 1 := by simp
  have le0 : Le H2 φ1 S1.length (upd H2 D (.dT [])) (extA φ1 S1.length D) (S1 ++ [Cell.dT []]).length := by rw [hlen]; exact .alloc hDn
  have w0 : Wd X.K (upd H2 D (.dT [])) (extA φ1 S1.length D) (S1 ++ [Cell.dT []]) := a1.w.alloc hDn (fun _ => nofun) ⟨[], upd_same, .nil⟩
  have ff : ∀ b ∈ fp, FpOk X pins (upd H2 D (.dT [])) b ∧ b < s3.heap.objs.size := fun b hb => by
    refine ⟨⟨?_, (f2 b hb).2⟩, by rw [h3, Heap.size_push, hD]; exact Nat.lt_succ_of_lt (szf b hb)⟩
    rw [upd_ne (Nat.ne_of_lt (szf b hb))]
    exact (f2 b hb).1
  have st3 : tn 0 s3.heap := T.keep _ _ _ st2 fun b _ o e => by rw [h3]; exact Heap.get?_push_of_some _ e
  generalize hce : compEnvC scope (cellsFrom (s3.heap.objs.size + 1) scope.names (cloFrom X.env.cells scope.names [])) s3.heap.objs.size X.env = ce
  have cL : ce.locals = s3.heap.objs.size := by subst hce; rfl
  have I4 := block_start I3 ok.blk ok.nd ff
  have pg := ok.g s3 (upd H2 D (.dT [])) s3.heap.objs.size (cellsFrom (s3.heap.objs.size + 1) scope.names (cloFrom X.env.cells scope.names [])) fp
  have pk := ok.k s3 (upd H2 D (.dT [])) s3.heap.objs.size (cellsFrom (s3.heap.objs.size + 1) scope.names (cloFrom X.env.cells scope.names [])) fp
  have pe := ok.e s3 (upd H2 D (.dT [])) s3.heap.objs.size (cellsFrom (s3.heap.objs.size + 1) scope.names (cloFrom X.env.cells scope.names [])) fp
  rw [hce] at I4 pg pk pe
  show codeAny _ _ (.compStart (.DictComp kx vx [⟨tg, iter, [], 0⟩] scope pos) 0 (.ref it) (.ref D) (compEnvC scope (cellsFrom (s3.heap.objs.size + 1) scope.names (cloFrom X.env.cells scope.names [])) s3.heap.objs.size X.env)) (compPost (model X.prog X.w) X.A X.xe use Qf (.ref D) s3.heap.objs.size) { s3 with heap := pushCells (s3.heap.push { cls := .type "dict", data := .dict #[] }) scope.names }
  rw [hce]
  generalize hs4 : ({ s3 with heap := pushCells (s3.heap.push { cls := .type "dict", data := .dict #[] }) scope.names } : Shared) = s4 at I4 ⊢
  have st4 : tn 0 s4.heap := T.keep _ _ _ st3 fun b _ o e => by rw [← hs4]; exact pushCells_keeps _ _ _ _ (Heap.get?_push_of_some _ e)
  generalize hH3 : upd H2 D (.dT []) = H3 at I3 I4 pg pk pe le0 w0 ff
  have nf3 : ∀ b ∈ fp, H3 b = none := fun b hb => (ff b hb).1.1
  have stat : ∀ {σ' : L2.St} {H' : Hp} {s' : Shared}, Inv (X.blk s3 H3 scope ce fp) [] σ' H' s' → (∀ b ∈ fp, H' b = none) → ∀ b ∈ fp, FpOk (X.blk s3 H3 scope ce fp) [] H' b := fun {σ' H' s'} I' hn b hb =>
    ⟨hn b hb, (I'.ok.exf b hb).1, I'.ok.exfs b hb, .inl hb, fun x c e => (I'.ok.exf b hb).2 x c e, fun p hp => absurd (show p ∈ ([] : List (Addr × Obj)) ++ [] from hp) (by simp)⟩
  have loop : codeAny (model X.prog X.w) X.A (.compLoop (.DictComp kx vx [⟨tg, iter, [], 0⟩] scope pos) 0 (.ref it) (.ref D) ce) (compPost (model X.prog X.w) X.A X.xe use Qf (.ref D) s3.heap.objs.size) s4 := by
    refine compLoop_anyD (fun n s' => ∃ i H' S' φ', i + n = src.items.length ∧ Inv (X.blk s3 H3 scope ce fp) [] (wipe σ (own.map (·.2))) H' s' ∧ tn i s'.heap ∧ (∀ b ∈ fp, H' b = none) ∧ Le H3 (extA φ1 S1.length D) (S1 ++ [Cell.dT []]).length H' φ' S'.length ∧ Wd X.K H' φ' S' ∧
      compL src.gd (fun d S (_ : Unit) nx => WT.g d (wipeE env (own.map (·.2))) S fun σ1 S2 => WK.e σ1 S2 fun x S3 => WV.e σ1 S3 fun y S4 => dcPut S1.length x y S4 fun S5 => nx S5 ())
        (fun S' _ => KQ X.K H φ S.length Q (.loc S1.length) S') (src.items.drop i) S' ()) ?_ src.items.length ⟨0, H3, _, _, Nat.zero_add _, I4, st4, nf3, .refl _ _ _, w0, h⟩
    rintro n s5 ⟨i, H5, S5, φ5, hm, I5, st5, n5, le5, w5, hf⟩
    have le15 := le0.trans le5
    have hp5 : ∀ {H' : Hp} {φ' : Nat → Addr} {N' : Nat}, Le H3 (extA φ1 S1.length D) (S1 ++ [Cell.dT []]).length H' φ' N' → φ' S1.length = D ∧ S1.length < N' := fun l => ⟨by rw [l.p _ (by rw [hlen]; exact Nat.lt_succ_self _), extA_same], Nat.lt_of_lt_of_le (by rw [hlen]; exact Nat.lt_succ_self _) l.n⟩
    cases hdr : src.items.drop i with
    | nil =>
      rw [hdr] at hf
      obtain ⟨hgd, hf⟩ := hf
      have hi' : i = src.items.length := by
        have := congrArg List.length hdr
        rw [List.length_drop] at this
        simp only [List.length_nil] at this
        omega
      refine thnF (T.done (X.blk s3 H3 scope ce fp) rfl rfl rfl ok.calm i [] s5 _ H5 (fun _ _ => False) I5 (stat I5 n5) st5 (by rw [hi']; exact wk.stop φ5 S5 H5 le15 w5 hgd)) fun r s6 ⟨hr, I6⟩ => ?_
      subst hr
      have I7 : Inv X pins σ H5 s6 := I3.call' (ch := fp) I6.os I6.base I6.hok I6.bare fun b hb => ⟨(ff b hb).1.2.2.2.1, (ff b hb).1.2.1, (ff b hb).1.2.2.2.2.1, (ff b hb).1.2.2.2.2.2⟩
      have nC : H5 s3.heap.objs.size = none := by
        have z : H5 ce.locals = none := I6.free
        rwa [cL] at z
      obtain ⟨m, hn, _⟩ := I6.loc
      have hn : s6.heap.Ns ce.locals m := hn
      rw [cL] at hn
      have rv := RepV.loc (K := X.K) (H := H5) (φ := φ5) (N := S5.length) S1.length (hp5 le5).2
      rw [(hp5 le5).1] at rv
      exact hRR D s3.heap.objs.size s6 m H5 I7 (hf φ5 _ H5 (l1.trans le15) w5 rv) hn (I3.fpOk (Nat.le_refl _) nC)
    | cons d ds =>
      rw [hdr] at hf
      obtain ⟨hgd, hb'⟩ := hf
      have hlt : i < src.items.length := by
        have := congrArg List.length hdr
        rw [List.length_drop] at this
        simp only [List.length_cons] at this
        omega
      have hd : src.items[i]? = some d := by
        have q := congrArg (·[0]?) hdr
        simp only [List.getElem?_drop, Nat.add_zero, List.getElem?_cons_zero] at q
        exact q
      have hds' : src.items.drop (i + 1) = ds := by
        have q := congrArg (List.drop 1) hdr
        simpa [List.drop_drop] using q
      refine thnF (T.item (X.blk s3 H3 scope ce fp) rfl rfl rfl ok.calm i [] s5 _ H5 (fun _ _ => False) I5 (stat I5 n5) st5 (wk.go i φ5 S5 H5 hlt le15 w5 hgd)) fun r s6 ⟨u, hr, h6⟩ => ?_
      subst hr
      refine thnF h6 fun _ s7 ⟨x, H7, I7, r7, y7, st7, n7⟩ => ?_
      obtain ⟨d', hd', l7, w7, rv⟩ := wk.yld i φ5 S5 H5 x H7 hlt le15 w5 hgd y7
      rw [hd] at hd'; cases hd'
      have I7' := I7.pinned (stat I7 n7) (T.obj _ _ st7)
      have a7 : At CS X (wipeE env (own.map (·.2))) S5 φ5 (wipe σ (own.map (·.2))) H7 := ⟨(a1.e.mono (le15.trans l7)).wipe _, w7, a1.c.mono (le15.trans l7).t⟩
      refine thnF (pg.run _ s7 _ H7 x u (fun σ8 H8 => wipe σ8 (own.map (·.2)) = wipe σ (own.map (·.2)) ∧ ∃ env8 S8 φ8, Le H7 φ5 S5.length H8 φ8 S8.length ∧ At CS X env8 S8 φ8 σ8 H8 ∧ WK.e env8 S8 fun x S3 => WV.e env8 S3 fun y S4 => dcPut S1.length x y S4 fun S5 => compL src.gd (fun d S (_ : Unit) nx => WT.g d (wipeE env (own.map (·.2))) S fun σ1 S2 => WK.e σ1 S2 fun x S3 => WV.e σ1 S3 fun y S4 => dcPut S1.length x y S4 fun S5 => nx S5 ())
        (fun S' _ => KQ X.K H φ S.length Q (.loc S1.length) S') ds S5 ()) I7' r7 ⟨_, S5, φ5, d, a7, rv, ok.mT.g hb' fun env8 S8 h8 φ8 σ8 H8 l8 a8 e8 => ⟨e8.trans ww_st, env8, S8, φ8, l8, a8, h8⟩⟩) fun _ s8 ⟨σ8, H8, I8, hw8, env8, S8, φ8, l8, a8, q8⟩ => ?_
      refine wpAny_pure (a := true) ?_
      simp only [if_true]
      refine thnF (pk.run _ s8 σ8 H8 (fun yk H9 => ∃ dx S9 φ9, Le H8 φ8 S8.length H9 φ9 S9.length ∧ At CS X env8 S9 φ9 σ8 H9 ∧ RepV X.K H9 φ9 S9.length dx yk ∧ WV.e env8 S9 fun y S4 => dcPut S1.length dx y S4 fun S5 => compL src.gd (fun d S (_ : Unit) nx => WT.g d (wipeE env (own.map (·.2))) S fun σ1 S2 => WK.e σ1 S2 fun x S3 => WV.e σ1 S3 fun y S4 => dcPut S1.length x y S4 fun S5 => nx S5 ())
        (fun S' _ => KQ X.K H φ S.length Q (.loc S1.length) S') ds S5 ()) I8 (tE_mk ok.mK a8 q8 fun dx S9 φ9 v9 H9 l9 a9 r9 h9 => ⟨dx, S9, φ9, l9, a9, r9, h9⟩)) fun kv s9 ⟨yk, H9, I9, rk, dx, S9, φ9, l9, a9, rdx, q9⟩ => ?_
      refine thnF (pe.run _ s9 σ8 H9 (fun yv H10 => ∃ dy S10 φ10, Le H9 φ9 S9.length H10 φ10 S10.length ∧ At CS X env8 S10 φ10 σ8 H10 ∧ RepV X.K H10 φ10 S10.length dy yv ∧ dcPut S1.length dx dy S10 fun S5 => compL src.gd (fun d S (_ : Unit) nx => WT.g d (wipeE env (own.map (·.2))) S fun σ1 S2 => WK.e σ1 S2 fun x S3 => WV.e σ1 S3 fun y S4 => dcPut S1.length x y S4 fun S5 => nx S5 ())
        (fun S' _ => KQ X.K H φ S.length Q (.loc S1.length) S') ds S5 ()) I9 (tE_mk ok.mV a9 q9 fun dy S10 φ10 v10 H10 l10 a10 r10 h10 => ⟨dy, S10, φ10, l10, a10, r10, h10⟩)) fun vv s10 ⟨yv, H10, I10, rvv, dy, S10, φ10, l10, a10, rdy, q10⟩ => ?_
      have l310 : Le H3 (extA φ1 S1.length D) (S1 ++ [Cell.dT []]).length H10 φ10 S10.length := (((le5.trans l7).trans l8).trans l9).trans l10
      unfold dcPut at q10
      split at q10
      · rename_i kvs hk
        split at q10
        · rename_i kk hkk
          obtain ⟨hz, q10⟩ := q10
          obtain ⟨vs, hx, rx⟩ := a10.w.cell _ _ hk
          rw [(hp5 l310).1] at hx
          obtain ⟨b, rfl, hb⟩ := keyT_inv (rdx.mono l10) hkk
          cases (show kv = Value.ref b from rk)
          refine dT_dictSet (X := X.blk s3 H3 scope ce fp) ok.room I10 hx (by rw [← rx.length]; exact hz) hb rvv fun s11 I11 => ?_
          have el : (S10.set S1.length (.dT (putD kvs kk dy))).length = S10.length := by simp
          have lw : Le H10 φ10 S10.length (upd H10 D (.dT (putK vs kk yv))) φ10 S10.length := ⟨Nat.le_refl _, fun _ _ => rfl, .write hx (show Wr (.dT vs) from trivial)⟩
          have wr := a10.w.write (n := S1.length) (c' := .dT (putD kvs kk dy)) (u := .dT vs) (o := .dT (putK vs kk yv)) hk trivial (by rw [(hp5 l310).1]; exact hx) trivial (fun _ => nofun) trivial (by
            rw [(hp5 l310).1]
            exact ⟨_, upd_same, putD_put kk (pairsR_mono lw rx) (rdy.mono lw)⟩)
          rw [(hp5 l310).1] at wr
          have pin' : ∀ b ∈ fp, ∀ o, s7.heap.get? b = some o → s11.heap.get? b = some o ∧ (upd H10 D (.dT (putK vs kk yv))) b = none := fun b hb o e =>
            let z := I11.pin (b, o) (List.mem_append_right _ (List.mem_append_right _ (mem_pinsAt hb e)))
            ⟨z.1, z.2.1⟩
          have hl : (wipe σ (own.map (·.2))).length = σ8.length := by rw [← hw8, wipe_length]
          refine ⟨n - 1, by omega, i + 1, _, _, φ10, by omega, (I11.unpinned (pins := [])).weak hl (fun j v e => ?_), T.keep _ _ _ st7 fun b hb o e => (pin' b hb o e).1, fun b hb => ?_, by rw [el]; exact l310.trans lw, wr, by rw [hds']; exact q10⟩
          · rw [← hw8] at e
            exact (wipe_some e).1
          · obtain ⟨o, e, _⟩ := T.obj _ _ st7 b hb
            exact (pin' b hb o e).2
        · exact q10.elim
      · exact q10.elim
  exact codeAny_compStart_dict loop (T.self X.A 0 _ _ _ st4 loop)
theorem r_dc (ok : DcOk CS X tg iter kx vx scope own WS WT WK WV) : PE X (.DictComp kx vx [⟨tg, iter, [], 0⟩] scope pos) (tE CS X (dcRd (own.map (·.2)) WS WT WK WV)) := by
  refine ⟨fun pins s σ H Q I h => ?_⟩
  rw [arm_eval_DictComp]
  refine dcT_core ok I h fun D C s' m H' I' q hn f => ⟨m, hn, fun h'' sb => ?_⟩
  obtain ⟨f0, f1, f2, f3, f4, f5⟩ := f
  exact ⟨.ref D, H', I'.turned (t' := s'.toks) (fun b o hb e => (sb.2 b hb).trans e) f0 f1 f3 f4 f5, rfl, q⟩
end
/-! ### assigned at once -/
def swB (env : PySem.Env) (scope : Scope) (y : Str) (py pos : Pos) : Bool := env.scope.names.lookup y == some .local && py.line == pos.line && !(scope.names.any fun (n, k) => n == y && (k == .local || k == .cell))
theorem swaps_lc {env : PySem.Env} {elt : Expr} {gs : List Comprehension} {scope : Scope} {pos py : Pos} {y : Str} {l : Nat} (hk : env.scope.kind = .function) : swapsWith (.ListComp elt gs scope pos) (some (.Name y py)) l env = pure (swB env scope y py pos) := by
  have hb : env.blockKind = .function := by unfold Env.blockKind; rw [hk]; rfl
  unfold swapsWith
  simp only [hb]
  rfl
theorem swaps_dc {env : PySem.Env} {kx vx : Expr} {gs : List Comprehension} {scope : Scope} {pos py : Pos} {y : Str} {l : Nat} (hk : env.scope.kind = .function) : swapsWith (.DictComp kx vx gs scope pos) (some (.Name y py)) l env = pure (swB env scope y py pos) := by
  have hb : env.blockKind = .function := by unfold Env.blockKind; rw [hk]; rfl
  unfold swapsWith
  simp only [hb]
  rfl
theorem swB_local {env : PySem.Env} {scope : Scope} {y : Str} {py pos : Pos} (h : swB env scope y py pos = true) : env.scope.names.lookup y = some .local := by
  unfold swB at h
  rw [Bool.and_eq_true, Bool.and_eq_true] at h
  exact eq_of_beq h.1.1
section
variable {tg iter elt kx vx : Expr} {ifs : List Expr} {scope : Scope} {own : List (Str × Nat)} {WS WT WI WE WK WV : W} {i : Nat} {y : Str} {py pos spos : Pos}
theorem r_asgl (ok : LcOk CS X tg iter elt ifs scope own WS WT WI WE) (hkd : X.env.scope.kind = .function) (hi : X.N[i]? = some y) (hx : Loc X.env.scope y) (hf : X.fn y = true ∨ X.env.scope.names.lookup y = some .local) :
    PS X (.Assign [.Name y py] (.ListComp elt [⟨tg, iter, ifs, 0⟩] scope pos) spos) (tS CS X fun D σ S => lcRd (own.map (·.2)) WS WT WI WE σ S fun x S1 => D.nx (σ.set i (some x)) S1) := by
  cases hb : swB X.env scope y py pos with
  | true =>
    refine (ps_setLc (py := py) (spos := spos) ok.calm ok.nd hi (swB_local hb) ((swaps_lc hkd).trans (by rw [hb])) ok.src ok.blk ok.g ok.i ok.e ok.fold).imp fun D σ H h => ?_
    obtain ⟨env, S, φ, at0, h⟩ := h
    exact lc_imp ok ⟨env, S, φ, at0, lcRd_mono ok.mS ok.mT ok.mI ok.mE h fun x S1 q φ' v H1 l w r => q φ' _ H1 l ⟨(at0.e.mono l).set r, w, at0.c.mono l.t⟩⟩
  | false =>
    refine (ps_asg (r_lc ok) (pg_name ok.nd hi hx hf) (show swapsWith _ _ spos.line X.env = pure false from (swaps_lc hkd).trans (by rw [hb])) rfl rfl).imp fun D σ H h => ?_
    obtain ⟨env, S, φ, at0, h⟩ := h
    exact ⟨env, S, φ, at0, lcRd_mono ok.mS ok.mT ok.mI ok.mE h fun x S1 q φ' v H1 l w r => q φ' _ H1 l ⟨(at0.e.mono l).set r, w, at0.c.mono l.t⟩⟩
end
end
end Pw
set_option maxHeartbeats 1000000
/-! Pw24: reversed slices of tuples and lists (the way through the slice follows HandS.Style's pe_revL). -/
namespace Pw
open PySem PySem.Spec PyProof.Rows L2

theorem fm_congr {α β : Type} {f g : α → Option β} : ∀ {l : List α}, (∀ x ∈ l, f x = g x) → l.filterMap f = l.filterMap g
  | [], _ => rfl
  | a :: l, h => by
    rw [List.filterMap_cons, List.filterMap_cons, h a (List.mem_cons_self ..), fm_congr fun x hx => h x (List.mem_cons_of_mem _ hx)]
section
variable {prog : Program} {w : World} {A : Around} {E : Value → Shared → Prop} {s : Shared}
theorem places_rev (n : Nat) : Builtin.Slice.slicePlaces ((n : Int) - 1) (-1) (-1) = n := by
  unfold Builtin.Slice.slicePlaces
  have h1 : ¬ ((-1 : Int) > 0) := by omega
  have h2 : (- -1 : Int) = 1 := by decide
  simp only [h1, if_false, h2, Int.ediv_one]
  split <;> omega
theorem pick_rev (xs : List Value) : ((List.range xs.length).filterMap fun (m : Nat) => (xs.toArray)[((xs.length : Int) - 1 + (m : Int) * -1).toNat]?) = xs.reverse := by
  have e : ∀ m ∈ List.range xs.length, (xs.toArray)[((xs.length : Int) - 1 + (m : Int) * -1).toNat]? = xs.reverse[m]? := fun m hm => by
    have hm := List.mem_range.mp hm
    rw [List.getElem?_toArray, List.getElem?_reverse hm]
    congr 1
    omega
  rw [fm_congr e]
  have := PySem.W.krv_all xs.reverse.toArray
  simpa using this
theorem getItem_tuple_rev {t sl : Addr} {items : List Value} {vl vu vs : Value} {u : Tok} {Q : Value → Shared → Prop} (ht : IsTup s.heap t items.toArray) (hs : s.heap.IsSliceOf sl .none .none (.int (-1) u))
    (h : Q (.ref s.heap.objs.size) { s with heap := s.heap.push { cls := .type "tuple", data := .seq items.reverse.toArray } }) (hsz : items.length ≤ sizeLine) : wpAny (model prog w) A (getItem (.ref t) (.ref sl)) Q E s := by
  have htake : sizeOk (.seq items.reverse.toArray) := by
    show items.reverse.toArray.size ≤ sizeLine
    rw [List.size_toArray, List.length_reverse]
    exact hsz
  obtain ⟨os, hos, hcs, hds⟩ := id hs
  have hTs : s.TypeIs (.ref sl) "slice" := ⟨os, hos, hcs⟩
  unfold getItem
  try with_reducible refine wpAny_holding ?_
  first | refine wpAny_bind (wpAny_pure ?_) | skip
  refine wpAny_bind (wpAny_sequenceKey ht.typeIs (by decide) ?_)
  refine wpAny_bind (wpAny_callSpecial?_slot (name := Str.ofString "__getitem__") ht.typeIs PyProof.Rows.slot_tuple_getitem
    (wpAny_call_entry PyProof.Rows.slot_tuple_getitem ht.typeIs entry_tuple_getitem ?_ (args_tuple_getitem _ _)))
  show wpAny _ _ (Builtin.Tuple.tupleItemsOf (.ref t) >>= _) _ _ s
  refine wpAny_bind (tupleItemsOf_ ht ?_)
  refine wpAny_bind (wpAny_typeOf hTs ?_)
  rw [if_pos (by decide)]
  have app : ∀ {Q : Int × Int × Nat → Shared → Prop} {n : Nat}, Q ((n : Int) - 1, -1, n) s → wpAny (model prog w) A.in1 (Builtin.Slice.sliceApplied (.ref sl) (pure (n : Int))) Q (fun e s' => E e s') s := fun {Q n} hq => by
    unfold Builtin.Slice.sliceApplied Builtin.Slice.sliceFields
    refine wpAny_bind (wpAny_bind (wpAny_field hos hds (x := .none) rfl (wpAny_bind (wpAny_field hos hds (x := .none) rfl (wpAny_bind (wpAny_field hos hds (x := .int (-1) u) rfl (wpAny_pure ?_)))))))
    refine wpAny_bind (slicePart_int ?_)
    show wpAny _ _ (if ((-1 : Int) == 0) = true then _ else _) _ _ s
    rw [if_neg (by decide)]
    refine wpAny_bind (slicePart_none (wpAny_bind (slicePart_none (wpAny_bind (wpAny_pure ?_)))))
    show wpAny _ _ (pure ((n : Int) - 1, (-1 : Int), Builtin.Slice.slicePlaces ((n : Int) - 1) (-1) (-1))) _ _ s
    rw [places_rev]
    exact wpAny_pure hq
  refine wpAny_bind (app (n := items.toArray.size) ?_)
  have hno : ¬ ((((items.toArray.size : Int) - 1) == 0 && (-1 : Int) == 1 && items.toArray.size == items.toArray.size) = true) := by
    intro q
    rw [Bool.and_eq_true, Bool.and_eq_true] at q
    exact absurd (eq_of_beq q.1.2) (by decide)
  show wpAny _ _ (if (((items.toArray.size : Int) - 1) == 0 && (-1 : Int) == 1 && items.toArray.size == items.toArray.size) = true then _ else _) _ _ s
  rw [if_neg hno, List.size_toArray, pick_rev]
  first
    | exact wpAny_bind (m := Builtin.Tuple.tupleExact _) (wpAny_newObj_type (wpAny_pure ⟨_, rfl, wpAny_pure h⟩) htake)
    | exact wpAny_bind (m := Builtin.Tuple.tupleExact _) (wpAny_newObj_type (wpAny_bind (wpAny_pure (wpAny_pure ⟨_, rfl, wpAny_pure h⟩))) htake)
    | exact wpAny_bind (wpAny_bind (m := Builtin.Tuple.tupleExact _) (wpAny_newObj_type (wpAny_pure (wpAny_pure ⟨_, rfl, wpAny_pure h⟩)) htake))
    | exact wpAny_bind (wpAny_bind (m := Builtin.Tuple.tupleExact _) (wpAny_newObj_type (wpAny_pure ⟨_, rfl, wpAny_pure h⟩) htake))
end
section
variable {CS : List Addr} {X : Cx} {A : W}
def tRevA (K : PySem.W.Frag) (te : TE) : TE := fun σ H Q => te σ H fun x H1 => ∃ a xs, x = .ref a ∧ ((SqL K H1 a xs ∧ ∀ p, H1 p = none → Q (.ref p) (upd H1 p (.lst xs.reverse))) ∨ (SqT K H1 a xs ∧ ∀ p, H1 p = none → Q (.ref p) (upd H1 p (.tup xs.reverse))))
theorem pe_revA {e : Expr} {te : TE} {k : Nat} {p1 p2 p3 pos : Pos} (he : PE X e te) : PE X (.Subscript e (.Slice none none (some (.UnaryOp .USub (.Constant (.int 1) k p1) p2)) p3) pos) (tRevA X.K te) := by
  refine ⟨fun pins s σ H Q I h => ?_⟩
  refine Subscript_ (thn (he.run pins s σ H _ I h) fun v s1 ⟨x, H1, I1, r1, q1⟩ => ?_)
  obtain ⟨a, xs, ex, q1⟩ := q1
  subst ex
  cases r1
  have hst : PO X (some (.UnaryOp .USub (.Constant (.int 1) k p1) p2)) (tPart (tUn (rU fun i => .int (-i)) (tC (.int 1)))) := po_some (pe_un un_neg pe_int)
  refine wpAny_Slice (thn (po_none.run pins s1 σ H1 (fun o H2 => o = none ∧ H2 = H1) I1 ⟨rfl, rfl⟩) fun vl s2 ⟨l, H2, I2, pl, el, e2⟩ => ?_)
  subst el e2
  refine thn (po_none.run pins s2 σ H2 (fun o H3 => o = none ∧ H3 = H2) I2 ⟨rfl, rfl⟩) fun vu s3 ⟨u, H3, I3, pu, eu, e3⟩ => ?_
  subst eu e3
  refine thn (hst.run pins s3 σ H3 (fun o H4 => o = some (-1) ∧ H4 = H3) I3 ⟨1, rfl, -1, rfl, rfl, rfl⟩) fun vs s4 ⟨o, H4, I4, ps, eo, e4⟩ => ?_
  subst eo e4
  have I5 : Inv X pins σ H4 { s4 with heap := s4.heap.push { cls := .type "slice", data := .fields #[vl, vu, vs] } } := I4.kept (t' := s4.toks) fun b ob q => Heap.get?_push_of_some _ q
  show wpAny (model X.prog X.w) X.A (subscriptTail e (.Slice none none (some (.UnaryOp .USub (.Constant (.int 1) k p1) p2)) p3) (.ref a) (.ref s4.heap.objs.size)) (EP X pins σ Q) X.xe { s4 with heap := s4.heap.push { cls := .type "slice", data := .fields #[vl, vu, vs] } }
  rcases q1 with ⟨hx, q⟩ | ⟨hx, q⟩
  · obtain ⟨its, r, ht, hz⟩ := I5.list hx
    have hlen := r.length
    refine tail_any (ops := [.ref a, .ref s4.heap.objs.size]) ht.isList.typeIs (PySem.slot_list_getitem.lookup) ?_ (by with_unfolding_all rfl)
    refine wpAny_getItem_list_slice ht.isList (Heap.IsSliceOf.new _ vl vu vs) pl pu ps (by decide) ?_ (by rw [List.size_toArray]; omega)
    rw [PySem.W.krv_pick]
    refine ⟨.ref _, _, I5.laid (t' := s4.toks) (o := .lst xs.reverse) (fun b ob q => Heap.get?_push_of_some _ q) (Nat.le_refl _) ?_, rfl, q _ (I5.hok.fresh (Nat.le_refl _))⟩
    exact ⟨by rw [List.length_reverse]; exact hz, _, 0, r.reverse, Heap.get?_push_size _ rfl⟩
  · obtain ⟨its, r, ht, hz⟩ := I5.tuple hx
    have hlen := r.length
    refine tail_any (ops := [.ref a, .ref s4.heap.objs.size]) ht.typeIs (PyProof.Rows.slot_tuple_getitem.lookup) ?_ (by with_unfolding_all rfl)
    cases pl
    cases pu
    cases ps with
    | int j tk =>
      refine getItem_tuple_rev (vl := .none) (vu := .none) (vs := .none) ht (Heap.IsSliceOf.new _ _ _ _) ?_ (by omega)
      refine ⟨.ref _, _, I5.laid (t' := s4.toks) (o := .tup xs.reverse) (fun b ob q => Heap.get?_push_of_some _ q) (Nat.le_refl _) ?_, rfl, q _ (I5.hok.fresh (Nat.le_refl _))⟩
      exact ⟨by rw [List.length_reverse]; exact hz, _, r.reverse, ⟨_, Heap.get?_push_size _ rfl, rfl, _, rfl⟩⟩
theorem r_rev {e : Expr} {k : Nat} {p1 p2 p3 pos : Pos} (mA : MW A) (he : PE X e (tE CS X A.e)) : PE X (.Subscript e (.Slice none none (some (.UnaryOp .USub (.Constant (.int 1) k p1) p2)) p3) pos) (tE CS X fun σ S Q => A.e σ S fun x S1 => revD x S1 Q) :=
  (pe_revA he).imp fun σ H Q h => by
    obtain ⟨env, S, φ, at0, h⟩ := h
    refine tE_mk mA at0 h fun x S1 φ1 v H1 l1 a1 rx h => ?_
    cases rx with
    | @tup a xs ds kd q r =>
      exact ⟨a, xs, rfl, .inr ⟨q.sqt, fun p hp => h φ1 (.ref p) _ (l1.trans (.fresh hp)) (a1.w.fresh hp fun _ => nofun) (.tup (k := .any) (.of (show (upd H1 p (.tup xs.reverse)) p = _ from upd_same)) (r.reverse.mono (.fresh hp)))⟩⟩
    | loc n hn =>
      unfold revD at h
      dsimp only at h
      split at h
      · rename_i ds hc
        obtain ⟨xs, hx, rx⟩ := a1.w.lst hc
        exact ⟨φ1 n, xs, rfl, .inl ⟨.of hx, fun p hp => KQ.new (KQ.le l1 h) a1.w hp (fun _ => nofun) ⟨_, upd_same, rx.reverse.mono (Le.alloc hp)⟩⟩⟩
      · exact h.elim
    | _ => exact h.elim
end
end Pw
set_option maxHeartbeats 1000000
/-! Pw25: built-ins: calls by values, isinstance, list, repr. -/
namespace Pw
open PySem PySem.Spec PyProof.Rows L2

theorem signs_rep {K : PySem.W.Frag} {H : Hp} {φ : Nat → Addr} {N : Nat} {z : Str} : RepL K H φ N (signsD z) (z.cps.toList.map fun c => V.str ⟨#[c]⟩) := by
  unfold signsD
  generalize z.cps.toList = l
  induction l with
  | nil => exact .nil
  | cons c l ih => exact .cons (.str _) ih
section
variable {CS : List Addr} {X : Cx} {A : W} {e : Expr} {es : List Expr} {p pos : Pos}
/-- T(..), f(..) by values -/
theorem r_bty {T : String} {x : Str} {b : Bi} (mA : MW A) (hc : CallR X (.type T) (rDn X.K (biD b))) (hg : Gl X x) (hm : X.mg x = none) (hv : bootBuiltins x = some (.type T)) (ha : PA X (e :: es) (tA CS X A.a)) (hn : x ≠ "__name__") (hdb : (x == ("__debug__" : Str)) = false)
    (he : starEach (e :: es) X.env = (false, eval e X.env) :: starEach es X.env) (hpl : (backTo pos (starEach es X.env)).any (·.1) = false) : PE X (.Call (.Name x p) (e :: es) [] pos) (tE CS X fun σ S Q => A.a σ S fun ds S1 => biD b ds S1 Q) :=
  (pe_callTy hc hg hm hv ha hn hdb he hpl).imp fun σ H Q h => by
    obtain ⟨env, S, φ, at0, h⟩ := h
    exact tA_mk mA at0 h fun ds S1 φ1 vs H1 l1 a1 rx h => ⟨ds, S1, φ1, a1.w, rx, biD_mono h fun d S' q => KQ.le l1 q⟩
theorem r_bfn {T : String} {x : Str} {b : Bi} (mA : MW A) (hc : CallR X (.builtin T) (rDn X.K (biD b))) (hg : Gl X x) (hm : X.mg x = none) (hv : bootBuiltins x = some (.builtin T)) (ha : PA X (e :: es) (tA CS X A.a)) (hn : x ≠ "__name__") (hdb : (x == ("__debug__" : Str)) = false)
    (he : starEach (e :: es) X.env = (false, eval e X.env) :: starEach es X.env) (hpl : (backTo pos (starEach es X.env)).any (·.1) = false) : PE X (.Call (.Name x p) (e :: es) [] pos) (tE CS X fun σ S Q => A.a σ S fun ds S1 => biD b ds S1 Q) :=
  (pe_callB hc hg hm hv ha hn hdb he hpl).imp fun σ H Q h => by
    obtain ⟨env, S, φ, at0, h⟩ := h
    exact tA_mk mA at0 h fun ds S1 φ1 vs H1 l1 a1 rx h => ⟨ds, S1, φ1, a1.w, rx, biD_mono h fun d S' q => KQ.le l1 q⟩

/-! ### list(x) -/
theorem b_list (hc : X.calm = true) : CallR X (.type "list") (rDn X.K (biD .list)) := by
  intro pins s σ H xs us Q I rs h
  obtain ⟨ds, S, φ, w, hds, h⟩ := h
  match ds, hds, h with
  | [x], hds, h =>
    obtain ⟨v, rfl, hd⟩ := rl1 hds
    have h : (match srcD S x with | some s => s.items.length ≤ sizeLine ∧ KQ X.K H φ S.length Q (.loc S.length) (S ++ [.lst s.items]) | none => False) := h
    cases hd with
    | @tup a ys es k q r =>
      exact call_list_of pins s σ H _ us Q I rs ⟨a, ys, rfl, .inr q.sqt, fun l hl => KQ.new h.2 w hl (fun _ => nofun) ⟨_, upd_same, r.mono (Le.alloc hl)⟩⟩
    | loc n hn =>
      have key : ∀ es, S[n]? = some (.lst es) ∨ S[n]? = some (.rol es) → KQ X.K H φ S.length Q (.loc S.length) (S ++ [.lst es]) → wpAny (model X.prog X.w) X.A (call (.type "list") us) (EP X pins σ Q) X.xe s := fun es hs hq => by
        obtain ⟨ys, q, r⟩ := w.seq hs
        exact call_list_of pins s σ H _ us Q I rs ⟨φ n, ys, rfl, .inl q, fun l hl => KQ.new hq w hl (fun _ => nofun) ⟨_, upd_same, r.mono (Le.alloc hl)⟩⟩
      unfold srcD at h
      dsimp only at h
      cases hc2 : S[n]? with
      | none => rw [hc2] at h; exact h.elim
      | some c =>
        rw [hc2] at h
        cases c with
        | lst es => exact key es (.inl hc2) h.2
        | rol es => exact key es (.inr hc2) h.2
        | _ => exact h.elim
    | str z =>
      obtain ⟨u, rfl, ru⟩ := Vals.one rs
      obtain ⟨t, rfl⟩ := ru
      have hz : z.cps.size ≤ sizeLine := by
        have := h.1
        have e : (signsD z).length = z.cps.size := signsD_length
        rw [← e]; exact this
      refine call_list_str (I.ok.hd hc) z t (fun h' tk acc' c' hk e hi => ?_) hz
      have hH : H s.heap.objs.size = none := I.hok.fresh (Nat.le_refl _)
      have hv : Vals (z.cps.toList.map fun c => V.str ⟨#[c]⟩) acc'.toList := by
        refine vals_of_idx _ _ (by rw [List.length_map, Array.length_toList, Array.length_toList]; exact hi.1) fun j u hj => ?_
        obtain ⟨c, t', hc', rfl⟩ := hi.2 j u (by rw [← Array.getElem?_toList]; exact hj)
        exact ⟨.str ⟨#[c]⟩, by simp [hc'], ⟨_, rfl⟩⟩
      refine ⟨.ref s.heap.objs.size, _, I.laid (a := s.heap.objs.size) (o := .lst (z.cps.toList.map fun c => V.str ⟨#[c]⟩)) (t' := tk) hk (Nat.le_refl _) ⟨by rw [List.length_map, Array.length_toList]; exact hz, acc'.toList, c', hv, by rw [Array.toArray_toList]; exact e⟩, rfl, ?_⟩
      refine KQ.new h.2 w hH (fun _ => nofun) ⟨_, upd_same, ?_⟩
      exact signs_rep
    | _ => exact h.elim

/-! ### repr(x) -/
mutual
theorem nodict : ∀ (n : Nat) {S : Store} {d : D} {p : PyData}, dq n S d = some p → p.hasDict = false ∧ p.depth ≤ n
  | 0, _, _, _, e => by cases e
  | n + 1, S, d, p, e => by
    have all : ∀ {xs : List D} {ps : List PyData}, xs.mapM (dq n S) = some ps → PyData.hasDictAll ps = false ∧ PyData.depthAll ps ≤ n := fun {xs ps} h => nodictAll n h
    cases d with
    | tup k xs =>
      have e : (xs.mapM (dq n S)).map PyData.tuple = some p := e
      obtain ⟨ps, e1, rfl⟩ := Option.map_eq_some_iff.mp e
      exact ⟨by simpa [PyData.hasDict] using (all e1).1, by have := (all e1).2; simp only [PyData.depth]; omega⟩
    | loc m =>
      unfold dq at e
      dsimp only at e
      split at e
      · obtain ⟨ps, e1, rfl⟩ := Option.map_eq_some_iff.mp e
        exact ⟨by simpa [PyData.hasDict] using (all e1).1, by have := (all e1).2; simp only [PyData.depth]; omega⟩
      · cases e
    | _ => cases e; exact ⟨by simp [PyData.hasDict], by simp [PyData.depth]⟩
theorem nodictAll : ∀ (n : Nat) {S : Store} {xs : List D} {ps : List PyData}, xs.mapM (dq n S) = some ps → PyData.hasDictAll ps = false ∧ PyData.depthAll ps ≤ n
  | n, S, [], ps, e => by
    have e : some [] = some ps := by simpa using e
    cases e; exact ⟨by simp [PyData.hasDictAll], by simp [PyData.depthAll]⟩
  | n, S, d :: ds, ps, e => by
    rw [List.mapM_cons] at e
    cases h1 : dq n S d with
    | none => rw [h1] at e; cases e
    | some p =>
      cases h2 : ds.mapM (dq n S) with
      | none => rw [h1, h2] at e; cases e
      | some qs =>
        rw [h1, h2] at e
        have e : some (p :: qs) = some ps := e
        cases e
        have a := nodict n h1
        have b := nodictAll n h2
        exact ⟨by simp [PyData.hasDictAll, a.1, b.1], by simp only [PyData.depthAll]; omega⟩
end
theorem b_repr (hg : X.A.guards = some []) (hu : X.A.units + 65 < cLine) : CallR X (.builtin "repr") (rDn X.K (biD .repr)) := by
  intro pins s σ H xs us Q I rs h
  obtain ⟨ds, S, φ, w, hds, h⟩ := h
  match ds, hds, h with
  | [x], hds, h =>
    obtain ⟨v, rfl, hd⟩ := rl1 hds
    have h : (match dq 16 S x with | some p => p.showable = true ∧ p.shown.length ≤ sizeLine ∧ KQ X.K H φ S.length Q (.str p.shown) S | none => False) := h
    cases hp : dq 16 S x with
    | none => rw [hp] at h; exact h.elim
    | some p =>
      rw [hp] at h
      obtain ⟨hs, hz, hq⟩ := h
      obtain ⟨u, rfl, ru⟩ := Vals.one rs
      have fin : ∀ h' t tk, (∀ b o, s.heap.get? b = some o → h'.get? b = some o) → EP X pins σ Q (.str p.shown t) { s with heap := h', toks := tk } := fun h' t tk hk => ⟨.str p.shown, H, I.kept hk, ⟨t, rfl⟩, KQ.here' w (.str _) hq⟩
      have ref : ∀ a, u = Value.ref a → wpAny (model X.prog X.w) X.A (call (.builtin "repr") [u]) (EP X pins σ Q) X.xe s := fun a e => by
        subst e
        obtain ⟨as, rd⟩ := Dp.reads I p v _ (w.dp 16 hd hp) ru
        have nd := nodict 16 hp
        exact repr_of_reads' rd hs (PyData.noDict_hsm nd.1) hg (by have := nd.2; omega) (fun _ _ e => e) (fun h' t tk hk => fin h' t tk hk) hz
      cases hd with
      | non => cases (show u = Value.none from ru); cases hp; exact P.repr_of_none (fin _ _ _ fun _ _ e => e)
      | bl b => cases (show u = Value.bool b from ru); cases hp; exact P.repr_of_bool (fin _ _ _ fun _ _ e => e)
      | int i =>
        obtain ⟨t, rfl⟩ := (show ∃ t, u = Value.int i t from ru)
        cases hp
        exact P.repr_of_int (by simpa [PyData.showable] using hs) (fin _ _ _ fun _ _ e => e)
      | str z =>
        obtain ⟨t, rfl⟩ := (show ∃ t, u = Value.str z t from ru)
        cases hp
        exact P.repr_of_str (fin _ _ _ fun _ _ e => e) hz
      | tup q r => exact ref _ ru
      | loc n hn => exact ref _ ru

/-! ### isinstance -/
def tyS : Ty → String
  | .int => "int" | .bool => "bool" | .str => "str" | .tuple => "tuple" | .list => "list"
theorem rd_ty {K : PySem.W.Frag} {H : Hp} {a : Addr} {xs : List V} (q : SqT K H a xs) : TyX K H (.ref a) (.type "tuple") := by
  rcases q with (q | ⟨o, q⟩) | ⟨o, its, n, q, hc, _⟩
  · exact .base (.tup q)
  · exact .fTuple q
  · exact .kTuple q hc
theorem b_isin {ty : Ty} : CallR X (.builtin "isinstance") (fun xs H Q => ∃ v, xs = [v, .ty (tyS ty)] ∧ ∃ x S φ, Wd X.K H φ S ∧ RepV X.K H φ S.length x v ∧ match isinD S x ty with | some k => KQ X.K H φ S.length Q (.bl k) S | none => False) := by
  intro pins s σ H xs us Q I rs h
  obtain ⟨v, rfl, x, S, φ, w, hx, h⟩ := h
  have go : ∀ (t : String) (k : Bool), TyX X.K H v (.type t) → kitB t (tyS ty) = some k → KQ X.K H φ S.length Q (.bl k) S → wpAny (model X.prog X.w) X.A (call (.builtin "isinstance") us) (EP X pins σ Q) X.xe s := fun t k ht hk q =>
    call_isi pins s σ H _ us Q I rs ⟨v, .ty (tyS ty), .type t, .type (tyS ty), k, rfl, .ty _, ht, kit_ty hk, KQ.here' w (.bl k) q⟩
  cases hx with
  | non => exact go "NoneType" false (.base .non) (by cases ty <;> decide +kernel) h
  | bl b => cases ty <;> exact go "bool" _ (.base (.bl b)) (by decide +kernel) h
  | int i => cases ty <;> exact go "int" _ (.base (.int i)) (by decide +kernel) h
  | str z => cases ty <;> exact go "str" _ (.base (.str z)) (by decide +kernel) h
  | tup q r => cases ty <;> exact go "tuple" _ (rd_ty q.sqt) (by decide +kernel) h
  | loc n hn =>
    unfold isinD tyD at h
    dsimp only at h
    cases hc : S[n]? with
    | none => rw [hc] at h; exact h.elim
    | some c =>
      rw [hc] at h
      cases c with
      | lst es =>
        obtain ⟨vs, hv, _⟩ := w.lst hc
        cases ty <;> exact go "list" _ (.base (.lst hv)) (by decide +kernel) h
      | _ => exact h.elim
end
end Pw
set_option maxHeartbeats 1000000
/-! Pw26: isinstance as an expression, as a test. -/
namespace Pw
open PySem PySem.Spec PyProof.Rows L2

section
variable {CS : List Addr} {X : Cx} {A : W} {a e : Expr} {es : List Expr} {p p2 pos : Pos}
theorem pe_tyN {x : Str} {T : String} (hg : Gl X x) (hm : X.mg x = none) (hv : bootBuiltins x = some (.type T)) (hn : x ≠ "__name__") (hd : (x == ("__debug__" : Str)) = false) : PE X (.Name x p) (tC (.ty T)) :=
  ⟨fun pins s σ H Q I h => ld_blt I hg hm hv ⟨.ty T, H, I, rfl, h⟩ hn hd⟩
theorem boot_ty : ∀ ty : Ty, bootBuiltins (Str.ofString (tyS ty)) = some (.type (tyS ty)) := by
  intro ty; cases ty <;> decide +kernel
theorem ty_ne : ∀ ty : Ty, Str.ofString (tyS ty) ≠ "__name__" ∧ (Str.ofString (tyS ty) == ("__debug__" : Str)) = false := by
  intro ty; cases ty <;> decide +kernel
def isinR (A : W) (ty : Ty) : Env → Store → (Bool → Store → Prop) → Prop := fun σ S Q => A.e σ S fun x S1 => match isinD S1 x ty with
  | some k => Q k S1
  | none => False
theorem r_isin {ty : Ty} {x : Str} (hx : x = Str.ofString (tyS ty)) (hg : Gl X "isinstance") (hm : X.mg "isinstance" = none) (hg2 : Gl X x) (hm2 : X.mg x = none) (mA : MW A) (ha : PE X a (tE CS X A.e))
    (hs : starEach [a, .Name x p2] X.env = (false, eval a X.env) :: starEach [.Name x p2] X.env) : PE X (.Call (.Name "isinstance" p) [a, .Name x p2] [] pos) (tE CS X (asV (isinR A ty))) := by
  subst hx
  refine (pe_callB (b_isin (ty := ty)) hg hm (by decide +kernel) (pa_cons ha (pa_cons (pe_tyN hg2 hm2 (boot_ty ty) (ty_ne ty).1 (ty_ne ty).2) pa_nil rfl) hs) (by decide) (by decide) hs rfl).imp fun σ H Q h => ?_
  obtain ⟨env, S, φ, at0, h⟩ := h
  have h : A.e env S fun x S1 => match isinD S1 x ty with | some k => KQ X.K H φ S.length Q (.bl k) S1 | none => False := h
  refine tE_mk mA at0 h fun x S1 φ1 v H1 l1 a1 rx h => ?_
  refine ⟨v, rfl, x, S1, φ1, a1.w, rx, ?_⟩
  split at h
  · rename_i k hk
    first | (rw [hk]; exact KQ.le l1 h) | exact KQ.le l1 h
  · exact h.elim
/-- the test of a truth value -/
theorem t_bx {t : Env → Store → (Bool → Store → Prop) → Prop} (mt : ∀ {σ S} {Q Q' : Bool → Store → Prop}, t σ S Q → (∀ d S', Q d S' → Q' d S') → t σ S Q') (ha : PE X a (tE CS X (asV t))) (he : ∀ whole, isTrue a X.env whole = (do let v ← whole; standAt a.pos; holding [v] (truthy v))) : PT X a (tT CS X t) :=
  (t_val (A := W.bx t) (MW.bx mt) ha he).imp fun σ H Q h => by
    obtain ⟨env, S, φ, at0, h⟩ := h
    exact ⟨env, S, φ, at0, mt h fun k S' q => q⟩
end
end Pw
set_option maxHeartbeats 1000000
/-! Pw27: defs: what a def promises, how it is called. -/
namespace Pw
open PySem PySem.Spec PyProof.Rows L2

/-- what the def f promises: its reading cl, wherever there is room -/
structure FnP (P : Program) (w : World) (K : PySem.W.Frag) (mg : Str → Option Value) (base : Heap) (CS : List Addr) (k : Nat) (f : Addr) (fd : FuncData) (ps : List Str) (cl : List D → Store → KD → Prop) : Prop where
  len : ∀ ds S Q, cl ds S Q → ds.length = ps.length
  run : ∀ (A : Around) (outer : List PySem.Env) (s : Shared) (H : Hp) (args : Args) (us : List Value) (vs : List V) (ds : List D) (S : Store) (φ : Nat → Addr) (Q : VK), Room k A → A.guards = some [] → Env0 P w K mg base A outer s H → BindsTo s fd args (ps.zip us) → Vals vs us →
    (∀ a ∈ CS, ∃ ps, H a = some (.tbl ps)) → Wd K H φ S → RepL K H φ S.length ds vs → cl ds S (KQ K H φ S.length Q) → codeAny (model P w) A (.call (.ref f) args) (CR C8.CX0 outer P w H s Q C8.E0) s
/-- a def, as it stands behind the top -/
structure DefOk (K : PySem.W.Frag) (mg : Str → Option Value) (base : Heap) (CS : List Addr) (x : Str) (scope : Scope) (ps : List Str) (body : List Stmt) (N : List Str) (f : Addr) (fd : FuncData) : Prop where
  ex : ∃ (qual : Str) (params : Arguments) (oc : Value) (od : Option Addr) (dV kV doc pm : Value) (an : Option Addr) (c Pt : Addr) (ct : Value) (osl : Array (Option Value)),
    fd = PySem.W.fnOf x qual params body scope dV kV doc pm an (.ref c) ct ∧ K.lookup f = some ⟨oc, od, .func fd, osl⟩ ∧ PySem.W.codeIn K (.ref c) qual = true ∧ Pt ∈ CS ∧ PySem.W.CodeHd base c Pt ∧ base.BuiltinsAt mg Pt ∧ mainGlobals ≠ Pt
  kp : PySem.W.keepIn K (.ref f) = true
  mg : mg x = some (.ref f)
  binds : Binds K fd ps []
  sc : FnScope N ps scope

theorem repE_start {K : PySem.W.Frag} {H : Hp} {φ : Nat → Addr} {n : Nat} {fn : FnT} {ds : List D} {vs : List V} (r : RepL K H φ n ds vs) : RepE K H φ n (startE fn ds) (L2.start fn.names vs) := by
  have hl := r.length
  refine ⟨by simp [startE, L2.start, hl], fun i d e => ?_⟩
  unfold startE at e
  by_cases hi : i < ds.length
  · rw [List.getElem?_append_left (by simpa using hi), List.getElem?_map] at e
    cases hd : ds[i]? with
    | none => rw [hd] at e; cases e
    | some d' =>
      rw [hd] at e
      cases e
      obtain ⟨v, hv, rv⟩ := r.get hd
      refine ⟨v, ?_, rv⟩
      unfold L2.start
      rw [List.getElem?_append_left (by rw [List.length_map, ← hl]; exact hi), List.getElem?_map, hv]
      rfl
  · rw [List.getElem?_append_right (by simpa using hi)] at e
    rw [List.getElem?_replicate] at e
    split at e <;> cases e
section
variable {P : Program} {w : World} {K : PySem.W.Frag} {mg : Str → Option Value} {base : Heap} {CS : List Addr} {k : Nat} {x : Str} {scope : Scope} {ps : List Str} {body : List Stmt} {f : Addr} {fd : FuncData}
/-- a def keeps its promise, once its body is read -/
theorem fnp_of {fn : FnT} {c : Cxt} (hm : MW (Pw.w fn.body c)) (hnp : fn.np = ps.length) (D : DefOk K mg base CS x scope ps body fn.names f fd)
    (hbody : ∀ (qual : Str) (cd : Value) (A : Around) (outer : List PySem.Env) (s : Shared) (H : Hp), Room k (A.deeper (envOfC qual scope s.heap.objs.size f cd)) → A.guards = some [] →
      PSs (cxOf C8.CX0 P w K mg base fn.names qual scope f cd A outer s H C8.E0).nox body (tS CS (cxOf C8.CX0 P w K mg base fn.names qual scope f cd A outer s H C8.E0).nox (Pw.w fn.body c).s)) :
    FnP P w K mg base CS (k + 1) f fd ps fun ds S Q => ds.length = fn.np ∧ (Pw.w fn.body c).s { nx := fun _ S' => Q .non S', rt := Q } (startE fn ds) S := by
  obtain ⟨qual, params, oc, od, dV, kV, doc, pm, an, cc, Pt, ct, osl, rfl, lk, hcd, hP, h1, h2, h3⟩ := D.ex
  refine ⟨fun ds S Q h => h.1.trans hnp, fun A outer s H args us vs ds S φ Q hr hg e0 hb r hcs wd rl h => ?_⟩
  obtain ⟨hlen, h⟩ := h
  refine LamX.run_ofS lk hcd D.sc hr e0 hb r (by rw [← rl.length, hlen, hnp]) fun hr' => ⟨_, (hbody qual (.ref cc) A outer s H hr' hg).nox, ?_⟩
  have at0 : At CS (cxOf C8.CX0 P w K mg base fn.names qual scope f (.ref cc) A outer s H C8.E0).nox (startE fn ds) S φ (L2.start fn.names vs) H :=
    ⟨repE_start rl, wd, hcs, cc, Pt, rfl, .inl h1, hcs Pt hP, h2, h3⟩
  exact ⟨startE fn ds, S, φ, at0, hm.s h ⟨fun e S' q φ' σ' H' l a => q φ' .non H' l a.w .non, fun d S' q => q, fun _ _ q => q.elim, fun _ _ q => q.elim⟩⟩
end
section
variable {CS : List Addr} {X : Cx} {k : Nat} {f : Addr} {fd : FuncData} {ps : List Str} {cl : List D → Store → KD → Prop} {x : Str} {A : W} {e : Expr} {es : List Expr} {p pos : Pos}
theorem run_fnp {pins : List (Addr × Obj)} {σ : L2.St} {H : Hp} {s : Shared} {Q : VK} {args : Args} {us : List Value} {vs : List V} {ds : List D} {S : Store} {φ : Nat → Addr} {env : Env} (F : FnP X.prog X.w X.K X.mg X.base CS k f fd ps cl) (hr : Room k X.A) (hg : X.A.guards = some [])
    (I : Inv X pins σ H s) (hb : BindsTo s fd args (ps.zip us)) (r : Vals vs us) (a : At CS X env S φ σ H) (rl : RepL X.K H φ S.length ds vs) (h : cl ds S (KQ X.K H φ S.length Q)) : codeAny (model X.prog X.w) X.A (.call (.ref f) args) (fun q s' => match q with
      | .ok (.ret u) => EP X pins σ Q u s'
      | _ => False) s := by
  refine codeAny_mono (F.run X.A X.stack s H args us vs ds S φ Q hr hg I.env0 hb r a.c.1 a.w rl h) fun r s' hq => ?_
  cases r with
  | error e => exact (show False from hq).elim
  | ok fl =>
    cases fl with
    | ret u => exact I.after hq
    | next => exact False.elim hq
    | brk => exact False.elim hq
    | cont => exact False.elim hq
/-- f(e, ..) -/
theorem r_call (F : FnP X.prog X.w X.K X.mg X.base CS k f fd ps cl) (hr : Room k X.A) (hgd : X.A.guards = some []) (hcl : ∀ {ds S} {Q Q' : KD}, cl ds S Q → (∀ d S', Q d S' → Q' d S') → cl ds S Q') (hg : Gl X x) (hm : X.mg x = some (.ref f)) (hk : PySem.W.keepIn X.K (.ref f) = true) (hb : Binds X.K fd ps [])
    (mA : MW A) (ha : PA X (e :: es) (tA CS X A.a)) (hdb : (x == ("__debug__" : Str)) = false) (he : starEach (e :: es) X.env = (false, eval e X.env) :: starEach es X.env) (hpl : (backTo pos (starEach es X.env)).any (·.1) = false) :
    PE X (.Call (.Name x p) (e :: es) [] pos) (tE CS X fun σ S Q => A.a σ S fun ds S1 => cl ds S1 Q) := by
  refine ⟨fun pins s σ H Q I h => ?_⟩
  obtain ⟨env, S, φ, at0, h⟩ := h
  refine wpAny_Call_Name_kw (ld_glob I hg hm ?_ hdb)
  have h1 := tA_mk (G := fun vs H1 => ∃ ds S1 φ1, Le H φ S.length H1 φ1 S1.length ∧ At CS X env S1 φ1 σ H1 ∧ RepL X.K H1 φ1 S1.length ds vs ∧ cl ds S1 (KQ X.K H φ S.length Q)) mA at0 h fun ds S1 φ1 vs H1 l1 a1 rl q => ⟨ds, S1, φ1, l1, a1, rl, q⟩
  refine PySem.W.callWith_K (h₀ := X.base) I.ok.mod.kin hk (thn (ha.run pos pins s σ H _ I h1) fun us s1 ⟨vs, H1, I1, r, ds, S1, φ1, l1, a1, rl, q⟩ => ⟨I1.kIn, ?_⟩) he hpl
  have hl : us.length = ps.length := by rw [← r.length, ← rl.length]; exact F.len _ _ _ q
  have hbd := hb s1 us I1.kIn (by rw [List.append_nil]; exact hl)
  rw [List.append_nil] at hbd
  refine wpAny_call (codeAny_mono (run_fnp F hr hgd I1 hbd r a1 rl (hcl q fun d S' q => KQ.le l1 q)) fun r s' hq => ?_)
  cases r with
  | error e => exact hq.elim
  | ok fl =>
    cases fl with
    | ret u => exact hq
    | next => exact hq.elim
    | brk => exact hq.elim
    | cont => exact hq.elim
end
end Pw
set_option maxHeartbeats 1000000
/-! Pw28: calls by keywords alone. -/
namespace Pw
open PySem PySem.Spec PyProof.Rows L2

theorem vals_perm {zs : List V} {ws : List Value} (r : Vals zs ws) : ∀ pm : List Nat, Vals (pm.map fun i => zs.getD i .non) (pm.map fun i => ws.getD i .none)
  | [] => .nil
  | i :: pm => .cons (by
      have hl := r.length
      show L2.RelV (zs.getD i .non) (ws.getD i .none)
      by_cases h : i < zs.length
      · obtain ⟨u, hu, ru⟩ := r.get (List.getElem?_eq_getElem h)
        rw [List.getD_eq_getElem?_getD, List.getD_eq_getElem?_getD, hu, List.getElem?_eq_getElem h]
        exact ru
      · rw [List.getD_eq_getElem?_getD, List.getD_eq_getElem?_getD, List.getElem?_eq_none (by omega), List.getElem?_eq_none (by omega)]
        rfl) (vals_perm r pm)
theorem repL_perm {K : PySem.W.Frag} {H : Hp} {φ : Nat → Addr} {N : Nat} {ds : List D} {zs : List V} (r : RepL K H φ N ds zs) : ∀ pm : List Nat, RepL K H φ N (pm.map fun i => ds.getD i .non) (pm.map fun i => zs.getD i .non)
  | [] => .nil
  | i :: pm => .cons (by
      have hl := r.length
      show RepV K H φ N (ds.getD i .non) (zs.getD i .non)
      by_cases h : i < ds.length
      · obtain ⟨u, hu, ru⟩ := r.get (List.getElem?_eq_getElem h)
        rw [List.getD_eq_getElem?_getD, List.getD_eq_getElem?_getD, hu, List.getElem?_eq_getElem h]
        exact ru
      · rw [List.getD_eq_getElem?_getD, List.getD_eq_getElem?_getD, List.getElem?_eq_none (by omega), List.getElem?_eq_none (by omega)]
        exact .non) (repL_perm r pm)
/-- keywords ks (and nothing else) bind: the i-th parameter takes the pm[i]-th of them -/
def KwOk (fd : FuncData) (ps ks : List Str) (pm : List Nat) : Prop := ∀ (s : Shared) (ws : List Value), ws.length = ks.length → BindsTo s fd ⟨[], ks.zip ws⟩ (ps.zip (pm.map fun i => ws.getD i .none))
section
variable {CS : List Addr} {X : Cx} {k : Nat} {f : Addr} {fd : FuncData} {ps : List Str} {cl : List D → Store → KD → Prop} {x : Str} {A B : W} {e : Expr} {p pos : Pos} {kws : List Keyword}
theorem k_nil : PK X [] (tA CS X fun _ S Q => Q [] S) := ⟨fun pos pins s σ H Q I h => by
  obtain ⟨env, S, φ, at0, h⟩ := h
  exact pk_nil.run pos pins s σ H Q I (h φ [] H (.refl _ _ _) at0.w .nil)⟩
theorem k_cons {n : Option Str} {kp : Pos} (mA : MW A) (mB : MW B) (ha : PE X e (tE CS X A.e)) (hb : PK X kws (tA CS X B.a)) : PK X (⟨n, e, kp⟩ :: kws) (tA CS X fun σ S Q => A.e σ S fun d S1 => B.a σ S1 fun ds S2 => Q (d :: ds) S2) := ⟨fun pos pins s σ H Q I h => by
  refine (pk_cons ha hb).run pos pins s σ H Q I ?_
  obtain ⟨env, S, φ, at0, h⟩ := h
  refine tE_mk mA at0 h fun x S1 φ1 v H1 l1 a1 rx h => ?_
  exact tA_mk mB a1 h fun ds S2 φ2 vs H2 l2 a2 rs h => h φ2 (v :: vs) H2 (l1.trans l2) a2.w (.cons (rx.mono l2) rs)⟩
theorem r_callk {ks : List Str} {pm : List Nat} (F : FnP X.prog X.w X.K X.mg X.base CS k f fd ps cl) (hr : Room k X.A) (hgd : X.A.guards = some []) (hcl : ∀ {ds S} {Q Q' : KD}, cl ds S Q → (∀ d S', Q d S' → Q' d S') → cl ds S Q') (hg : Gl X x) (hm : X.mg x = some (.ref f)) (hk : PySem.W.keepIn X.K (.ref f) = true) (hb : KwOk fd ps ks pm)
    (mA : MW A) (ha : PK X kws (tA CS X A.a)) (hdb : (x == ("__debug__" : Str)) = false) (hall : (backToKw pos (keywordEach kws X.env)).all (·.1.isSome) = true) (hks : (backToKw pos (keywordEach kws X.env)).filterMap (·.1) = ks)
    (hpl : ((backTo pos (starEach [] X.env)).any (·.1) || (backToKw pos (keywordEach kws X.env)).any (·.1.isNone)) = false) (hlen : ∀ σ S Q, A.a σ S Q → A.a σ S fun ds S' => ds.length = ks.length ∧ Q ds S') :
    PE X (.Call (.Name x p) [] kws pos) (tE CS X fun σ S Q => A.a σ S fun ds S1 => cl (pm.map fun i => ds.getD i .non) S1 Q) := by
  refine ⟨fun pins s σ H Q I h => ?_⟩
  obtain ⟨env, S, φ, at0, h⟩ := h
  refine wpAny_Call_Name_kw (ld_glob I hg hm ?_ hdb)
  have h1 := tA_mk (G := fun vs H1 => ∃ ds S1 φ1, ds.length = ks.length ∧ Le H φ S.length H1 φ1 S1.length ∧ At CS X env S1 φ1 σ H1 ∧ RepL X.K H1 φ1 S1.length ds vs ∧ cl (pm.map fun i => ds.getD i .non) S1 (KQ X.K H φ S.length Q)) mA at0 (hlen _ _ _ h) fun ds S1 φ1 vs H1 l1 a1 rl q => ⟨ds, S1, φ1, q.1, l1, a1, rl, q.2⟩
  refine PySem.W.callWith_KW0 (h₀ := X.base) I.ok.mod.kin hk hall (thn (ha.run pos pins s σ H _ I h1) fun ws s1 ⟨zs, H1, I1, rz, ds, S1, φ1, hl, l1, a1, rl, q⟩ => ⟨I1.kIn, ?_⟩) hpl
  rw [hks]
  have hl2 : ws.length = ks.length := by rw [← rz.length, ← rl.length]; exact hl
  refine wpAny_call (codeAny_mono (run_fnp F hr hgd I1 (hb s1 ws hl2) (vals_perm rz pm) a1 (repL_perm rl pm) (hcl q fun d S' q => KQ.le l1 q)) fun r s' hq => ?_)
  cases r with
  | error e => exact hq.elim
  | ok fl =>
    cases fl with
    | ret u => exact hq
    | next => exact hq.elim
    | brk => exact hq.elim
    | cont => exact hq.elim
end
end Pw
set_option maxHeartbeats 1000000
/-! Pw49: dict(zip(a, b)) of two tuples, the keys texts. -/
namespace Pw
open PySem PySem.Spec PyProof.Rows L2

section
variable {prog : Program} {w : World} {A : Around} {E : Value → Shared → Prop} {s : Shared} {z TI TO T i1 i2 l1 l2 : Addr} {f : Bool} {oT : Obj} {k1 k2 : Nat} {xs ys : Array Value}
/-- the next pair, the one before it still out -/
theorem zt_item {x y : Value} {Q : Option Value → Shared → Prop} (D : ZipApart z TI TO i1 i2 l1 l2) (hz : IsZipHeld s.heap z TI TO T f) (hT : s.heap.get? T = some oT) (hTI : IsPair s.heap TI (.ref i1) (.ref i2))
    (h1 : s.heap.IsTupleIter i1 l1 k1) (h2 : s.heap.IsTupleIter i2 l2 k2) (hl1 : s.heap.IsTuple l1 xs) (hl2 : s.heap.IsTuple l2 ys) (hx : xs[k1]? = some x) (hy : ys[k2]? = some y)
    (hQ : ∀ h', IsZipHeld h' z TI TO T true → h'.IsTupleIter i1 l1 (k1 + 1) → h'.IsTupleIter i2 l2 (k2 + 1) → IsPair h' s.heap.objs.size x y → h'.objs.size = s.heap.objs.size + 1 →
      (∀ c o, c ≠ z → c ≠ i1 → c ≠ i2 → s.heap.get? c = some o → h'.get? c = some o) → Q (some (.ref s.heap.objs.size)) { s with heap := h' }) : wpAny (model prog w) A (pyNext (.ref z)) Q E s := by
  have ty : s.TypeIs (.ref z) "zip" := ⟨_, hz, rfl⟩
  unfold pyNext
  refine wpAny_bind (wpAny_attempt (wpAny_callSpecial?_slot (name := Str.ofString "__next__") ty F.slot_zip_next (wpAny_call_entry F.slot_zip_next ty F.entry_zip_next ?_ (F.args_zip_next_1 _))))
  show wpAny _ _ (field (.ref z) 2 >>= _) _ _ _
  refine wpAny_bind (wpAny_field hz rfl (x := .bool false) rfl ?_)
  show wpAny _ _ (field (.ref z) 3 >>= _) _ _ _
  refine wpAny_bind (wpAny_field hz rfl (x := .ref TI) rfl (wpAny_bind (wpAny_seqItems hTI rfl ?_)))
  show wpAny _ _ (Builtin.SmallTypes.ownedTupleIsFree (.ref z) >>= _) _ _ _
  refine wpAny_bind (wpAny_tupleHeld_zip hz hT fun ha za ka => ?_)
  simp only [Bool.false_eq_true, if_false]
  refine wpAny_bind ?_
  rw [← Array.forIn_toList]
  simp only [List.forIn_cons, List.forIn_nil]
  refine wpAny_bind (wpAny_bind (wpAny_holding ?_))
  show wpAny _ _ (Builtin.SmallTypes.nextOf (.ref i1) >>= _) _ _ _
  refine wpAny_bind (RZ.nextOf_tuple_item (s := { s with heap := ha }) (h1.extBut ka.extBut D.i1z) (hl1.extBut ka.extBut D.l1z) hx fun hb ib kb => wpAny_pure (wpAny_pure ?_))
  refine wpAny_bind (wpAny_bind (wpAny_holding ?_))
  show wpAny _ _ (Builtin.SmallTypes.nextOf (.ref i2) >>= _) _ _ _
  refine wpAny_bind (RZ.nextOf_tuple_item (s := { s with heap := hb }) ((h2.extBut ka.extBut D.i2z).extBut kb.extBut D.i12.symm) ((hl2.extBut ka.extBut D.l2z).extBut kb.extBut D.l2i1) hy fun hc ic kc => wpAny_pure (wpAny_pure (wpAny_pure ?_)))
  show wpAny _ _ (newTuple [x, y] >>= _) _ _ _
  refine wpAny_bind (wpAny_newTuple ?_)
  have sz : hc.objs.size = s.heap.objs.size := by rw [kc.1, kb.1, ka.1]
  have up : ∀ c o, c ≠ z → c ≠ i1 → c ≠ i2 → s.heap.get? c = some o → hc.get? c = some o := fun c o c1 c2 c3 e => kc.extBut _ _ c3 (kb.extBut _ _ c2 (ka.extBut _ _ c1 e))
  have zc : IsZipHeld hc z TI TO T true := kc.extBut _ _ D.i2z.symm (kb.extBut _ _ D.i1z.symm za)
  have hp : IsPair (hc.push { cls := .type "tuple", data := .seq #[x, y] }) hc.objs.size x y := Heap.get?_push_size _ rfl
  have hz' : (hc.push { cls := .type "tuple", data := .seq #[x, y] }).objs.size = hc.objs.size + 1 := Heap.size_push ..
  refine wpAny_pure ⟨_, rfl, wpAny_pure ?_⟩
  show Q (some (.ref hc.objs.size)) _
  rw [sz] at hp hz' ⊢
  exact hQ _ (Heap.get?_push_of_some _ zc) ((ib.extBut kc.extBut D.i12).at fun o e => Heap.get?_push_of_some _ e) (ic.at fun o e => Heap.get?_push_of_some _ e) hp hz' fun c o c1 c2 c3 e => Heap.get?_push_of_some _ (up c o c1 c2 c3 e)
theorem zt_end {Q : Option Value → Shared → Prop} (hh : A.handled = none) (D : ZipApart z TI TO i1 i2 l1 l2) (hz : IsZipHeld s.heap z TI TO T f) (hT : s.heap.get? T = some oT) (hTI : IsPair s.heap TI (.ref i1) (.ref i2))
    (h1 : s.heap.IsTupleIter i1 l1 k1) (h2 : s.heap.IsTupleIter i2 l2 k2) (hl1 : s.heap.IsTuple l1 xs) (hl2 : s.heap.IsTuple l2 ys) (hend : xs[k1]? = none ∨ ys[k2]? = none)
    (hQ : ∀ h', (∀ c o, c ≠ z → c ≠ i1 → c ≠ i2 → s.heap.get? c = some o → h'.get? c = some o) → Q none { s with heap := h' }) : wpAny (model prog w) A (pyNext (.ref z)) Q E s := by
  have ty : s.TypeIs (.ref z) "zip" := ⟨_, hz, rfl⟩
  have stop : ∀ (h' : Heap) (e : Addr), (∀ c o, c ≠ z → c ≠ i1 → c ≠ i2 → s.heap.get? c = some o → h'.get? c = some o) → (∃ o, h'.get? e = some o ∧ o.cls = .type "StopIteration") →
      wpAny (model prog w) A (do if ← isInstance (.ref e) (.type "StopIteration") then pure none else throw (.ref e) : Sem (Option Value)) Q E { s with heap := h' } := fun h' e hk ⟨o, ho, hc⟩ =>
    wpAny_bind (wpAny_isInstance (T := "StopIteration") (b := true) ⟨o, ho, hc⟩ isSubtype_stop (wpAny_pure (hQ _ hk)))
  unfold pyNext
  refine wpAny_bind (wpAny_attempt (wpAny_callSpecial?_slot (name := Str.ofString "__next__") ty F.slot_zip_next (wpAny_call_entry F.slot_zip_next ty F.entry_zip_next ?_ (F.args_zip_next_1 _))))
  show wpAny _ _ (field (.ref z) 2 >>= _) _ _ _
  refine wpAny_bind (wpAny_field hz rfl (x := .bool false) rfl ?_)
  show wpAny _ _ (field (.ref z) 3 >>= _) _ _ _
  refine wpAny_bind (wpAny_field hz rfl (x := .ref TI) rfl (wpAny_bind (wpAny_seqItems hTI rfl ?_)))
  show wpAny _ _ (Builtin.SmallTypes.ownedTupleIsFree (.ref z) >>= _) _ _ _
  refine wpAny_bind (wpAny_tupleHeld_zip hz hT fun ha za ka => ?_)
  simp only [Bool.false_eq_true, if_false]
  refine wpAny_bind ?_
  rw [← Array.forIn_toList]
  simp only [List.forIn_cons, List.forIn_nil]
  refine wpAny_bind (wpAny_bind (wpAny_holding ?_))
  show wpAny _ _ (Builtin.SmallTypes.nextOf (.ref i1) >>= _) _ _ _
  cases hx : xs[k1]? with
  | none =>
    refine wpAny_bind (RZ.nextOf_tuple_end (s := { s with heap := ha }) hh (h1.extBut ka.extBut D.i1z) (hl1.extBut ka.extBut D.l1z) hx fun hb e kb he => ?_)
    exact stop hb e (fun c o c1 c2 _ q => kb _ _ c2 (ka.extBut _ _ c1 q)) he
  | some x =>
    have hy : ys[k2]? = none := by
      rcases hend with q | q
      · rw [hx] at q; cases q
      · exact q
    refine wpAny_bind (RZ.nextOf_tuple_item (s := { s with heap := ha }) (h1.extBut ka.extBut D.i1z) (hl1.extBut ka.extBut D.l1z) hx fun hb ib kb => wpAny_pure (wpAny_pure ?_))
    refine wpAny_bind (wpAny_bind (wpAny_holding ?_))
    show wpAny _ _ (Builtin.SmallTypes.nextOf (.ref i2) >>= _) _ _ _
    refine wpAny_bind (RZ.nextOf_tuple_end (s := { s with heap := hb }) hh ((h2.extBut ka.extBut D.i2z).extBut kb.extBut D.i12.symm) ((hl2.extBut ka.extBut D.l2z).extBut kb.extBut D.l2i1) hy fun hc e kc he => ?_)
    exact stop hc e (fun c o c1 c2 c3 q => kc _ _ c3 (kb.extBut _ _ c2 (ka.extBut _ _ c1 q))) he
end
/-- zip of two tuples as a maker of pairs -/
theorem zipArg {prog : Program} {w : World} (z TI TO i1 i2 l1 l2 : Addr) (D : ZipApart z TI TO i1 i2 l1 l2) (xs ys : Array Value) :
    PairArg prog w "zip" z [z, TI, TO, i1, i2, l1, l2] [z, TO, i1, i2] (min xs.size ys.size) (fun i k v => xs[i]? = some k ∧ ys[i]? = some v)
      (fun h => IsZip h z TI TO .none ∧ IsPair h TI (.ref i1) (.ref i2) ∧ IsPair h TO .none .none ∧ h.IsTupleIter i1 l1 0 ∧ h.IsTupleIter i2 l2 0 ∧ h.IsTuple l1 xs ∧ h.IsTuple l2 ys) where
  type := fun s ok => ⟨_, ok.1, rfl⟩
  notDict := by decide
  keep := fun h h' ⟨a, b, c, d, e, f, g⟩ k => ⟨k _ _ a, k _ _ b, k _ _ c, d.at fun o q => k _ o q, e.at fun o q => k _ o q, f.at fun o q => k _ o q, g.at fun o q => k _ o q⟩
  there := fun h ⟨a, b, c, ⟨_, d, _⟩, ⟨_, e, _⟩, ⟨_, f, _⟩, ⟨_, g, _⟩⟩ p hp => by
    simp only [List.mem_cons, List.not_mem_nil, or_false] at hp
    rcases hp with rfl | rfl | rfl | rfl | rfl | rfl | rfl
    all_goals first | exact ⟨_, a⟩ | exact ⟨_, b⟩ | exact ⟨_, c⟩ | exact ⟨_, d⟩ | exact ⟨_, e⟩ | exact ⟨_, f⟩ | exact ⟨_, g⟩
  sub := fun b hb => by
    simp only [List.mem_cons, List.not_mem_nil, or_false] at hb ⊢
    rcases hb with h | h | h | h <;> simp [h]
  noKeys := fun A s Q E hA ok h => getAttrOr_miss_zip ok.1 rfl rfl rfl zip_no_keys (by decide +kernel) hA h
  iter := fun A s d Q E hA ⟨a, b, c, d1, d2, e1, e2⟩ hd hdf h => by
    simp only [List.mem_cons, List.not_mem_nil, or_false, not_or] at hdf
    obtain ⟨nz, nTI, nTO, n1, n2, m1, m2⟩ := hdf
    refine wpAny_pyIter_zip a (h z [z, TO, i1, i2] (fun i h => IsPair h TI (.ref i1) (.ref i2) ∧ h.IsTupleIter i1 l1 i ∧ h.IsTupleIter i2 l2 i ∧ h.IsTuple l1 xs ∧ h.IsTuple l2 ys ∧
      ((IsZip h z TI TO .none ∧ ∃ a b, IsPair h TO a b) ∨ ∃ T f oT, IsZipHeld h z TI TO T f ∧ h.get? T = some oT ∧ T ≠ z ∧ T ≠ i1 ∧ T ≠ i2 ∧ T ≠ d)) s.heap s.toks ?_ ⟨b, d1, d2, e1, e2, .inl ⟨a, _, _, c⟩⟩ (fun _ _ e => e) fun b hb => .inl hb)
    exact {
      off := fun hm => by
        simp only [List.mem_cons, List.not_mem_nil, or_false] at hm
        rcases hm with h | h | h | h
        · exact nz h
        · exact nTO h
        · exact n1 h
        · exact n2 h
      frame := fun i h h' ⟨b, d1, d2, e1, e2, q⟩ k => by
        refine ⟨k _ _ (Ne.symm nTI) b, d1.at fun o e => k _ o (Ne.symm n1) e, d2.at fun o e => k _ o (Ne.symm n2) e, e1.at fun o e => k _ o (Ne.symm m1) e, e2.at fun o e => k _ o (Ne.symm m2) e, ?_⟩
        rcases q with ⟨a, x, y, c⟩ | ⟨T, f, oT, a, c, r1, r2, r3, r4⟩
        · exact .inl ⟨k _ _ (Ne.symm nz) a, x, y, k _ _ (Ne.symm nTO) c⟩
        · exact .inr ⟨T, f, oT, k _ _ (Ne.symm nz) a, k _ _ r4 c, r1, r2, r3, r4⟩
      item := fun i s' Q' E' hi ⟨b, d1, d2, e1, e2, q⟩ hds hQ => by
        have ex := Array.getElem?_eq_getElem (Nat.lt_of_lt_of_le hi (Nat.min_le_left ..))
        have ey := Array.getElem?_eq_getElem (Nat.lt_of_lt_of_le hi (Nat.min_le_right ..))
        have lt : ∀ {c o}, s'.heap.get? c = some o → s'.heap.objs.size ≠ c := fun e => Nat.ne_of_gt (Heap.lt_size e)
        have g1 : s'.heap.objs.size ≠ i1 := let ⟨_, e, _⟩ := d1; lt e
        have g2 : s'.heap.objs.size ≠ i2 := let ⟨_, e, _⟩ := d2; lt e
        have out : ∀ {c : Addr}, c ∉ [z, TO, i1, i2] → c ≠ z ∧ c ≠ TO ∧ c ≠ i1 ∧ c ≠ i2 := fun {c} hc => by simp only [List.mem_cons, List.not_mem_nil, or_false, not_or] at hc; exact hc
        rcases q with ⟨a, x, y, c⟩ | ⟨T, f, oT, a, c, r1, r2, r3, r4⟩
        · refine RZ.pyNext_zipT_item D a b c d1 d2 e1 e2 ex ey fun h' a1 a2 a3 a4 a5 a6 k => ?_
          exact hQ s'.heap.objs.size _ _ h' s'.toks ⟨ex, ey⟩ (.inl ⟨_, a5, rfl, _, rfl⟩)
            ⟨k _ _ D.TIz D.TITO D.TIi1 D.TIi2 b, a3, a4, e1.at fun o e => k _ o D.l1z D.l1TO D.l1i1 D.l1i2 e, e2.at fun o e => k _ o D.l2z D.l2TO D.l2i1 D.l2i2 e, .inr ⟨s'.heap.objs.size, false, _, a1, a5, lt a, g1, g2, Nat.ne_of_gt hds⟩⟩
            fun c o hc e => k c o (out hc).1 (out hc).2.1 (out hc).2.2.1 (out hc).2.2.2 e
        · refine zt_item D a c b d1 d2 e1 e2 ex ey fun h' a1 a3 a4 a5 a6 k => ?_
          exact hQ s'.heap.objs.size _ _ h' s'.toks ⟨ex, ey⟩ (.inl ⟨_, a5, rfl, _, rfl⟩)
            ⟨k _ _ D.TIz D.TIi1 D.TIi2 b, a3, a4, e1.at fun o e => k _ o D.l1z D.l1i1 D.l1i2 e, e2.at fun o e => k _ o D.l2z D.l2i1 D.l2i2 e, .inr ⟨T, true, oT, a1, k _ _ r1 r2 r3 c, r1, r2, r3, r4⟩⟩
            fun c o hc e => k c o (out hc).1 (out hc).2.2.1 (out hc).2.2.2 e
      done := fun s' Q' E' ⟨b, d1, d2, e1, e2, q⟩ hQ => by
        have out : ∀ {c : Addr}, c ∉ [z, TO, i1, i2] → c ≠ z ∧ c ≠ TO ∧ c ≠ i1 ∧ c ≠ i2 := fun {c} hc => by simp only [List.mem_cons, List.not_mem_nil, or_false, not_or] at hc; exact hc
        have hend : xs[min xs.size ys.size]? = none ∨ ys[min xs.size ys.size]? = none := by
          rcases Nat.le_total xs.size ys.size with h | h
          · exact .inl (Array.getElem?_eq_none (by omega))
          · exact .inr (Array.getElem?_eq_none (by omega))
        rcases q with ⟨a, x, y, c⟩ | ⟨T, f, oT, a, c, r1, r2, r3, r4⟩
        · exact RZ.pyNext_zipT_end hA D a b c d1 d2 e1 e2 hend fun h' k => hQ h' s'.toks fun c o hc e => k c o (out hc).1 (out hc).2.1 (out hc).2.2.1 (out hc).2.2.2 e
        · exact zt_end hA D a c b d1 d2 e1 e2 hend fun h' k => hQ h' s'.toks fun c o hc e => k c o (out hc).1 (out hc).2.2.1 (out hc).2.2.2 e }
end Pw
set_option maxHeartbeats 1000000
/-! Pw50: dict(zip(a, b)), its reading. -/
namespace Pw
open PySem PySem.Spec PyProof.Rows L2

theorem dz_pairs {K : PySem.W.Frag} {H : Hp} {φ : Nat → Addr} {N : Nat} : ∀ {xs ys : List D} {vs us : List V} {its its2 : List Value} {kvs : List (Key × D)}, RepL K H φ N xs vs → RepL K H φ N ys us → Vals vs its → Vals us its2 → (zipD xs ys).mapM pairK = some kvs →
    ∃ (kvV : List (Key × V)) (kv2 : List (Key × Value)), PairsR K H φ N kvs kvV ∧ KV kvV kv2 ∧ kv2.length = min its.length its2.length ∧ ∀ (i : Nat) (key v : Value), its[i]? = some key → its2[i]? = some v → ∃ k, kv2[i]? = some (k, v) ∧ keyIs k key = true
  | [], _, _, _, _, _, kvs, .nil, _, .nil, _, e => by
    have e : some [] = some kvs := by simpa [zipD] using e
    cases e
    exact ⟨[], [], .nil, .nil, by simp, fun i key v h => by simp at h⟩
  | _ :: _, [], _, _, _, _, kvs, _, .nil, _, .nil, e => by
    have e : some [] = some kvs := by simpa [zipD] using e
    cases e
    exact ⟨[], [], .nil, .nil, by simp, fun i key v _ h => by simp at h⟩
  | x :: xs, y :: ys, v1 :: _, v2 :: _, t1 :: _, t2 :: _, kvs, .cons rx tx, .cons ry ty, .cons vx wx, .cons vy wy, e => by
    have e : (do let p ← pairK (.tup .key [x, y]); let r ← (zipD xs ys).mapM pairK; pure (p :: r)) = some kvs := by
      rw [← e]; simp [zipD]
    cases rx with
    | str s =>
      have e : (do let r ← (zipD xs ys).mapM pairK; pure (((Sum.inr s : Key), y) :: r)) = some kvs := e
      cases hr : (zipD xs ys).mapM pairK with
      | none => rw [hr] at e; cases e
      | some r =>
        rw [hr] at e
        have e : some (((Sum.inr s : Key), y) :: r) = some kvs := e
        cases e
        obtain ⟨kvV, kv2, p1, p2, p3, p4⟩ := dz_pairs tx ty wx wy hr
        obtain ⟨t, rfl⟩ := vx
        refine ⟨(.inr s, v2) :: kvV, (.inr s, t2) :: kv2, .cons ⟨rfl, ry⟩ p1, .cons ⟨rfl, vy⟩ p2, ?_, fun i key v h1 h2 => ?_⟩
        · simp only [List.length_cons, p3]; omega
        · cases i with
          | zero =>
            simp only [List.getElem?_cons_zero, Option.some.injEq] at h1 h2
            subst h1; subst h2
            exact ⟨_, rfl, by show Value.isStrOf s (.str s t) = true; simp [Value.isStrOf]⟩
          | succ i =>
            simp only [List.getElem?_cons_succ] at h1 h2 ⊢
            exact p4 i key v h1 h2
    | _ => cases e
theorem pairsR_merge {K : PySem.W.Frag} {H : Hp} {φ : Nat → Addr} {N : Nat} {kvs : List (Key × D)} {kvV : List (Key × V)} (t : PairsR K H φ N kvs kvV) : ∀ {a : List (Key × D)} {b : List (Key × V)}, PairsR K H φ N a b → PairsR K H φ N (kvs.foldl (fun acc kv => putD acc kv.1 kv.2) a) (mergeK b kvV) := by
  induction t with
  | nil => exact fun h => h
  | @cons x y _ _ z t ih =>
    intro a b h
    obtain ⟨k, d⟩ := x
    obtain ⟨q, v⟩ := y
    obtain ⟨e, rz⟩ := z
    have e : k = q := e
    subst e
    exact ih (putD_put _ h rz)
section
variable {CS : List Addr} {X : Cx} {A : W} {e1 e2 : Expr} {p p2 pos pos2 : Pos}
def dzD (ds : List D) (S : Store) (Q : KD) : Prop := match ds with
  | [.tup _ xs, .tup _ ys] => (match (zipD xs ys).mapM pairK with
    | some kvs => kvs.length ≤ 1000 ∧ Q (.loc S.length) (S ++ [.dK (kvs.foldl (fun acc kv => putD acc kv.1 kv.2) [])])
    | none => False)
  | _ => False
theorem dzD_mono {ds : List D} {S : Store} {Q Q' : KD} (h : dzD ds S Q) (k : ∀ d S', Q d S' → Q' d S') : dzD ds S Q' := by
  unfold dzD at h ⊢
  split at h
  · split at h
    · exact ⟨h.1, k _ _ h.2⟩
    · exact h.elim
  · exact h.elim
theorem r_dzip (hc : X.calm = true) (hgd : Gl X "dict") (hmd : X.mg "dict" = none) (hgz : Gl X "zip") (hmz : X.mg "zip" = none) (mA : MW A) (ha : PA X [e1, e2] (tA CS X A.a))
    (hs : starEach [e1, e2] X.env = (false, eval e1 X.env) :: starEach [e2] X.env) (hpl : (backTo pos2 (starEach [e2] X.env)).any (·.1) = false) :
    PE X (.Call (.Name "dict" p) [.Call (.Name "zip" p2) [e1, e2] [] pos2] [] pos) (tE CS X fun σ S Q => A.a σ S fun ds S1 => dzD ds S1 Q) := by
  refine ⟨fun pins s σ H Q I h => ?_⟩
  obtain ⟨env, S, φ, at0, h⟩ := h
  refine wpAny_Call_Name_kw (ld_blt I hgd hmd (show bootBuiltins "dict" = some (.type "dict") by decide +kernel) ?_ (by decide) (by decide))
  refine callWith_type1 (args_cons (Call_ (ld_blt I hgz hmz boot_zip (callWith_type1 (thn (ha.run pos2 pins s σ H _ I (tA_mk (G := fun vs H1 => ∃ ds S1 φ1, Le H φ S.length H1 φ1 S1.length ∧ At CS X env S1 φ1 σ H1 ∧ RepL X.K H1 φ1 S1.length ds vs ∧ dzD ds S1 (KQ X.K H φ S.length Q)) mA at0 h fun ds S1 φ1 vs H1 l1 a1 rl q => ⟨ds, S1, φ1, l1, a1, rl, q⟩)) fun us s1 ⟨vs, H1, I1, rv, ds, S1, φ1, l1, a1, rl, q⟩ => ?_) hs hpl)))) rfl rfl
  match ds, rl, q with
  | [.tup ka xs, .tup kb ys], rl, q =>
    obtain ⟨v1, w1, rfl, rx, w2⟩ : ∃ v w, vs = v :: w ∧ RepV X.K H1 φ1 S1.length (.tup ka xs) v ∧ RepL X.K H1 φ1 S1.length [.tup kb ys] w := by
      cases rl with | cons a b => exact ⟨_, _, rfl, a, b⟩
    obtain ⟨v2, rfl, ry⟩ : ∃ v, w1 = [v] ∧ RepV X.K H1 φ1 S1.length (.tup kb ys) v := by
      cases w2 with | cons a b => cases b; exact ⟨_, rfl, a⟩
    cases rx with
    | @tup a vxs _ _ qa rxs =>
    cases ry with
    | @tup b vys _ _ qb rys =>
    cases rv with
    | cons r rr =>
    cases rr with
    | cons r' rr =>
    cases rr
    cases r
    cases r'
    obtain ⟨its, rv1, p1, z1⟩ := I1.tuple qa.sqt
    obtain ⟨its2, rv2, p2', z2⟩ := I1.tuple qb.sqt
    obtain ⟨o1, ho1, _⟩ := id p1
    obtain ⟨o2, ho2, _⟩ := id p2'
    have q : (match (zipD xs ys).mapM pairK with
      | some kvs => kvs.length ≤ 1000 ∧ KQ X.K H φ S.length Q (.loc S1.length) (S1 ++ [.dK (kvs.foldl (fun acc kv => putD acc kv.1 kv.2) [])])
      | none => False) := q
    cases hk : (zipD xs ys).mapM pairK with
    | none => rw [hk] at q; exact q.elim
    | some kvs =>
    rw [hk] at q
    obtain ⟨kvV, kv2, c1, c2, c3, c4⟩ := dz_pairs rxs rys rv1 rv2 hk
    refine RZ.call_zipT (show s1.heap.IsTuple a its.toArray from p1) (show s1.heap.IsTuple b its2.toArray from p2') fun h' hz hTI hTO h1 h2 hsz hkp => ?_
    have I2 : Inv X pins σ H1 { s1 with heap := h' } := I1.kept (t' := s1.toks) hkp
    refine args_nil ?_
    refine call_dict_pairs (prog := X.prog) (w := X.w) (knd := mixKind X.prog X.w) (kvs := kv2) (zipArg (prog := X.prog) (w := X.w) _ _ _ _ _ a b (PySem.W.ktu_apart s1.heap.objs.size a b (Heap.lt_size ho1) (Heap.lt_size ho2)) its.toArray its2.toArray) (I.ok.hd hc)
      ⟨hz, hTI, hTO, h1, h2, Heap.IsTuple.at p1 fun o e => hkp _ o e, Heap.IsTuple.at p2' fun o e => hkp _ o e⟩ ⟨by simpa using c3, fun i key v ⟨e1, e2⟩ => c4 i key v (by simpa using e1) (by simpa using e2)⟩ (by have e := rv1.length; simp only [List.size_toArray]; omega) fun h'' tk hd hk2 => ?_
    have hge : s1.heap.objs.size ≤ h'.objs.size := by rw [hsz]; exact Nat.le_add_right _ _
    have hn : H1 h'.objs.size = none := I1.hok.fresh hge
    have hlen : (mergeK [] kvV).length ≤ sizeLine := by
      refine Nat.le_trans (length_mergeK kvV []) ?_
      have e1 := c2.length
      have e2 := rv1.length
      rw [List.length_nil, Nat.zero_add, e1, c3]
      omega
    have up : ∀ b o, s1.heap.get? b = some o → h''.get? b = some o := fun c o e => by
      refine hk2 c o (fun hm => ?_) (hkp c o e)
      have lt := Heap.lt_size e
      simp only [List.mem_cons, List.not_mem_nil, or_false] at hm
      rcases hm with rfl | rfl | rfl | rfl
      all_goals first | exact Nat.lt_irrefl _ lt | exact absurd lt (Nat.not_lt.mpr (Nat.le_add_right _ _))
    exact ⟨.ref h'.objs.size, upd H1 h'.objs.size (.dK (mergeK [] kvV)), I1.laid (t' := tk) up hge (show ObjOk X.prog X.w _ _ _ (.dK (mergeK [] kvV)) from ⟨hlen, beq_eq_false_iff_ne.mpr (Nat.ne_of_gt (Nat.lt_of_lt_of_le I1.big hge)), merged [] kv2, KV.merge c2 .nil, hd⟩), rfl,
      KQ.new (KQ.le l1 q.2) a1.w hn (fun _ => nofun) ⟨_, upd_same, pairsR_merge (pairsR_mono (Le.alloc hn) c1) .nil⟩⟩
end
end Pw
set_option maxHeartbeats 2000000
/-! Pw51: a set made of tuples that are all unlike. -/
namespace Pw
open PySem PySem.Spec PyProof.Rows L2

abbrev IsK (P : Program) (w : World) (h : Heap) (k : List Key) (a : Addr) : Prop := IsTupleKey (mixKind P w) h k a
section
variable {P : Program} {w : World} {A : Around} {E : Value → Shared → Prop} {s : Shared}
theorem items_key {k : List Key} {vs : List Value} (h : ItemsAre (mixKind P w) k vs) : ∀ v ∈ vs, (∃ i t, v = Value.int i t) ∨ ∃ z t, v = Value.str z t := by
  induction h with
  | nil => intro v hv; cases hv
  | @cons k0 v' ks vs h1 _ ih =>
    intro v hv
    rcases List.mem_cons.mp hv with e | hv
    · subst e
      rcases keyIs_shape h1 with ⟨i, t, _, e⟩ | ⟨z, t, _, e⟩
      · exact .inl ⟨i, t, e⟩
      · exact .inr ⟨z, t, e⟩
    · exact ih v hv
theorem byClass_atom (n : Nat) {v : Value} (h : (∃ i t, v = Value.int i t) ∨ ∃ z t, v = Value.str z t) : ofAClassStatement n v = pure false := by
  rcases h with ⟨i, t, rfl⟩ | ⟨z, t, rfl⟩ <;> cases n <;> rfl
theorem byClass_key {k : List Key} {b : Addr} {Q : Bool → Shared → Prop} (hk : IsK P w s.heap k b) (h : Q false s) : wpAny (model P w) A (ofAClassStatement 8 (.ref b)) Q E s := by
  have ty := hk.typeIs
  obtain ⟨o, items, n, ho, _, hd, hi⟩ := hk
  unfold ofAClassStatement
  refine wpAny_bind (wpAny_typeOf ty ?_)
  dsimp only
  simp only [show (("tuple" : String) == "tuple") = true by decide, if_true, Bool.not_true, Bool.false_eq_true, if_false]
  try refine wpAny_bind (wpAny_pure ?_)
  try simp only [Bool.not_true, Bool.false_eq_true, if_false]
  show wpAny _ _ (seqItems? (.ref b) >>= _) _ _ s
  refine wpAny_bind (wpAny_seqItems ho hd ?_)
  dsimp only
  refine wpAny_bind ?_
  show wpAny _ _ (forIn items _ _) _ _ s
  rw [← Array.forIn_toList]
  refine wpAny_forIn_list _ (fun rest r s' => r.1 = none ∧ s' = s ∧ ∀ v ∈ rest, (∃ i t, v = Value.int i t) ∨ ∃ z t, v = Value.str z t) _ ?_ ?_ _ _ ⟨rfl, rfl, items_key hi⟩
  · rintro v rest r s' ⟨hr, rfl, hall⟩
    rw [byClass_atom _ (hall v List.mem_cons_self)]
    refine wpAny_bind (wpAny_pure ?_)
    simp only [Bool.false_eq_true, if_false]
    exact wpAny_pure ⟨rfl, rfl, fun u hu' => hall u (List.mem_cons_of_mem _ hu')⟩
  · rintro ⟨r1, r2⟩ s' ⟨hr, rfl, _⟩
    simp only at hr
    subst hr
    exact wpAny_pure h
theorem unseen {k : List Key} {b : Addr} {Q : Bool → Shared → Prop} (hk : IsK P w s.heap k b) {ys : List Value} (hy : ∀ y ∈ ys, ∃ k' c, y = Value.ref c ∧ IsK P w s.heap k' c) (h : Q false s) : wpAny (model P w) A (searchCouldBeSeen (.ref b) ys) Q E s := by
  unfold searchCouldBeSeen
  refine wpAny_bind (wpAny_forIn_list _ (fun rest r s' => r.1 = none ∧ s' = s ∧ ∀ y ∈ rest, ∃ k' c, y = Value.ref c ∧ IsK P w s.heap k' c) _ ?_ ?_ _ _ ⟨rfl, rfl, hy⟩)
  · rintro v rest r s' ⟨hr, rfl, hall⟩
    obtain ⟨k', c, rfl, hc⟩ := hall v List.mem_cons_self
    have rest' := fun u hu' => hall u (List.mem_cons_of_mem _ hu')
    dsimp only
    by_cases hv : (b == c || (carriedByValue (.ref b) && carriedByValue (.ref c))) = true
    · exact wp_if_pos hv (wpAny_pure ⟨rfl, rfl, rest'⟩)
    · refine wp_if_neg hv ?_
      refine wpAny_bind (wpAny_eqIsQuiet_tuple hk ?_)
      simp only [Bool.not_true, Bool.false_eq_true, if_false]
      refine wpAny_bind (wpAny_eqIsQuiet_tuple hc ?_)
      simp only [Bool.not_true, Bool.false_eq_true, if_false]
      refine wpAny_bind (byClass_key hk ?_)
      simp only [Bool.false_eq_true, if_false]
      refine wpAny_bind (byClass_key hc ?_)
      simp only [Bool.false_eq_true, if_false]
      exact wpAny_pure ⟨rfl, rfl, rest'⟩
  · rintro ⟨r1, r2⟩ s' ⟨hr, rfl, _⟩
    simp only at hr
    subst hr
    exact wpAny_pure h
variable {a x : Addr} {o : Obj} {es : Array (Int × Value)} {ep : Nat} {t : SetTable} {k : List Key}
/-- the c-th probe of a search -/
abbrev stp (t : SetTable) (h : Int) (c : Nat) : SetTable.Probe := nth t.mask (runAt t.mask (SetTable.bits h % (t.mask + 1)) (SetTable.bits h)) c
theorem nth_dummy (m : Nat) : ∀ (n : Nat) (p : SetTable.Probe), p.dummy = none → (nth m p n).dummy = none
  | 0, p, h => h
  | n + 1, p, h => nth_dummy m n (adv m p) (by unfold adv; split <;> exact h)
/-- a search for what is not there ends at the first empty slot -/
theorem sn_search (ho : s.heap.get? a = some o) (hd : o.data = .set es ep t) (T : TabOk t (es.toList.map (·.1))) (hf : t.fits es.size = true) (hx : IsK P w s.heap k x) (hy : ∀ e ∈ es.toList, ∃ c k', e.2 = .ref c ∧ IsK P w s.heap k' c ∧ k' ≠ k) (hu : A.units < cLine)
    {H : Int} {K : Nat} (hKf : K < 10 * SetTable.turns t.mask) (hK : way t.mask H K ∉ t.place.toList) (hKb : ∀ c, c < K → way t.mask H c ∈ t.place.toList) {Q : SetFound → Shared → Prop} (hQ : Q (.free (way t.mask H K) false) s) :
    ∀ (f c : Nat) (stand : Option SetTable.Probe), stand.getD (t.probeStart H) = stp t H c → c ≤ K → K - c < f → wpAny (model P w) A (setSearchFrom a (.ref x) H true f stand) Q E s
  | 0, c, stand, _, _, hf' => absurd hf' (Nat.not_lt_zero _)
  | f + 1, c, stand, hst, hc, hf' => by
    have ng : ¬ t.gaveWay = true := by unfold SetTable.gaveWay; rw [mask_odd T.mok]; decide
    have sh : ∀ q, nth t.mask (stp t H c) q = stp t H (c + q) := fun q => (nth_add t.mask c _ q).symm
    have e1 : ∀ q, (nth t.mask (stp t H c) q).j = way t.mask H (c + q) := fun q => congrArg SetTable.Probe.j (sh q)
    have szs : t.place.toList.length = es.size := by rw [Array.length_toList, T.sz, List.length_map, Array.length_toList]
    rw [setSearchFrom_succ]
    refine wpAny_bind (wpAny_setState_of ho hd hf ?_)
    dsimp only
    refine wp_if_neg ng ?_
    try refine wpAny_bind (wpAny_pure ?_)
    rcases go_spec t T.ris T.dm (fun i => (es[i]?.map (·.1)).getD 0) H (10 * SetTable.turns t.mask) (K - c) (stp t H c) (nth_dummy _ _ _ rfl) (by omega) (fun q hq => by rw [e1]; exact hKb (c + q) (by omega)) (by rw [e1, show c + (K - c) = K by omega]; exact hK) with ⟨q, i, hq, hi, hh, hno, hpr⟩ | ⟨hno, hpr⟩
    · have hpr' : t.probe (fun i => (es[i]?.map (·.1)).getD 0) H (stand.getD (t.probeStart H)) = some (.candidate (way t.mask H (c + q)) i (stp t H (c + (q + 1)))) := by
        rw [hst, ← e1, ← sh]; exact hpr
      rw [hpr']
      dsimp only
      rw [e1] at hi
      have hil : i < es.size := by rw [← szs]; exact (List.getElem?_eq_some_iff.mp hi).1
      have he : es[i]? = some es[i] := Array.getElem?_eq_getElem hil
      generalize es[i] = e at he
      obtain ⟨eh, ev⟩ := e
      have hm : (eh, ev) ∈ es.toList := List.mem_of_getElem? (by rw [Array.getElem?_toList]; exact he)
      obtain ⟨y, k', ey, hky, hne⟩ := hy _ hm
      have ey : ev = .ref y := ey
      subst ey
      have rest : wpAny (model P w) A (searchRest a (.ref x) H true f es t (way t.mask H (c + q)) i (stp t H (c + (q + 1)))) Q E s := by
        unfold searchRest
        rw [he]
        dsimp only
        refine wpAny_bind (wpAny_holding (wpAny_eqBool_tuple hu hky hx ?_))
        refine wpAny_bind (wpAny_setState_of ho hd hf ?_)
        dsimp only
        refine wp_if_neg (by simp [hne]) ?_
        try refine wpAny_bind (wpAny_pure ?_)
        rw [sameMem]
        dsimp only
        simp only [if_true, slot_live T.ris hi, he]
        refine wpAny_bind (wpAny_isSame_ref_self (wpAny_bind (wpAny_pure ?_)))
        simp only [if_true]
        refine wp_if_neg (by simp [hne]) ?_
        exact sn_search ho hd T hf hx hy hu hKf hK hKb hQ f (c + (q + 1)) _ rfl (by omega) (by omega)
      by_cases hl : t.led = true
      · refine wp_if_neg (by simp [hl]) ?_
        try refine wpAny_bind (wpAny_pure ?_)
        exact rest
      · refine wp_if_pos (by simp [hl]) ?_
        refine wpAny_bind (unseen hx (fun z hz => ?_) ?_)
        · obtain ⟨e, he', ee⟩ := List.mem_map.mp hz
          have he2 : e ∈ es.toList := by
            have : e ∈ es ∧ e.1 = H := by simpa using he'
            simpa using this.1
          obtain ⟨y', k2, ey', hk2, _⟩ := hy e he2
          exact ⟨k2, y', by rw [← ee, ey'], hk2⟩
        · refine wp_if_neg (by decide) ?_
          try refine wpAny_bind (wpAny_pure ?_)
          exact rest
    · have hpr' : t.probe (fun i => (es[i]?.map (·.1)).getD 0) H (stand.getD (t.probeStart H)) = some (.empty (way t.mask H K) none) := by
        have e2 : way t.mask H K = (nth t.mask (stp t H c) (K - c)).j := by rw [e1, show c + (K - c) = K by omega]
        rw [hst, e2]; exact hpr
      rw [hpr']
      exact wpAny_pure hQ
end
end Pw
set_option maxHeartbeats 3200000
/-! Pw52: set(t) of a tuple of tuples that are all unlike; len of it. -/
namespace Pw
open PySem PySem.Spec PyProof.Rows L2

theorem isK_up {P : Program} {w : World} {h h' : Heap} {k : List Key} {b : Addr} (x : IsK P w h k b) (e : ∀ o, h.get? b = some o → h'.get? b = some o) : IsK P w h' k b := let ⟨o, its, n, ho, r⟩ := x; ⟨o, its, n, e o ho, r⟩
theorem isK_ne {P : Program} {w : World} {h : Heap} {k : List Key} {a b : Addr} {o : Obj} {es : Array (Int × Value)} {ep : Nat} {t : SetTable} (x : IsK P w h k b) (ho : h.get? a = some o) (hd : o.data = .set es ep t) : b ≠ a := fun z => by
  obtain ⟨o', its, n, ho', _, hd', _⟩ := x
  rw [z, ho] at ho'
  cases ho'
  rw [hd] at hd'
  cases hd'
/-- the set at a while it is made: its table, its entries -/
structure SetN (h : Heap) (a : Addr) (es : Array (Int × Value)) (ep : Nat) (t : SetTable) : Prop where
  ob : ∃ o, h.get? a = some o ∧ o.ExactSet ∧ o.data = .set es ep t
  tab : TabOk t (es.toList.map (·.1))
  room : es.size * 5 < t.mask * 3
theorem SetN.fits {h : Heap} {a : Addr} {es : Array (Int × Value)} {ep : Nat} {t : SetTable} (R : SetN h a es ep t) : t.fits es.size = true := by
  have h1 := R.tab.sz
  rw [List.length_map, Array.length_toList] at h1
  have h3 := R.room
  unfold SetTable.fits SetTable.fill
  rw [R.tab.dm, Bool.and_eq_true, beq_iff_eq, decide_eq_true_eq]
  show t.place.size = es.size ∧ t.place.size + 0 ≤ t.mask
  omega
theorem picked (es : Array (Int × Value)) : ∀ l : List Nat, (∀ i ∈ l, i < es.size) → ((l.filterMap fun i => es[i]?).map (·.1) = l.map fun i => (es.map (·.1)).getD i 0) ∧ (∀ e ∈ l.filterMap fun i => es[i]?, e ∈ es.toList) ∧ (l.filterMap fun i => es[i]?).length = l.length
  | [], _ => ⟨rfl, fun _ h => (by cases h), rfl⟩
  | i :: l, h => by
    have hi := h i List.mem_cons_self
    obtain ⟨e1, e2, e3⟩ := picked es l fun j hj => h j (List.mem_cons_of_mem _ hj)
    rw [List.filterMap_cons_some (Array.getElem?_eq_getElem hi)]
    refine ⟨?_, fun e he => ?_, by rw [List.length_cons, List.length_cons, e3]⟩
    · rw [List.map_cons, List.map_cons, e1]
      have : (es.map (·.1)).getD i 0 = es[i].1 := by simp [Array.getD_eq_getD_getElem?, Array.getElem?_eq_getElem hi]
      rw [this]
    · rcases List.mem_cons.mp he with z | z
      · rw [z]; exact Array.mem_toList_iff.mpr (Array.getElem_mem hi)
      · exact e2 e z
section
variable {P : Program} {w : World} {A : Around} {E : Value → Shared → Prop} {s : Shared} {a x : Addr} {o : Obj} {es : Array (Int × Value)} {ep : Nat} {t : SetTable} {k : List Key}
theorem sn_relay (ho : s.heap.get? a = some o) (hex : o.ExactSet) (hd : o.data = .set es ep t) (T : TabOk t (es.toList.map (·.1))) (hfl : es.size ≤ t.mask) {wanted M : Nat} (hw : SetTable.sizeAbove wanted - 1 = M) (hM : MaskOk M) (hw2 : SetTable.sizeAbove wanted ≤ 128)
    (hn : es.size * 5 < M * 3) (few : es.size < 64) {Q : Unit → Shared → Prop} (hQ : ∀ h' es' ep' t', Heap.SameBut a s.heap h' → SetN h' a es' ep' t' → es'.size = es.size → (∀ e ∈ es'.toList, e ∈ es.toList) → Q () { s with heap := h' }) : wpAny (model P w) A (setRelay a wanted) Q E s := by
  have h1 := T.sz
  rw [List.length_map, Array.length_toList] at h1
  have hfits : t.fits es.size = true := by
    unfold SetTable.fits SetTable.fill
    rw [T.dm, Bool.and_eq_true, beq_iff_eq, decide_eq_true_eq]
    show t.place.size = es.size ∧ t.place.size + 0 ≤ t.mask
    omega
  obtain ⟨t', order, e, hp, T', em, _, _, _⟩ := relaid_ok t (hs := es.map (·.1)) (wanted := wanted) hw hM (by rw [Array.size_map]; omega)
  rw [Array.size_map] at hp
  obtain ⟨p1, p2, p3⟩ := picked es order.toList fun i hi => List.mem_range.mp (hp.mem_iff.mp hi)
  have el : (order.filterMap (es[·]?)).toList = order.toList.filterMap fun i => es[i]? := by
    first | exact Array.toList_filterMap .. | simp
  rw [← el] at p1 p2 p3
  have hs2 : (order.filterMap (es[·]?)).size = es.size := by
    rw [← Array.length_toList, p3, hp.length_eq, List.length_range]
  rw [← p1] at T'
  rw [setRelay_eq]
  refine wpAny_bind (wpAny_setState_of ho hd hfits ?_)
  dsimp only
  refine wp_if_neg (by rw [sizeLine_eq]; omega) ?_
  try refine wpAny_bind (wpAny_pure ?_)
  rw [e]
  dsimp only
  refine wpAny_bind ?_
  refine wp_if_neg (by rw [hs2]; simp) ?_
  try refine wpAny_bind (wpAny_pure ?_)
  refine wpAny_pure ?_
  dsimp only
  refine wpAny_storeSet_of ho hd ?_ (by rw [hs2, sizeLine_eq]; omega)
  exact hQ _ _ (ep + 1) t' (Heap.SameBut.update ..) ⟨⟨_, store_at ho hd, ⟨hex.1, hex.2.1, hex.2.2⟩, rfl⟩, T', by rw [hs2, em]; exact hn⟩ hs2 p2
/-- whether the hash of a tuple is told by its value: one or the other -/
theorem hv_key {b : Addr} {Q : Bool → Shared → Prop} (hk : IsK P w s.heap k b) (h : ∀ c, Q c s) : wpAny (model P w) A (hashByValue 8 (.ref b)) Q E s := by
  have ty := hk.typeIs
  obtain ⟨o, items, n, ho, _, hd, hi⟩ := hk
  unfold hashByValue
  refine wpAny_bind (wpAny_specialOf ty F.slot_tuple_hash.lookup ?_)
  show wpAny _ _ (seqItems? (.ref b) >>= _) _ _ s
  refine wpAny_bind (wpAny_seqItems ho hd ?_)
  refine wpAny_bind ?_
  show wpAny _ _ (forIn items _ _) _ _ s
  rw [← Array.forIn_toList]
  refine wpAny_forIn_list _ (fun rest r s' => s' = s ∧ (∀ v ∈ rest, (∃ i t, v = Value.int i t) ∨ ∃ z t, v = Value.str z t) ∧ (r.1 = none ∨ rest = [])) _ ?_ ?_ _ _ ⟨rfl, items_key hi, .inl rfl⟩
  · rintro v rest r s' ⟨rfl, hall, hr⟩
    have rest' : ∀ u ∈ rest, _ := fun u hu' => hall u (List.mem_cons_of_mem _ hu')
    rcases hall v List.mem_cons_self with ⟨i, t, rfl⟩ | ⟨z, t, rfl⟩
    · rw [show hashByValue 7 (.int i t) = pure true from rfl]
      refine wpAny_bind (wpAny_pure ?_)
      simp only [Bool.not_true, Bool.false_eq_true, if_false]
      exact wpAny_pure ⟨rfl, rest', .inl rfl⟩
    · rw [show hashByValue 7 (.str z t) = pure false from rfl]
      refine wpAny_bind (wpAny_pure ?_)
      simp only [Bool.not_false, if_true]
      exact wpAny_pure (wpAny_pure (h false))
  · rintro ⟨r1, r2⟩ s' ⟨rfl, _, _⟩
    cases r1 with
    | none => exact wpAny_pure (h true)
    | some c => exact wpAny_pure (h c)
end
end Pw
set_option maxHeartbeats 3200000
/-! Pw53: set(t): an item added; the loop; the call. -/
namespace Pw
open PySem PySem.Spec PyProof.Rows L2

def sn_rest (a : Addr) (es : Array (Int × Value)) (t : SetTable) : Sem Bool := do
  if !false && t.tooFull then setRelay a (SetTable.grown (es.size + 1))
  return true
section
variable {P : Program} {w : World} {A : Around} {E : Value → Shared → Prop} {s : Shared} {a x : Addr} {es : Array (Int × Value)} {ep : Nat} {t : SetTable} {k : List Key}
theorem inserted (es : Array (Int × Value)) (t : SetTable) (j : Nat) (q : Int × Value) : (SetTable.insertAt es (SetTable.below t.place j) q).toList = es.toList.take (SetTable.below t.place j) ++ q :: es.toList.drop (SetTable.below t.place j) := SetTable.toList_insertAt ..
theorem sn_add (R : SetN s.heap a es ep t) (hx : IsK P w s.heap k x) (hy : ∀ e ∈ es.toList, ∃ c k', e.2 = .ref c ∧ IsK P w s.heap k' c ∧ k' ≠ k) (hu : A.units < cLine) (few : es.size + 1 < 64) {H : Int} {Q : Bool → Shared → Prop}
    (hQ : ∀ h' es' ep' t', Heap.SameBut a s.heap h' → SetN h' a es' ep' t' → es'.size = es.size + 1 → (∀ e ∈ es'.toList, e.2 = .ref x ∨ e ∈ es.toList) → Q true { s with heap := h' }) : wpAny (model P w) A (setAddHashed a (.ref x) H) Q E s := by
  obtain ⟨o, ho, hex, hd⟩ := R.ob
  have hroom := R.room
  obtain ⟨K, hKf, hK, hKb⟩ := R.tab.first (by rw [List.length_map, Array.length_toList]; omega) H
  have hbig : K < 100000 := by
    have : 10 * SetTable.turns t.mask ≤ 1420 := by
      unfold SetTable.turns
      rcases R.tab.mok with e | e | e <;> omega
    omega
  unfold setAddHashed
  refine wpAny_holding ?_
  rw [show (100000 : Nat) = 99999 + 1 from rfl, setAddHashedIn_succ]
  refine wpAny_bind (wpAny_setState_of ho hd R.fits ?_)
  dsimp only
  refine wp_if_neg (by simp [byScan, Value.scannable]) ?_
  try refine wpAny_bind (wpAny_pure ?_)
  refine wpAny_bind ?_
  unfold setSearch
  refine sn_search ho hd R.tab R.fits hx hy hu hKf hK hKb ?_ 100000 0 none rfl (Nat.zero_le _) (by omega)
  dsimp only
  refine wpAny_bind (wpAny_setState_of ho hd R.fits ?_)
  dsimp only
  obtain ⟨q1, q2, q3, q4, _, _, _, _, q9⟩ := R.tab.put hK hKb
  have ins := inserted es t (way t.mask H K) (H, Value.ref x)
  generalize hpt : t.put (way t.mask H K) = pt at q1 q3 q4 q9 ⊢
  obtain ⟨t1, p⟩ := pt
  dsimp only at q1 q3 q4 q9 ⊢
  subst q1
  rw [List.length_map, Array.length_toList] at q2 q9
  have hm : (SetTable.insertAt es (SetTable.below t.place (way t.mask H K)) (H, Value.ref x)).toList.map (·.1) = (es.toList.map (·.1)).take (SetTable.below t.place (way t.mask H K)) ++ H :: (es.toList.map (·.1)).drop (SetTable.below t.place (way t.mask H K)) := by
    rw [ins, List.map_append, List.map_cons, List.map_take, List.map_drop]
  rw [← hm] at q3
  generalize SetTable.below t.place (way t.mask H K) = p at *
  have hes : (SetTable.insertAt es p (H, Value.ref x)).size = es.size + 1 := by
    rw [← Array.length_toList, ins, List.length_append, List.length_cons, List.length_take, List.length_drop, Array.length_toList]
    omega
  have hin : ∀ e ∈ (SetTable.insertAt es p (H, Value.ref x)).toList, e.2 = .ref x ∨ e ∈ es.toList := fun e he => by
    rw [ins] at he
    rcases List.mem_append.mp he with z | z
    · exact .inr (List.mem_of_mem_take z)
    · rcases List.mem_cons.mp z with z | z
      · exact .inl (by rw [z])
      · exact .inr (List.mem_of_mem_drop z)
  generalize SetTable.insertAt es p (H, Value.ref x) = es1 at *
  -- whatever is told of the hash, the table is the same
  have main : ∀ t2 : SetTable, TabOk t2 (es1.toList.map (·.1)) → t2.mask = t.mask → t2.fill = es.size + 1 → wpAny (model P w) A (storeSet a es1 t2 >>= fun _ => sn_rest a es t2) Q E s := fun t2 T2 m2 f2 => by
    refine wpAny_bind (wpAny_storeSet_of ho hd ?_ (by rw [hes, sizeLine_eq]; omega))
    have sb : Heap.SameBut a s.heap (s.heap.update a (Obj.putSet es1 t2)) := Heap.SameBut.update ..
    have ho1 := store_at (es' := es1) (t' := t2) ho hd
    generalize s.heap.update a (Obj.putSet es1 t2) = h1 at sb ho1 ⊢
    unfold sn_rest
    by_cases hf : t2.tooFull = true
    · have hfull : (es.size + 1) * 5 ≥ t2.mask * 3 := by
        have h := hf
        unfold SetTable.tooFull at h
        rw [decide_eq_true_eq, f2] at h
        exact h
      have go : ∀ M, SetTable.sizeAbove (SetTable.grown (es.size + 1)) - 1 = M → MaskOk M → SetTable.sizeAbove (SetTable.grown (es.size + 1)) ≤ 128 → (es.size + 1) * 5 < M * 3 →
          wpAny (model P w) A (setRelay a (SetTable.grown (es.size + 1))) (fun _ s' => wpAny (model P w) A (pure true) Q E s') E { s with heap := h1 } := fun M g1 g2 g3 g4 => by
        refine sn_relay (s := { s with heap := h1 }) ho1 ⟨hex.1, hex.2.1, hex.2.2⟩ rfl T2 (by rw [hes, m2]; omega) g1 g2 g3 (by rw [hes]; exact g4) (by rw [hes]; exact few) fun h2 es2 ep2 t3 sb2 R2 sz2 in2 => wpAny_pure ?_
        exact hQ h2 es2 ep2 t3 (sb.trans sb2) R2 (sz2.trans hes) fun e he => hin e (in2 e he)
      have cs : (t.mask = 7 ∧ es.size = 4) ∨ (t.mask = 31 ∧ es.size = 18) := by
        rw [m2] at hfull
        rcases R.tab.mok with e | e | e
        · left; rw [e] at hfull hroom; exact ⟨e, by omega⟩
        · right; rw [e] at hfull hroom; exact ⟨e, by omega⟩
        · exfalso; rw [e] at hfull; omega
      have rel : wpAny (model P w) A (setRelay a (SetTable.grown (es.size + 1))) (fun _ s' => wpAny (model P w) A (pure true) Q E s') E { s with heap := h1 } := by
        rcases cs with ⟨_, e2⟩ | ⟨_, e2⟩
        · exact go 31 (by rw [e2, size_20]) (.inr (.inl rfl)) (by rw [e2, size_20]; decide) (by omega)
        · exact go 127 (by rw [e2, size_76]) (.inr (.inr rfl)) (by rw [e2, size_76]; decide) (by omega)
      first
        | (refine wpAny_bind ?_; refine wp_if_pos (by simp [hf]) ?_; exact rel)
        | (refine wp_if_pos (by simp [hf]) ?_; exact wpAny_bind rel)
    · have nf : ¬ (!false && t2.tooFull) = true := by simp [hf]
      have last : Q true { s with heap := h1 } := by
        refine hQ h1 es1 (ep + 1) t2 sb ⟨⟨_, ho1, ⟨hex.1, hex.2.1, hex.2.2⟩, rfl⟩, T2, ?_⟩ hes hin
        have h := hf
        unfold SetTable.tooFull at h
        rw [decide_eq_true_eq, f2] at h
        rw [hes]
        omega
      first
        | exact wp_if_neg nf (wpAny_pure last)
        | (refine wpAny_bind ?_; refine wp_if_neg nf ?_; exact wpAny_pure (wpAny_pure last))
  have told : ∀ b : Bool, wpAny (model P w) A (storeSet a es1 (if b = true then t1 else { t1 with plain := false }) >>= fun _ => sn_rest a es (if b = true then t1 else { t1 with plain := false })) Q E s := fun b => by
    cases b with
    | true => exact main t1 q3 q4 q9
    | false => exact main { t1 with plain := false } ⟨q3.ris, q3.dm, q3.sz, q3.mok, q3.bd, q3.reach⟩ q4 q9
  by_cases hp : t1.plain = true
  · first
      | (refine wpAny_bind ?_; refine wp_if_pos hp ?_; exact hv_key hx fun b => told b)
      | exact wp_if_pos hp (wpAny_bind (hv_key hx fun b => told b))
  · first
      | (refine wpAny_bind ?_; refine wp_if_neg hp ?_; exact wpAny_pure (told true))
      | exact wp_if_neg hp (wpAny_bind (wpAny_pure (told true)))
end
end Pw
set_option maxHeartbeats 3200000
/-! Pw54: set(t), len(set(t)) of a tuple of tuples that are all unlike. -/
namespace Pw
open PySem PySem.Spec PyProof.Rows L2

/-- the set object as it is new -/
abbrev setO (w : World) : Obj := { cls := .type "set", dict := none, data := .set #[] 0 (.fresh 0 0 (!w.params.followText "set-order")) }
section
variable {P : Program} {w : World} {A : Around} {E : Value → Shared → Prop} {s : Shared}
/-- what the loop keeps: the first i items are in the set -/
def SetUp (P : Program) (w : World) (ks : List (Addr × List Key)) (S : Addr) (i : Nat) (h : Heap) : Prop := ∃ es ep t, SetN h S es ep t ∧ es.size = i ∧ ∀ e ∈ es.toList, ∃ p ∈ ks.take i, e.2 = .ref p.1
theorem setUp_at {ks : List (Addr × List Key)} {S : Addr} {i : Nat} {h h' : Heap} (x : SetUp P w ks S i h) (e : ∀ o, h.get? S = some o → h'.get? S = some o) : SetUp P w ks S i h' :=
  let ⟨es, ep, t, R, r⟩ := x
  let ⟨o, ho, q⟩ := R.ob
  ⟨es, ep, t, ⟨⟨o, e o ho, q⟩, R.tab, R.room⟩, r⟩
theorem setUp_zero {ks : List (Addr × List Key)} {S : Addr} {h : Heap} (ho : h.get? S = some (setO w)) : SetUp P w ks S 0 h :=
  ⟨#[], 0, _, ⟨⟨_, ho, ⟨rfl, rfl, rfl⟩, rfl⟩, ⟨List.Pairwise.nil, rfl, rfl, .inl rfl, fun x hx => (by cases hx), fun i h j hi => (by simp at hi)⟩, by show 0 * 5 < 7 * 3; decide⟩, rfl, fun e he => by simp at he⟩
theorem set_loop {I : Addr} {fp wr : List Addr} {G : Array GenState → Array GenState → Prop} {n : Nat} {Pv : Nat → Value → Prop} {St : Nat → Shared → Prop} {R : Result → Shared → Prop} (W : WalksS P w A.in1 I fp wr G n Pv St) (S : Addr) (hSf : S ∉ fp) (ks : List (Addr × List Key)) (hn : n = ks.length) (few : ks.length < 63) (nd : (ks.map (·.2)).Nodup)
    (hval : ∀ i v, Pv i v → ∃ p, ks[i]? = some p ∧ v = .ref p.1) (h0 : Heap) (hk : ∀ p ∈ ks, IsK P w h0 p.2 p.1) (hS0 : h0.get? S = none) (hw0 : ∀ b ∈ wr, h0.get? b = none) (hu : A.in1.units < cLine) :
    ∀ (k i : Nat) (s : Shared), n - i = k → i ≤ n → St i s → (∀ b o, h0.get? b = some o → s.heap.get? b = some o) → SetUp P w ks S i s.heap →
      (∀ s', Moved (S :: wr) G s s' → SetUp P w ks S n s'.heap → (∀ b o, h0.get? b = some o → s'.heap.get? b = some o) → R (.ok (.ret .none)) s') → codeAny (model P w) A (.builtin "set.update.loop" ⟨[.ref S, .ref I], []⟩) R s := by
  have hSw : S ∉ wr := fun h => hSf (W.sub _ h)
  have old : ∀ {s s' : Shared}, Moved wr G s s' → (∀ b o, h0.get? b = some o → s.heap.get? b = some o) → ∀ b o, h0.get? b = some o → s'.heap.get? b = some o := fun hm hp b o e => hm.heap b o (fun hb => by rw [hw0 b hb] at e; cases e) (hp b o e)
  have sub : ∀ b ∈ wr, b ∈ S :: wr := fun b hb => List.mem_cons_of_mem _ hb
  intro k
  induction k with
  | zero =>
    intro i s hk' hi hst hp hS hR
    obtain rfl : i = n := by omega
    refine codeAny_builtin F.entry_set_update_loop ?_
    rw [Around.under_plainId F.plain_set_update_loop _]
    show wpAny _ A.in1 (pyNext (.ref I) >>= _) _ _ s
    refine wpAny_bind (W.done s _ _ hst fun s' hm => ?_)
    show wpAny _ A.in1 (ret Value.none) _ _ s'
    exact wpAny_pure (hR s' (hm.mono sub) (setUp_at hS fun o e => hm.heap S o hSw e) (old hm hp))
  | succ k ih =>
    intro i s hk' hi hst hp hS hR
    refine codeAny_builtin F.entry_set_update_loop ?_
    rw [Around.under_plainId F.plain_set_update_loop _]
    show wpAny _ A.in1 (pyNext (.ref I) >>= _) _ _ s
    refine wpAny_bind (W.item i s _ _ (by omega) hst fun v s' hP hst' hm => ?_)
    obtain ⟨p, hpi, rfl⟩ := hval i v hP
    have hp' := old hm hp
    obtain ⟨es, ep, t, N, sz, ents⟩ := setUp_at hS (h' := s'.heap) fun o e => hm.heap S o hSw e
    have up : ∀ {q : Addr × List Key}, q ∈ ks → IsK P w s'.heap q.2 q.1 := fun hq => isK_up (hk _ hq) fun o e => hp' _ o e
    have hpm := List.mem_of_getElem? hpi
    have tk1 : ks.take (i + 1) = ks.take i ++ [p] := by rw [List.take_succ, hpi]; rfl
    show wpAny _ A.in1 (holding [Value.ref p.1] (setAdd S (.ref p.1)) >>= _) _ _ s'
    refine wpAny_bind (wpAny_holding ?_)
    unfold setAdd
    refine wpAny_holding (wpAny_bind (wpAny_pyHash_tuple hu (up hpm) ?_))
    refine sn_add (s := { s' with toks := s'.toks + (p.2.length + 1) }) N (up hpm) (fun e he => ?_) hu (by omega) fun h' es' ep' t' sb N' sz' in' => ?_
    · obtain ⟨q, hq, e2⟩ := ents e he
      refine ⟨q.1, q.2, e2, up (List.mem_of_mem_take hq), fun z => ?_⟩
      have n1 : ((ks.take (i + 1)).map (·.2)).Nodup := by
        rw [List.map_take]; exact nd.sublist (List.take_sublist ..)
      rw [tk1, List.map_append] at n1
      exact (List.nodup_append.mp n1).2.2 _ (List.mem_map.mpr ⟨q, hq, rfl⟩) _ (List.mem_singleton.mpr rfl) z
    · have hp2 : ∀ b o, h0.get? b = some o → h'.get? b = some o := fun b o e => (sb.2 b fun z => by rw [z, hS0] at e; cases e).trans (hp' b o e)
      refine wpAny_pure ⟨plainId_quiet F.plain_set_update_loop _, ih (i + 1) _ (by omega) (by omega) (W.frame _ s' _ _ hst' (Nat.le_add_right _ _) fun b hb o e => ?_) hp2 ⟨es', ep', t', N', by omega, fun e he => ?_⟩ fun s'' hm2 hS2 hp3 => ?_⟩
      · rw [sb.2 b (fun h : b = S => hSf (by rw [← h]; exact hb))]; exact e
      · rw [tk1]
        rcases in' e he with z | z
        · exact ⟨p, List.mem_append_right _ (List.mem_singleton.mpr rfl), z⟩
        · obtain ⟨q, hq, e2⟩ := ents e z
          exact ⟨q, List.mem_append_left _ hq, e2⟩
      · refine hR s'' (Moved.trans W.gtrans ((hm.mono sub).then_heap (Nat.le_add_right _ _) fun b o hb e => ?_) hm2) hS2 hp3
        rw [sb.2 b (fun h : b = S => hb (by rw [h]; exact List.mem_cons_self))]; exact e
/-- set(t) -/
theorem set_call {l : Addr} {items : Array Value} (ks : List (Addr × List Key)) {Q : Value → Shared → Prop} (hh : A.handled = none) (hl : s.heap.IsTuple l items) (hit : items.toList = ks.map fun p => Value.ref p.1) (hk : ∀ p ∈ ks, IsK P w s.heap p.2 p.1) (few : ks.length < 63) (nd : (ks.map (·.2)).Nodup) (hu : A.units + 3 < cLine)
    (h : ∀ (h' : Heap) (tk : Nat), SetUp P w ks s.heap.objs.size ks.length h' → (∀ b o, s.heap.get? b = some o → h'.get? b = some o) → Q (.ref s.heap.objs.size) { s with heap := h', toks := tk }) : wpAny (model P w) A (call (.type "set") [.ref l]) Q E s := by
  have isz : items.size = ks.length := by
    have q := congrArg List.length hit
    rw [Array.length_toList, List.length_map] at q
    exact q
  obtain ⟨c, tl, hmro⟩ := F.called_set.mro
  have hmade := F.called_set.made
  have hsub := F.called_set.sub
  refine wpAny_call (codeAny_of_tree ?_)
  show wpAny _ _ (callAny (.type "set") _) _ _ _
  refine wpAny_pure ⟨Code.quiet_builtin _ (by decide +kernel), codeAny_builtin F.entry_type_call ?_⟩
  rw [Around.under_plain (weight_type_call_type "set" [.ref l] []) rfl]
  have h1 := F.called_set.notType
  have h2 := F.called_set.canCreate
  have hct := F.typeCall_set_1 (.ref l)
  repeat (any_goals (first | assumption | wp_step))
  refine codeAny_mono (code_set_led1 (.ref l) (E := E) (Q₁ := fun obj s₁ => obj = .ref s.heap.objs.size ∧ s₁ = { s with heap := s.heap.push (setO w) }) ⟨rfl, rfl⟩) fun r s₁ hr => ?_
  cases r with
  | error e => exact hr
  | ok fl =>
    cases fl with
    | ret obj =>
      obtain ⟨rfl, rfl⟩ := hr
      have hS : (s.heap.push (setO w)).get? s.heap.objs.size = some (setO w) := Heap.get?_push_size _ rfl
      have hT : Shared.TypeIs { s with heap := s.heap.push (setO w) } (.ref s.heap.objs.size) "set" := ⟨_, hS, rfl⟩
      have hli := F.called_set.init.lookup
      have hbi := F.called_set.init.bind (.ref s.heap.objs.size)
      repeat (any_goals (first | assumption | wp_step))
      refine codeAny_mono (codeAny_call_builtin (R := wants (fun r s₂ => r = .none ∧ ∃ h' tk, s₂ = { s with heap := h', toks := tk } ∧ SetUp P w ks s.heap.objs.size ks.length h' ∧ (∀ b o, s.heap.get? b = some o → h'.get? b = some o)) E)
        F.called_set.init.plain F.entry_set_init (check_set_init_1 hT ?_)) fun r₂ s₂ hr₂ => ?_
      · obtain ⟨⟨ocls, odict, odata, oslots⟩, hol, hcl, nl, hdl⟩ := hl
        simp only at hcl hdl
        subst hcl; subst hdl
        have hol' : (s.heap.push (setO w)).get? l = some { cls := .type "tuple", dict := odict, data := .seq items nl, slots := oslots } := Heap.get?_push_of_some _ hol
        have hsls := F.sub_tuple_set
        have hslf := F.sub_tuple_frozenset
        have hne : (Value.type "tuple" == Value.type "dict") = false := by decide
        have hl1 : (s.heap.push (setO w)).IsTuple l items := ⟨_, hol', rfl, nl, rfl⟩
        unfold Builtin.«set.__init__» noKeywords Builtin.Frozenset.updateFrom
        generalize hPI : pyIter = PI
        wp_walk
        subst hPI
        refine wpAny_pyIter_tuple hl1 (wpAny_bind (wpAny_runValue ?_))
        have hlS : l < s.heap.objs.size := Heap.lt_size hol
        have hh3 : A.in1.in1.in1.handled = none := by simp [hh]
        have hz1 : (s.heap.push (setO w)).objs.size = s.heap.objs.size + 1 := Heap.size_push ..
        have hneI : l ≠ (s.heap.push (setO w)).objs.size := by rw [hz1]; exact Nat.ne_of_lt (Nat.lt_succ_of_lt hlS)
        have hSf : s.heap.objs.size ∉ [(s.heap.push (setO w)).objs.size, l] := by
          rw [hz1]; simp only [List.mem_cons, List.not_mem_nil, or_false, not_or]
          exact ⟨Nat.ne_of_lt (Nat.lt_succ_self _), Nat.ne_of_gt hlS⟩
        have hval : ∀ (i : Nat) (v : Value), items[i]? = some v → ∃ p, ks[i]? = some p ∧ v = .ref p.1 := fun i v hv => by
          have q : items.toList[i]? = some v := by rw [Array.getElem?_toList]; exact hv
          rw [hit, List.getElem?_map] at q
          cases hq : ks[i]? with
          | none => rw [hq] at q; cases q
          | some p => rw [hq] at q; exact ⟨p, rfl, (Option.some.inj q).symm⟩
        have off : ∀ b, s.heap.objs.size ≤ b → s.heap.get? b = none := fun b hb => by
          cases q : s.heap.get? b with
          | none => rfl
          | some o => exact absurd (Nat.lt_of_lt_of_le (Heap.lt_size q) hb) (Nat.lt_irrefl _)
        refine set_loop ((Walks.tuple hh3 _ l hneI items).toS) s.heap.objs.size hSf ks isz few nd hval s.heap hk (off _ (Nat.le_refl _)) (fun b hb => off b (by rw [List.mem_singleton.mp hb, hz1]; exact Nat.le_succ _)) hu (items.size - 0) 0 _ (by omega) (Nat.zero_le _)
          ⟨⟨_, Heap.get?_push_size _ rfl, rfl, rfl⟩, (hl1.push _)⟩ (fun b o e => Heap.get?_push_of_some _ (Heap.get?_push_of_some _ e)) (setUp_zero (Heap.get?_push_of_some _ hS)) ?hR
        case hR =>
          intro s' hm hS' hkp
          obtain ⟨h', g2, d', tk', os'⟩ := s'
          have eg : g2 = s.gens := hm.gens
          have ed : d' = s.drawn := hm.drawn
          have eo : os' = s.os := hm.os
          subst eg; subst ed; subst eo
          show wpAny _ _ _ _ _ _
          refine wpAny_pure ?_
          show wpAny _ _ (ret Value.none) _ _ _
          rw [isz] at hS'
          exact wpAny_pure ⟨rfl, h', tk', rfl, hS', hkp⟩
      · cases r₂ with
        | error e => exact hr₂
        | ok fl₂ =>
          cases fl₂ with
          | ret r =>
            obtain ⟨rfl, h', tk, rfl, hS', hk'⟩ := hr₂
            repeat (any_goals (first | assumption | wp_step))
            exact h _ _ hS' hk'
          | _ => exact hr₂.elim
    | _ => exact hr.elim
end
end Pw
set_option maxHeartbeats 3200000
/-! Pw55: len(set(t)), {}. -/
namespace Pw
open PySem PySem.Spec PyProof.Rows L2

/-- tuples that are keys, as objects -/
theorem keys_of {X : Cx} {pins : List (Addr × Obj)} {σ : L2.St} {H : Hp} {s : Shared} {φ : Nat → Addr} {N : Nat} (I : Inv X pins σ H s) : ∀ {xs : List D} {vs : List V} {us : List Value} {ks : List (List Key)}, RepL X.K H φ N xs vs → Vals vs us → xs.mapM keyT = some ks →
    ∃ kas : List (Addr × List Key), us = kas.map (fun p => Value.ref p.1) ∧ kas.map (·.2) = ks ∧ ∀ p ∈ kas, IsK X.prog X.w s.heap p.2 p.1
  | _, _, _, ks, .nil, .nil, e => by
    have e : some [] = some ks := by simpa using e
    cases e
    exact ⟨[], rfl, rfl, fun p h => by cases h⟩
  | x :: xs, v :: vs, u :: us, ks, .cons rx tx, .cons vx wx, e => by
    rw [List.mapM_cons] at e
    cases h1 : keyT x with
    | none => rw [h1] at e; cases e
    | some k =>
      cases h2 : xs.mapM keyT with
      | none => rw [h1, h2] at e; cases e
      | some r =>
        rw [h1, h2] at e
        have e : some (k :: r) = some ks := e
        cases e
        obtain ⟨b, rfl, hb⟩ := keyT_inv rx h1
        obtain ⟨kas, e1, e2, e3⟩ := keys_of I tx wx h2
        cases vx
        refine ⟨(b, k) :: kas, by rw [e1]; rfl, by rw [List.map_cons, e2], fun p hp => ?_⟩
        rcases List.mem_cons.mp hp with z | z
        · rw [z]; exact key_of I.hok hb
        · exact e3 p z
section
variable {CS : List Addr} {X : Cx} {A : W} {e : Expr} {p p2 pos pos2 : Pos}
theorem r_lenset (hc : X.calm = true) (hu : X.A.units + 65 < cLine) (hg : Gl X "len") (hm : X.mg "len" = none) (hg2 : Gl X "set") (hm2 : X.mg "set" = none) (mA : MW A) (ha : PA X [e] (tA CS X A.a))
    (hs : starEach [e] X.env = (false, eval e X.env) :: starEach [] X.env) : PE X (.Call (.Name "len" p) [.Call (.Name "set" p2) [e] [] pos2] [] pos) (tE CS X fun σ S Q => A.a σ S fun ds S1 => biD .lenset ds S1 Q) := by
  refine ⟨fun pins s σ H Q I h => ?_⟩
  obtain ⟨env, S, φ, at0, h⟩ := h
  refine Call_ (ld_blt I hg hm PySem.boot_len (callWith_builtin1 (args_cons (Call_ (ld_blt I hg2 hm2 boot_set (callWith_type1 (thn (ha.run pos2 pins s σ H _ I (tA_mk (G := fun vs H1 => ∃ ds S1 φ1, Le H φ S.length H1 φ1 S1.length ∧ At CS X env S1 φ1 σ H1 ∧ RepL X.K H1 φ1 S1.length ds vs ∧ biD .lenset ds S1 (KQ X.K H φ S.length Q)) mA at0 h fun ds S1 φ1 vs H1 l1 a1 rl q => ⟨ds, S1, φ1, l1, a1, rl, q⟩)) fun us s1 ⟨vs, H1, I1, rv, ds, S1, φ1, l1, a1, rl, q⟩ => ?_) hs rfl))) rfl) rfl rfl))
  match ds, rl, q with
  | [x], rl, q =>
    obtain ⟨v, rfl, rx⟩ := rl1 rl
    obtain ⟨u, rfl, ru⟩ := rv.one
    cases rx with
    | @tup a vxs xs _ qa rxs =>
      cases ru
      have q : (match xs.mapM keyT with
        | some ks => ks.length ≤ 60 ∧ ks.Nodup ∧ KQ X.K H φ S.length Q (.int ks.length) S1
        | none => False) := q
      cases hk : xs.mapM keyT with
      | none => rw [hk] at q; exact q.elim
      | some ks =>
        rw [hk] at q
        obtain ⟨its, rv1, pl, hz⟩ := I1.tuple qa.sqt
        obtain ⟨kas, e1, e2, e3⟩ := keys_of I1 rxs rv1 hk
        have hl : kas.length = ks.length := by rw [← e2, List.length_map]
        refine set_call (P := X.prog) (w := X.w) kas (I.ok.hd hc) (show s1.heap.IsTuple a its.toArray from pl) (by simpa using e1) e3 (by omega) (by rw [e2]; exact q.2.1) (by omega) fun h' tk hS hkp => args_nil ?_
        obtain ⟨es, ep, t, N, sz, _⟩ := hS
        obtain ⟨o, ho, hex, hd⟩ := N.ob
        have I2 : Inv X pins σ H1 { s1 with heap := h', toks := tk } := I1.kept hkp
        refine call_len_set ho hex hd N.fits (by rw [sz, hl]; omega) ⟨.int ks.length, H1, I2.tok _, ⟨_, by rw [sz, hl]⟩, KQ.here (KQ.le l1 q.2.2) a1.w (.int _)⟩
    | _ => exact False.elim q
  | _ :: _ :: _, _, q => exact absurd q (by unfold biD; split <;> simp_all)
theorem r_dnewK : PE X (.Dict [] [] pos) (tE CS X fun _ S Q => Q (.loc S.length) (S ++ [.dK []])) := pe_dnewK.imp fun σ H Q ⟨env, S, φ, at0, h⟩ => fun p hp => KQ.new h at0.w hp (fun _ => nofun) ⟨[], upd_same, .nil⟩
theorem r_dnewT : PE X (.Dict [] [] pos) (tE CS X fun _ S Q => Q (.loc S.length) (S ++ [.dT []])) := pe_dnewT.imp fun σ H Q ⟨env, S, φ, at0, h⟩ => fun p hp => KQ.new h at0.w hp (fun _ => nofun) ⟨[], upd_same, .nil⟩
end
end Pw
set_option maxHeartbeats 1000000
/-! Pw61: dict(l) of a list of pairs, the keys tuples. -/
namespace Pw
open PySem PySem.Spec PyProof.Rows L2

theorem pairT_some {d : D} {p : List Key × D} (h : pairT d = some p) : ∃ kk k q, d = .tup kk [k, p.2] ∧ keyT k = some q ∧ p = (q, p.2) := by
  unfold pairT at h
  split at h
  · rename_i kk k v
    obtain ⟨q, hq, rfl⟩ := Option.map_eq_some_iff.mp h
    exact ⟨kk, k, q, rfl, hq, rfl⟩
  · cases h
theorem pairsT {X : Cx} {pins : List (Addr × Obj)} {σ : L2.St} {H : Hp} {s : Shared} {φ : Nat → Addr} {N : Nat} (I : Inv X pins σ H s) : ∀ {ds : List D} {vs : List V} {its : List Value} {kvs : List (List Key × D)}, RepL X.K H φ N ds vs → Vals vs its → ds.mapM pairT = some kvs →
    ∃ (kvV : List (List Key × V)) (hps : List (List Key × Addr × Value)), PairsR X.K H φ N kvs kvV ∧ KT H kvV hps ∧ hps.length = its.length ∧ ∀ (j : Nat) x, hps[j]? = some x → ∃ b, its[j]? = some (.ref b) ∧ s.heap.IsTuple b #[.ref x.2.1, x.2.2]
  | [], _, _, kvs, .nil, .nil, e => by
    have e : some [] = some kvs := by simpa using e
    cases e
    exact ⟨[], [], .nil, .nil, rfl, fun j x h => by simp at h⟩
  | d :: ds, _, _, kvs, .cons rd td, .cons vt wt, e => by
    rw [List.mapM_cons] at e
    cases hp : pairT d with
    | none => rw [hp] at e; cases e
    | some p =>
      cases hr : ds.mapM pairT with
      | none => rw [hp, hr] at e; cases e
      | some r =>
        rw [hp, hr] at e
        have e : some (p :: r) = some kvs := e
        cases e
        obtain ⟨kvV, hps, p1, p2, p3, p4⟩ := pairsT I td wt hr
        obtain ⟨kk, k, q, hd, hq, hpq⟩ := pairT_some hp
        subst hd
        cases rd with
        | @tup a ys _ _ qa rys =>
        obtain ⟨its2, rv2, tp, _⟩ := I.tuple qa.sqt
        cases rys with
        | cons rk r2 =>
        cases r2 with
        | cons ry r3 =>
        cases r3
        cases rv2 with
        | cons rvk rr =>
        cases rr with
        | cons rvy rr =>
        cases rr
        obtain ⟨b, rfl, eb⟩ := keyT_inv rk hq
        cases rvk
        cases vt
        refine ⟨(q, _) :: kvV, (q, b, _) :: hps, .cons ⟨by rw [hpq], ry⟩ p1, .cons ⟨rfl, eb, rvy⟩ p2, by simp [p3], fun j x hx => ?_⟩
        cases j with
        | zero =>
          simp only [List.getElem?_cons_zero, Option.some.injEq] at hx
          subst hx
          exact ⟨a, rfl, tp⟩
        | succ j =>
          simp only [List.getElem?_cons_succ] at hx ⊢
          exact p4 j x hx
theorem kt_fold {H : Hp} {kvs : List (List Key × V)} {xs : List (List Key × Addr × Value)} (t : KT H kvs xs) : ∀ {a : List (List Key × V)} {b : List (List Key × Addr × Value)}, KT H a b → KT H (kvs.foldl (fun acc kv => putK acc kv.1 kv.2) a) (storedAllH b xs) := by
  induction t with
  | nil => exact fun h => h
  | @cons p q ps qs h t ih =>
    intro a b hab
    obtain ⟨e, hb, rv⟩ := h
    have := ih (hab.put p.1 (b := q.2.1) hb rv)
    rw [e] at this
    rw [List.foldl_cons, e]
    exact this
theorem pr_fold {K : PySem.W.Frag} {H : Hp} {φ : Nat → Addr} {N : Nat} {kvs : List (List Key × D)} {kvV : List (List Key × V)} (t : PairsR K H φ N kvs kvV) : ∀ {a : List (List Key × D)} {b : List (List Key × V)}, PairsR K H φ N a b → PairsR K H φ N (kvs.foldl (fun acc kv => putD acc kv.1 kv.2) a) (kvV.foldl (fun acc kv => putK acc kv.1 kv.2) b) := by
  induction t with
  | nil => exact fun h => h
  | @cons x y _ _ z t ih =>
    intro a b h
    obtain ⟨k, d⟩ := x
    obtain ⟨q, v⟩ := y
    obtain ⟨e, rz⟩ := z
    have e : k = q := e
    subst e
    exact ih (putD_put _ h rz)
theorem fold_len : ∀ (l a : List (List Key × V)), (l.foldl (fun acc kv => putK acc kv.1 kv.2) a).length ≤ a.length + l.length
  | [], a => by simp
  | kv :: l, a => by
    have h1 := fold_len l (putK a kv.1 kv.2)
    have h2 := length_putK a kv.1 kv.2
    rw [List.foldl_cons, List.length_cons]; omega
theorem b_dict {X : Cx} (hc : X.calm = true) (hu : X.A.units + 5 < cLine) : CallR X (.type "dict") (rDn X.K (biD .dictPairs)) := by
  intro pins s σ H xs us Q I rs h
  obtain ⟨ds, S, φ, w, hds, h⟩ := h
  match ds, hds, h with
  | [.loc n], hds, h =>
    obtain ⟨v, rfl, hd⟩ := rl1 hds
    have h : (match S[n]? with
      | some (.lst ds) => match ds.mapM pairT with
        | some kvs => kvs.length ≤ 1000 ∧ KQ X.K H φ S.length Q (.loc S.length) (S ++ [.dT (kvs.foldl (fun acc kv => putD acc kv.1 kv.2) [])])
        | none => False
      | _ => False) := h
    cases hd with
    | loc _ hn =>
    split at h
    · rename_i dl hS
      split at h
      · rename_i kvs hk
        obtain ⟨u, rfl, ru⟩ := Vals.one rs
        cases ru
        obtain ⟨xs, hx, rx⟩ := w.cell _ _ hS
        obtain ⟨its, rv, pl, hz⟩ := I.list (a := φ n) (xs := xs) (.inl (.inl hx))
        obtain ⟨kvV, hps, p1, p2, p3, p4⟩ := pairsT I rx rv hk
        have kl : kvV.length = kvs.length := (Paired.length p1).symm
        have hl : hps.length = kvV.length := (Paired.length p2).symm
        refine call_dict_pairsH (prog := X.prog) (w := X.w) (knd := tupleKind (mixKind X.prog X.w)) (ps := hps) (PairArg.list (prog := X.prog) (w := X.w) (φ n) its.toArray (fun j => match its[j]? with | some (.ref b) => b | _ => 0) (hps.map fun x => (.ref x.2.1, x.2.2))) (I.ok.hd hc)
          (show X.A.units + 1 + 1 < cLine by omega) ⟨pl, ⟨by simp [p3], fun j k v hj => ?_⟩⟩ ⟨by simp, fun i key v hr => ?_⟩ (fun h' hk' x hx' => ?_) (by rw [List.length_map, hl, kl, sizeLine_eq]; omega) fun h' tk hd hk2 => ?_
        · rw [List.getElem?_map] at hj
          obtain ⟨x, hx1, hx2⟩ := Option.map_eq_some_iff.mp hj
          obtain ⟨b, hb, tb⟩ := p4 j x hx1
          obtain ⟨e1, e2⟩ := Prod.mk.inj hx2
          subst e1; subst e2
          refine ⟨by simp [hb], ?_⟩
          simp only [hb]
          exact .inl tb
        · have hr : (hps.map fun x => ((Value.ref x.2.1, x.2.2) : Value × Value))[i]? = some (key, v) := hr
          rw [List.getElem?_map] at hr
          obtain ⟨x, hx1, hx2⟩ := Option.map_eq_some_iff.mp hr
          obtain ⟨e1, e2⟩ := Prod.mk.inj hx2
          subst e1; subst e2
          exact ⟨x.1, x.2.1, hx1, rfl⟩
        · have hkey : H x.2.1 = some (.tup (x.1.map kV)) := by
            have all : ∀ {l : List (List Key × V)} {m : List (List Key × Addr × Value)}, KT H l m → ∀ x ∈ m, H x.2.1 = some (.tup (x.1.map kV)) := by
              intro l m q
              induction q with
              | nil => intro x hx; exact nomatch hx
              | @cons p q ps qs hq t ih =>
                intro x hx
                rcases List.mem_cons.mp hx with e | hx
                · subst e; rw [← hq.1]; exact hq.2.1
                · exact ih x hx
            exact all p2 x hx'
          obtain ⟨o, vs, m, q1, q2, q3, q4⟩ := key_of I.hok hkey
          exact ⟨o, vs, m, hk' _ _ (fun z => by rw [z] at q1; exact Nat.lt_irrefl _ (Heap.lt_size q1)) (by simp) q1, q2, q3, q4⟩
        · obtain ⟨o, es, ep, d1, d2, d3, d4, _, d5⟩ := hd
          have hn : H s.heap.objs.size = none := I.hok.fresh (Nat.le_refl _)
          have up : ∀ b o, s.heap.get? b = some o → h'.get? b = some o := fun c o e => hk2 c o (by simp) e
          have rel := kt_fold p2 (a := []) (b := []) .nil
          exact ⟨.ref s.heap.objs.size, upd H s.heap.objs.size (.dT (kvV.foldl (fun acc kv => putK acc kv.1 kv.2) [])), I.laid (t' := tk) up (Nat.le_refl _) (show ObjOk X.prog X.w _ _ _ (.dT (kvV.foldl (fun acc kv => putK acc kv.1 kv.2) [])) from
            ⟨by have := fold_len kvV []; rw [List.length_nil] at this; rw [sizeLine_eq]; omega, beq_eq_false_iff_ne.mpr (Nat.ne_of_gt I.big), _, rel.keeps fun c ys ec => by
              rw [upd_ne (fun z => by rw [z, hn] at ec; cases ec)]; exact ec, o, es, ep, d1, d2, d3, d4, d5⟩), rfl,
            KQ.new h.2 w hn (fun _ => nofun) ⟨_, upd_same, pr_fold (pairsR_mono (Le.alloc hn) p1) .nil⟩⟩
      · exact h.elim
    · exact h.elim
end Pw
set_option maxHeartbeats 1000000
/-! Pw29: which tree a piece of the small syntax stands for. -/
namespace Pw
open PySem PySem.Spec PyProof.Rows L2

/-- a block: its slots' names, its scope -/
structure Cfg where
  N : List Str
  sc : Scope
  as : Scope
/-- the scope of a comprehension's block, inside sc -/
def relab (sc scope : Scope) : Scope :=
  { scope with names := scope.names.map fun (n, k) => if (k == .free && sc.kind == .function && sc.names.lookup n == some .cell) then (n, .cell) else (n, k) }
/-- a program, as far as trees are matched -/
structure PD where
  defs : List (Str × List Str)
  free : List Str
  gints : List (Str × Int)
  gstrs : List (Str × Str)
  gtups : List (Str × List Str)
  kws : List (Nat × List Str × List Nat)
def visB (sc : Scope) (x : Str) : Bool := match sc.names.lookup x with
  | some .local => true
  | some .cell => true
  | some .free => true
  | _ => false
def locB (sc : Scope) (x : Str) : Bool := match sc.names.lookup x with
  | some .local => true
  | some .cell => true
  | _ => false
def glB (sc : Scope) (x : Str) : Bool := match sc.names.lookup x with
  | some .globalImplicit => true
  | _ => false
def okN (x : Str) : Bool := !(x == ("__debug__" : Str)) && !(x == ("__classdict__" : Str)) && decide (x ≠ "__name__")
def bltB (pd : PD) (sc : Scope) (x : Str) : Bool := glB sc x && (decide (x ∈ pd.free) && okN x)
def notStar : Expr → Bool
  | .Starred .. => false
  | _ => true
def plainT : Expr → Bool
  | .Name .. => true
  | .Call .. => true
  | .Subscript .. => true
  | .BinOp .. => true
  | .Tuple .. => true
  | .List .. => true
  | _ => false
structure Mt where
  e : Expr → Bool
  t : Expr → Bool
  a : List Expr → Bool
  kw : List Keyword → Bool
  o : Option Expr → Bool
  g : Expr → Bool
  gs : List Expr → Bool
  gw : List Nat → Expr → Bool
  gsw : List Nat → List Expr → Bool
  i : Expr → Expr → Bool
  ts : List Expr → Bool
  s : Stmt → Bool
  ss : List Stmt → Bool
def Mt.no : Mt := ⟨fun _ => false, fun _ => false, fun _ => false, fun _ => false, fun _ => false, fun _ => false, fun _ => false, fun _ _ => false, fun _ _ => false, fun _ _ => false, fun _ => false, fun _ => false, fun _ => false⟩
/-- an expression by its value -/
def Mt.ex (m : Expr → Bool) : Mt := { Mt.no with
  e := m
  t := fun e => m e && plainT e
  o := fun o => match o with
    | some e => m e
    | none => false
  i := fun _ e => m e && foldOk e }
/-- a truth value: as a value, as a test -/
def Mt.bx (m t : Expr → Bool) : Mt := { Mt.no with e := m, t := t }
def Mt.st (m : Stmt → Bool) : Mt := { Mt.no with s := m }
/-- the names of the built-ins -/
def biName : Bi → Str
  | .len => "len" | .int => "int" | .abs => "abs" | .divmod => "divmod" | .min => "min" | .max => "max" | .sum => "sum" | .sorted => "sorted" | .list => "list" | .tuple => "tuple" | .all => "all" | .any => "any" | .repr => "repr" | .lenset => "" | .dictPairs => "dict"
def biOk : Bi → Bool
  | .lenset => false
  | _ => true
def meName : Me → Str
  | .append => "append" | .pop => "pop" | .remove => "remove" | .index => "index" | .get => "get" | .join => "join"
def meDone : Me → Bool
  | .remove => false
  | _ => true
def gcName : Gc → Str
  | .all => "all" | .any => "any" | .tuple => "tuple" | .sum => "sum" | .next => "next"
/-- no special form of an attribute's base -/
def baseOk : Expr → Bool
  | .Name .. => true
  | .Subscript .. => true
  | .Attribute .. => true
  | .Constant .. => true
  | _ => false
def blkB (cfg : Cfg) (scope : Scope) (own : List (Str × Nat)) : Bool := blkC cfg.N cfg.sc scope own
/-- own slots: the scope's own names that are slots -/
def ownOf (N : List Str) (own : List Nat) : List (Str × Nat) := own.map fun i => ((N[i]?).getD "", i)
def genB (cfg : Cfg) (scope : Scope) (own : List Nat) : Bool := blkB cfg scope (ownOf cfg.N own) && (!scope.isCoroutine && decide (scope.names.lookup (".0" : Str) = some NameKind.local))
/-- targets keep to own slots -/
def tgIn (own : List Nat) : T → Bool
  | .var i => decide (i ∈ own)
  | .tup es => tgIn own es
  | .cons h t => tgIn own h && tgIn own t
  | .nil => true
  | _ => false
/-- a built-in called on values -/
def bcB (pd : PD) (c : Cfg) (b : Bi) (a : List Expr → Bool) (e : Expr) : Bool := match b, e with
  | .lenset, .Call (.Name x _) [.Call (.Name z _) [y] [] _] [] _ => decide (x = "len") && (decide (z = "set") && (bltB pd c.sc x && (bltB pd c.sc z && a [y])))
  | .lenset, _ => false
  | b, .Call (.Name x _) (y :: ys) [] _ => decide (x = biName b) && (biOk b && (bltB pd c.sc x && a (y :: ys)))
  | _, _ => false
def mt (pd : PD) : T → Nat → Cfg → Mt
  | .nil, _, _ => { Mt.no with a := (·.isEmpty), kw := (·.isEmpty), o := (·.isNone), gs := (·.isEmpty), gsw := fun _ l => l.isEmpty, ts := (·.isEmpty), ss := (·.isEmpty) }
  | .cons h t, r, c => { Mt.no with
      a := fun l => match l with
        | e :: es => notStar e && ((mt pd h r c).e e && (mt pd t r c).a es)
        | [] => false
      kw := fun l => match l with
        | ⟨some _, e, _⟩ :: es => (mt pd h r c).e e && (mt pd t r c).kw es
        | _ => false
      gs := fun l => match l with
        | e :: es => notStar e && ((mt pd h r c).g e && (mt pd t r c).gs es)
        | [] => false
      gsw := fun vs l => match l with
        | e :: es => notStar e && ((mt pd h r c).gw vs e && (mt pd t r c).gsw vs es)
        | [] => false
      ts := fun l => match t, l with
        | .nil, [e] => (mt pd h r c).t e
        | _, _ => false
      ss := fun l => match l with
        | s :: ss => (mt pd h r c).s s && (mt pd t r c).ss ss
        | [] => false }
  | .int i, _, _ => Mt.ex fun e => match e with
      | .Constant (.int j) _ _ => decide (i = j)
      | _ => false
  | .str s, _, _ => Mt.ex fun e => match e with
      | .Constant (.str z) _ _ => decide (s = z)
      | _ => false
  | .bl b, _, _ => Mt.ex fun e => match e with
      | .Constant (.bool d) _ _ => decide (b = d)
      | _ => false
  | .non, _, _ => Mt.ex fun e => match e with
      | .Constant .none _ _ => true
      | _ => false
  | .var i, _, c => { Mt.ex (fun e => match e with
      | .Name x _ => decide (c.N[i]? = some x) && (visB c.sc x && okN x)
      | _ => false) with
      g := fun e => match e with
        | .Name x _ => decide (c.N[i]? = some x) && (locB c.sc x && locB c.as x)
        | _ => false
      gw := fun vs e => match e with
        | .Name x _ => decide (i ∈ vs) && (decide (c.N[i]? = some x) && (locB c.sc x && locB c.as x))
        | _ => false }
  | .gint x i, _, c => Mt.ex fun e => match e with
      | .Name y _ => decide (x = y) && (decide ((x, i) ∈ pd.gints) && (glB c.sc x && okN x))
      | _ => false
  | .gstr x s, _, c => Mt.ex fun e => match e with
      | .Name y _ => decide (x = y) && (decide ((x, s) ∈ pd.gstrs) && (glB c.sc x && okN x))
      | _ => false
  | .gtups x ss, _, c => Mt.ex fun e => match e with
      | .Name y _ => decide (x = y) && (decide ((x, ss) ∈ pd.gtups) && (glB c.sc x && okN x))
      | _ => false
  | .tup es, r, c => { Mt.ex (fun e => match e with
      | .Tuple l _ _ => (mt pd es r c).a l
      | _ => false) with
      g := fun e => match e with
        | .Tuple l _ _ => (mt pd es r c).gs l
        | _ => false
      gw := fun vs e => match e with
        | .Tuple l _ _ => (mt pd es r c).gsw vs l
        | _ => false }
  | .lst es, r, c => Mt.ex fun e => match e with
      | .List l _ => (mt pd es r c).a l
      | _ => false
  | .bin op a b, r, c => Mt.ex fun e => match e with
      | .BinOp x o y _ => decide (op = o) && ((mt pd a r c).e x && (mt pd b r c).e y)
      | _ => false
  | .neg a, r, c => Mt.ex fun e => match e with
      | .UnaryOp .USub x _ => (mt pd a r c).e x
      | _ => false
  | .cmp op a b, r, c => let m := fun e => match e with
      | .Compare x [o] [y] _ => decide (op = o) && ((mt pd a r c).e x && ((mt pd b r c).e y && !behindInMarks op y))
      | _ => false
    Mt.bx m m
  | .isn a, r, c => let m := fun e => match e with
      | .Compare x [.Is] [.Constant .none _ _] _ => (mt pd a r c).e x
      | _ => false
    Mt.bx m m
  | .notn a, r, c => let m := fun e => match e with
      | .Compare x [.IsNot] [.Constant .none _ _] _ => (mt pd a r c).e x
      | _ => false
    Mt.bx m m
  | .chain o1 o2 a b d, r, c => let m := fun e => match e with
      | .Compare x [p1, p2] [y, z] _ => decide (o1 = p1) && (decide (o2 = p2) && ((mt pd a r c).e x && ((mt pd b r c).e y && ((mt pd d r c).e z && !lastMarks [o1, o2] [y, z]))))
      | _ => false
    Mt.bx m m
  | .and_ a q, r, c => Mt.bx (fun e => match e with
      | .BoolOp .And (x :: xs) pos => (mt pd a r c).e x && (match q with
        | .nil => xs.isEmpty
        | .and_ _ _ => (mt pd q r c).e (.BoolOp .And xs pos)
        | _ => false)
      | _ => false) (fun e => match e with
      | .BoolOp .And (x :: xs) pos => (mt pd a r c).t x && (match q with
        | .nil => xs.isEmpty
        | .and_ _ _ => (mt pd q r c).t (.BoolOp .And xs pos)
        | _ => false)
      | _ => false)
  | .or_ a q, r, c => Mt.bx (fun e => match e with
      | .BoolOp .Or (x :: xs) pos => (mt pd a r c).e x && (match q with
        | .nil => xs.isEmpty
        | .or_ _ _ => (mt pd q r c).e (.BoolOp .Or xs pos)
        | _ => false)
      | _ => false) (fun e => match e with
      | .BoolOp .Or (x :: xs) pos => (mt pd a r c).t x && (match q with
        | .nil => xs.isEmpty
        | .or_ _ _ => (mt pd q r c).t (.BoolOp .Or xs pos)
        | _ => false)
      | _ => false)
  | .not_ a, r, c => Mt.bx (fun e => match e with
      | .UnaryOp .Not x _ => (mt pd a r c).e x
      | _ => false) (fun e => match e with
      | .UnaryOp .Not x _ => (mt pd a r c).t x
      | _ => false)
  | .ite cd a b, r, c => Mt.ex fun e => match e with
      | .IfExp x y z _ => (mt pd cd r c).t x && ((mt pd a r c).e y && (mt pd b r c).e z)
      | _ => false
  | .sub a i, r, c => { Mt.ex (fun e => match e with
      | .Subscript x y _ => (mt pd a r c).e x && ((mt pd i r c).e y && ixOk y)
      | _ => false) with
      g := fun e => match e with
        | .Subscript x y _ => (mt pd a r c).e x && ((mt pd i r c).e y && ixOk y)
        | _ => false }
  | .slice a lo hi, r, c => Mt.ex fun e => match e with
      | .Subscript x (.Slice l h none _) _ => (mt pd a r c).e x && ((mt pd lo r c).o l && (mt pd hi r c).o h)
      | _ => false
  | .rev a, r, c => Mt.ex fun e => match e with
      | .Subscript x (.Slice none none (some (.UnaryOp .USub (.Constant (.int 1) _ _) _)) _) _ => (mt pd a r c).e x
      | _ => false
  | .call f args, r, c => Mt.ex fun e => match e with
      | .Call (.Name x _) (y :: ys) [] _ => (match pd.defs[f]? with
        | some (z, _) => decide (x = z)
        | none => false) && (glB c.sc x && (okN x && (mt pd args r c).a (y :: ys)))
      | _ => false
  | .callk f ks vals, r, c => Mt.ex fun e => match e with
      | .Call (.Name x _) [] kws _ => (match pd.defs[f]? with
        | some (z, _) => decide (x = z) && (decide ((f, kws.filterMap (·.arg), ks) ∈ pd.kws) && kws.all (·.arg.isSome))
        | none => false) && (glB c.sc x && (okN x && (mt pd vals r c).kw kws))
      | _ => false
  | .bcall b args, r, c => Mt.ex fun e => bcB pd c b (mt pd args r c).a e
  | .bcalli b (.izip args), r, c => Mt.ex fun e => match b, e with
      | .dictPairs, .Call (.Name x _) [.Call (.Name z _) [y, y2] [] _] [] _ => decide (x = "dict") && (decide (z = "zip") && (bltB pd c.sc x && (bltB pd c.sc z && (mt pd args r c).a [y, y2])))
      | _, _ => false
  | .meth m o args, r, c => Mt.ex fun e => match e with
      | .Call (.Attribute x nm ap) (y :: ys) [] cp => decide (nm = meName m) && (meDone m && (baseOk x && ((ap.endLine == cp.line) && (decide (ys.length < 20) && ((mt pd o r c).e x && (mt pd args r c).a (y :: ys))))))
      | _ => false
  | .isin a ty, r, c => let m := fun e => match e with
      | .Call (.Name x _) [y, .Name z _] [] _ => decide (x = "isinstance") && (decide (z = Str.ofString (tyS ty)) && (bltB pd c.sc x && (bltB pd c.sc z && (notStar y && (mt pd a r c).e y))))
      | _ => false
    Mt.bx m m
  | .dnewK, _, _ => Mt.ex fun e => match e with
      | .Dict [] [] _ => true
      | _ => false
  | .dnewT, _, _ => Mt.ex fun e => match e with
      | .Dict [] [] _ => true
      | _ => false
  | .lcomp own elt tg it ifs, r, c => Mt.ex fun e => match e with
      | .ListComp x [⟨tx, ix, fx, 0⟩] scope _ => blkB c scope (ownOf c.N own) && (foldOk ix && ((mt pd it r c).i tx ix && ((mt pd tg r ⟨c.N, relab c.sc scope, scope⟩).gw own tx && ((mt pd ifs r ⟨c.N, relab c.sc scope, scope⟩).ts fx && (mt pd elt r ⟨c.N, relab c.sc scope, scope⟩).e x))))
      | _ => false
  | .dcomp own k v tg it, r, c => Mt.ex fun e => match e with
      | .DictComp x y [⟨tx, ix, [], 0⟩] scope _ => blkB c scope (ownOf c.N own) && (foldOk ix && ((mt pd it r c).i tx ix && ((mt pd tg r ⟨c.N, relab c.sc scope, scope⟩).gw own tx && ((mt pd k r ⟨c.N, relab c.sc scope, scope⟩).e x && (mt pd v r ⟨c.N, relab c.sc scope, scope⟩).e y))))
      | _ => false
  | .gcall f own elt tg it ifs rest, r, c => match r with
    | 0 => Mt.no
    | r' + 1 => Mt.ex fun e => match e with
      | .Call (.Name x _) (.GeneratorExp z [⟨tx, ix, fx, 0⟩] scope _ :: more) [] _ => decide (x = gcName f) && (decide (f ≠ .sum) && (bltB pd c.sc x && (genB c scope own && (tgIn own tg && (foldOk ix && ((mt pd it (r' + 1) c).i tx ix && ((mt pd tg r' ⟨c.N, scope, scope⟩).g tx && ((mt pd ifs r' ⟨c.N, scope, scope⟩).ts fx && ((mt pd elt r' ⟨c.N, scope, scope⟩).e z &&
          (match f, more, rest with
          | .next, [.Constant .none _ _], .cons .non .nil => true
          | .next, _, _ => false
          | _, [], .nil => true
          | _, _, _ => false))))))))))
      | _ => false
  | .gcall2 f own own2 elt tg it ifs tg2 it2 ifs2, r, c => match r with
    | 0 => Mt.no
    | r' + 1 => Mt.ex fun e => match e with
      | .Call (.Name x _) [.GeneratorExp z [⟨tx, ix, fx, 0⟩, ⟨tx2, ix2, fx2, 0⟩] scope _] [] _ => decide (x = "tuple") && (decide (f = .tuple) && (bltB pd c.sc x && (genB c scope own && (tgIn own tg && (tgIn own2 tg2 && (own2.all (fun i => decide (i ∈ own)) && (foldOk ix && (foldOk ix2 && ((mt pd it (r' + 1) c).i tx ix && ((mt pd tg r' ⟨c.N, scope, scope⟩).g tx && ((mt pd ifs r' ⟨c.N, scope, scope⟩).ts fx && ((mt pd it2 r' ⟨c.N, scope, scope⟩).i tx2 ix2 && ((mt pd tg2 r' ⟨c.N, scope, scope⟩).g tx2 && ((mt pd ifs2 r' ⟨c.N, scope, scope⟩).ts fx2 && (mt pd elt r' ⟨c.N, scope, scope⟩).e z))))))))))))))
      | _ => false
  | .irange args, r, c => { Mt.no with i := fun _ e => match e with
      | .Call (.Name x _) [y] [] _ => decide (x = "range") && (bltB pd c.sc x && (mt pd args r c).a [y])
      | .Call (.Name x _) [y, z] [] _ => decide (x = "range") && (bltB pd c.sc x && (mt pd args r c).a [y, z])
      | _ => false }
  | .ienum args, r, c => { Mt.no with i := fun tg e => match tg, e with
      | .Tuple .., .Call (.Name x _) [y] [] _ => decide (x = "enumerate") && (bltB pd c.sc x && (mt pd args r c).a [y])
      | _, _ => false }
  | .izip args, r, c => { Mt.no with i := fun tg e => match tg, e with
      | .Tuple .., .Call (.Name x _) [y, z] [] _ => decide (x = "zip") && (bltB pd c.sc x && (mt pd args r c).a [y, z])
      | _, _ => false }
  | .expr a, r, c => Mt.st fun s => match s with
      | .Expr e _ => (mt pd a r c).e e && notComp e
      | _ => false
  | .asg tg a, r, c => Mt.st fun s => match s with
      | .Assign [t] e _ => (mt pd tg r c).g t && ((mt pd a r c).e e && (notComp e && (parOff c.sc t e || parOn c tg a t e)))
      | _ => false
  | .asgl i own elt tg it ifs, r, c => Mt.st fun s => match s with
      | .Assign [.Name y _] (.ListComp x [⟨tx, ix, fx, 0⟩] scope _) _ => decide (c.N[i]? = some y) && ((locB c.sc y && locB c.as y) && (blkB c scope (ownOf c.N own) && (foldOk ix && ((mt pd it r c).i tx ix && ((mt pd tg r ⟨c.N, relab c.sc scope, scope⟩).gw own tx && ((mt pd ifs r ⟨c.N, relab c.sc scope, scope⟩).ts fx && (mt pd elt r ⟨c.N, relab c.sc scope, scope⟩).e x))))))
      | _ => false
  | .aug op (.var i) a, r, c => Mt.st fun s => match s with
      | .AugAssign (.Name x _) o e _ => decide (op = o) && (decide (c.N[i]? = some x) && ((locB c.sc x && locB c.as x) && (mt pd a r c).e e))
      | _ => false
  | .aug op (.sub x k) a, r, c => Mt.st fun s => match s with
      | .AugAssign (.Subscript y z _) o e _ => decide (op = o) && ((mt pd x r c).e y && ((mt pd k r c).e z && (ixOk z && (mt pd a r c).e e)))
      | _ => false
  | .ifs cd a b, r, c => Mt.st fun s => match s with
      | .If e p q _ => (mt pd cd r c).t e && ((mt pd a r c).ss p && (mt pd b r c).ss q)
      | _ => false
  | .for_ tg it body, r, c => Mt.st fun s => match s with
      | .For t e b [] _ => foldOk e && ((mt pd it r c).i t e && ((mt pd tg r c).g t && (mt pd body r c).ss b))
      | _ => false
  | .while_ cd body, r, c => Mt.st fun s => match s with
      | .While e b [] _ => (mt pd cd r c).t e && (mt pd body r c).ss b
      | _ => false
  | .ret a, r, c => Mt.st fun s => match s with
      | .Return (some e) _ => (mt pd a r c).e e
      | _ => false
  | .retn, _, _ => Mt.st fun s => match s with
      | .Return none _ => true
      | _ => false
  | .brk, _, _ => Mt.st fun s => match s with
      | .Break _ => true
      | _ => false
  | .cont, _, _ => Mt.st fun s => match s with
      | .Continue _ => true
      | _ => false
  | .pass, _, _ => Mt.st fun s => match s with
      | .Pass _ => true
      | _ => false
  | .never, _, _ => Mt.st fun _ => true
  | _, _, _ => Mt.no
where
  ixOk : Expr → Bool
    | .Slice .. => false
    | .Tuple .. => true
    | .Name .. => true
    | .Constant .. => true
    | .BinOp .. => true
    | .Call .. => true
    | .Subscript .. => true
    | .UnaryOp .. => true
    | _ => false
  notComp : Expr → Bool
    | .ListComp .. => false
    | .SetComp .. => false
    | .DictComp .. => false
    | _ => true
  /-- two, three names that take as many values at once -/
  parOn (c : Cfg) : T → T → Expr → Expr → Bool
    | .tup (.cons (.var i) (.cons (.var j) .nil)), .tup _, .Tuple [.Name x px, .Name y py] _ _, .Tuple [a, b] _ _ =>
      decide (swapP c.sc [.Name x px, .Name y py] [a, b] = some (some [x, y])) && (decide (i ≠ j) && (decide (c.sc.names.lookup x = some .local) && decide (c.sc.names.lookup y = some .local)))
    | .tup (.cons (.var i) (.cons (.var j) (.cons (.var l) .nil))), .tup _, .Tuple [.Name x px, .Name y py, .Name z pz] _ _, .Tuple [a, b, d] _ _ =>
      decide (swapP c.sc [.Name x px, .Name y py, .Name z pz] [a, b, d] = some (some [x, y, z])) && (decide (i ≠ j) && (decide (i ≠ l) && (decide (j ≠ l) && (decide (c.sc.names.lookup x = some .local) && (decide (c.sc.names.lookup y = some .local) && decide (c.sc.names.lookup z = some .local))))))
    | _, _, _, _ => false
  parOff (sc : Scope) : Expr → Expr → Bool
    | .Tuple ts _ _, .Tuple vs _ _ => decide (swapP sc ts vs = some none)
    | .Name .., _ => true
    | .Tuple .., _ => true
    | .Subscript .., _ => true
    | _, _ => false
end Pw
set_option maxHeartbeats 1000000
/-! Pw30: a matched tree has the reading: the parts. -/
namespace Pw
open PySem PySem.Spec PyProof.Rows L2

structure Snd (CS : List Addr) (X : Cx) (m : Mt) (A : W) : Prop where
  e : ∀ e, m.e e = true → PE X e (tE CS X A.e)
  t : ∀ e, m.t e = true → PT X e (tT CS X A.t)
  a : ∀ l, m.a l = true → PA X l (tA CS X A.a) ∧ l.all notStar = true
  kw : ∀ l, m.kw l = true → PK X l (tA CS X A.a)
  o : ∀ e, m.o e = true → PO X e (tP CS X A.p)
  g : ∀ e, m.g e = true → PG X e (tG CS X A.g)
  gs : ∀ l, m.gs l = true → PGs X l (tGs CS X A.gs) ∧ l.all notStar = true
  gw : ∀ vs e, m.gw vs e = true → PG X e (tGw CS X vs A.g)
  gsw : ∀ vs l, m.gsw vs l = true → PGs X l (tGsw CS X vs A.gs) ∧ l.all notStar = true
  i : ∀ tg e, m.i tg e = true → PI X tg e (tI CS X A.i)
  ts : ∀ l, m.ts l = true → PTs X l (tT CS X A.ts)
  s : ∀ s, m.s s = true → PS X s (tS CS X A.s)
  ss : ∀ l, m.ss l = true → PSs X l (tS CS X A.s)
theorem ab {a b : Bool} (h : (a && b) = true) : a = true ∧ b = true := by simpa using h
section
variable {CS : List Addr} {X : Cx} {A B : W} {m : Mt} {e : Expr} {es : List Expr} {pos : Pos}
theorem Snd.no : Snd CS X Mt.no A := ⟨fun _ h => absurd h Bool.false_ne_true, fun _ h => absurd h Bool.false_ne_true, fun _ h => absurd h Bool.false_ne_true, fun _ h => absurd h Bool.false_ne_true, fun _ h => absurd h Bool.false_ne_true, fun _ h => absurd h Bool.false_ne_true, fun _ h => absurd h Bool.false_ne_true, fun _ _ h => absurd h Bool.false_ne_true, fun _ _ h => absurd h Bool.false_ne_true, fun _ _ h => absurd h Bool.false_ne_true, fun _ h => absurd h Bool.false_ne_true, fun _ h => absurd h Bool.false_ne_true, fun _ h => absurd h Bool.false_ne_true⟩
theorem star_cons (h : notStar e = true) (env : PySem.Env) : starEach (e :: es) env = (false, eval e env) :: starEach es env := by
  cases e <;> first | rfl | cases h
theorem star_any (pos : Pos) (env : PySem.Env) : ∀ {es : List Expr}, es.all notStar = true → (backTo pos (starEach es env)).any (·.1) = false
  | [], _ => rfl
  | e :: es, h => by
    obtain ⟨h1, h2⟩ := ab (show (notStar e && es.all notStar) = true from h)
    rw [star_cons h1]
    have := star_any pos env h2
    show (false || (backTo pos (starEach es env)).any (·.1)) = false
    rw [this]; rfl
theorem asg_cons (h : notStar e = true) (env : PySem.Env) : assignEach (e :: es) env = (false, assign e env) :: assignEach es env := by
  cases e <;> first | rfl | cases h
theorem asg_find (env : PySem.Env) : ∀ {es : List Expr}, es.all notStar = true → (assignEach es env).findIdx? (·.1) = none ∧ (assignEach es env).length = es.length
  | [], _ => ⟨rfl, rfl⟩
  | e :: es, h => by
    obtain ⟨h1, h2⟩ := ab (show (notStar e && es.all notStar) = true from h)
    obtain ⟨i1, i2⟩ := asg_find env h2
    rw [asg_cons h1]
    refine ⟨?_, by rw [List.length_cons, i2, List.length_cons]⟩
    rw [List.findIdx?_cons, i1]
    rfl
theorem plain_truth {e : Expr} (h : plainT e = true) (env : PySem.Env) (whole : Sem Value) : isTrue e env whole = (do let v ← whole; standAt e.pos; holding [v] (truthy v)) := by
  cases e <;> first | rfl | cases h
/-- by values -/
theorem Snd.ex {f : Expr → Bool} {r : Env → Store → KD → Prop} (mA : MW (W.ex r)) (h : ∀ e, f e = true → PE X e (tE CS X r)) : Snd CS X (Mt.ex f) (W.ex r) :=
  { (Snd.no : Snd CS X Mt.no (W.ex r)) with
    e := h
    t := fun e he => by
      obtain ⟨h1, h2⟩ := ab he
      exact t_val (A := W.ex r) mA (h e h1) (plain_truth h2 _)
    o := fun o ho => by
      cases o with
      | none => cases ho
      | some e => exact r_osome (A := W.ex r) mA (h e ho)
    i := fun tg e he => by
      obtain ⟨h1, h2⟩ := ab he
      exact r_ival (A := W.ex r) mA (h e h1) }
theorem Snd.bx {f g : Expr → Bool} {r : Env → Store → (Bool → Store → Prop) → Prop} (h : ∀ e, f e = true → PE X e (tE CS X (asV r))) (h2 : ∀ e, g e = true → PT X e (tT CS X r)) : Snd CS X (Mt.bx f g) (W.bx r) :=
  { (Snd.no : Snd CS X Mt.no (W.bx r)) with
    e := h
    t := h2 }
theorem Snd.tx {f g : Expr → Bool} {r : Env → Store → KD → Prop} {r2 : Env → Store → (Bool → Store → Prop) → Prop} (h : ∀ e, f e = true → PE X e (tE CS X r)) (h2 : ∀ e, g e = true → PT X e (tT CS X r2)) : Snd CS X (Mt.bx f g) (W.tx r r2) :=
  { (Snd.no : Snd CS X Mt.no (W.tx r r2)) with
    e := h
    t := h2 }
theorem Snd.st {f : Stmt → Bool} {r : Ends → Env → Store → Prop} (h : ∀ s, f s = true → PS X s (tS CS X r)) : Snd CS X (Mt.st f) (W.st r) :=
  { (Snd.no : Snd CS X Mt.no (W.st r)) with s := h }
end
end Pw
set_option maxHeartbeats 1000000
/-! Pw31: a matched tree has the reading: construct by construct. -/
namespace Pw
open PySem PySem.Spec PyProof.Rows L2

/-- what stands behind the top -/
structure Sta where
  P : Program
  w : World
  K : PySem.W.Frag
  mg : Str → Option Value
  base : Heap
  CS : List Addr
  k : Nat
  pd : PD
  call : CallF
  cm : CMono call
  defs : ∀ (f : Nat) (x : Str) (ps : List Str), pd.defs[f]? = some (x, ps) → ∃ (fa : Addr) (fd : FuncData), FnP P w K mg base CS k fa fd ps (fun ds S Q => call f ds S Q fun _ _ => False) ∧ mg x = some (.ref fa) ∧ PySem.W.keepIn K (.ref fa) = true ∧ Binds K fd ps [] ∧ ∀ ks pm, (f, ks, pm) ∈ pd.kws → KwOk fd ps ks pm
  free : ∀ x ∈ pd.free, mg x = none
  gints : ∀ p ∈ pd.gints, ∃ t, mg p.1 = some (.int p.2 t)
  gstrs : ∀ p ∈ pd.gstrs, ∃ t, mg p.1 = some (.str p.2 t)
  gtups : ∀ p ∈ pd.gtups, ∃ a, mg p.1 = some (.ref a) ∧ ∀ H, SqT K H a (p.2.map V.str)
def Sta.c (S : Sta) : Cxt := ⟨S.call, fun _ _ => False⟩
structure Cok (S : Sta) (cfg : Cfg) (r : Nat) (X : Cx) : Prop where
  prog : X.prog = S.P
  w : X.w = S.w
  K : X.K = S.K
  mg : X.mg = S.mg
  base : X.base = S.base
  N : X.N = cfg.N
  nd : cfg.N.Nodup
  sc : X.env.scope = cfg.sc
  kind : cfg.sc.kind = .function
  calm : X.calm = true
  xe : X.xe = fun _ _ => False
  gd : X.A.guards = some []
  room : Room (S.k + r) X.A
  hf : ∀ x, L2.Loc cfg.as x → X.fn x = true ∨ X.env.scope.names.lookup x = some .local
theorem visB_ok {sc : Scope} {x : Str} (h : visB sc x = true) : Vis sc x := by
  unfold visB at h
  split at h
  · exact .inl ‹_›
  · exact .inr (.inl ‹_›)
  · exact .inr (.inr ‹_›)
  · cases h
theorem locB_ok {sc : Scope} {x : Str} (h : locB sc x = true) : L2.Loc sc x := by
  unfold locB at h
  split at h
  · exact .inl ‹_›
  · exact .inr ‹_›
  · cases h
theorem glB_ok {sc : Scope} {x : Str} (h : glB sc x = true) : sc.names.lookup x = some .globalImplicit := by
  unfold glB at h
  split at h
  · assumption
  · cases h
theorem okN_ok {x : Str} (h : okN x = true) : (x == ("__debug__" : Str)) = false ∧ (x == ("__classdict__" : Str)) = false ∧ x ≠ "__name__" := by
  unfold okN at h
  simp only [Bool.and_eq_true, Bool.not_eq_true', decide_eq_true_eq] at h
  exact ⟨h.1.1, h.1.2, h.2⟩
section
variable {S : Sta} {cfg : Cfg} {r : Nat} {X : Cx} {A B C : W} {mA mB mC : Mt}
theorem Cok.units (ok : Cok S cfg r X) : X.A.units + 199 < cLine := by have := ok.room.un; omega
theorem Cok.gl (ok : Cok S cfg r X) {x : Str} (h : glB cfg.sc x = true) : Gl X x := by
  show X.env.scope.names.lookup x = _
  rw [ok.sc]; exact glB_ok h
theorem Cok.blt (ok : Cok S cfg r X) {x : Str} (h : bltB S.pd cfg.sc x = true) : Gl X x ∧ X.mg x = none ∧ (x == ("__debug__" : Str)) = false ∧ x ≠ "__name__" := by
  obtain ⟨h1, h2⟩ := ab h
  obtain ⟨h2, h3⟩ := ab h2
  obtain ⟨n1, _, n3⟩ := okN_ok h3
  exact ⟨ok.gl h1, by rw [ok.mg]; exact S.free x (of_decide_eq_true h2), n1, n3⟩
abbrev SN (S : Sta) (X : Cx) (m : Mt) (A : W) : Prop := Snd S.CS X m A
theorem s_int (i : Int) : SN S X (Mt.ex fun e => match e with | .Constant (.int j) _ _ => decide (i = j) | _ => false) (W.ex fun _ S Q => Q (.int i) S) :=
  Snd.ex (MW.ex fun h k => k _ _ h) fun e h => by
    split at h
    · cases of_decide_eq_true h; exact r_int
    · cases h
theorem s_str (z : Str) : SN S X (Mt.ex fun e => match e with | .Constant (.str j) _ _ => decide (z = j) | _ => false) (W.ex fun _ S Q => Q (.str z) S) :=
  Snd.ex (MW.ex fun h k => k _ _ h) fun e h => by
    split at h
    · cases of_decide_eq_true h; exact r_str
    · cases h
theorem s_bl (b : Bool) : SN S X (Mt.ex fun e => match e with | .Constant (.bool j) _ _ => decide (b = j) | _ => false) (W.ex fun _ S Q => Q (.bl b) S) :=
  Snd.ex (MW.ex fun h k => k _ _ h) fun e h => by
    split at h
    · cases of_decide_eq_true h; exact r_bl
    · cases h
theorem s_non : SN S X (Mt.ex fun e => match e with | .Constant .none _ _ => true | _ => false) (W.ex fun _ S Q => Q .non S) :=
  Snd.ex (MW.ex fun h k => k _ _ h) fun e h => by
    split at h
    · exact r_non
    · cases h
theorem Snd.with_g {m : Mt} {A : W} {CS : List Addr} {g : Expr → Bool} {gw : List Nat → Expr → Bool} {ag : D → Env → Store → (Env → Store → Prop) → Prop} (h : Snd CS X m A) (hg : ∀ e, g e = true → PG X e (tG CS X ag)) (hw : ∀ vs e, gw vs e = true → PG X e (tGw CS X vs ag)) : Snd CS X { m with g := g, gw := gw } { A with g := ag } :=
  ⟨h.e, h.t, h.a, h.kw, h.o, hg, h.gs, hw, h.gsw, h.i, h.ts, h.s, h.ss⟩
theorem s_var (ok : Cok S cfg r X) (i : Nat) : SN S X (mt S.pd (.var i) r cfg) (Pw.w (.var i) S.c) := by
  refine Snd.with_g (Snd.ex (mw (.var i) (c := S.c) S.cm |> fun m => MW.ex fun h k => m.e h k) fun e h => ?_) (fun e h => ?_) (fun vs e h => ?_)
  · split at h
    · obtain ⟨h1, h2⟩ := ab h
      obtain ⟨h2, h3⟩ := ab h2
      obtain ⟨n1, n2, _⟩ := okN_ok h3
      exact r_var (by rw [ok.N]; exact of_decide_eq_true h1) (by rw [ok.sc]; exact visB_ok h2) n1 n2
    · cases h
  · split at h
    · rename_i y p
      obtain ⟨h1, h2⟩ := ab h
      obtain ⟨h2, h9⟩ := ab h2
      have hl : L2.Loc X.env.scope y := by rw [ok.sc]; exact locB_ok h2
      exact r_gname (by rw [ok.N]; exact ok.nd) (by rw [ok.N]; exact of_decide_eq_true h1) hl (ok.hf _ (locB_ok h9))
    · cases h
  · split at h
    · rename_i y p
      obtain ⟨h0, h⟩ := ab h
      obtain ⟨h1, h2⟩ := ab h
      obtain ⟨h2, h9⟩ := ab h2
      have hl : L2.Loc X.env.scope y := by rw [ok.sc]; exact locB_ok h2
      exact w_gname (of_decide_eq_true h0) (by rw [ok.N]; exact ok.nd) (by rw [ok.N]; exact of_decide_eq_true h1) hl (ok.hf _ (locB_ok h9))
    · cases h
theorem s_gint (ok : Cok S cfg r X) (x : Str) (i : Int) : SN S X (mt S.pd (.gint x i) r cfg) (Pw.w (.gint x i) S.c) := Snd.ex (MW.ex fun h k => k _ _ h) fun e h => by
  split at h
  · obtain ⟨h1, h⟩ := ab h
    obtain ⟨h2, h⟩ := ab h
    obtain ⟨h3, h4⟩ := ab h
    cases of_decide_eq_true h1
    obtain ⟨t, ht⟩ := S.gints _ (of_decide_eq_true h2)
    exact r_gint (t := t) (ok.gl h3) (by rw [ok.mg]; exact ht) (okN_ok h4).1
  · cases h
theorem s_gstr (ok : Cok S cfg r X) (x z : Str) : SN S X (mt S.pd (.gstr x z) r cfg) (Pw.w (.gstr x z) S.c) := Snd.ex (MW.ex fun h k => k _ _ h) fun e h => by
  split at h
  · obtain ⟨h1, h⟩ := ab h
    obtain ⟨h2, h⟩ := ab h
    obtain ⟨h3, h4⟩ := ab h
    cases of_decide_eq_true h1
    obtain ⟨t, ht⟩ := S.gstrs _ (of_decide_eq_true h2)
    exact r_gstr (t := t) (ok.gl h3) (by rw [ok.mg]; exact ht) (okN_ok h4).1
  · cases h
theorem s_gtups (ok : Cok S cfg r X) (x : Str) (zs : List Str) : SN S X (mt S.pd (.gtups x zs) r cfg) (Pw.w (.gtups x zs) S.c) := Snd.ex (MW.ex fun h k => k _ _ h) fun e h => by
  split at h
  · obtain ⟨h1, h⟩ := ab h
    obtain ⟨h2, h⟩ := ab h
    obtain ⟨h3, h4⟩ := ab h
    cases of_decide_eq_true h1
    obtain ⟨a, ha, hs⟩ := S.gtups _ (of_decide_eq_true h2)
    exact r_gtups (p := a) (ok.gl h3) (by rw [ok.mg]; exact ha) (by rw [ok.K]; exact hs) (okN_ok h4).1
  · cases h
variable {h t a b d o lo hi : T}
theorem mwc (t : T) : MW (Pw.w t S.c) := mw t S.cm
theorem r_tnil : PTs X [] (tT S.CS X fun _ S Q => Q true S) := pts_nil.imp fun σ H Q h => by
  obtain ⟨env, S', φ, at0, h⟩ := h
  exact h φ H (.refl _ _ _) at0.w
theorem s_nil : SN S X (mt S.pd .nil r cfg) (Pw.w .nil S.c) :=
  { (Snd.no : Snd S.CS X Mt.no (Pw.w .nil S.c)) with
    a := fun l h => by
      cases l with
      | nil => exact ⟨r_anil, rfl⟩
      | cons => cases h
    kw := fun l h => by
      cases l with
      | nil => exact k_nil
      | cons => cases h
    o := fun l h => by
      cases l with
      | none => exact r_onone
      | some => cases h
    gs := fun l h => by
      cases l with
      | nil => exact ⟨r_gnil, rfl⟩
      | cons => cases h
    gsw := fun vs l h => by
      cases l with
      | nil => exact ⟨w_gnil, rfl⟩
      | cons => cases h
    ts := fun l h => by
      cases l with
      | nil => exact r_tnil
      | cons => cases h
    ss := fun l h => by
      cases l with
      | nil => exact r_snil
      | cons => cases h }
end
end Pw
set_option maxHeartbeats 1000000
/-! Pw32: more constructs. -/
namespace Pw
open PySem PySem.Spec PyProof.Rows L2

section
variable {S : Sta} {cfg : Cfg} {r : Nat} {X : Cx} {h t a b d o lo hi : T}
abbrev SX (S : Sta) (X : Cx) (cfg : Cfg) (r : Nat) (t : T) : Prop := Snd S.CS X (mt S.pd t r cfg) (Pw.w t S.c)
theorem s_cons (ih : SX S X cfg r h) (it : SX S X cfg r t) : SX S X cfg r (.cons h t) :=
  { (Snd.no : Snd S.CS X Mt.no (Pw.w (.cons h t) S.c)) with
    a := fun l hl => by
      cases l with
      | nil => cases hl
      | cons e es =>
        obtain ⟨h1, h2⟩ := ab hl
        obtain ⟨h2, h3⟩ := ab h2
        obtain ⟨p, q⟩ := it.a es h3
        refine ⟨r_acons (mwc h) (mwc t) (ih.e e h2) p (star_cons h1 _), ?_⟩
        show (notStar e && es.all notStar) = true
        rw [h1, q]; rfl
    kw := fun l hl => by
      cases l with
      | nil => cases hl
      | cons k ks =>
        obtain ⟨n, e, p⟩ := k
        cases n with
        | none => cases hl
        | some n =>
          obtain ⟨h1, h2⟩ := ab hl
          exact k_cons (mwc h) (mwc t) (ih.e e h1) (it.kw ks h2)
    gs := fun l hl => by
      cases l with
      | nil => cases hl
      | cons e es =>
        obtain ⟨h1, h2⟩ := ab hl
        obtain ⟨h2, h3⟩ := ab h2
        obtain ⟨p, q⟩ := it.gs es h3
        refine ⟨r_gcons (mwc h) (mwc t) (ih.g e h2) p (by rw [asg_cons h1]; rfl), ?_⟩
        show (notStar e && es.all notStar) = true
        rw [h1, q]; rfl
    gsw := fun vs l hl => by
      cases l with
      | nil => cases hl
      | cons e es =>
        obtain ⟨h1, h2⟩ := ab hl
        obtain ⟨h2, h3⟩ := ab h2
        obtain ⟨p, q⟩ := it.gsw vs es h3
        refine ⟨w_gcons (mwc h) (mwc t) (ih.gw vs e h2) p (by rw [asg_cons h1]; rfl), ?_⟩
        show (notStar e && es.all notStar) = true
        rw [h1, q]; rfl
    ts := fun l hl => by
      cases t with
      | nil =>
        match l, hl with
        | [e], hl => exact pts_one ((ih.t e hl).imp fun σ H Q q => by
            obtain ⟨env, S', φ, at0, q⟩ := q
            exact ⟨env, S', φ, at0, (mwc h).t q fun b S1 q => by cases b <;> exact q⟩)
      | _ => cases l <;> cases hl
    ss := fun l hl => by
      cases l with
      | nil => cases hl
      | cons s ss =>
        obtain ⟨h1, h2⟩ := ab hl
        exact r_scons (mwc h) (mwc t) (ih.s s h1) (it.ss ss h2) }
theorem tgs_len (t : T) : ∀ (l : List Expr) {r : Nat} {cfg : Cfg} {pd : PD}, (mt pd t r cfg).gs l = true → l.length = tgLen t := by
  induction t with
  | nil =>
    intro l r cfg pd h
    cases l with
    | nil => rfl
    | cons => cases h
  | cons a t _ ih =>
    intro l r cfg pd h
    cases l with
    | nil => cases h
    | cons e es => rw [List.length_cons, ih es (ab (ab h).2).2]; rfl
  | gcall => intro l r cfg pd h; cases r <;> cases h
  | gcall2 => intro l r cfg pd h; cases r <;> cases h
  | aug op tg => intro l r cfg pd h; cases tg <;> cases h
  | bcalli b it => intro l r cfg pd h; cases it <;> cases h
  | _ => intro l r cfg pd h; cases h
theorem tgsw_len (t : T) : ∀ (l : List Expr) {r : Nat} {cfg : Cfg} {pd : PD} {vs : List Nat}, (mt pd t r cfg).gsw vs l = true → l.length = tgLen t := by
  induction t with
  | nil =>
    intro l r cfg pd vs h
    cases l with
    | nil => rfl
    | cons => cases h
  | cons a t _ ih =>
    intro l r cfg pd vs h
    cases l with
    | nil => cases h
    | cons e es => rw [List.length_cons, ih es (ab (ab h).2).2]; rfl
  | gcall => intro l r cfg pd vs h; cases r <;> cases h
  | gcall2 => intro l r cfg pd vs h; cases r <;> cases h
  | aug op tg => intro l r cfg pd vs h; cases tg <;> cases h
  | bcalli b it => intro l r cfg pd vs h; cases it <;> cases h
  | _ => intro l r cfg pd vs h; cases h
theorem s_tup {es : T} (ok : Cok S cfg r X) (ih : SX S X cfg r es) : SX S X cfg r (.tup es) := by
  refine Snd.with_g (Snd.ex (MW.ex fun q k => (mwc (S := S) es).a q fun _ _ z => ⟨z.1, k _ _ z.2⟩) fun e h => ?_) (fun e h => ?_) (fun vs e h => ?_)
  · split at h
    · exact r_tup (mwc es) (ih.a _ h).1
    · cases h
  · split at h
    · rename_i l k p
      obtain ⟨p1, p2⟩ := ih.gs l h
      obtain ⟨f1, f2⟩ := asg_find X.env p2
      have := tgs_len es l h
      exact r_gtup (n := tgLen es) ok.calm (mwc es) p1 (by rw [f2, this]) f1
    · cases h
  · split at h
    · rename_i l k p
      obtain ⟨p1, p2⟩ := ih.gsw vs l h
      obtain ⟨f1, f2⟩ := asg_find X.env p2
      have := tgsw_len es l h
      exact w_gtup (n := tgLen es) ok.calm (mwc es) p1 (by rw [f2, this]) f1
    · cases h
theorem s_lst {es : T} (ih : SX S X cfg r es) : SX S X cfg r (.lst es) := Snd.ex (MW.ex fun q k => (mwc (S := S) es).a q fun _ _ z => ⟨z.1, k _ _ z.2⟩) fun e h => by
  split at h
  · exact r_lst (mwc es) (ih.a _ h).1
  · cases h
theorem s_bin (op : Operator) (ia : SX S X cfg r a) (ib : SX S X cfg r b) : SX S X cfg r (.bin op a b) := Snd.ex (MW.ex fun q k => (mwc (S := S) (.bin op a b)).e q k) fun e h => by
  split at h
  · obtain ⟨h1, h2⟩ := ab h
    obtain ⟨h2, h3⟩ := ab h2
    cases of_decide_eq_true h1
    exact r_bin op (mwc a) (mwc b) (ia.e _ h2) (ib.e _ h3)
  · cases h
theorem s_neg (ia : SX S X cfg r a) : SX S X cfg r (.neg a) := Snd.ex (MW.ex fun q k => (mwc (S := S) (.neg a)).e q k) fun e h => by
  split at h
  · exact r_neg (mwc a) (ia.e _ h)
  · cases h
theorem s_cmp (ok : Cok S cfg r X) (op : CmpOp) (ia : SX S X cfg r a) (ib : SX S X cfg r b) : SX S X cfg r (.cmp op a b) := by
  have hu : X.A.units + 65 < cLine := by have := ok.units; omega
  refine Snd.bx (fun e h => ?_) (fun e h => ?_)
  all_goals
    split at h
    · obtain ⟨h1, h2⟩ := ab h
      obtain ⟨h2, h3⟩ := ab h2
      obtain ⟨h3, h4⟩ := ab h3
      cases of_decide_eq_true h1
      first
        | exact r_cmp hu op (mwc a) (mwc b) (ia.e _ h2) (ib.e _ h3) (by simpa using h4)
        | exact t_cmp hu op (mwc a) (mwc b) (ia.e _ h2) (ib.e _ h3) (by simpa using h4)
    · cases h
theorem s_isn (ia : SX S X cfg r a) : SX S X cfg r (.isn a) := by
  refine Snd.bx (fun e h => ?_) (fun e h => ?_)
  all_goals
    split at h
    · first
        | exact r_isn (mwc a) (ia.e _ h)
        | exact t_isn (mwc a) (ia.e _ h)
    · cases h
theorem s_notn (ia : SX S X cfg r a) : SX S X cfg r (.notn a) := by
  refine Snd.bx (fun e h => ?_) (fun e h => ?_)
  all_goals
    split at h
    · first
        | exact r_notn (mwc a) (ia.e _ h)
        | exact t_notn (mwc a) (ia.e _ h)
    · cases h
theorem s_chain (ok : Cok S cfg r X) (o1 o2 : CmpOp) (ia : SX S X cfg r a) (ib : SX S X cfg r b) (id : SX S X cfg r d) : SX S X cfg r (.chain o1 o2 a b d) := by
  have hu : X.A.units + 65 < cLine := by have := ok.units; omega
  refine Snd.bx (fun e h => ?_) (fun e h => ?_)
  all_goals
    split at h
    · obtain ⟨h1, h⟩ := ab h
      obtain ⟨h2, h⟩ := ab h
      obtain ⟨h3, h⟩ := ab h
      obtain ⟨h4, h⟩ := ab h
      obtain ⟨h5, h6⟩ := ab h
      cases of_decide_eq_true h1
      cases of_decide_eq_true h2
      first
        | exact r_chain hu o1 o2 (mwc a) (mwc b) (mwc d) (ia.e _ h3) (ib.e _ h4) (id.e _ h5) (by simpa using h6)
        | exact t_chain hu o1 o2 (mwc a) (mwc b) (mwc d) (ia.e _ h3) (ib.e _ h4) (id.e _ h5) (by simpa using h6)
    · cases h
theorem s_ite (ic : SX S X cfg r d) (ia : SX S X cfg r a) (ib : SX S X cfg r b) : SX S X cfg r (.ite d a b) := Snd.ex (MW.ex fun q k => (mwc (S := S) (.ite d a b)).e q k) fun e h => by
  split at h
  · obtain ⟨h1, h2⟩ := ab h
    obtain ⟨h2, h3⟩ := ab h2
    exact r_ite (mwc d) (mwc a) (mwc b) (ic.t _ h1) (ia.e _ h2) (ib.e _ h3)
  · cases h
theorem s_slice (ia : SX S X cfg r a) (il : SX S X cfg r lo) (ih : SX S X cfg r hi) : SX S X cfg r (.slice a lo hi) := Snd.ex (MW.ex fun q k => (mwc (S := S) (.slice a lo hi)).e q k) fun e h => by
  split at h
  · obtain ⟨h1, h2⟩ := ab h
    obtain ⟨h2, h3⟩ := ab h2
    exact r_slice (mwc a) (mwc lo) (mwc hi) (ia.e _ h1) (il.o _ h2) (ih.o _ h3)
  · cases h
theorem s_rev (ia : SX S X cfg r a) : SX S X cfg r (.rev a) := Snd.ex (MW.ex fun q k => (mwc (S := S) (.rev a)).e q k) fun e h => by
  split at h
  · exact r_rev (mwc a) (ia.e _ h)
  · cases h
end
end Pw
set_option maxHeartbeats 1000000
/-! Pw33: statements. -/
namespace Pw
open PySem PySem.Spec PyProof.Rows L2

section
variable {S : Sta} {cfg : Cfg} {r : Nat} {X : Cx} {h t a b d o lo hi tg it body : T}
theorem notComp_sw {e : Expr} (h : mt.notComp e = true) (tg : Option Expr) (l : Nat) (env : PySem.Env) : swapsWith e tg l env = pure false := by
  cases e <;> first | rfl | cases h
theorem s_expr (ia : SX S X cfg r a) : SX S X cfg r (.expr a) := Snd.st fun s h => by
  split at h
  · obtain ⟨h1, h2⟩ := ab h
    exact r_expr (mwc a) (ia.e _ h1) (notComp_sw h2 _ _ _)
  · cases h
theorem s_ret (ia : SX S X cfg r a) : SX S X cfg r (.ret a) := Snd.st fun s h => by
  split at h
  · exact r_ret (mwc a) (ia.e _ h)
  · cases h
theorem s_retn : SX S X cfg r .retn := Snd.st fun s h => by
  split at h
  · exact r_retn
  · cases h
theorem s_brk : SX S X cfg r .brk := Snd.st fun s h => by
  split at h
  · exact r_brk
  · cases h
theorem s_cont : SX S X cfg r .cont := Snd.st fun s h => by
  split at h
  · exact r_cont
  · cases h
theorem s_pass : SX S X cfg r .pass := Snd.st fun s h => by
  split at h
  · exact r_pass
  · cases h
theorem s_never : SX S X cfg r .never := by
  have : Pw.w .never S.c = W.st fun _ _ _ => False := rfl
  show Snd S.CS X (Mt.st fun _ => true) (Pw.w .never S.c)
  rw [this]
  exact Snd.st fun s h => ps_never.imp fun D σ H h => by
    obtain ⟨env, S', φ, at0, h⟩ := h
    exact h.elim
theorem s_ifs (ic : SX S X cfg r d) (ia : SX S X cfg r a) (ib : SX S X cfg r b) : SX S X cfg r (.ifs d a b) := Snd.st fun s h => by
  split at h
  · obtain ⟨h1, h2⟩ := ab h
    obtain ⟨h2, h3⟩ := ab h2
    exact r_ifs (mwc d) (mwc a) (mwc b) (ic.t _ h1) (ia.ss _ h2) (ib.ss _ h3)
  · cases h
theorem s_for (ok : Cok S cfg r X) (ii : SX S X cfg r it) (ig : SX S X cfg r tg) (ib : SX S X cfg r body) : SX S X cfg r (.for_ tg it body) := Snd.st fun s h => by
  split at h
  · obtain ⟨h1, h2⟩ := ab h
    obtain ⟨h2, h3⟩ := ab h2
    obtain ⟨h3, h4⟩ := ab h3
    exact r_for ok.xe ok.calm (mwc it) (mwc tg) (mwc body) (ii.i _ _ h2) (ig.g _ h3) (ib.ss _ h4) (foldOk_set h1 _)
  · cases h
theorem s_while (ok : Cok S cfg r X) (ic : SX S X cfg r d) (ib : SX S X cfg r body) : SX S X cfg r (.while_ d body) := Snd.st fun s h => by
  split at h
  · obtain ⟨h1, h2⟩ := ab h
    exact r_while ok.xe (mwc d) (mwc body) (ic.t _ h1) (ib.ss _ h2)
  · cases h
theorem s_asgO (ok : Cok S cfg r X) {t e : Expr} {p : Pos} (pg : PG X t (tG S.CS X (Pw.w tg S.c).g)) (pe : PE X e (tE S.CS X (Pw.w a S.c).e)) (h3 : mt.notComp e = true) (h4 : mt.parOff cfg.sc t e = true) : PS X (.Assign [t] e p) (tS S.CS X (Pw.w (.asg tg a) S.c).s) := by
  have hw : swappedStores [t] e X.env = pure none := by
    unfold mt.parOff at h4
    split at h4
    · exact swapP_ok (by rw [ok.sc]; exact ok.kind) (by rw [ok.sc]; exact of_decide_eq_true h4)
    · rfl
    · rename_i ts k p' _ hne
      cases e <;> first | rfl | exact absurd rfl (hne _ _ _)
    · rfl
    · cases h4
  have hst : (assignEach [t] X.env).map (·.2) = [assign t X.env] := by
    unfold mt.parOff at h4
    split at h4 <;> first | rfl | cases h4
  exact r_asg (mwc a) (mwc tg) pe pg (notComp_sw h3 _ _ _) hw hst
theorem parOn_no (h : ∀ es, a ≠ .tup es) {t e : Expr} : mt.parOn cfg tg a t e = false := by
  unfold mt.parOn
  split
  · exact absurd rfl (h _)
  · exact absurd rfl (h _)
  · rfl
theorem s_asg (ok : Cok S cfg r X) (ig : SX S X cfg r tg) (ia : SX S X cfg r a) (hn : ∀ es, a ≠ .tup es) : SX S X cfg r (.asg tg a) := Snd.st fun s h => by
  split at h
  · rename_i t e p
    obtain ⟨h1, h2⟩ := ab h
    obtain ⟨h2, h3⟩ := ab h2
    obtain ⟨h3, h4⟩ := ab h3
    rw [parOn_no hn, Bool.or_false] at h4
    exact s_asgO ok (ig.g _ h1) (ia.e _ h2) h3 h4
  · cases h
theorem at_set2 {CS : List Addr} {env : Env} {S' : Store} {φ : Nat → Addr} {σ : L2.St} {H : Hp} {i : Nat} {d : D} {v : V} (a : At CS X env S' φ σ H) (r : RepV X.K H φ S'.length d v) : At CS X (env.set i (some d)) S' φ (σ.set i (some v)) H := ⟨a.e.set r, a.w, a.c⟩
theorem s_asgT {es : T} (ok : Cok S cfg r X) (ig : SX S X cfg r tg) (ie : SX S X cfg r es) (ia : SX S X cfg r (.tup es)) : SX S X cfg r (.asg tg (.tup es)) := Snd.st fun s h => by
  split at h
  · rename_i t e p
    obtain ⟨h1, u1⟩ := ab h
    obtain ⟨h2, u2⟩ := ab u1
    obtain ⟨h3, h4⟩ := ab u2
    clear h u1 u2
    cases hoff : mt.parOff cfg.sc t e with
    | true => exact s_asgO ok (ig.g _ h1) (ia.e _ h2) h3 hoff
    | false =>
      rw [hoff, Bool.false_or] at h4
      unfold mt.parOn at h4
      split at h4
      · rename_i i j es' x px y py k1 p1 a b k2 p2 heq
        obtain ⟨q1, h4⟩ := ab h4
        obtain ⟨q2, h4⟩ := ab h4
        obtain ⟨q3, q4⟩ := ab h4
        have pa := (ie.a [a, b] h2).1
        obtain ⟨_, g⟩ := ab (show (notStar (.Name x px) && ((decide (cfg.N[i]? = some x) && (locB cfg.sc x && locB cfg.as x)) && (notStar (.Name y py) && ((decide (cfg.N[j]? = some y) && (locB cfg.sc y && locB cfg.as y)) && ([] : List Expr).isEmpty)))) = true from h1)
        obtain ⟨g1, g⟩ := ab g
        obtain ⟨_, g⟩ := ab g
        obtain ⟨g2, _⟩ := ab g
        have n1 := of_decide_eq_true (ab g1).1
        have n2 := of_decide_eq_true (ab g2).1
        refine (ps_par (i := i) (j := j) ok.calm (by rw [ok.N]; exact ok.nd) (by rw [ok.N]; exact n1) (by rw [ok.N]; exact n2) (of_decide_eq_true q2) (by rw [ok.sc]; exact of_decide_eq_true q3) (by rw [ok.sc]; exact of_decide_eq_true q4) pa
          (swapP_ok (by rw [ok.sc]; exact ok.kind) (by rw [ok.sc]; exact of_decide_eq_true q1))).imp fun D σ H q => ?_
        obtain ⟨env, S', φ, at0, q⟩ := q
        refine tA_mk (mwc es) at0 q fun ds S1 φ1 vs H1 l1 a1 rl q => ?_
        obtain ⟨hl, ql, q⟩ := q
        have ql : ds.length = 2 := ql
        match ds, rl, ql, q with
        | [d1, d2], .cons r1 (.cons r2 .nil), _, q =>
          obtain ⟨_, q⟩ := q
          exact ⟨_, _, rfl, q φ1 _ H1 l1 (at_set2 (at_set2 a1 r1) r2)⟩
      · rename_i i j l es' x px y py z pz k1 p1 a b d k2 p2 heq
        obtain ⟨q1, h4⟩ := ab h4
        obtain ⟨q2, h4⟩ := ab h4
        obtain ⟨q3, h4⟩ := ab h4
        obtain ⟨q4, h4⟩ := ab h4
        obtain ⟨q5, h4⟩ := ab h4
        obtain ⟨q6, q7⟩ := ab h4
        have pa := (ie.a [a, b, d] h2).1
        obtain ⟨_, g⟩ := ab (show (notStar (.Name x px) && ((decide (cfg.N[i]? = some x) && (locB cfg.sc x && locB cfg.as x)) && (notStar (.Name y py) && ((decide (cfg.N[j]? = some y) && (locB cfg.sc y && locB cfg.as y)) && (notStar (.Name z pz) && ((decide (cfg.N[l]? = some z) && (locB cfg.sc z && locB cfg.as z)) && ([] : List Expr).isEmpty)))))) = true from h1)
        obtain ⟨g1, g⟩ := ab g
        obtain ⟨_, g⟩ := ab g
        obtain ⟨g2, g⟩ := ab g
        obtain ⟨_, g⟩ := ab g
        obtain ⟨g3, _⟩ := ab g
        have n1 := of_decide_eq_true (ab g1).1
        have n2 := of_decide_eq_true (ab g2).1
        have n3 := of_decide_eq_true (ab g3).1
        refine (ps_par3 (i := i) (j := j) (l := l) ok.calm (by rw [ok.N]; exact ok.nd) (by rw [ok.N]; exact n1) (by rw [ok.N]; exact n2) (by rw [ok.N]; exact n3) (of_decide_eq_true q2) (of_decide_eq_true q3) (of_decide_eq_true q4) (by rw [ok.sc]; exact of_decide_eq_true q5) (by rw [ok.sc]; exact of_decide_eq_true q6) (by rw [ok.sc]; exact of_decide_eq_true q7) pa
          (swapP_ok (by rw [ok.sc]; exact ok.kind) (by rw [ok.sc]; exact of_decide_eq_true q1))).imp fun D σ H q => ?_
        obtain ⟨env, S', φ, at0, q⟩ := q
        refine tA_mk (mwc es) at0 q fun ds S1 φ1 vs H1 l1 a1 rl q => ?_
        obtain ⟨hl, ql, q⟩ := q
        have ql : ds.length = 3 := ql
        match ds, rl, ql, q with
        | [d1, d2, d3], .cons r1 (.cons r2 (.cons r3 .nil)), _, q =>
          obtain ⟨_, q⟩ := q
          exact ⟨_, _, _, rfl, q φ1 _ H1 l1 (at_set2 (at_set2 (at_set2 a1 r1) r2) r3)⟩
      · cases h4
  · cases h
theorem s_augV (ok : Cok S cfg r X) (op : Operator) (i : Nat) (ia : SX S X cfg r a) : SX S X cfg r (.aug op (.var i) a) := Snd.st fun s h => by
  split at h
  · obtain ⟨h1, h⟩ := ab h
    obtain ⟨h2, h⟩ := ab h
    obtain ⟨h3, h4⟩ := ab h
    obtain ⟨h3, h9⟩ := ab h3
    cases of_decide_eq_true h1
    have hl := locB_ok h3
    rw [← ok.sc] at hl
    exact r_aug (by rw [ok.N]; exact ok.nd) (by rw [ok.N]; exact of_decide_eq_true h2) hl (ok.hf _ (locB_ok h9)) (mwc a) (ia.e _ h4)
  · cases h
theorem ixOk_plain {b : Expr} (h : mt.ixOk b = true) : PlainIx b := by
  cases b <;> first | (intro o i; rfl) | cases h
theorem ixOk_aug {b : Expr} (h : mt.ixOk b = true) (ov iv new : Value) : augStore b ov iv new = (do holding [new, ov, iv] (setItem ov iv new); release [new, ov, iv] []; pure .next) := by
  cases b <;> first | rfl | cases h
theorem s_augS (ok : Cok S cfg r X) (op : Operator) (io : SX S X cfg r o) (ib : SX S X cfg r b) (ia : SX S X cfg r a) : SX S X cfg r (.aug op (.sub o b) a) := Snd.st fun s h => by
  have hu : X.A.units + 65 < cLine := by have := ok.units; omega
  split at h
  · obtain ⟨h1, h⟩ := ab h
    obtain ⟨h2, h⟩ := ab h
    obtain ⟨h3, h⟩ := ab h
    obtain ⟨h4, h5⟩ := ab h
    cases of_decide_eq_true h1
    exact r_augS hu (mwc o) (mwc b) (mwc a) (io.e _ h2) (ib.e _ h3) (ia.e _ h5) (ixOk_aug h4)
  · cases h
theorem ixOk_asg {a b : Expr} {pos : Pos} {env : PySem.Env} (h : mt.ixOk b = true) (v : Value) : assign (.Subscript a b pos) env v = (do
      let ov ← holding [v] (eval a env)
      let iv ← holding [v, ov] (eval b env)
      standAt pos
      holding [v, ov, iv] (setItem ov iv v)
      release [v, ov, iv] []) := by
  cases b <;> first | rfl | cases h
theorem s_sub (ok : Cok S cfg r X) (ia : SX S X cfg r a) (ib : SX S X cfg r b) : SX S X cfg r (.sub a b) := by
  have hu : X.A.units + 65 < cLine := by have := ok.units; omega
  refine Snd.with_g (gw := fun _ _ => false) (Snd.ex (MW.ex fun q k => (mwc (S := S) (.sub a b)).e q k) fun e h => ?_) (fun e h => ?_) (fun vs e h => absurd h Bool.false_ne_true)
  · split at h
    · obtain ⟨h1, h2⟩ := ab h
      obtain ⟨h2, h3⟩ := ab h2
      exact r_sub hu (mwc a) (mwc b) (ia.e _ h1) (ib.e _ h2) (ixOk_plain h3)
    · cases h
  · split at h
    · obtain ⟨h1, h2⟩ := ab h
      obtain ⟨h2, h3⟩ := ab h2
      exact r_gsub hu (mwc a) (mwc b) (ia.e _ h1) (ib.e _ h2) (ixOk_asg h3)
    · cases h
end
end Pw
set_option maxHeartbeats 1000000
/-! Pw34: connectives, calls. -/
namespace Pw
open PySem PySem.Spec PyProof.Rows L2

section
variable {S : Sta} {cfg : Cfg} {r : Nat} {X : Cx} {h t a b d o lo hi q args : T}
theorem pw_of_pt {X : Cx} {op : BoolOp} {es : List Expr} {pos : Pos} {t : TT} (h : PT X (.BoolOp op es pos) t) : PW X (.BoolOp op es pos) t := ⟨fun _ pins s σ H Q I q => h.run pins s σ H Q I q⟩
theorem pe_one {X : Cx} {op : BoolOp} {e : Expr} {pos : Pos} {t : TE} (h : PE X e t) : PE X (.BoolOp op [e] pos) t := ⟨fun pins s σ H Q I q => h.run pins s σ H Q I q⟩
abbrev vAnd (A B : W) : Env → Store → KD → Prop := fun σ S Q => A.e σ S fun d S1 => byTru S1 d (B.e σ S1 Q) (Q d S1)
abbrev vOr (A B : W) : Env → Store → KD → Prop := fun σ S Q => A.e σ S fun d S1 => byTru S1 d (Q d S1) (B.e σ S1 Q)
theorem and_w {c : Cxt} (hq : q ≠ .nil) : Pw.w (.and_ a q) c = W.tx (vAnd (Pw.w a c) (Pw.w q c)) (rdAnd (Pw.w a c) (Pw.w q c)) := by
  cases q <;> first | rfl | exact absurd rfl hq
theorem or_w {c : Cxt} (hq : q ≠ .nil) : Pw.w (.or_ a q) c = W.tx (vOr (Pw.w a c) (Pw.w q c)) (rdOr (Pw.w a c) (Pw.w q c)) := by
  cases q <;> first | rfl | exact absurd rfl hq
/-- the rest of and, or is itself one -/
theorem s_and (ia : SX S X cfg r a) (iq : SX S X cfg r q) (hq : q = .nil ∨ ∃ x y, q = .and_ x y) : SX S X cfg r (.and_ a q) := by
  rcases hq with rfl | ⟨x, y, rfl⟩
  · refine Snd.tx (r := fun σ S' Q => (Pw.w a S.c).e σ S' Q) (r2 := fun σ S' Q => (Pw.w a S.c).t σ S' Q) (fun e h => ?_) (fun e h => ?_)
    · split at h
      · rename_i z zs p
        obtain ⟨h4, h3⟩ := ab h
        cases zs with
        | nil => exact pe_one (ia.e _ h4)
        | cons => cases h3
      · cases h
    · split at h
      · rename_i z zs p
        obtain ⟨h2, h3⟩ := ab h
        cases zs with
        | nil => exact (pw_and1 (ia.t _ h2)).pt
        | cons => cases h3
      · cases h
  · refine Snd.tx (r := vAnd (Pw.w a S.c) (Pw.w (.and_ x y) S.c)) (r2 := rdAnd (Pw.w a S.c) (Pw.w (.and_ x y) S.c)) (fun e h => ?_) (fun e h => ?_)
    · split at h
      · rename_i z zs p
        obtain ⟨h2, h3⟩ := ab h
        cases zs with
        | nil => cases h3
        | cons => exact r_and (mwc a) (mwc (.and_ x y)) (ia.e _ h2) (iq.e _ h3)
      · cases h
    · split at h
      · rename_i z zs p
        obtain ⟨h2, h3⟩ := ab h
        cases zs with
        | nil => cases h3
        | cons => exact (w_and (mwc a) (mwc (.and_ x y)) (ia.t _ h2) (pw_of_pt (iq.t _ h3))).pt
      · cases h
theorem s_or (ia : SX S X cfg r a) (iq : SX S X cfg r q) (hq : q = .nil ∨ ∃ x y, q = .or_ x y) : SX S X cfg r (.or_ a q) := by
  rcases hq with rfl | ⟨x, y, rfl⟩
  · refine Snd.tx (r := fun σ S' Q => (Pw.w a S.c).e σ S' Q) (r2 := fun σ S' Q => (Pw.w a S.c).t σ S' Q) (fun e h => ?_) (fun e h => ?_)
    · split at h
      · rename_i z zs p
        obtain ⟨h4, h3⟩ := ab h
        cases zs with
        | nil => exact pe_one (ia.e _ h4)
        | cons => cases h3
      · cases h
    · split at h
      · rename_i z zs p
        obtain ⟨h2, h3⟩ := ab h
        cases zs with
        | nil => exact (pw_or1 (ia.t _ h2)).pt
        | cons => cases h3
      · cases h
  · refine Snd.tx (r := vOr (Pw.w a S.c) (Pw.w (.or_ x y) S.c)) (r2 := rdOr (Pw.w a S.c) (Pw.w (.or_ x y) S.c)) (fun e h => ?_) (fun e h => ?_)
    · split at h
      · rename_i z zs p
        obtain ⟨h2, h3⟩ := ab h
        cases zs with
        | nil => cases h3
        | cons => exact r_or (mwc a) (mwc (.or_ x y)) (ia.e _ h2) (iq.e _ h3)
      · cases h
    · split at h
      · rename_i z zs p
        obtain ⟨h2, h3⟩ := ab h
        cases zs with
        | nil => cases h3
        | cons => exact (w_or (mwc a) (mwc (.or_ x y)) (ia.t _ h2) (pw_of_pt (iq.t _ h3))).pt
      · cases h
theorem s_call (ok : Cok S cfg r X) (f : Nat) (ia : SX S X cfg r args) : SX S X cfg r (.call f args) := Snd.ex (MW.ex fun q k => (mwc (S := S) (.call f args)).e q k) fun e h => by
  split at h
  · obtain ⟨h1, h⟩ := ab h
    obtain ⟨h2, h⟩ := ab h
    obtain ⟨h3, h4⟩ := ab h
    split at h1
    · rename_i z ps hd
      cases of_decide_eq_true h1
      obtain ⟨fa, fd, F, hm, hk, hb, _⟩ := S.defs f _ _ hd
      obtain ⟨pa, st⟩ := ia.a _ h4
      obtain ⟨st1, st2⟩ := ab (show (notStar _ && List.all _ notStar) = true from st)
      have F' : FnP X.prog X.w X.K X.mg X.base S.CS S.k fa fd ps (fun ds S' Q => S.call f ds S' Q fun _ _ => False) := by
        rw [ok.prog, ok.w, ok.K, ok.mg, ok.base]; exact F
      exact r_call F' (ok.room.mono (Nat.le_add_right _ _)) ok.gd (fun q k => S.cm _ _ _ _ _ _ q k) (ok.gl h2) (by rw [ok.mg]; exact hm) (by rw [ok.K]; exact hk) (by rw [ok.K]; exact hb) (mwc args) pa (okN_ok h3).1 (star_cons st1 _) (star_any _ _ st2)
    · cases h1
  · cases h
theorem s_isin (ok : Cok S cfg r X) (ty : Ty) (ia : SX S X cfg r a) : SX S X cfg r (.isin a ty) := by
  have key : ∀ e, (match e with
      | .Call (.Name x _) [y, .Name z _] [] _ => decide (x = "isinstance") && (decide (z = Str.ofString (tyS ty)) && (bltB S.pd cfg.sc x && (bltB S.pd cfg.sc z && (notStar y && (mt S.pd a r cfg).e y))))
      | _ => false) = true → PE X e (tE S.CS X (asV (isinR (Pw.w a S.c) ty))) := fun e h => by
    split at h
    · obtain ⟨h1, h⟩ := ab h
      obtain ⟨h2, h⟩ := ab h
      obtain ⟨h3, h⟩ := ab h
      obtain ⟨h4, h⟩ := ab h
      obtain ⟨h5, h6⟩ := ab h
      cases of_decide_eq_true h1
      obtain ⟨g1, g2, _⟩ := ok.blt h3
      obtain ⟨k1, k2, _⟩ := ok.blt h4
      exact r_isin (of_decide_eq_true h2) g1 g2 k1 k2 (mwc a) (ia.e _ h6) (star_cons h5 _)
    · cases h
  refine Snd.bx key fun e h => t_bx (fun q k => (mwc (S := S) (.isin a ty)).t q k) (key e h) ?_
  split at h
  · exact fun _ => rfl
  · cases h
end
end Pw
set_option maxHeartbeats 1000000
/-! Pw35: sources of loops, comprehensions. -/
namespace Pw
open PySem PySem.Spec PyProof.Rows L2

section
variable {S : Sta} {cfg : Cfg} {r : Nat} {X : Cx} {a args elt tg it ifs : T}
theorem s_not (ia : SX S X cfg r a) : SX S X cfg r (.not_ a) := by
  refine Snd.tx (fun e h => ?_) (fun e h => ?_)
  · split at h
    · exact r_not (mwc a) (ia.e _ h)
    · cases h
  · split at h
    · exact t_not (mwc a) (ia.t _ h)
    · cases h
theorem s_enum (ok : Cok S cfg r X) (ia : SX S X cfg r args) : SX S X cfg r (.ienum args) :=
  { (Snd.no : Snd S.CS X Mt.no (Pw.w (.ienum args) S.c)) with
    i := fun tg e h => by
      replace h : (mt S.pd (.ienum args) r cfg).i tg e = true := h
      unfold mt at h
      dsimp only at h
      split at h
      · obtain ⟨h1, h⟩ := ab h
        obtain ⟨h2, h3⟩ := ab h
        cases of_decide_eq_true h1
        obtain ⟨g1, g2, _⟩ := ok.blt h2
        obtain ⟨pa, st⟩ := ia.a _ h3
        obtain ⟨st1, st2⟩ := ab (show (notStar _ && List.all _ notStar) = true from st)
        exact r_enum g1 g2 (mwc args) pa (star_cons st1 _)
      · cases h }
theorem s_zip (ok : Cok S cfg r X) (ia : SX S X cfg r args) : SX S X cfg r (.izip args) :=
  { (Snd.no : Snd S.CS X Mt.no (Pw.w (.izip args) S.c)) with
    i := fun tg e h => by
      replace h : (mt S.pd (.izip args) r cfg).i tg e = true := h
      unfold mt at h
      dsimp only at h
      split at h
      · obtain ⟨h1, h⟩ := ab h
        obtain ⟨h2, h3⟩ := ab h
        cases of_decide_eq_true h1
        obtain ⟨g1, g2, _⟩ := ok.blt h2
        obtain ⟨pa, st⟩ := ia.a _ h3
        obtain ⟨st1, st2⟩ := ab (show (notStar _ && List.all _ notStar) = true from st)
        exact r_zip g1 g2 (mwc args) pa (star_cons st1 _) (star_any _ _ st2)
      · cases h }

/-! ### a block's context -/
theorem Cok.blk (ok : Cok S cfg r X) {scope : Scope} (hk : scope.kind = .function) (s : Shared) (H : Hp) (C : Addr) (cl : List (Str × Addr)) (fp : List Addr) : Cok S ⟨cfg.N, relab cfg.sc scope, scope⟩ r (X.blk s H scope (compEnvC scope cl C X.env) fp) where
  prog := ok.prog
  w := ok.w
  K := ok.K
  mg := ok.mg
  base := ok.base
  N := ok.N
  nd := ok.nd
  sc := by
    show relabel scope X.env = _
    rw [← ok.sc]; rfl
  kind := hk
  calm := ok.calm
  xe := rfl
  gd := ok.gd
  room := ok.room
  hf := fun x hx => by
    rcases hx with q | q
    · exact .inr (lookup_relabel_local (env := X.env) q)
    · refine .inl ?_
      show (scope.names.lookup x == some .cell) = true
      have q : scope.names.lookup x = some .cell := q
      rw [q]; rfl
theorem at_blk {CS : List Addr} {scope : Scope} {s : Shared} {H0 : Hp} {C : Addr} {cl : List (Str × Addr)} {fp : List Addr} {env : Env} {S' : Store} {φ : Nat → Addr} {σ : L2.St} {H : Hp} : At CS (X.blk s H0 scope (compEnvC scope cl C X.env) fp) env S' φ σ H ↔ At CS X env S' φ σ H :=
  ⟨fun a => ⟨a.e, a.w, a.c⟩, fun a => ⟨a.e, a.w, a.c⟩⟩
section
variable {CS : List Addr} {scope : Scope} {s : Shared} {H0 : Hp} {C : Addr} {cl : List (Str × Addr)} {fp : List Addr} {A : W} {e : Expr} {es : List Expr} {vs : List Nat}
theorem pe_blk (h : PE (X.blk s H0 scope (compEnvC scope cl C X.env) fp) e (tE CS (X.blk s H0 scope (compEnvC scope cl C X.env) fp) A.e)) : PE (X.blk s H0 scope (compEnvC scope cl C X.env) fp) e (tE CS X A.e) :=
  h.imp fun σ H Q ⟨env, S', φ, a, q⟩ => ⟨env, S', φ, at_blk.mpr a, q⟩
theorem pts_blk (h : PTs (X.blk s H0 scope (compEnvC scope cl C X.env) fp) es (tT CS (X.blk s H0 scope (compEnvC scope cl C X.env) fp) A.ts)) : PTs (X.blk s H0 scope (compEnvC scope cl C X.env) fp) es (tT CS X A.ts) :=
  h.imp fun σ H Q ⟨env, S', φ, a, q⟩ => ⟨env, S', φ, at_blk.mpr a, q⟩
theorem pg_blk (mA : MW A) (h : PG (X.blk s H0 scope (compEnvC scope cl C X.env) fp) e (tGw CS (X.blk s H0 scope (compEnvC scope cl C X.env) fp) vs A.g)) : PG (X.blk s H0 scope (compEnvC scope cl C X.env) fp) e (tGw CS X vs A.g) :=
  h.imp fun v σ H Q ⟨env, S', φ, d, a, rd, q⟩ => ⟨env, S', φ, d, at_blk.mpr a, rd, mA.g q fun env' S1 z φ' σ' H' l a' => z φ' σ' H' l (at_blk.mp a')⟩
end
end
end Pw
set_option maxHeartbeats 1000000
/-! Pw36: comprehensions, matched. -/
namespace Pw
open PySem PySem.Spec PyProof.Rows L2

section
variable {S : Sta} {cfg : Cfg} {r : Nat} {X : Cx} {elt tg it ifs kx vx : T} {own : List Nat}
theorem ownOf_snd (N : List Str) (own : List Nat) : (ownOf N own).map (·.2) = own := by
  unfold ownOf
  rw [List.map_map]
  show List.map (fun i => i) own = own
  simp
/-- what a comprehension's parts must be -/
theorem lcOk {scope : Scope} {x tx ix : Expr} {fx : List Expr} (ok : Cok S cfg r X) (ii : SX S X cfg r it)
    (ig : ∀ X', Cok S ⟨cfg.N, relab cfg.sc scope, scope⟩ r X' → SX S X' ⟨cfg.N, relab cfg.sc scope, scope⟩ r tg) (iff : ∀ X', Cok S ⟨cfg.N, relab cfg.sc scope, scope⟩ r X' → SX S X' ⟨cfg.N, relab cfg.sc scope, scope⟩ r ifs)
    (ie : ∀ X', Cok S ⟨cfg.N, relab cfg.sc scope, scope⟩ r X' → SX S X' ⟨cfg.N, relab cfg.sc scope, scope⟩ r elt)
    (h : (blkB cfg scope (ownOf cfg.N own) && (foldOk ix && ((mt S.pd it r cfg).i tx ix && ((mt S.pd tg r ⟨cfg.N, relab cfg.sc scope, scope⟩).gw own tx && ((mt S.pd ifs r ⟨cfg.N, relab cfg.sc scope, scope⟩).ts fx && (mt S.pd elt r ⟨cfg.N, relab cfg.sc scope, scope⟩).e x))))) = true) :
    LcOk S.CS X tx ix x fx scope (ownOf cfg.N own) (Pw.w it S.c) (Pw.w tg S.c) (Pw.w ifs S.c) (Pw.w elt S.c) := by
  obtain ⟨h1, h⟩ := ab h
  obtain ⟨h2, h⟩ := ab h
  obtain ⟨h3, h⟩ := ab h
  obtain ⟨h4, h⟩ := ab h
  obtain ⟨h5, h6⟩ := ab h
  have hb : BlkOk X.N X.env.scope scope (ownOf cfg.N own) := by rw [ok.N, ok.sc]; exact blkOk_by h1
  have ck := fun s H C cl fp => ok.blk hb.kind s H C cl fp
  exact { calm := ok.calm, nd := by rw [ok.N]; exact ok.nd, src := ii.i _ _ h3, blk := hb, fold := foldOk_set h2 _,
          g := fun s H C cl fp => pg_blk (mwc tg) (by rw [ownOf_snd]; exact (ig _ (ck s H C cl fp)).gw _ _ h4),
          i := fun s H C cl fp => pts_blk ((iff _ (ck s H C cl fp)).ts _ h5),
          e := fun s H C cl fp => pe_blk ((ie _ (ck s H C cl fp)).e _ h6),
          mS := mwc it, mT := mwc tg, mI := mwc ifs, mE := mwc elt }
theorem s_lcomp (ok : Cok S cfg r X) (ii : SX S X cfg r it) (ig : ∀ cfg' X', Cok S cfg' r X' → SX S X' cfg' r tg) (iff : ∀ cfg' X', Cok S cfg' r X' → SX S X' cfg' r ifs) (ie : ∀ cfg' X', Cok S cfg' r X' → SX S X' cfg' r elt) :
    SX S X cfg r (.lcomp own elt tg it ifs) := Snd.ex (MW.ex fun q k => (mwc (S := S) (.lcomp own elt tg it ifs)).e q k) fun e h => by
  split at h
  · rename_i x tx ix fx scope p
    have := r_lc (pos := p) (lcOk ok ii (ig _) (iff _) (ie _) h)
    rw [ownOf_snd] at this
    exact this
  · cases h
theorem s_asgl (ok : Cok S cfg r X) (i : Nat) (ii : SX S X cfg r it) (ig : ∀ cfg' X', Cok S cfg' r X' → SX S X' cfg' r tg) (iff : ∀ cfg' X', Cok S cfg' r X' → SX S X' cfg' r ifs) (ie : ∀ cfg' X', Cok S cfg' r X' → SX S X' cfg' r elt) :
    SX S X cfg r (.asgl i own elt tg it ifs) := Snd.st fun e h => by
  split at h
  · rename_i y py x tx ix fx scope p sp
    obtain ⟨h1, h⟩ := ab h
    obtain ⟨h2, h⟩ := ab h
    obtain ⟨h2, h9⟩ := ab h2
    have hl := locB_ok h2
    rw [← ok.sc] at hl
    have := r_asgl (py := py) (pos := p) (spos := sp) (lcOk ok ii (ig _) (iff _) (ie _) h) (by rw [ok.sc]; exact ok.kind) (by rw [ok.N]; exact of_decide_eq_true h1) hl (ok.hf _ (locB_ok h9))
    rw [ownOf_snd] at this
    exact this
  · cases h
theorem s_dcomp (ok : Cok S cfg r X) (ii : SX S X cfg r it) (ig : ∀ cfg' X', Cok S cfg' r X' → SX S X' cfg' r tg) (ik : ∀ cfg' X', Cok S cfg' r X' → SX S X' cfg' r kx) (ie : ∀ cfg' X', Cok S cfg' r X' → SX S X' cfg' r vx) :
    SX S X cfg r (.dcomp own kx vx tg it) := Snd.ex (MW.ex fun q k => (mwc (S := S) (.dcomp own kx vx tg it)).e q k) fun e h => by
  split at h
  · rename_i x y tx ix scope p
    obtain ⟨h1, h⟩ := ab h
    obtain ⟨h2, h⟩ := ab h
    obtain ⟨h3, h⟩ := ab h
    obtain ⟨h4, h⟩ := ab h
    obtain ⟨h5, h6⟩ := ab h
    have hb : BlkOk X.N X.env.scope scope (ownOf cfg.N own) := by rw [ok.N, ok.sc]; exact blkOk_by h1
    have ck := fun s H C cl fp => ok.blk hb.kind s H C cl fp
    have dc : DcOk S.CS X tx ix x y scope (ownOf cfg.N own) (Pw.w it S.c) (Pw.w tg S.c) (Pw.w kx S.c) (Pw.w vx S.c) :=
      { calm := ok.calm, nd := by rw [ok.N]; exact ok.nd, room := by have := ok.units; omega, src := ii.i _ _ h3, blk := hb, fold := foldOk_set h2 _,
        g := fun s H C cl fp => pg_blk (mwc tg) (by rw [ownOf_snd]; exact (ig _ _ (ck s H C cl fp)).gw _ _ h4),
        k := fun s H C cl fp => pe_blk ((ik _ _ (ck s H C cl fp)).e _ h5),
        e := fun s H C cl fp => pe_blk ((ie _ _ (ck s H C cl fp)).e _ h6),
        mS := mwc it, mT := mwc tg, mK := mwc kx, mV := mwc vx }
    have := r_dc (pos := p) dc
    rw [ownOf_snd] at this
    exact this
  · cases h
end
end Pw
set_option maxHeartbeats 1000000
/-! Pw37: built-ins and keyword calls, matched. -/
namespace Pw
open PySem PySem.Spec PyProof.Rows L2

section
variable {S : Sta} {cfg : Cfg} {r : Nat} {X : Cx} {args vals : T}
theorem s_bcall (ok : Cok S cfg r X) (b : Bi) (ia : SX S X cfg r args) : SX S X cfg r (.bcall b args) := Snd.ex (MW.ex fun q k => (mwc (S := S) (.bcall b args)).e q k) fun e h => by
  have hu := ok.units
  unfold bcB at h
  split at h
  · obtain ⟨h1, h⟩ := ab h
    obtain ⟨h2, h⟩ := ab h
    obtain ⟨h3, h⟩ := ab h
    obtain ⟨h4, h5⟩ := ab h
    cases of_decide_eq_true h1
    cases of_decide_eq_true h2
    obtain ⟨g1, g2, _⟩ := ok.blt h3
    obtain ⟨k1, k2, _⟩ := ok.blt h4
    obtain ⟨pa, st⟩ := ia.a _ h5
    obtain ⟨st1, _⟩ := ab (show (notStar _ && List.all _ notStar) = true from st)
    exact r_lenset ok.calm (by omega) g1 g2 k1 k2 (mwc args) pa (star_cons st1 _)
  · cases h
  · rename_i hb
    obtain ⟨h1, h⟩ := ab h
    obtain ⟨h2, h⟩ := ab h
    obtain ⟨h3, h4⟩ := ab h
    have h1 := of_decide_eq_true h1
    subst h1
    obtain ⟨g1, g2, g3, g4⟩ := ok.blt h3
    obtain ⟨pa, st⟩ := ia.a _ h4
    obtain ⟨st1, st2⟩ := ab (show (notStar _ && List.all _ notStar) = true from st)
    have hc := ok.calm
    cases b with
    | len => exact r_bfn (T := "len") (mwc args) b_len g1 g2 (by decide +kernel) pa g4 g3 (star_cons st1 _) (star_any _ _ st2)
    | int => exact r_bty (T := "int") (mwc args) b_int g1 g2 (by decide +kernel) pa g4 g3 (star_cons st1 _) (star_any _ _ st2)
    | abs => exact r_bfn (T := "abs") (mwc args) b_abs g1 g2 (by decide +kernel) pa g4 g3 (star_cons st1 _) (star_any _ _ st2)
    | divmod => exact r_bfn (T := "divmod") (mwc args) b_divmod g1 g2 (by decide +kernel) pa g4 g3 (star_cons st1 _) (star_any _ _ st2)
    | min => exact r_bfn (T := "min") (mwc args) (b_min hc (by omega)) g1 g2 (by decide +kernel) pa g4 g3 (star_cons st1 _) (star_any _ _ st2)
    | max => exact r_bfn (T := "max") (mwc args) (b_max hc (by omega)) g1 g2 (by decide +kernel) pa g4 g3 (star_cons st1 _) (star_any _ _ st2)
    | sum => exact r_bfn (T := "sum") (mwc args) (b_sum hc) g1 g2 (by decide +kernel) pa g4 g3 (star_cons st1 _) (star_any _ _ st2)
    | sorted => exact r_bfn (T := "sorted") (mwc args) b_sorted g1 g2 (by decide +kernel) pa g4 g3 (star_cons st1 _) (star_any _ _ st2)
    | list => exact r_bty (T := "list") (mwc args) (b_list hc) g1 g2 (by decide +kernel) pa g4 g3 (star_cons st1 _) (star_any _ _ st2)
    | tuple => exact r_bty (T := "tuple") (mwc args) b_tuple g1 g2 (by decide +kernel) pa g4 g3 (star_cons st1 _) (star_any _ _ st2)
    | all => exact r_bfn (T := "all") (mwc args) (b_all hc) g1 g2 (by decide +kernel) pa g4 g3 (star_cons st1 _) (star_any _ _ st2)
    | any => exact r_bfn (T := "any") (mwc args) (b_any hc) g1 g2 (by decide +kernel) pa g4 g3 (star_cons st1 _) (star_any _ _ st2)
    | repr => exact r_bfn (T := "repr") (mwc args) (b_repr ok.gd (by omega)) g1 g2 (by decide +kernel) pa g4 g3 (star_cons st1 _) (star_any _ _ st2)
    | lenset => cases h2
    | dictPairs => exact r_bty (T := "dict") (mwc args) (b_dict hc (by omega)) g1 g2 (by decide +kernel) pa g4 g3 (star_cons st1 _) (star_any _ _ st2)
  · cases h
theorem s_bzip (ok : Cok S cfg r X) (b : Bi) (ia : SX S X cfg r args) : SX S X cfg r (.bcalli b (.izip args)) := Snd.ex (MW.ex fun q k => (mwc (S := S) (.bcalli b (.izip args))).e q k) fun e h => by
  split at h
  · obtain ⟨h1, h⟩ := ab h
    obtain ⟨h2, h⟩ := ab h
    obtain ⟨h3, h⟩ := ab h
    obtain ⟨h4, h5⟩ := ab h
    cases of_decide_eq_true h1
    cases of_decide_eq_true h2
    obtain ⟨g1, g2, _⟩ := ok.blt h3
    obtain ⟨k1, k2, _⟩ := ok.blt h4
    obtain ⟨pa, st⟩ := ia.a _ h5
    obtain ⟨st1, st2⟩ := ab (show (notStar _ && List.all _ notStar) = true from st)
    refine (r_dzip ok.calm g1 g2 k1 k2 (mwc args) pa (star_cons st1 _) (star_any _ _ st2)).imp fun σ H Q q => ?_
    obtain ⟨env, S', φ, at0, q⟩ := q
    refine ⟨env, S', φ, at0, (mwc (S := S) args).a q fun ds S1 z => ?_⟩
    split at z
    · exact z
    · exact z.elim
  · cases h
theorem s_dnewK : SX S X cfg r .dnewK := Snd.ex (MW.ex fun q k => k _ _ q) fun e h => by
  split at h
  · exact r_dnewK
  · cases h
theorem s_dnewT : SX S X cfg r .dnewT := Snd.ex (MW.ex fun q k => k _ _ q) fun e h => by
  split at h
  · exact r_dnewT
  · cases h
end
end Pw
set_option maxHeartbeats 1000000
/-! Pw38: keyword calls, ranges, matched. -/
namespace Pw
open PySem PySem.Spec PyProof.Rows L2

section
variable {S : Sta} {cfg : Cfg} {r : Nat} {X : Cx} {args vals : T}
theorem a_len (t : T) {c : Cxt} (hc : CMono c.call) : ∀ σ S Q, (Pw.w t c).a σ S Q → (Pw.w t c).a σ S fun ds S' => ds.length = tgLen t ∧ Q ds S' := by
  induction t with
  | nil => exact fun σ S Q q => ⟨rfl, q⟩
  | cons h t _ ih =>
    intro σ S Q q
    refine (mw h hc).e q fun d S1 z => ?_
    refine (mw t hc).a (ih σ S1 _ z) fun ds S2 z => ?_
    exact ⟨by rw [List.length_cons, z.1]; rfl, z.2⟩
  | and_ a r => intro σ S Q q; cases r <;> exact q.elim
  | or_ a r => intro σ S Q q; cases r <;> exact q.elim
  | aug op tg e => intro σ S Q q; cases tg <;> exact q.elim
  | _ => exact fun σ S Q q => q.elim
theorem kw_len (t : T) : ∀ (l : List Keyword) {r : Nat} {cfg : Cfg} {pd : PD}, (mt pd t r cfg).kw l = true → l.length = tgLen t := by
  induction t with
  | nil =>
    intro l r cfg pd h
    cases l with
    | nil => rfl
    | cons => cases h
  | cons a t _ ih =>
    intro l r cfg pd h
    cases l with
    | nil => cases h
    | cons e es =>
      obtain ⟨n, e, p⟩ := e
      cases n with
      | none => cases h
      | some n => rw [List.length_cons, ih es (ab h).2]; rfl
  | gcall => intro l r cfg pd h; cases r <;> cases h
  | gcall2 => intro l r cfg pd h; cases r <;> cases h
  | aug op tg => intro l r cfg pd h; cases tg <;> cases h
  | bcalli b it => intro l r cfg pd h; cases it <;> cases h
  | _ => intro l r cfg pd h; cases h
theorem pa_len (t : T) : ∀ (l : List Expr) {r : Nat} {cfg : Cfg} {pd : PD}, (mt pd t r cfg).a l = true → l.length = tgLen t := by
  induction t with
  | nil =>
    intro l r cfg pd h
    cases l with
    | nil => rfl
    | cons => cases h
  | cons a t _ ih =>
    intro l r cfg pd h
    cases l with
    | nil => cases h
    | cons e es => rw [List.length_cons, ih es (ab (ab h).2).2]; rfl
  | gcall => intro l r cfg pd h; cases r <;> cases h
  | gcall2 => intro l r cfg pd h; cases r <;> cases h
  | aug op tg => intro l r cfg pd h; cases tg <;> cases h
  | bcalli b it => intro l r cfg pd h; cases it <;> cases h
  | _ => intro l r cfg pd h; cases h
theorem s_range (ok : Cok S cfg r X) (ia : SX S X cfg r args) : SX S X cfg r (.irange args) :=
  { (Snd.no : Snd S.CS X Mt.no (Pw.w (.irange args) S.c)) with
    i := fun tg e h => by
      replace h : (mt S.pd (.irange args) r cfg).i tg e = true := h
      unfold mt at h
      dsimp only at h
      split at h
      · obtain ⟨h1, h⟩ := ab h
        obtain ⟨h2, h3⟩ := ab h
        cases of_decide_eq_true h1
        obtain ⟨g1, g2, _⟩ := ok.blt h2
        obtain ⟨pa, st⟩ := ia.a _ h3
        obtain ⟨st1, st2⟩ := ab (show (notStar _ && List.all _ notStar) = true from st)
        have hl := pa_len args _ h3
        exact r_range1 g1 g2 (mwc args) (fun σ S' Q q => by have := a_len args S.cm σ S' Q q; rw [← hl] at this; exact this) pa (star_cons st1 _)
      · obtain ⟨h1, h⟩ := ab h
        obtain ⟨h2, h3⟩ := ab h
        cases of_decide_eq_true h1
        obtain ⟨g1, g2, _⟩ := ok.blt h2
        obtain ⟨pa, st⟩ := ia.a _ h3
        obtain ⟨st1, st2⟩ := ab (show (notStar _ && List.all _ notStar) = true from st)
        obtain ⟨st2, _⟩ := ab (show (notStar _ && List.all _ notStar) = true from st2)
        have hl := pa_len args _ h3
        exact r_range2 g1 g2 (mwc args) (fun σ S' Q q => by have := a_len args S.cm σ S' Q q; rw [← hl] at this; exact this) pa (by rw [star_cons st1, star_cons st2]; rfl) (by rw [star_cons st2]; rfl)
      · cases h }
end
end Pw
set_option maxHeartbeats 1000000
/-! Pw39: keyword calls, matched. -/
namespace Pw
open PySem PySem.Spec PyProof.Rows L2

section
variable {S : Sta} {cfg : Cfg} {r : Nat} {X : Cx} {args vals : T}
theorem kws_facts (pos : Pos) (env : PySem.Env) : ∀ {l : List Keyword}, l.all (·.arg.isSome) = true →
    (backToKw pos (keywordEach l env)).all (·.1.isSome) = true ∧ (backToKw pos (keywordEach l env)).filterMap (·.1) = l.filterMap (·.arg) ∧ (backToKw pos (keywordEach l env)).any (·.1.isNone) = false ∧ (l.filterMap (·.arg)).length = l.length
  | [], _ => ⟨rfl, rfl, rfl, rfl⟩
  | ⟨none, e, p⟩ :: l, h => by cases h
  | ⟨some n, e, p⟩ :: l, h => by
    obtain ⟨h1, h2⟩ := ab (show (true && l.all (·.arg.isSome)) = true from h)
    obtain ⟨i1, i2, i3, i4⟩ := kws_facts pos env h2
    refine ⟨?_, ?_, ?_, ?_⟩
    · show (true && (backToKw pos (keywordEach l env)).all (·.1.isSome)) = true
      rw [i1]; rfl
    · show n :: (backToKw pos (keywordEach l env)).filterMap (·.1) = n :: l.filterMap (·.arg)
      rw [i2]
    · show (false || (backToKw pos (keywordEach l env)).any (·.1.isNone)) = false
      rw [i3]; rfl
    · show (n :: l.filterMap (·.arg)).length = l.length + 1
      rw [List.length_cons, i4]
theorem s_callk (ok : Cok S cfg r X) (f : Nat) (ks : List Nat) (ia : SX S X cfg r vals) : SX S X cfg r (.callk f ks vals) := Snd.ex (MW.ex fun q k => (mwc (S := S) (.callk f ks vals)).e q k) fun e h => by
  split at h
  · rename_i x px kws p
    obtain ⟨h1, h⟩ := ab h
    obtain ⟨h2, h⟩ := ab h
    obtain ⟨h3, h4⟩ := ab h
    split at h1
    · rename_i z ps hd
      obtain ⟨h1, h5⟩ := ab h1
      obtain ⟨h5, h6⟩ := ab h5
      cases of_decide_eq_true h1
      obtain ⟨fa, fd, F, hm, hk, _, hkw⟩ := S.defs f _ _ hd
      have hb := hkw _ _ (of_decide_eq_true h5)
      obtain ⟨k1, k2, k3, k4⟩ := kws_facts p X.env h6
      have F' : FnP X.prog X.w X.K X.mg X.base S.CS S.k fa fd ps (fun ds S' Q => S.call f ds S' Q fun _ _ => False) := by
        rw [ok.prog, ok.w, ok.K, ok.mg, ok.base]; exact F
      have hl := kw_len vals _ h4
      exact r_callk F' (ok.room.mono (Nat.le_add_right _ _)) ok.gd (fun q k => S.cm _ _ _ _ _ _ q k) (ok.gl h2) (by rw [ok.mg]; exact hm) (by rw [ok.K]; exact hk) hb (mwc vals) (ia.kw _ h4) (okN_ok h3).1 k1 k2 (by rw [k3]; rfl)
        (fun σ S' Q q => by have := a_len vals S.cm σ S' Q q; rw [← hl, ← k4] at this; exact this)
    · cases h1
  · cases h
end
end Pw
set_option maxHeartbeats 1000000
/-! Pw40: methods, matched. -/
namespace Pw
open PySem PySem.Spec PyProof.Rows L2

section
variable {S : Sta} {cfg : Cfg} {r : Nat} {X : Cx} {args o : T}
theorem base_plain {e : Expr} (h : baseOk e = true) (nm : Str) (env : PySem.Env) (whole : Sem Value) : attributeBase e nm env whole = whole := by
  cases e <;> first | rfl | cases h
theorem star_all (pos : Pos) (env : PySem.Env) : ∀ {es : List Expr}, es.all notStar = true → (backTo pos (starEach es env)).all (fun x => !x.1) = true
  | [], _ => rfl
  | e :: es, h => by
    obtain ⟨h1, h2⟩ := ab (show (notStar e && es.all notStar) = true from h)
    rw [star_cons h1]
    show (true && (backTo pos (starEach es env)).all (fun x => !x.1)) = true
    rw [star_all pos env h2]; rfl
theorem s_meth (ok : Cok S cfg r X) (m : Me) (io : SX S X cfg r o) (ia : SX S X cfg r args) : SX S X cfg r (.meth m o args) := Snd.ex (MW.ex fun q k => (mwc (S := S) (.meth m o args)).e q k) fun e h => by
  have hu := ok.units
  split at h
  · rename_i x nm ap y ys cp
    obtain ⟨h1, h⟩ := ab h
    obtain ⟨h2, h⟩ := ab h
    obtain ⟨h3, h⟩ := ab h
    obtain ⟨h4, h⟩ := ab h
    obtain ⟨h5, h⟩ := ab h
    obtain ⟨h6, h7⟩ := ab h
    have h1 := of_decide_eq_true h1
    subst h1
    have h5 := of_decide_eq_true h5
    obtain ⟨pa, st⟩ := ia.a _ h7
    obtain ⟨st1, st2⟩ := ab (show (notStar _ && List.all _ notStar) = true from st)
    have hf : ((backTo cp (starEach (y :: ys) X.env)).all (fun x => !x.1) && (backToKw cp (keywordEach [] X.env)).all (fun x => x.1.isSome)
      && decide ((y :: ys).length + ([] : List Keyword).length + (if ([] : List Keyword).isEmpty then 0 else 1) < 30)) = true := by
      rw [star_all cp X.env st]
      simp [backToKw, keywordEach]
      omega
    cases m with
    | append => exact pe_mw F.plainAttrs_list F.slot_list_append F.type_list_append mt_append_ok (io.e _ h6) pa (mwc o) (mwc args) (base_plain h3 _ _ _) hf h4 (star_cons st1 _) (star_any _ _ st2)
    | pop => exact pe_mw F.plainAttrs_list F.slot_list_pop F.type_list_pop mt_pop_ok (io.e _ h6) pa (mwc o) (mwc args) (base_plain h3 _ _ _) hf h4 (star_cons st1 _) (star_any _ _ st2)
    | index => exact pe_mw F.plainAttrs_tuple F.slot_tuple_index F.type_tuple_index mt_index_ok (io.e _ h6) pa (mwc o) (mwc args) (base_plain h3 _ _ _) hf h4 (star_cons st1 _) (star_any _ _ st2)
    | get => exact pe_mw F.plainAttrs_dict F.slot_dict_get F.type_dict_get (mt_get_ok (by omega)) (io.e _ h6) pa (mwc o) (mwc args) (base_plain h3 _ _ _) hf h4 (star_cons st1 _) (star_any _ _ st2)
    | join => exact pe_mw F.plainAttrs_str F.slot_str_join F.type_str_join mt_join_ok (io.e _ h6) pa (mwc o) (mwc args) (base_plain h3 _ _ _) hf h4 (star_cons st1 _) (star_any _ _ st2)
    | remove => cases h2
  · cases h
end
end Pw
set_option maxHeartbeats 1000000
/-! Pw41: generator expressions, matched. -/
namespace Pw
open PySem PySem.Spec PyProof.Rows L2

/-- targets of own slots keep the other slots -/
theorem wipeE_set {env : Env} {own : List Nat} {i : Nat} {v : Option D} (hi : i ∈ own) : wipeE (env.set i v) own = wipeE env own := by
  have len : ∀ (l : List Nat) (e : Env), (wipeE e l).length = e.length := by
    intro l
    induction l with
    | nil => intro e; rfl
    | cons v l ih => intro e; show ((wipeE e l).set v none).length = _; rw [List.length_set, ih]
  have get : ∀ (l : List Nat) (e : Env) (j : Nat), j < e.length → (wipeE e l)[j]? = if j ∈ l then some none else e[j]? := by
    intro l
    induction l with
    | nil => intro e j _; rfl
    | cons v l ih =>
      intro e j hj
      show ((wipeE e l).set v none)[j]? = _
      by_cases h : v = j
      · subst h
        rw [List.getElem?_set_self (by rw [len]; exact hj)]
        simp
      · rw [List.getElem?_set_ne h, ih e j hj]
        simp [Ne.symm h]
  apply List.ext_getElem?
  intro j
  by_cases hj : j < env.length
  · rw [get _ _ _ (by simpa using hj), get _ _ _ hj]
    by_cases e : i = j
    · subst e; simp [hi]
    · rw [List.getElem?_set_ne e]
  · rw [List.getElem?_eq_none (by rw [len, List.length_set]; omega), List.getElem?_eq_none (by rw [len]; omega)]
theorem own_ok (own : List Nat) (t : T) {c : Cxt} (hc : CMono c.call) : tgIn own t = true → (∀ d env S R, (Pw.w t c).g d env S R → (Pw.w t c).g d env S fun σ1 S1 => wipeE σ1 own = wipeE env own ∧ R σ1 S1) ∧ (∀ ds env S R, (Pw.w t c).gs ds env S R → (Pw.w t c).gs ds env S fun σ1 S1 => wipeE σ1 own = wipeE env own ∧ R σ1 S1) := by
  induction t with
  | nil => exact fun _ => ⟨fun _ _ _ _ q => q.elim, fun ds env S R q => ⟨q.1, rfl, q.2⟩⟩
  | var i => exact fun h => ⟨fun d env S R q => ⟨wipeE_set (of_decide_eq_true h), q⟩, fun _ _ _ _ q => q.elim⟩
  | tup es ih =>
    intro h
    refine ⟨fun d env S R q => ?_, fun _ _ _ _ q => q.elim⟩
    cases d with
    | tup k ds => exact ⟨q.1, (ih h).2 ds env S R q.2⟩
    | _ => exact q.elim
  | cons a t iha iht =>
    intro h
    obtain ⟨h1, h2⟩ := ab h
    refine ⟨fun _ _ _ _ q => q.elim, fun ds env S R q => ?_⟩
    cases ds with
    | nil => exact q.elim
    | cons d ds =>
      refine (mw a hc).g ((iha h1).1 d env S _ q) fun σ1 S1 z => ?_
      refine (mw t hc).gs ((iht h2).2 ds σ1 S1 _ z.2) fun σ2 S2 z2 => ?_
      exact ⟨z2.1.trans z.1, z2.2⟩
  | _ => intro h; cases h
end Pw
set_option maxHeartbeats 1000000
/-! Pw42: generator expressions, matched. -/
namespace Pw
open PySem PySem.Spec PyProof.Rows L2

section
variable {S : Sta} {cfg : Cfg} {r : Nat} {X : Cx} {elt tg it ifs rest : T} {own : List Nat}
theorem Cok.gen (ok : Cok S cfg (r + 1) X) {scope : Scope} (hk : scope.kind = .function) {G : Cx} (g : GCtx X (S.k + r) scope G) : Cok S ⟨cfg.N, scope, scope⟩ r G := by
  obtain ⟨B, s, H, c', fp, rfl, rm, gd⟩ := g
  exact { prog := ok.prog, w := ok.w, K := ok.K, mg := ok.mg, base := ok.base, N := ok.N, nd := ok.nd, sc := rfl, kind := hk, calm := rfl, xe := rfl, gd := gd.trans ok.gd, room := rm,
          hf := fun x hx => by
            rcases hx with q | q
            · exact .inr q
            · refine .inl ?_
              show (scope.names.lookup x == some .cell) = true
              have q : scope.names.lookup x = some .cell := q
              rw [q]; rfl }
theorem genOk {scope : Scope} {z tx ix : Expr} {fx : List Expr} (ok : Cok S cfg (r + 1) X) (ii : SX S X cfg (r + 1) it)
    (ig : ∀ cfg' X', Cok S cfg' r X' → SX S X' cfg' r tg) (iff : ∀ cfg' X', Cok S cfg' r X' → SX S X' cfg' r ifs) (ie : ∀ cfg' X', Cok S cfg' r X' → SX S X' cfg' r elt)
    (h1 : genB cfg scope own = true) (h2 : tgIn own tg = true) (h3 : foldOk ix = true) (h4 : (mt S.pd it (r + 1) cfg).i tx ix = true) (h5 : (mt S.pd tg r ⟨cfg.N, scope, scope⟩).g tx = true) (h6 : (mt S.pd ifs r ⟨cfg.N, scope, scope⟩).ts fx = true) (h7 : (mt S.pd elt r ⟨cfg.N, scope, scope⟩).e z = true) :
    GenOk S.CS X (S.k + r) tx ix z fx scope (ownOf cfg.N own) (Pw.w it S.c) (Pw.w tg S.c) (Pw.w ifs S.c) (Pw.w elt S.c) := by
  obtain ⟨b1, b2⟩ := ab h1
  obtain ⟨b2, b3⟩ := ab b2
  have hb : BlkOk X.N X.env.scope scope (ownOf cfg.N own) := by rw [ok.N, ok.sc]; exact blkOk_by b1
  exact { room := ok.room, nd := by rw [ok.N]; exact ok.nd, src := ii.i _ _ h4, blk := hb, co := by simpa using b2, dot := of_decide_eq_true b3, fold := h3,
          g := fun G gc => (ig _ _ (ok.gen hb.kind gc)).g _ h5,
          i := fun G gc => (iff _ _ (ok.gen hb.kind gc)).ts _ h6,
          e := fun G gc => (ie _ _ (ok.gen hb.kind gc)).e _ h7,
          mS := mwc it, mT := mwc tg, mI := mwc ifs, mE := mwc elt,
          own := fun d env S' R q => by rw [ownOf_snd]; exact (own_ok own tg S.cm h2).1 d env S' R q }
end
end Pw
set_option maxHeartbeats 1000000
/-! Pw43: calls of built-ins on generator expressions, matched. -/
namespace Pw
open PySem PySem.Spec PyProof.Rows L2

section
variable {S : Sta} {cfg : Cfg} {r : Nat} {X : Cx} {elt tg it ifs rest : T} {own : List Nat}
theorem Snd.exP {CS : List Addr} {f : Expr → Bool} {r : Env → Store → KD → Prop} (mA : MW (W.ex r)) (h : ∀ e, f e = true → PE X e (tE CS X r)) : Snd CS X (Mt.ex f) { W.ex r with p := fun _ _ _ => False } :=
  let z := Snd.ex mA h
  ⟨z.e, z.t, z.a, z.kw, fun o ho => (z.o o ho).imp fun σ H Q ⟨_, _, _, _, q⟩ => q.elim, z.g, z.gs, z.gw, z.gsw, z.i, z.ts, z.s, z.ss⟩
theorem s_gcall (ok : Cok S cfg r X) (f : Gc) (ii : SX S X cfg r it) (ig : ∀ r' cfg' X', r' < r → Cok S cfg' r' X' → SX S X' cfg' r' tg) (iff : ∀ r' cfg' X', r' < r → Cok S cfg' r' X' → SX S X' cfg' r' ifs) (ie : ∀ r' cfg' X', r' < r → Cok S cfg' r' X' → SX S X' cfg' r' elt) :
    SX S X cfg r (.gcall f own elt tg it ifs rest) := by
  cases r with
  | zero => exact Snd.no
  | succ r =>
    refine Snd.exP (MW.ex fun q k => (mwc (S := S) (.gcall f own elt tg it ifs rest)).e q k) fun e h => ?_
    split at h
    · rename_i x px z tx ix fx scope gp more p
      obtain ⟨h1, h⟩ := ab h
      obtain ⟨h2, h⟩ := ab h
      obtain ⟨h3, h⟩ := ab h
      obtain ⟨h4, h⟩ := ab h
      obtain ⟨h5, h⟩ := ab h
      obtain ⟨h6, h⟩ := ab h
      obtain ⟨h7, h⟩ := ab h
      obtain ⟨h8, h⟩ := ab h
      obtain ⟨h9, h⟩ := ab h
      obtain ⟨h10, h11⟩ := ab h
      have h1 := of_decide_eq_true h1
      subst h1
      obtain ⟨g1, g2, _⟩ := ok.blt h3
      have gk := genOk ok ii (fun c X' o => ig r c X' (Nat.lt_succ_self _) o) (fun c X' o => iff r c X' (Nat.lt_succ_self _) o) (fun c X' o => ie r c X' (Nat.lt_succ_self _) o) h4 h5 h6 h7 h8 h9 h10
      have e1 := ownOf_snd cfg.N own
      split at h11
      · have key : ∀ kk pp, _ := fun kk pp => pe_gnext (p := px) (pos := p) (gpos := gp) (kn := kk) (pn := pp) gk g1 g2
        unfold gRd at key
        rw [e1] at key
        exact key _ _
      · cases h11
      · cases f with
        | all =>
          have := pe_gall (p := px) (pos := p) (gpos := gp) (dflt := .non) gk g1 g2
          unfold gRd at this
          rw [e1] at this
          exact this
        | any =>
          have := pe_gany (p := px) (pos := p) (gpos := gp) (dflt := .non) gk g1 g2
          unfold gRd at this
          rw [e1] at this
          exact this
        | tuple =>
          have := pe_gtuple (p := px) (pos := p) (gpos := gp) (dflt := .non) gk g1 g2
          unfold gRd at this
          rw [e1] at this
          exact this
        | sum => exact absurd rfl (of_decide_eq_true h2)
        | next => simp_all
      · cases h11
    · cases h
end
end Pw
set_option maxHeartbeats 1000000
/-! Pw44: generator expressions of two clauses, matched. -/
namespace Pw
open PySem PySem.Spec PyProof.Rows L2

section
variable {S : Sta} {cfg : Cfg} {r : Nat} {X : Cx} {elt tg it ifs tg2 it2 ifs2 : T} {own own2 : List Nat}
theorem s_gcall2 (ok : Cok S cfg r X) (f : Gc) (ii : SX S X cfg r it) (ig : ∀ r' cfg' X', r' < r → Cok S cfg' r' X' → SX S X' cfg' r' tg) (iff : ∀ r' cfg' X', r' < r → Cok S cfg' r' X' → SX S X' cfg' r' ifs) (ie : ∀ r' cfg' X', r' < r → Cok S cfg' r' X' → SX S X' cfg' r' elt)
    (ii2 : ∀ r' cfg' X', r' < r → Cok S cfg' r' X' → SX S X' cfg' r' it2) (ig2 : ∀ r' cfg' X', r' < r → Cok S cfg' r' X' → SX S X' cfg' r' tg2) (iff2 : ∀ r' cfg' X', r' < r → Cok S cfg' r' X' → SX S X' cfg' r' ifs2) :
    SX S X cfg r (.gcall2 f own own2 elt tg it ifs tg2 it2 ifs2) := by
  cases r with
  | zero => exact Snd.no
  | succ r =>
    refine Snd.ex (MW.ex fun q k => (mwc (S := S) (.gcall2 f own own2 elt tg it ifs tg2 it2 ifs2)).e q k) fun e h => ?_
    split at h
    · rename_i x px z tx ix fx tx2 ix2 fx2 scope gp p
      obtain ⟨h1, h⟩ := ab h
      obtain ⟨h2, h⟩ := ab h
      obtain ⟨h3, h⟩ := ab h
      obtain ⟨h4, h⟩ := ab h
      obtain ⟨h5, h⟩ := ab h
      obtain ⟨h6, h⟩ := ab h
      obtain ⟨h7, h⟩ := ab h
      obtain ⟨h8, h⟩ := ab h
      obtain ⟨h9, h⟩ := ab h
      obtain ⟨h10, h⟩ := ab h
      obtain ⟨h11, h⟩ := ab h
      obtain ⟨h12, h⟩ := ab h
      obtain ⟨h13, h⟩ := ab h
      obtain ⟨h14, h⟩ := ab h
      obtain ⟨h15, h16⟩ := ab h
      cases of_decide_eq_true h1
      cases of_decide_eq_true h2
      obtain ⟨g1, g2, _⟩ := ok.blt h3
      have gk := genOk ok ii (fun c X' o => ig r c X' (Nat.lt_succ_self _) o) (fun c X' o => iff r c X' (Nat.lt_succ_self _) o) (fun c X' o => ie r c X' (Nat.lt_succ_self _) o) h4 h5 h8 h10 h11 h12 h16
      have hb := gk.blk
      have e1 := ownOf_snd cfg.N own
      have gk2 : Gen2Ok S.CS X (S.k + r) tx2 ix2 fx2 scope (ownOf cfg.N own) own2 (Pw.w it2 S.c) (Pw.w tg2 S.c) (Pw.w ifs2 S.c) :=
        { src := fun G gc => (ii2 r _ _ (Nat.lt_succ_self _) (ok.gen hb.kind gc)).i _ _ h13, fold := h9,
          g := fun G gc => (ig2 r _ _ (Nat.lt_succ_self _) (ok.gen hb.kind gc)).g _ h14,
          i := fun G gc => (iff2 r _ _ (Nat.lt_succ_self _) (ok.gen hb.kind gc)).ts _ h15,
          mS := mwc it2, mT := mwc tg2, mI := mwc ifs2,
          sub := fun i hi => by rw [e1]; exact of_decide_eq_true (List.all_eq_true.mp h7 i hi),
          own := fun d env S' R q => (own_ok own2 tg2 S.cm h6).1 d env S' R q }
      have := pe_gtuple2 (p := px) (pos := p) (gpos := gp) gk gk2 g1 g2
      unfold gRd2 at this
      rw [e1] at this
      exact this
    · cases h
end
end Pw
set_option maxHeartbeats 1000000
/-! Pw45: a matched tree has the reading. -/
namespace Pw
open PySem PySem.Spec PyProof.Rows L2

section
variable {S : Sta} {cfg : Cfg} {r : Nat} {X : Cx} {a q : T}
theorem s_and0 (h : q ≠ .nil) (h2 : ∀ x y, q ≠ .and_ x y) : SX S X cfg r (.and_ a q) := by
  show Snd S.CS X (mt S.pd (.and_ a q) r cfg) (Pw.w (.and_ a q) S.c)
  rw [and_w h]
  refine Snd.tx (fun e he => ?_) (fun e he => ?_)
  · split at he
    · have z := (ab he).2
      split at z
      · exact absurd rfl h
      · exact absurd rfl (h2 _ _)
      · cases z
    · cases he
  · split at he
    · have z := (ab he).2
      split at z
      · exact absurd rfl h
      · exact absurd rfl (h2 _ _)
      · cases z
    · cases he
theorem s_or0 (h : q ≠ .nil) (h2 : ∀ x y, q ≠ .or_ x y) : SX S X cfg r (.or_ a q) := by
  show Snd S.CS X (mt S.pd (.or_ a q) r cfg) (Pw.w (.or_ a q) S.c)
  rw [or_w h]
  refine Snd.tx (fun e he => ?_) (fun e he => ?_)
  · split at he
    · have z := (ab he).2
      split at z
      · exact absurd rfl h
      · exact absurd rfl (h2 _ _)
      · cases z
    · cases he
  · split at he
    · have z := (ab he).2
      split at z
      · exact absurd rfl h
      · exact absurd rfl (h2 _ _)
      · cases z
    · cases he
end
theorem sound (S : Sta) : ∀ (t : T) (r : Nat) (cfg : Cfg) (X : Cx), Cok S cfg r X → SX S X cfg r t
  | .nil => fun r cfg X ok => s_nil
  | .cons h t => fun r cfg X ok => s_cons (sound S h r cfg X ok) (sound S t r cfg X ok)
  | .int i => fun r cfg X ok => s_int i
  | .str s => fun r cfg X ok => s_str s
  | .bl b => fun r cfg X ok => s_bl b
  | .non => fun r cfg X ok => s_non
  | .var i => fun r cfg X ok => s_var ok i
  | .gint x i => fun r cfg X ok => s_gint ok x i
  | .gstr x s => fun r cfg X ok => s_gstr ok x s
  | .gtups x ss => fun r cfg X ok => s_gtups ok x ss
  | .tup es => fun r cfg X ok => s_tup ok (sound S es r cfg X ok)
  | .lst es => fun r cfg X ok => s_lst (sound S es r cfg X ok)
  | .bin op a b => fun r cfg X ok => s_bin op (sound S a r cfg X ok) (sound S b r cfg X ok)
  | .neg a => fun r cfg X ok => s_neg (sound S a r cfg X ok)
  | .cmp op a b => fun r cfg X ok => s_cmp ok op (sound S a r cfg X ok) (sound S b r cfg X ok)
  | .isn a => fun r cfg X ok => s_isn (sound S a r cfg X ok)
  | .notn a => fun r cfg X ok => s_notn (sound S a r cfg X ok)
  | .chain o1 o2 a b d => fun r cfg X ok => s_chain ok o1 o2 (sound S a r cfg X ok) (sound S b r cfg X ok) (sound S d r cfg X ok)
  | .and_ a q => fun r cfg X ok => by
    by_cases h : q = .nil
    · exact s_and (sound S a r cfg X ok) (sound S q r cfg X ok) (.inl h)
    · by_cases h2 : ∃ x y, q = .and_ x y
      · exact s_and (sound S a r cfg X ok) (sound S q r cfg X ok) (.inr h2)
      · exact s_and0 h fun x y e => h2 ⟨x, y, e⟩
  | .or_ a q => fun r cfg X ok => by
    by_cases h : q = .nil
    · exact s_or (sound S a r cfg X ok) (sound S q r cfg X ok) (.inl h)
    · by_cases h2 : ∃ x y, q = .or_ x y
      · exact s_or (sound S a r cfg X ok) (sound S q r cfg X ok) (.inr h2)
      · exact s_or0 h fun x y e => h2 ⟨x, y, e⟩
  | .not_ a => fun r cfg X ok => s_not (sound S a r cfg X ok)
  | .ite c a b => fun r cfg X ok => s_ite (sound S c r cfg X ok) (sound S a r cfg X ok) (sound S b r cfg X ok)
  | .sub a i => fun r cfg X ok => s_sub ok (sound S a r cfg X ok) (sound S i r cfg X ok)
  | .slice a lo hi => fun r cfg X ok => s_slice (sound S a r cfg X ok) (sound S lo r cfg X ok) (sound S hi r cfg X ok)
  | .rev a => fun r cfg X ok => s_rev (sound S a r cfg X ok)
  | .call f args => fun r cfg X ok => s_call ok f (sound S args r cfg X ok)
  | .callk f ks vals => fun r cfg X ok => s_callk ok f ks (sound S vals r cfg X ok)
  | .bcall b args => fun r cfg X ok => s_bcall ok b (sound S args r cfg X ok)
  | .bcalli b (.izip args) => fun r cfg X ok => s_bzip ok b (sound S args r cfg X ok)
  | .bcalli b it => fun r cfg X ok => by
    cases it with
    | izip args => exact s_bzip ok b (sound S args r cfg X ok)
    | _ => exact Snd.no
  | .meth m o args => fun r cfg X ok => s_meth ok m (sound S o r cfg X ok) (sound S args r cfg X ok)
  | .isin a ty => fun r cfg X ok => s_isin ok ty (sound S a r cfg X ok)
  | .dnewK => fun r cfg X ok => s_dnewK
  | .dnewT => fun r cfg X ok => s_dnewT
  | .lcomp own elt tg it ifs => fun r cfg X ok => s_lcomp ok (sound S it r cfg X ok) (fun c Y o => sound S tg r c Y o) (fun c Y o => sound S ifs r c Y o) (fun c Y o => sound S elt r c Y o)
  | .dcomp own k v tg it => fun r cfg X ok => s_dcomp ok (sound S it r cfg X ok) (fun c Y o => sound S tg r c Y o) (fun c Y o => sound S k r c Y o) (fun c Y o => sound S v r c Y o)
  | .gcall f own elt tg it ifs rest => fun r cfg X ok => s_gcall ok f (sound S it r cfg X ok) (fun r' c Y _ o => sound S tg r' c Y o) (fun r' c Y _ o => sound S ifs r' c Y o) (fun r' c Y _ o => sound S elt r' c Y o)
  | .gcall2 f own own2 elt tg it ifs tg2 it2 ifs2 => fun r cfg X ok => s_gcall2 ok f (sound S it r cfg X ok) (fun r' c Y _ o => sound S tg r' c Y o) (fun r' c Y _ o => sound S ifs r' c Y o) (fun r' c Y _ o => sound S elt r' c Y o) (fun r' c Y _ o => sound S it2 r' c Y o) (fun r' c Y _ o => sound S tg2 r' c Y o) (fun r' c Y _ o => sound S ifs2 r' c Y o)
  | .irange args => fun r cfg X ok => s_range ok (sound S args r cfg X ok)
  | .ienum args => fun r cfg X ok => s_enum ok (sound S args r cfg X ok)
  | .izip args => fun r cfg X ok => s_zip ok (sound S args r cfg X ok)
  | .expr e => fun r cfg X ok => s_expr (sound S e r cfg X ok)
  | .asg tg (.tup es) => fun r cfg X ok => s_asgT ok (sound S tg r cfg X ok) (sound S es r cfg X ok) (s_tup ok (sound S es r cfg X ok))
  | .asg tg e => fun r cfg X ok => by
    cases e with
    | tup es => exact s_asgT ok (sound S tg r cfg X ok) (sound S es r cfg X ok) (s_tup ok (sound S es r cfg X ok))
    | _ => exact s_asg ok (sound S tg r cfg X ok) (sound S _ r cfg X ok) fun es q => by cases q
  | .asgl i own elt tg it ifs => fun r cfg X ok => s_asgl ok i (sound S it r cfg X ok) (fun c Y o => sound S tg r c Y o) (fun c Y o => sound S ifs r c Y o) (fun c Y o => sound S elt r c Y o)
  | .asgd .. => fun r cfg X ok => Snd.no
  | .aug op (.var i) e => fun r cfg X ok => s_augV ok op i (sound S e r cfg X ok)
  | .aug op (.sub x k) e => fun r cfg X ok => s_augS ok op (sound S x r cfg X ok) (sound S k r cfg X ok) (sound S e r cfg X ok)
  | .aug op tg e => fun r cfg X ok => by
    cases tg with
    | var i => exact s_augV ok op i (sound S e r cfg X ok)
    | sub x k => exact s_augS ok op (sound S x r cfg X ok) (sound S k r cfg X ok) (sound S e r cfg X ok)
    | _ => exact Snd.no
  | .ifs c a b => fun r cfg X ok => s_ifs (sound S c r cfg X ok) (sound S a r cfg X ok) (sound S b r cfg X ok)
  | .for_ tg it body => fun r cfg X ok => s_for ok (sound S it r cfg X ok) (sound S tg r cfg X ok) (sound S body r cfg X ok)
  | .while_ c body => fun r cfg X ok => s_while ok (sound S c r cfg X ok) (sound S body r cfg X ok)
  | .ret e => fun r cfg X ok => s_ret (sound S e r cfg X ok)
  | .retn => fun r cfg X ok => s_retn
  | .brk => fun r cfg X ok => s_brk
  | .cont => fun r cfg X ok => s_cont
  | .pass => fun r cfg X ok => s_pass
  | .never => fun r cfg X ok => s_never
end Pw
set_option maxHeartbeats 1000000
/-! Pw46: a program's defs keep their readings, to any depth. -/
namespace Pw
open PySem PySem.Spec PyProof.Rows L2

/-- a program behind its top: its defs stand as the small syntax says -/
structure Prog (K : PySem.W.Frag) (mg : Str → Option Value) (base : Heap) (CS : List Addr) (pd : PD) (fns : List FnT) : Prop where
  defs : ∀ (f : Nat) (x : Str) (ps : List Str), pd.defs[f]? = some (x, ps) → ∃ fn scope body fa fd, fns[f]? = some fn ∧ fn.np = ps.length ∧ DefOk K mg base CS x scope ps body fn.names fa fd ∧ (mt pd fn.body 2 ⟨fn.names, scope, scope⟩).ss body = true ∧ ∀ ks pm, (f, ks, pm) ∈ pd.kws → KwOk fd ps ks pm
  free : ∀ x ∈ pd.free, mg x = none
  gints : ∀ p ∈ pd.gints, ∃ t, mg p.1 = some (.int p.2 t)
  gstrs : ∀ p ∈ pd.gstrs, ∃ t, mg p.1 = some (.str p.2 t)
  gtups : ∀ p ∈ pd.gtups, ∃ a, mg p.1 = some (.ref a) ∧ ∀ H, SqT K H a (p.2.map V.str)
section
variable {P : Program} {w : World} {K : PySem.W.Frag} {mg : Str → Option Value} {base : Heap} {CS : List Addr} {pd : PD} {fns : List FnT}
theorem DefOk.lk {x : Str} {scope : Scope} {ps : List Str} {body : List Stmt} {N : List Str} {f : Addr} {fd : FuncData} (D : DefOk K mg base CS x scope ps body N f fd) : ∃ oc od osl, K.lookup f = some ⟨oc, od, .func fd, osl⟩ := by
  obtain ⟨_, _, oc, od, _, _, _, _, _, _, _, _, osl, _, lk, _⟩ := D.ex
  exact ⟨oc, od, osl, lk⟩
abbrev ClAt (fns : List FnT) (n f : Nat) : List D → Store → KD → Prop := fun ds S Q => callAt fns n f ds S Q fun _ _ => False
theorem prog_fnp (G : Prog K mg base CS pd fns) : ∀ (n f : Nat) (x : Str) (ps : List Str), pd.defs[f]? = some (x, ps) →
    ∃ (fa : Addr) (fd : FuncData), FnP P w K mg base CS (3 * n) fa fd ps (ClAt fns n f) ∧ mg x = some (.ref fa) ∧ PySem.W.keepIn K (.ref fa) = true ∧ Binds K fd ps [] ∧ (∀ ks pm, (f, ks, pm) ∈ pd.kws → KwOk fd ps ks pm) ∧ ∃ oc od osl, K.lookup fa = some ⟨oc, od, .func fd, osl⟩
  | 0, f, x, ps, hd => by
    obtain ⟨fn, scope, body, fa, fd, h1, h2, D, h3, h4⟩ := G.defs f x ps hd
    exact ⟨fa, fd, ⟨fun _ _ _ h => h.elim, fun _ _ _ _ _ _ _ _ _ _ _ _ _ _ _ _ _ _ _ h => h.elim⟩, D.mg, D.kp, D.binds, h4, D.lk⟩
  | n + 1, f, x, ps, hd => by
    obtain ⟨fn, scope, body, fa, fd, h1, h2, D, h3, h4⟩ := G.defs f x ps hd
    let S : Sta := ⟨P, w, K, mg, base, CS, 3 * n, pd, callAt fns n, callAt_mono fns n, fun f x ps hd => let ⟨fa, fd, a, b, c, d, e, _⟩ := prog_fnp G n f x ps hd; ⟨fa, fd, a, b, c, d, e⟩, G.free, G.gints, G.gstrs, G.gtups⟩
    have F := fnp_of (P := P) (w := w) (k := 3 * n + 2) (c := S.c) (mw fn.body (c := S.c) S.cm) h2 D fun qual cd A outer s H hr hg => by
      have ok : Cok S ⟨fn.names, scope, scope⟩ 2 (cxOf C8.CX0 P w K mg base fn.names qual scope fa cd A outer s H C8.E0).nox :=
        { prog := rfl, w := rfl, K := rfl, mg := rfl, base := rfl, N := rfl, nd := D.sc.nd, sc := rfl, kind := D.sc.kind, calm := rfl, xe := rfl, gd := hg, room := hr, hf := fun _ _ => .inl rfl }
      exact (sound S fn.body 2 _ _ ok).ss body h3
    refine ⟨fa, fd, ?_, D.mg, D.kp, D.binds, h4, D.lk⟩
    have e : ClAt fns (n + 1) f = fun ds S' Q => ds.length = fn.np ∧ (Pw.w fn.body S.c).s { nx := fun _ S' => Q .non S', rt := Q } (startE fn ds) S' := by
      funext ds S' Q
      show callAt fns (n + 1) f ds S' Q _ = _
      unfold callAt
      rw [h1]
      rfl
    rw [e]
    exact F
end
end Pw
set_option maxHeartbeats 2000000
/-! Pw47: a law's call over the small syntax. -/
namespace Pw
open PySem PySem.Spec PyProof.Rows L2

abbrev tabO : Obj := { cls := .none, data := .fields #[] }
abbrev lstO (vs : List Value) : Obj := { cls := .type "list", data := .seq vs.toArray }
/-- what is tracked at the law's call: the tables, the script if it is none of the top's -/
def H0 (K : PySem.W.Frag) (T : List Addr) (a : Addr) (vs : List Value) (xs : List V) : Hp := fun b =>
  if b ∈ T then some (.tbl #[]) else if b = a ∧ (K.lookup a).isNone = true then some (.frz (lstO vs) (.lst xs)) else none
section
variable {K : PySem.W.Frag} {T : List Addr} {a : Addr} {vs : List Value} {xs : List V}
theorem H0_tab {b : Addr} (h : b ∈ T) : H0 K T a vs xs b = some (.tbl #[]) := if_pos h
theorem H0_a (h : a ∉ T) (k : K.lookup a = none) : H0 K T a vs xs a = some (.frz (lstO vs) (.lst xs)) := by
  unfold H0
  rw [if_neg h, if_pos ⟨rfl, by rw [k]; rfl⟩]
theorem H0_cases (b : Addr) (o : HO) (h : H0 K T a vs xs b = some o) : (b ∈ T ∧ o = .tbl #[]) ∨ (b = a ∧ K.lookup a = none ∧ o = .frz (lstO vs) (.lst xs)) := by
  unfold H0 at h
  split at h
  · exact .inl ⟨‹_›, (Option.some.inj h).symm⟩
  · split at h
    · rename_i q
      exact .inr ⟨q.1, Option.isNone_iff_eq_none.mp q.2, (Option.some.inj h).symm⟩
    · cases h
end
theorem law_fnp {P : Program} {w : World} {K : PySem.W.Frag} {mg mb : Str → Option Value} {k : Nat} {fa a : Addr} {cs : List (Addr × Addr)} {fd : FuncData} {x : Str} {cl : List D → Store → KD → Prop} {s₁ : Shared} {vs : List Value} {ns : List Int}
    (KX : K.In s₁.heap) (hns : s₁.heap.Ns mainGlobals mg) (hb : s₁.heap.Ns builtinsNs mb) (hbb : ∀ x : Str, x ≠ "__name__" → mb x = bootBuiltins x) (hlim : s₁.heap.NoLimit) (hg : s₁.gens = #[])
    (hT : ∀ p ∈ cs, s₁.heap.get? p.2 = some tabO) (nT : ∀ p ∈ cs, K.lookup p.2 = none) (C : ∀ p ∈ cs, PySem.W.CodeHd s₁.heap p.1 p.2)
    (hbm : ∃ (bm : Addr) (ob : Obj), mg "__builtins__" = some (.ref bm) ∧ bm ≠ builtinsNs ∧ s₁.heap.get? bm = some ob ∧ ob.cls = .type "module" ∧ ob.dict = some builtinsNs ∧ ob.data = .plain)
    (ha : s₁.heap.get? a = some (lstO vs)) (hi : IntsAre vs ns) (hl : ns.length ≤ sizeLine) (hr : Room k callerA)
    (F : ∀ base : Heap, K.In base → base.Ns mainGlobals mg → (∀ p ∈ cs, LamX.TabB base mg p.1 p.2) → FnP P w K mg base (cs.map (·.2)) k fa fd [x] cl) (hbind : ∀ (s : Shared) (u : Value), BindsTo s fd ⟨[u], []⟩ [(x, u)])
    (hm : ∀ {ds S} {Q Q' : KD}, cl ds S Q → (∀ d S', Q d S' → Q' d S') → cl ds S Q') (hcl : cl [.loc 0] [.rol (ns.map D.int)] fun d _ => d = .bl true) :
    codeAny (model P w) callerA (.call (.ref fa) ⟨[.ref a], []⟩) (fun r s' => r = .ok (.ret (.bool true)) ∧ OldK s₁.heap s'.heap ∧ s'.os = s₁.os ∧ AllBare s'.gens) s₁ := by
  have rv := vals_ints hi
  have isT : ∀ b ∈ cs.map (·.2), s₁.heap.get? b = some tabO := fun b hb => by
    obtain ⟨p, hp, rfl⟩ := List.mem_map.mp hb
    exact hT p hp
  have kT : ∀ b ∈ cs.map (·.2), K.lookup b = none := fun b hb => by
    obtain ⟨p, hp, rfl⟩ := List.mem_map.mp hb
    exact nT p hp
  have aT : a ∉ cs.map (·.2) := fun z => by
    have q := isT a z
    rw [ha] at q
    cases q
  generalize hH : H0 K (cs.map (·.2)) a vs (ns.map V.int) = H
  have cases' : ∀ b o, H b = some o → (b ∈ cs.map (·.2) ∧ o = .tbl #[]) ∨ (b = a ∧ K.lookup a = none ∧ o = .frz (lstO vs) (.lst (ns.map V.int))) := fun b o h => H0_cases b o (by rw [hH]; exact h)
  have tab : ∀ b ∈ cs.map (·.2), H b = some (.tbl #[]) := fun b hb => by rw [← hH]; exact H0_tab hb
  have atA : K.lookup a = none → H a = some (.frz (lstO vs) (.lst (ns.map V.int))) := fun hk => by rw [← hH]; exact H0_a aT hk
  clear hH
  have lsz : (ns.map V.int).length ≤ sizeLine := by rw [List.length_map]; exact hl
  have hok : HOk P w H s₁.heap := fun b o h => by
    rcases cases' b o h with ⟨hb, rfl⟩ | ⟨rfl, _, rfl⟩
    · exact isT b hb
    · exact ⟨ha, lsz, vs, _, rv, ha⟩
  have off : ∀ {b : Addr} {o : Obj}, s₁.heap.get? b = some o → (∀ vs n, o.data ≠ .seq vs n) → o.data ≠ .fields #[] → H b = none := fun {b o} e h1 h2 => by
    cases q : H b with
    | none => rfl
    | some u =>
      rcases cases' b u q with ⟨hb, _⟩ | ⟨rfl, _, _⟩
      · rw [isT b hb] at e; cases e; exact absurd rfl h2
      · rw [ha] at e; cases e; exact absurd rfl (h1 _ _)
  have nsUp : ∀ {b : Addr} {m : Str → Option Value}, s₁.heap.Ns b m → (hidT s₁.heap H).Ns b m := fun {b m} ⟨o, es, ep, e, d, r⟩ => ⟨o, es, ep, hidT_get e (off e (fun _ _ z => by rw [d] at z; cases z) fun z => by rw [d] at z; cases z), d, r⟩
  have kUp : K.In (hidT s₁.heap H) := fun b o e => hidT_get (KX b o e) (by
    cases q : H b with
    | none => rfl
    | some u =>
      rcases cases' b u q with ⟨hb, _⟩ | ⟨rfl, hk, _⟩
      · rw [kT b hb] at e; cases e
      · rw [hk] at e; cases e)
  have md : L2.Mod K mg (hidT s₁.heap H) := ⟨kUp, nsUp hns, ⟨mb, nsUp hb, hbb⟩, let ⟨mc, h1, h2⟩ := hlim; ⟨mc, nsUp h1, h2⟩⟩
  have TB : ∀ p ∈ cs, LamX.TabB (hidT s₁.heap H) mg p.1 p.2 := fun p hp => by
    refine ⟨?_, ?_, fun z => ?_⟩
    · obtain ⟨o, us, file, tf, flags, tg, inF, text, tt, e1, r1, r2, r3, rest⟩ := C p hp
      refine ⟨o, us, file, tf, flags, tg, inF, text, tt, hidT_get e1 (off e1 (fun _ _ z => by rw [r2] at z; cases z) fun z => ?_), r1, r2, r3, rest⟩
      rw [r2] at z
      cases z
      cases r3
    · obtain ⟨bm, ob, b1, b2, b3, b4, b5, b6⟩ := hbm
      refine ⟨bm, ob, b1, b2, fun q => ?_, fun q => ?_, hidT_get b3 (off b3 (fun _ _ z => by rw [b6] at z; cases z) fun z => by rw [b6] at z; cases z), b4, b5, b6⟩
      · obtain ⟨o, es, ep, e, hd, _⟩ := hns
        rw [q, e] at b3
        cases b3
        rw [hd] at b6
        cases b6
      · rw [q, hT p hp] at b3
        cases b3
        cases b6
    · obtain ⟨o, es, ep, e, hd, _⟩ := hns
      rw [z, hT p hp] at e
      cases e
      cases hd
  have e0 : Env0 P w K mg (hidT s₁.heap H) callerA [] s₁ H := ⟨rfl, md, fun b o e => of_hidT e, Nat.le_of_eq (hidT_size _ _), trivial, fun b hb => absurd (show b ∈ ([] : List Addr) from hb) List.not_mem_nil, hok, .of_eq hg⟩
  have rl : RepL K H (fun _ => a) 1 (ns.map D.int) (ns.map V.int) := RepL.of_ints ns
  have wd : Wd K H (fun _ => a) [.rol (ns.map D.int)] := {
    cell := fun n c e => by
      cases n with
      | zero =>
        cases e
        refine ⟨ns.map V.int, ?_, rl⟩
        cases hk : K.lookup a with
        | none => exact .inl ⟨_, atA hk⟩
        | some o =>
          have e := KX a o hk
          rw [ha] at e
          cases e
          refine .inr ⟨_, vs.toArray, _, rfl, rfl, rfl, rfl, ?_, by simpa using rv⟩
          have := rv.length
          rw [List.size_toArray, ← this]; exact lsz
      | succ n => cases e
    inj := fun m n c d e _ hm => by
      cases m with
      | zero => cases e; exact hm.elim
      | succ m => cases e
    tabs := fun p ps h => by
      rcases cases' p _ h with ⟨_, e⟩ | ⟨_, _, e⟩
      · cases e
        exact ⟨trivial, fun pos cv h => by cases h⟩
      · cases e }
  refine codeAny_mono ((F _ kUp (nsUp hns) TB).run callerA [] s₁ H ⟨[.ref a], []⟩ [.ref a] [.ref a] [.loc 0] _ (fun _ => a) (fun v _ => v = .bl true) hr rfl e0 (hbind s₁ (.ref a)) (.cons rfl .nil) (fun b hb => ⟨_, tab b hb⟩) wd (.cons (.loc 0 (Nat.lt_succ_self _)) .nil) (hm hcl fun d S' q φ' v H' _ _ rv => by subst q; cases rv; rfl)) fun r s' h => ?_
  cases r with
  | error e => exact False.elim h
  | ok fl =>
    cases fl with
    | next => exact False.elim h
    | brk => exact False.elim h
    | cont => exact False.elim h
    | ret u =>
      obtain ⟨v, H', os, bare, un, hok', r', q⟩ := h
      have q : v = .bl true := q
      subst q
      obtain rfl : u = Value.bool true := r'
      have grown : ∀ b ∈ cs.map (·.2), ∃ more : Array Value, s'.heap.get? b = some { cls := .none, data := .fields more } := fun b hb => by
        obtain ⟨more, z⟩ := un.tbls b #[] (tab b hb)
        exact ⟨_, hok' b _ z⟩
      have key : ∀ b o, b ∉ cs.map (·.2) → s₁.heap.get? b = some o → s'.heap.get? b = some o := fun b o nb e => by
        cases q : H b with
        | none => exact un.keep b o e q (fun z => absurd (show b ∈ ([] : List Addr) from z) List.not_mem_nil) List.not_mem_nil
        | some u =>
          rcases cases' b u q with ⟨hb, _⟩ | ⟨rfl, _, rfl⟩
          · exact absurd hb nb
          · have z := (hok' b _ (un.frzs b _ _ q)).1
            rw [ha] at e
            cases e
            exact z
      refine ⟨rfl, ⟨fun b o e => ?_, fun b o e => ?_⟩, os, bare⟩
      · by_cases hb : b ∈ cs.map (·.2)
        · obtain ⟨p, hp, rfl⟩ := List.mem_map.mp hb
          obtain ⟨more, hm⟩ := grown _ hb
          rw [hT p hp] at e
          cases e
          exact .inr (.inl ⟨((C p hp).tab (hT p hp)).isCodeTable, rfl, #[], more, rfl, by rw [Array.empty_append]; exact hm⟩)
        · exact .inl (key b o hb e)
      · by_cases hb : b ∈ cs.map (·.2)
        · obtain ⟨more, hm⟩ := grown _ hb
          exact ⟨_, hm⟩
        · exact ⟨o, key b o hb e⟩
/-- what is known of the law's def at the head's heap h -/
def LawAtP (l : PySem.W.OpenLaw) (w : World) (k n : Nat) (x : Str) (mg : Str → Option Value) (fa : Addr) (h : Heap) : Prop :=
  ∃ (K : PySem.W.Frag) (fd : FuncData) (cs : List (Addr × Addr)) (cl : List D → Store → KD → Prop), K.In h ∧ (∀ p ∈ cs, h.get? p.2 = some tabO) ∧ (∀ p ∈ cs, K.lookup p.2 = none) ∧ (∀ p ∈ cs, PySem.W.CodeHd h p.1 p.2) ∧ (∀ (s : Shared) (u : Value), BindsTo s fd ⟨[u], []⟩ [(x, u)]) ∧
    (∀ {ds S} {Q Q' : KD}, cl ds S Q → (∀ d S', Q d S' → Q' d S') → cl ds S Q') ∧ (∀ ns : List Int, ns.length ≤ n → (∀ z ∈ ns, Builtin.Int.intBits z ≤ 1048576) → cl [.loc 0] [.rol (ns.map D.int)] fun d _ => d = .bl true) ∧
    ∀ base : Heap, K.In base → base.Ns mainGlobals mg → (∀ p ∈ cs, LamX.TabB base mg p.1 p.2) → FnP l.prog w K mg base (cs.map (·.2)) k fa fd [x] cl
theorem walk_pw {l : PySem.W.OpenLaw} {n k : Nat} {q : Program} {loose : List Str} {XP : (Str → Option Value) → Heap → Prop} {YP : World → Heap → Prop} {d : DefRec} {x : Str}
    (hn : l.most = some n) (hn2 : n ≤ sizeLine) (hdf : d.params.defaults = []) (hr : Room k callerA)
    (F : ∀ (w : World) (mg : Str → Option Value) (fa : Addr) (h : Heap), YP w h → h.Ns mainGlobals mg → mg d.name = some (.ref fa) → LawAtP l w k n x mg fa h) :
    PySem.W.WalkO q loose XP YP l.row.toRowW d [] (fun f vs => PySem.call f vs) := by
  refine Att.attach_callB hn hdf fun w s₀ s₁ mg mb fa o pm cd doc a vs ns G Y ho hd hcd hmg hobj hints hlen hbits hg => ?_
  obtain ⟨K, fd, cs, cl, KX, hT, nT, C, hb, hm, hcl, hF⟩ := F w mg fa _ Y G.T.g hmg
  exact law_fnp KX G.T.g G.T.b G.T.builtins G.T.nolimit hg hT nT C G.T.bmain hobj hints (Nat.le_trans hlen hn2) hr hF hb hm (hcl ns hlen hbits)
end Pw
set_option maxHeartbeats 2000000
/-! Pw48: from the head's facts to the program of the small syntax. -/
namespace Pw
open PySem PySem.Spec PyProof.Rows L2

/-! ### the facts that are asked of the head -/
def faOf (pd : PD) : List He.Fa := pd.defs.map (fun q => .glo q.1) ++ (pd.free.map .free ++ (pd.gints.map (fun p => .int p.1 p.2) ++ (pd.gstrs.map (fun p => .str p.1 p.2) ++ pd.gtups.map fun p => .glo p.1)))
def exOf (pd : PD) (K : PySem.W.Frag) : Bool := pd.gtups.all fun p => He.tupB K p.1 (p.2.map He.Dv.str)
/-- a def of the top as the head's datum -/
def ddAt (p : Program) (i : Nat) : He.DefD := match p.main.body[i]? with
  | some (.FunctionDef n a b _ _ _ sc _ _ _) => ⟨(n, none), n, n, a, b, sc, [], []⟩
  | _ => ⟨("", none), "", "", ⟨[], [], none, [], [], none, []⟩, [], ⟨.function, [], false, false, []⟩, [], []⟩
def fnScopeB (N ps : List Str) (sc : Scope) : Bool := decide (sc.kind = .function) && (!sc.isCoroutine && (!sc.isGenerator && (decide N.Nodup && (decide (N.take ps.length = ps) && ((ps.all fun x => decide (sc.names.lookup x = some .local) || decide (sc.names.lookup x = some .cell)) && sc.names.all fun y => !decide (y.2 = .free))))))
theorem fnScopeB_ok {N ps : List Str} {sc : Scope} (h : fnScopeB N ps sc = true) : FnScope N ps sc := by
  obtain ⟨h1, h⟩ := ab h
  obtain ⟨h2, h⟩ := ab h
  obtain ⟨h3, h⟩ := ab h
  obtain ⟨h4, h⟩ := ab h
  obtain ⟨h5, h⟩ := ab h
  obtain ⟨h6, h7⟩ := ab h
  refine ⟨of_decide_eq_true h1, by simpa using h2, by simpa using h3, of_decide_eq_true h4, of_decide_eq_true h5, fun x hx => ?_, fun y hy => ?_⟩
  · simpa using List.all_eq_true.mp h6 x hx
  · simpa using List.all_eq_true.mp h7 y hy
/-- one def is as the small syntax says -/
def defB (pd : PD) (q : Str × List Str) (fn : FnT) (d : He.DefD) : Bool :=
  decide (q.1 = d.name) && (decide (d.at_ = (d.name, none)) && (d.dfl.isEmpty && (d.kwd.isEmpty && (decide (fn.np = q.2.length) && (fnScopeB fn.names q.2 d.scope && (mt pd fn.body 2 ⟨fn.names, d.scope, d.scope⟩).ss d.body)))))
def defsB (pd : PD) : List (Str × List Str) → List FnT → List He.DefD → Bool
  | [], [], [] => true
  | q :: qs, f :: fs, d :: ds => defB pd q f d && defsB pd qs fs ds
  | _, _, _ => false
/-- the def binds as many values as it has parameters -/
def BindA (d : He.DefD) (ps : List Str) : Prop := ∀ (kV doc pm : Value) (an : Option Addr) (cdv ct : Value) (us : List Value), us.length = ps.length → bindArgs (PySem.W.fnOf d.name d.qual d.params d.body d.scope .none kV doc pm an cdv ct) ⟨us, []⟩ = pure (ps.zip us)
def KwA (d : He.DefD) (ps ks : List Str) (m : List Nat) : Prop := ∀ (kV doc pm : Value) (an : Option Addr) (cdv ct : Value) (ws : List Value), ws.length = ks.length → bindArgs (PySem.W.fnOf d.name d.qual d.params d.body d.scope .none kV doc pm an cdv ct) ⟨[], ks.zip ws⟩ = pure (ps.zip (m.map fun i => ws.getD i .none))
def BindL : List (Str × List Str) → List He.DefD → Prop
  | q :: qs, d :: ds => BindA d q.2 ∧ BindL qs ds
  | _, _ => True
def KwL (pd : PD) (dd : List He.DefD) : List (Nat × List Str × List Nat) → Prop
  | (f, ks, m) :: r => (match pd.defs[f]?, dd[f]? with
    | some q, some d => KwA d q.2 ks m
    | _, _ => False) ∧ KwL pd dd r
  | [] => True
theorem defsB_get {pd : PD} : ∀ {qs : List (Str × List Str)} {fs : List FnT} {ds : List He.DefD}, defsB pd qs fs ds = true → BindL qs ds → ∀ {i : Nat} {q : Str × List Str}, qs[i]? = some q → ∃ f d, fs[i]? = some f ∧ ds[i]? = some d ∧ defB pd q f d = true ∧ BindA d q.2
  | [], [], [], _, _, i, q, h => by simp at h
  | q0 :: qs, f :: fs, d :: ds, h, b, i, q, e => by
    obtain ⟨h1, h2⟩ := ab h
    cases i with
    | zero => cases e; exact ⟨f, d, rfl, rfl, h1, b.1⟩
    | succ i => exact defsB_get h2 b.2 (by simpa using e)
  | [], [], _ :: _, h, _, _, _, _ => by cases h
  | [], _ :: _, _, h, _, _, _, _ => by cases h
  | _ :: _, [], _, h, _, _, _, _ => by cases h
  | _ :: _, _ :: _, [], h, _, _, _, _ => by cases h
theorem kwL_get {pd : PD} {dd : List He.DefD} : ∀ {l : List (Nat × List Str × List Nat)}, KwL pd dd l → ∀ {f ks m}, (f, ks, m) ∈ l → ∃ q d, pd.defs[f]? = some q ∧ dd[f]? = some d ∧ KwA d q.2 ks m
  | [], _, _, _, _, h => by cases h
  | (g, ks', m') :: l, h, f, ks, m, hm => by
    rcases List.mem_cons.mp hm with e | hm
    · cases e
      have h1 := h.1
      split at h1
      · rename_i q d e1 e2
        exact ⟨q, d, e1, e2, h1⟩
      · exact h1.elim
    · exact kwL_get h.2 hm
section
variable {pd : PD} {fns : List FnT} {dd : List He.DefD} {w : World} {h : Heap} {K : PySem.W.Frag} {base : Heap} {mg : Str → Option Value}
abbrev csOf (K : PySem.W.Frag) (dd : List He.DefD) : List (Addr × Addr) := (dd.map (·.at_)).map (He.cT K)
theorem prog_of (chk : defsB pd pd.defs fns dd = true) (hb : BindL pd.defs dd) (hk : KwL pd dd pd.kws) (S : He.SaysX (faOf pd) dd [] (dd.map (·.at_)) (exOf pd) w h K) (KX : K.In base) (G : base.Ns mainGlobals mg)
    (TB : ∀ p ∈ csOf K dd, LamX.TabB base mg p.1 p.2) : Prog K mg base ((csOf K dd).map (·.2)) pd fns where
  defs := fun f x ps e => by
    obtain ⟨fn, d, e1, e2, c, b⟩ := defsB_get chk hb e
    obtain ⟨c1, c⟩ := ab c
    obtain ⟨c2, c⟩ := ab c
    obtain ⟨c3, c⟩ := ab c
    obtain ⟨c4, c⟩ := ab c
    obtain ⟨c5, c⟩ := ab c
    obtain ⟨c6, c7⟩ := ab c
    have md : d ∈ dd := List.mem_of_getElem? e2
    have hx : x = d.name := of_decide_eq_true c1
    have hat : d.at_ = (d.name, none) := of_decide_eq_true c2
    obtain ⟨fd, FD⟩ := S.t.d.defs md
    have ed : d.dvs K = [] := by unfold He.DefD.dvs; rw [List.isEmpty_iff.mp c3]; rfl
    have ek : d.kws K = [] := by unfold He.DefD.kws; rw [List.isEmpty_iff.mp c4]; rfl
    rw [ed, ek] at FD
    have efa : He.fAd K d.at_ = He.ga K x := by rw [hat, hx]; rfl
    have hmg : mg x = some (.ref (He.ga K x)) := He.glo_ok KX G (S.t.d.facts (f := .glo x) (List.mem_append_left _ (List.mem_map.mpr ⟨(x, ps), List.mem_of_getElem? e, rfl⟩)))
    refine ⟨fn, d.scope, d.body, He.fAd K d.at_, fd, e1, of_decide_eq_true c5, ⟨?_, FD.kp, by rw [efa]; exact hmg, FD.bindsN b, fnScopeB_ok c6⟩, c7, fun ks m hm => ?_⟩
    · obtain ⟨oc, od, dV, kV, doc, pm, an, cdv, ct, osl, e3, lk, hcd, _, _⟩ := FD.ex
      obtain ⟨cc, rfl⟩ := He.codeIn_ref hcd
      have ec : He.codeOf K d.at_ = cc := He.codeOf_eq lk (by rw [e3])
      have hm : He.cT K d.at_ ∈ csOf K dd := List.mem_map.mpr ⟨d.at_, List.mem_map.mpr ⟨d, md, rfl⟩, rfl⟩
      have tb := TB _ hm
      refine ⟨d.qual, d.params, oc, od, dV, kV, doc, pm, an, cc, (He.cT K d.at_).2, ct, osl, by rw [hx]; exact e3, lk, hcd, List.mem_map.mpr ⟨_, hm, rfl⟩, ?_, tb.bm, tb.gP⟩
      rw [← ec]
      exact tb.code
    · obtain ⟨q, d', e4, e5, kw⟩ := kwL_get hk hm
      rw [e] at e4; cases e4
      rw [e2] at e5; cases e5
      intro s ws hl
      obtain ⟨oc, od, dV, kV, doc, pm, an, cdv, ct, osl, rfl, lk, hcd, hD, _⟩ := FD.ex
      rcases hD with ⟨_, rfl⟩ | ⟨z, _⟩
      · exact .of_eq (kw kV doc pm an cdv ct ws hl)
      · exact absurd rfl z
  free := fun x hx => He.free_ok KX G (S.t.d.facts (List.mem_append_right _ (List.mem_append_left _ (List.mem_map.mpr ⟨x, hx, rfl⟩))))
  gints := fun p hp => He.int_ok KX G (S.t.d.facts (List.mem_append_right _ (List.mem_append_right _ (List.mem_append_left _ (List.mem_map.mpr ⟨p, hp, rfl⟩)))))
  gstrs := fun p hp => He.str_ok KX G (S.t.d.facts (List.mem_append_right _ (List.mem_append_right _ (List.mem_append_right _ (List.mem_append_left _ (List.mem_map.mpr ⟨p, hp, rfl⟩))))))
  gtups := fun p hp => ⟨He.ga K p.1, He.glo_ok KX G (S.t.d.facts (List.mem_append_right _ (List.mem_append_right _ (List.mem_append_right _ (List.mem_append_right _ (List.mem_map.mpr ⟨p, hp, rfl⟩)))))), fun H => by
    have := He.tupB_ok (List.all_eq_true.mp S.more p hp) H
    rw [List.map_map] at this
    exact this⟩
/-- the law's def, from the head's facts -/
theorem law_at {l : PySem.W.OpenLaw} {n m iL : Nat} {x nm : Str} {fa : Addr} (chk : defsB pd pd.defs fns dd = true) (hb : BindL pd.defs dd) (hk : KwL pd dd pd.kws) (hi : pd.defs[iL]? = some (nm, [x]))
    (Y : (He.hookX m (faOf pd) dd [] (dd.map (·.at_)) (exOf pd)).says w h) (G : h.Ns mainGlobals mg) (hfa : mg nm = some (.ref fa))
    (pure : ∀ ns : List Int, ns.length ≤ 63 → (∀ z ∈ ns, Builtin.Int.intBits z ≤ 1048576) → callAt fns n iL [.loc 0] [.rol (ns.map D.int)] (fun d _ => d = .bl true) fun _ _ => False) : LawAtP l w (3 * n) 63 x mg fa h := by
  obtain ⟨K, KX, S⟩ := Y
  obtain ⟨fn, d, e1, e2, c, b⟩ := defsB_get chk hb hi
  have md : d ∈ dd := List.mem_of_getElem? e2
  have hat : d.at_ = (d.name, none) := of_decide_eq_true (ab (ab c).2).1
  have hx : nm = d.name := of_decide_eq_true (ab c).1
  obtain ⟨c3, c⟩ := ab (ab (ab c).2).2
  obtain ⟨c4, _⟩ := ab c
  obtain ⟨fd, FD⟩ := S.t.d.defs md
  have ed : d.dvs K = [] := by unfold He.DefD.dvs; rw [List.isEmpty_iff.mp c3]; rfl
  have ek : d.kws K = [] := by unfold He.DefD.kws; rw [List.isEmpty_iff.mp c4]; rfl
  rw [ed, ek] at FD
  have efa : He.fAd K d.at_ = He.ga K nm := by rw [hat, hx]; rfl
  have hmg : mg nm = some (.ref (He.ga K nm)) := He.glo_ok KX G (S.t.d.facts (f := .glo nm) (List.mem_append_left _ (List.mem_map.mpr ⟨(nm, [x]), List.mem_of_getElem? hi, rfl⟩)))
  have eF : He.ga K nm = fa := by rw [hmg] at hfa; cases hfa; rfl
  refine ⟨K, fd, csOf K dd, ClAt fns n iL, KX, fun p hp => ?_, fun p hp => ?_, fun p hp => ?_, fun s u => FD.bindsA b s [u] rfl, fun q k => callAt_mono fns n _ _ _ _ _ _ q k, pure, fun base KB GB TB => ?_⟩
  · obtain ⟨t, ht, rfl⟩ := List.mem_map.mp hp
    exact S.empty t ht
  · obtain ⟨t, ht, rfl⟩ := List.mem_map.mp hp
    exact S.out t ht
  · obtain ⟨t, ht, rfl⟩ := List.mem_map.mp hp
    exact PySem.W.codeHd_of_K KX (S.hd t ht)
  · obtain ⟨fa', fd', F, h1, _, _, _, oc, od, osl, lk⟩ := prog_fnp (P := l.prog) (w := w) (prog_of chk hb hk S KB GB TB) n iL nm [x] hi
    rw [hfa] at h1
    cases h1
    obtain ⟨oc2, od2, dV, kV, doc, pm, an, cdv, ct, osl2, e3, lk2, _⟩ := FD.ex
    rw [efa, eF, lk] at lk2
    cases lk2
    exact F
end
end Pw
/-! Pw56: how a reading is gone through: rules by construct, what is kept of the store. -/
namespace Pw
open PySem

/-- the cells of S stay, but those in W -/
structure Keep (W : List Nat) (S S' : Store) : Prop where
  n : S.length ≤ S'.length
  c : ∀ i c, i ∉ W → S[i]? = some c → S'[i]? = some c
theorem Keep.refl (W : List Nat) (S : Store) : Keep W S S := ⟨Nat.le_refl _, fun _ _ _ h => h⟩
theorem Keep.trans {W : List Nat} {S S1 S2 : Store} (a : Keep W S S1) (b : Keep W S1 S2) : Keep W S S2 := ⟨Nat.le_trans a.n b.n, fun i c h e => b.c i c h (a.c i c h e)⟩
theorem Keep.weak {W V : List Nat} {S S1 : Store} (a : Keep W S S1) (h : ∀ i ∈ W, i ∈ V) : Keep V S S1 := ⟨a.n, fun i c hi e => a.c i c (fun q => hi (h i q)) e⟩
theorem Keep.any {V : List Nat} {S S1 : Store} (a : Keep [] S S1) : Keep V S S1 := a.weak fun i h => by cases h
theorem Keep.at {S S' : Store} (a : Keep [] S S') {i : Nat} {c : Cell} (h : S[i]? = some c) : S'[i]? = some c := a.c i c (by simp) h
theorem Keep.add {W : List Nat} {S S' : Store} (a : Keep W S S') (c : Cell) : Keep W S (S' ++ [c]) := ⟨by have := a.n; simp; omega, fun i d hi e => by
  have q := a.c i d hi e
  rw [List.getElem?_append_left (List.getElem?_eq_some_iff.mp q).1]; exact q⟩
theorem Keep.new (W : List Nat) (S : Store) (c : Cell) : Keep W S (S ++ [c]) := (Keep.refl W S).add c
theorem lt_of_at {S : Store} {i : Nat} {c : Cell} (h : S[i]? = some c) : i < S.length := (List.getElem?_eq_some_iff.mp h).1
/-- a cell that is newer than S is written -/
theorem Keep.put {W : List Nat} {S S' : Store} (a : Keep W S S') {n : Nat} (hn : S.length ≤ n) (c : Cell) : Keep W S (S'.set n c) := ⟨by simpa using a.n, fun i d hi e => by
  have q := a.c i d hi e
  have := lt_of_at e
  rw [List.getElem?_set_ne (by omega)]; exact q⟩
/-- a cell in W is written -/
theorem Keep.set {W : List Nat} {S S' : Store} (a : Keep W S S') {n : Nat} (hn : n ∈ W) (c : Cell) : Keep W S (S'.set n c) := ⟨by simpa using a.n, fun i d hi e => by
  rw [List.getElem?_set_ne (by intro z; subst z; exact hi hn)]; exact a.c i d hi e⟩
theorem at_set {S : Store} {n : Nat} {c d : Cell} (h : S[n]? = some d) : (S.set n c)[n]? = some c := by rw [List.getElem?_set_self (lt_of_at h)]
theorem at_set_ne {S : Store} {n m : Nat} {c d : Cell} (h : S[n]? = some d) (ne : m ≠ n) : (S.set m c)[n]? = some d := by rw [List.getElem?_set_ne ne]; exact h
theorem at_new {S : Store} {c : Cell} : (S ++ [c])[S.length]? = some c := by simp
theorem at_add {S : Store} {n : Nat} {c d : Cell} (h : S[n]? = some d) : (S ++ [c])[n]? = some d := (Keep.new [] S c).at h
theorem set_len {S : Store} {n : Nat} {c : Cell} : (S.set n c).length = S.length := by simp
theorem add_len {S : Store} {c : Cell} : (S ++ [c]).length = S.length + 1 := by simp
/-- S' keeps S, but for what is newer than the first N -/
theorem Keep.from {W : List Nat} {S S1 S2 : Store} (a : Keep W S S1) (b : Keep (S.length :: W) S1 S2) : Keep W S S2 := ⟨Nat.le_trans a.n b.n, fun i c hi e => b.c i c (by
  have := lt_of_at e
  simp only [List.mem_cons, not_or]; exact ⟨by omega, hi⟩) (a.c i c hi e)⟩
theorem Keep.news {W V : List Nat} {S S1 S2 : Store} (a : Keep W S S1) (b : Keep V S1 S2) (h : ∀ i ∈ V, i ∈ W ∨ S.length ≤ i) : Keep W S S2 := ⟨Nat.le_trans a.n b.n, fun i c hi e => b.c i c (fun hv => by
  have := lt_of_at e
  rcases h i hv with z | z
  · exact hi z
  · omega) (a.c i c hi e)⟩

/-! ### going through -/
section
variable {fns : List FnT} {n : Nat} {call : CallF} {X : XX} {σ : Env} {S : Store} {Q : KD} {nx bk ct : Env → Store → Prop} {rt : KD} {h t a b e tg it body cd es args lo hi o elt ifs d' : T} {d x y v : D} {ds xs : List D} {i : Nat}
abbrev C (call : CallF) (X : XX) : Cxt := ⟨call, X⟩
abbrev C0 (call : CallF) : Cxt := ⟨call, fun _ _ => False⟩
-- a call's body
theorem g_call {f : Nat} {fn : FnT} (hf : fns[f]? = some fn) (hl : ds.length = fn.np) (k : (w fn.body ⟨callAt fns n, X⟩).s ⟨fun _ S' => Q .non S', Q, fun _ _ => False, fun _ _ => False⟩ (startE fn ds) S) : callAt fns (n + 1) f ds S Q X := by
  unfold callAt
  rw [hf]
  exact ⟨hl, k⟩
-- blocks
theorem s_nil' (k : nx σ S) : (w .nil ⟨call, X⟩).s ⟨nx, rt, bk, ct⟩ σ S := k
theorem s_cons' (k : (w h ⟨call, X⟩).s ⟨fun σ1 S1 => (w t ⟨call, X⟩).s ⟨nx, rt, bk, ct⟩ σ1 S1, rt, bk, ct⟩ σ S) : (w (.cons h t) ⟨call, X⟩).s ⟨nx, rt, bk, ct⟩ σ S := k
theorem s_expr' (k : (w e ⟨call, X⟩).e σ S fun _ S1 => nx σ S1) : (w (.expr e) ⟨call, X⟩).s ⟨nx, rt, bk, ct⟩ σ S := k
theorem s_asg' (k : (w e ⟨call, X⟩).e σ S fun x S1 => (w tg ⟨call, X⟩).g x σ S1 nx) : (w (.asg tg e) ⟨call, X⟩).s ⟨nx, rt, bk, ct⟩ σ S := k
theorem s_ifs' (k : (w cd ⟨call, X⟩).t σ S fun k S1 => if k = true then (w a ⟨call, X⟩).s ⟨nx, rt, bk, ct⟩ σ S1 else (w b ⟨call, X⟩).s ⟨nx, rt, bk, ct⟩ σ S1) : (w (.ifs cd a b) ⟨call, X⟩).s ⟨nx, rt, bk, ct⟩ σ S := k
theorem s_ret' (k : (w e ⟨call, X⟩).e σ S rt) : (w (.ret e) ⟨call, X⟩).s ⟨nx, rt, bk, ct⟩ σ S := k
theorem s_retn' (k : rt .non S) : (w .retn ⟨call, X⟩).s ⟨nx, rt, bk, ct⟩ σ S := k
theorem s_brk' (k : bk σ S) : (w .brk ⟨call, X⟩).s ⟨nx, rt, bk, ct⟩ σ S := k
theorem s_cont' (k : ct σ S) : (w .cont ⟨call, X⟩).s ⟨nx, rt, bk, ct⟩ σ S := k
theorem s_pass' (k : nx σ S) : (w .pass ⟨call, X⟩).s ⟨nx, rt, bk, ct⟩ σ S := k
theorem s_augV' {op : Operator} (h : σ[i]? = some (some x)) (k : (w e ⟨call, X⟩).e σ S fun y S1 => iopD op x y S1 fun z S2 => nx (σ.set i (some z)) S2) : (w (.aug op (.var i) e) ⟨call, X⟩).s ⟨nx, rt, bk, ct⟩ σ S := by
  show (match σ[i]? with | some (some x) => (w e ⟨call, X⟩).e σ S fun y S1 => iopD op x y S1 fun z S2 => nx (σ.set i (some z)) S2 | _ => False)
  rw [h]; exact k
theorem s_augS' {op : Operator} (k : (w a ⟨call, X⟩).e σ S fun x S1 => (w b ⟨call, X⟩).e σ S1 fun k S2 => lgetD x k S2 fun old S3 => (w e ⟨call, X⟩).e σ S3 fun y S4 => iopD op old y S4 fun z S5 => setD x k z S5 fun S6 => nx σ S6) : (w (.aug op (.sub a b) e) ⟨call, X⟩).s ⟨nx, rt, bk, ct⟩ σ S := k
-- targets
theorem g_var' {R : Env → Store → Prop} (k : R (σ.set i (some d)) S) : (w (.var i) ⟨call, X⟩).g d σ S R := k
theorem g_tup' {R : Env → Store → Prop} {kk : TK} (hl : ds.length = tgLen es) (k : (w es ⟨call, X⟩).gs ds σ S R) : (w (.tup es) ⟨call, X⟩).g (.tup kk ds) σ S R := ⟨hl, k⟩
theorem gs_nil' {R : Env → Store → Prop} (k : R σ S) : (w .nil ⟨call, X⟩).gs [] σ S R := ⟨rfl, k⟩
theorem gs_cons' {R : Env → Store → Prop} (k : (w h ⟨call, X⟩).g d σ S fun σ1 S1 => (w t ⟨call, X⟩).gs ds σ1 S1 R) : (w (.cons h t) ⟨call, X⟩).gs (d :: ds) σ S R := k
theorem g_sub' {R : Env → Store → Prop} (k : (w a ⟨call, X⟩).e σ S fun x S1 => (w b ⟨call, X⟩).e σ S1 fun y S2 => setD x y v S2 fun S3 => R σ S3) : (w (.sub a b) ⟨call, X⟩).g v σ S R := k
-- expressions
theorem e_int' {z : Int} (k : Q (.int z) S) : (w (.int z) ⟨call, X⟩).e σ S Q := k
theorem e_str' {z : Str} (k : Q (.str z) S) : (w (.str z) ⟨call, X⟩).e σ S Q := k
theorem e_bl' {z : Bool} (k : Q (.bl z) S) : (w (.bl z) ⟨call, X⟩).e σ S Q := k
theorem e_non' (k : Q .non S) : (w .non ⟨call, X⟩).e σ S Q := k
theorem e_var' (h : σ[i]? = some (some d)) (k : Q d S) : (w (.var i) ⟨call, X⟩).e σ S Q := by
  show (match σ[i]? with | some (some d) => Q d S | _ => False)
  rw [h]; exact k
theorem e_gint' {z : Str} {j : Int} (k : Q (.int j) S) : (w (.gint z j) ⟨call, X⟩).e σ S Q := k
theorem e_gstr' {z y : Str} (k : Q (.str y) S) : (w (.gstr z y) ⟨call, X⟩).e σ S Q := k
theorem e_gtups' {z : Str} {ss : List Str} (k : Q (.tup .any (ss.map .str)) S) : (w (.gtups z ss) ⟨call, X⟩).e σ S Q := k
theorem e_tup' (k : (w es ⟨call, X⟩).a σ S fun ds S1 => ds.length ≤ sizeLine ∧ Q (.tup .key ds) S1) : (w (.tup es) ⟨call, X⟩).e σ S Q := k
theorem e_lst' (k : (w es ⟨call, X⟩).a σ S fun ds S1 => ds.length ≤ sizeLine ∧ Q (.loc S1.length) (S1 ++ [.lst ds])) : (w (.lst es) ⟨call, X⟩).e σ S Q := k
theorem a_nil' {R : List D → Store → Prop} (k : R [] S) : (w .nil ⟨call, X⟩).a σ S R := k
theorem a_cons' {R : List D → Store → Prop} (k : (w h ⟨call, X⟩).e σ S fun d S1 => (w t ⟨call, X⟩).a σ S1 fun ds S2 => R (d :: ds) S2) : (w (.cons h t) ⟨call, X⟩).a σ S R := k
theorem e_bin' {op : Operator} (k : (w a ⟨call, X⟩).e σ S fun x S1 => (w b ⟨call, X⟩).e σ S1 fun y S2 => binD op x y S2 Q) : (w (.bin op a b) ⟨call, X⟩).e σ S Q := k
theorem e_neg' {z : Int} (k : (w a ⟨call, X⟩).e σ S fun x S1 => ∃ i, x = .int i ∧ Q (.int (-i)) S1) (hc : CMono call) : (w (.neg a) ⟨call, X⟩).e σ S Q := (mw a hc).e k fun x S1 ⟨i, e, q⟩ => by subst e; exact q
theorem t_ex {T0 : T} {R : Bool → Store → Prop} (hw : (w T0 ⟨call, X⟩).t = (W.ex (w T0 ⟨call, X⟩).e).t) (hc : CMono call) (k : (w T0 ⟨call, X⟩).e σ S fun d S1 => ∃ b, truD S1 d = some b ∧ R b S1) : (w T0 ⟨call, X⟩).t σ S R := by
  rw [hw]
  refine (mw T0 hc).e k fun d S1 ⟨b, e, q⟩ => ?_
  rw [e]; exact q
theorem t_cmp' {op : CmpOp} {R : Bool → Store → Prop} (hc : CMono call) (k : (w a ⟨call, X⟩).e σ S fun x S1 => (w b ⟨call, X⟩).e σ S1 fun y S2 => ∃ k, cmpD op S2 x y = some k ∧ R k S2) : (w (.cmp op a b) ⟨call, X⟩).t σ S R :=
  (mw a hc).e k fun x S1 k => (mw b hc).e k fun y S2 ⟨k, e, q⟩ => by rw [e]; exact q
theorem e_bx {T0 : T} (hw : (w T0 ⟨call, X⟩).e = (W.bx (w T0 ⟨call, X⟩).t).e) (k : (w T0 ⟨call, X⟩).t σ S fun b S1 => Q (.bl b) S1) : (w T0 ⟨call, X⟩).e σ S Q := by rw [hw]; exact k
theorem t_isn' {R : Bool → Store → Prop} (k : (w a ⟨call, X⟩).e σ S fun x S1 => R (match x with | .non => true | _ => false) S1) : (w (.isn a) ⟨call, X⟩).t σ S R := k
theorem t_notn' {R : Bool → Store → Prop} (k : (w a ⟨call, X⟩).e σ S fun x S1 => R (match x with | .non => false | _ => true) S1) : (w (.notn a) ⟨call, X⟩).t σ S R := k
theorem t_chain' {o1 o2 : CmpOp} {R : Bool → Store → Prop} (hc : CMono call) (k : (w a ⟨call, X⟩).e σ S fun x S1 => (w b ⟨call, X⟩).e σ S1 fun y S2 => ∃ k, cmpD o1 S2 x y = some k ∧ if k = true then (w d' ⟨call, X⟩).e σ S2 fun z S3 => ∃ k, cmpD o2 S3 y z = some k ∧ R k S3 else R false S2) :
    (w (.chain o1 o2 a b d') ⟨call, X⟩).t σ S R := (mw a hc).e k fun x S1 k => (mw b hc).e k fun y S2 ⟨k, e, q⟩ => by
  rw [e]
  cases k with
  | true => exact (mw d' hc).e q fun z S3 ⟨k, e, q⟩ => by rw [e]; exact q
  | false => exact q
theorem t_and1 {R : Bool → Store → Prop} (k : (w a ⟨call, X⟩).t σ S R) : (w (.and_ a .nil) ⟨call, X⟩).t σ S R := k
theorem t_and' {R : Bool → Store → Prop} {q r : T} (k : (w a ⟨call, X⟩).t σ S fun b S1 => if b = true then (w (.and_ q r) ⟨call, X⟩).t σ S1 R else R false S1) : (w (.and_ a (.and_ q r)) ⟨call, X⟩).t σ S R := k
theorem t_or1 {R : Bool → Store → Prop} (k : (w a ⟨call, X⟩).t σ S R) : (w (.or_ a .nil) ⟨call, X⟩).t σ S R := k
theorem t_or' {R : Bool → Store → Prop} {q r : T} (k : (w a ⟨call, X⟩).t σ S fun b S1 => if b = true then R true S1 else (w (.or_ q r) ⟨call, X⟩).t σ S1 R) : (w (.or_ a (.or_ q r)) ⟨call, X⟩).t σ S R := k
theorem t_not' {R : Bool → Store → Prop} (k : (w a ⟨call, X⟩).t σ S fun b S1 => R (!b) S1) : (w (.not_ a) ⟨call, X⟩).t σ S R := k
theorem e_and1 (k : (w a ⟨call, X⟩).e σ S Q) : (w (.and_ a .nil) ⟨call, X⟩).e σ S Q := k
theorem e_and' {q r : T} (k : (w a ⟨call, X⟩).e σ S fun d S1 => byTru S1 d ((w (.and_ q r) ⟨call, X⟩).e σ S1 Q) (Q d S1)) : (w (.and_ a (.and_ q r)) ⟨call, X⟩).e σ S Q := k
theorem e_or1 (k : (w a ⟨call, X⟩).e σ S Q) : (w (.or_ a .nil) ⟨call, X⟩).e σ S Q := k
theorem e_or' {q r : T} (k : (w a ⟨call, X⟩).e σ S fun d S1 => byTru S1 d (Q d S1) ((w (.or_ q r) ⟨call, X⟩).e σ S1 Q)) : (w (.or_ a (.or_ q r)) ⟨call, X⟩).e σ S Q := k
theorem e_not' (k : (w a ⟨call, X⟩).e σ S fun d S1 => byTru S1 d (Q (.bl false) S1) (Q (.bl true) S1)) : (w (.not_ a) ⟨call, X⟩).e σ S Q := k
theorem byTru_bl {b : Bool} {P R : Prop} (k : if b = true then P else R) : byTru S (.bl b) P R := by cases b <;> exact k
theorem e_ite' (k : (w cd ⟨call, X⟩).t σ S fun k S1 => if k = true then (w a ⟨call, X⟩).e σ S1 Q else (w b ⟨call, X⟩).e σ S1 Q) : (w (.ite cd a b) ⟨call, X⟩).e σ S Q := k
theorem e_sub' (k : (w a ⟨call, X⟩).e σ S fun x S1 => (w b ⟨call, X⟩).e σ S1 fun y S2 => subD x y S2 Q) : (w (.sub a b) ⟨call, X⟩).e σ S Q := k
theorem e_slice' (k : (w a ⟨call, X⟩).e σ S fun x S1 => (w lo ⟨call, X⟩).p σ S1 fun l S2 => (w hi ⟨call, X⟩).p σ S2 fun h S3 => sliceD x l h S3 Q) : (w (.slice a lo hi) ⟨call, X⟩).e σ S Q := k
theorem e_rev' (k : (w a ⟨call, X⟩).e σ S fun x S1 => revD x S1 Q) : (w (.rev a) ⟨call, X⟩).e σ S Q := k
theorem p_nil' {R : Option Int → Store → Prop} (k : R none S) : (w .nil ⟨call, X⟩).p σ S R := k
theorem p_ex {T0 : T} {R : Option Int → Store → Prop} (hw : (w T0 ⟨call, X⟩).p = (W.ex (w T0 ⟨call, X⟩).e).p) (hc : CMono call) (k : (w T0 ⟨call, X⟩).e σ S fun d S1 => ∃ i, d = .int i ∧ R (some i) S1) : (w T0 ⟨call, X⟩).p σ S R := by
  rw [hw]
  exact (mw T0 hc).e k fun d S1 ⟨i, e, q⟩ => by subst e; exact q
theorem e_call' {f : Nat} (k : (w args ⟨call, X⟩).a σ S fun ds S1 => call f ds S1 Q X) : (w (.call f args) ⟨call, X⟩).e σ S Q := k
theorem e_callk' {f : Nat} {ks : List Nat} (k : (w args ⟨call, X⟩).a σ S fun ds S1 => call f (ks.map fun k => ds.getD k .non) S1 Q X) : (w (.callk f ks args) ⟨call, X⟩).e σ S Q := k
theorem e_bcall' {B : Bi} (k : (w args ⟨call, X⟩).a σ S fun ds S1 => biD B ds S1 Q) : (w (.bcall B args) ⟨call, X⟩).e σ S Q := k
theorem e_meth' {m : Me} (k : (w o ⟨call, X⟩).e σ S fun x S1 => meOk m x S1 ∧ (w args ⟨call, X⟩).a σ S1 fun ds S2 => meD m x ds S2 Q) : (w (.meth m o args) ⟨call, X⟩).e σ S Q := k
theorem t_isin' {ty : Ty} {R : Bool → Store → Prop} (hc : CMono call) (k : (w a ⟨call, X⟩).e σ S fun x S1 => ∃ b, isinD S1 x ty = some b ∧ R b S1) : (w (.isin a ty) ⟨call, X⟩).t σ S R := (mw a hc).e k fun x S1 ⟨b, e, q⟩ => by rw [e]; exact q
theorem e_dnewK' (k : Q (.loc S.length) (S ++ [.dK []])) : (w .dnewK ⟨call, X⟩).e σ S Q := k
theorem e_dnewT' (k : Q (.loc S.length) (S ++ [.dT []])) : (w .dnewT ⟨call, X⟩).e σ S Q := k
theorem e_dzip' (hc : CMono call) (k : (w args ⟨call, X⟩).a σ S fun ds S1 => ∃ ka kb xs ys kvs, ds = [.tup ka xs, .tup kb ys] ∧ (zipD xs ys).mapM pairK = some kvs ∧ kvs.length ≤ 1000 ∧ Q (.loc S1.length) (S1 ++ [.dK (kvs.foldl (fun acc kv => putD acc kv.1 kv.2) [])])) : (w (.bcalli .dictPairs (.izip args)) ⟨call, X⟩).e σ S Q :=
  (mw args hc).a k fun ds S1 ⟨ka, kb, xs, ys, kvs, e, e2, hl, q⟩ => by
    subst e
    show (match (zipD xs ys).mapM pairK with | some kvs => kvs.length ≤ 1000 ∧ Q (.loc S1.length) (S1 ++ [.dK (kvs.foldl (fun acc kv => putD acc kv.1 kv.2) [])]) | none => False)
    rw [e2]
    exact ⟨hl, q⟩
-- sources
theorem i_ex {T0 : T} {R : Src → Store → Prop} (hw : (w T0 ⟨call, X⟩).i = (W.ex (w T0 ⟨call, X⟩).e).i) (hc : CMono call) (k : (w T0 ⟨call, X⟩).e σ S fun d S1 => ∃ s, srcD S1 d = some s ∧ R s S1) : (w T0 ⟨call, X⟩).i σ S R := by
  rw [hw]
  exact (mw T0 hc).e k fun d S1 ⟨s, e, q⟩ => by rw [e]; exact q
theorem i_range1 {R : Src → Store → Prop} (hc : CMono call) (k : (w a ⟨call, X⟩).e σ S fun d S1 => ∃ m, d = .int m ∧ small62 m ∧ R ⟨[], rangeD 0 m⟩ S1) : (w (.irange (.cons a .nil)) ⟨call, X⟩).i σ S R := (mw a hc).e k fun d S1 ⟨m, e, q⟩ => by subst e; exact q
theorem i_range2 {R : Src → Store → Prop} (hc : CMono call) (k : (w a ⟨call, X⟩).e σ S fun d S1 => (w b ⟨call, X⟩).e σ S1 fun d2 S2 => ∃ l m, d = .int l ∧ d2 = .int m ∧ small62 l ∧ small62 m ∧ R ⟨[], rangeD l m⟩ S2) : (w (.irange (.cons a (.cons b .nil))) ⟨call, X⟩).i σ S R :=
  (mw a hc).e k fun d S1 k => (mw b hc).e k fun d2 S2 ⟨l, m, e, e2, q⟩ => by subst e; subst e2; exact q
theorem i_enum {R : Src → Store → Prop} (hc : CMono call) (k : (w a ⟨call, X⟩).e σ S fun d S1 => ∃ s, seqS S1 d = some s ∧ R ⟨s.gd, enumD s.items⟩ S1) : (w (.ienum (.cons a .nil)) ⟨call, X⟩).i σ S R := (mw a hc).e k fun d S1 ⟨s, e, q⟩ => by
  show (match seqS S1 d with | some s => R ⟨s.gd, enumD s.items⟩ S1 | none => False)
  rw [e]; exact q
theorem i_zip {R : Src → Store → Prop} (hc : CMono call) (k : (w a ⟨call, X⟩).e σ S fun d S1 => (w b ⟨call, X⟩).e σ S1 fun d2 S2 => ∃ ka kb xs ys, d = .tup ka xs ∧ d2 = .tup kb ys ∧ R ⟨[], zipD xs ys⟩ S2) : (w (.izip (.cons a (.cons b .nil))) ⟨call, X⟩).i σ S R :=
  (mw a hc).e k fun d S1 k => (mw b hc).e k fun d2 S2 ⟨ka, kb, xs, ys, e, e2, q⟩ => by subst e; subst e2; exact q
-- tests on what is known
theorem ifd {p : Prop} [Decidable p] {A B : Prop} (h1 : p → A) (h2 : ¬p → B) : if decide p = true then A else B := by
  by_cases h : p
  · rw [if_pos (decide_eq_true h)]; exact h1 h
  · rw [if_neg (by simp [h])]; exact h2 h
theorem ift {A B : Prop} (h : A) : if true = true then A else B := by rw [if_pos rfl]; exact h
theorem iff' {A B : Prop} (h : B) : if false = true then A else B := by rw [if_neg Bool.false_ne_true]; exact h
theorem ifb {c : Bool} {A B : Prop} (h1 : c = true → A) (h2 : c = false → B) : if c = true then A else B := by
  cases c with
  | true => exact h1 rfl
  | false => exact h2 rfl
end
end Pw
/-! Pw57: loops, comprehensions, generator expressions, gone through. -/
namespace Pw
open PySem

theorem line_eq : (sizeLine : Nat) = 1073741824 ∨ 64 ≤ (sizeLine : Nat) := .inr (by rw [sizeLine_eq]; decide)
theorem lsz {m : Nat} (h : Nat.ble m 64 = true) : m ≤ sizeLine := by
  have := Nat.le_of_ble_eq_true h
  rw [sizeLine_eq]; omega
section
variable {call : CallF} {X : XX} {σ : Env} {S : Store} {Q : KD} {nx bk ct : Env → Store → Prop} {rt : KD} {tg it body cd elt ifs rest tg2 it2 ifs2 : T} {own own2 : List Nat} {α : Type}
theorem s_for' (k : (w it ⟨call, X⟩).i σ S fun src S1 => forL src.gd (fun d σ S nx' => (w tg ⟨call, X⟩).g d σ S fun σ1 S2 => (w body ⟨call, X⟩).s ⟨nx', rt, nx, nx'⟩ σ1 S2) nx src.items σ S1) : (w (.for_ tg it body) ⟨call, X⟩).s ⟨nx, rt, bk, ct⟩ σ S := k
theorem for_map {gd : List (Nat × Cell)} (hc : CMono call) (f : α → D) (xs : List α) (I : List α → Env → Store → Prop) (h0 : I [] σ S) (hg : ∀ pre σ S, I pre σ S → gdOk gd S)
    (step : ∀ pre x post σ S, xs = pre ++ x :: post → I pre σ S → (w tg ⟨call, X⟩).g (f x) σ S fun σ1 S2 => (w body ⟨call, X⟩).s ⟨I (pre ++ [x]), rt, nx, I (pre ++ [x])⟩ σ1 S2) (hfin : ∀ σ S, I xs σ S → nx σ S) :
    forL gd (fun d σ S nx' => (w tg ⟨call, X⟩).g d σ S fun σ1 S2 => (w body ⟨call, X⟩).s ⟨nx', rt, nx, nx'⟩ σ1 S2) nx (xs.map f) σ S := by
  have key : ∀ (post pre : List α) (σ : Env) (S : Store), xs = pre ++ post → I pre σ S → forL gd (fun d σ S nx' => (w tg ⟨call, X⟩).g d σ S fun σ1 S2 => (w body ⟨call, X⟩).s ⟨nx', rt, nx, nx'⟩ σ1 S2) nx (post.map f) σ S := by
    intro post
    induction post with
    | nil => intro pre σ S e hI; rw [List.append_nil] at e; subst e; exact ⟨hg _ _ _ hI, hfin _ _ hI⟩
    | cons x post ih =>
      intro pre σ S e hI
      refine ⟨hg _ _ _ hI, ?_⟩
      have nxt : ∀ σ S, I (pre ++ [x]) σ S → forL gd (fun d σ S nx' => (w tg ⟨call, X⟩).g d σ S fun σ1 S2 => (w body ⟨call, X⟩).s ⟨nx', rt, nx, nx'⟩ σ1 S2) nx (post.map f) σ S := fun σ S h => ih _ _ _ (by rw [e]; simp) h
      exact (mw tg hc).g (step pre x post σ S e hI) fun σ1 S2 h => (mw body hc).s h ⟨nxt, fun _ _ h => h, fun _ _ h => h, nxt⟩
  exact key xs [] σ S rfl h0
theorem comp_map {β : Type} {gd : List (Nat × Cell)} {B : D → Store → β → (Store → β → Prop) → Prop} {fin : Store → β → Prop} (mB : ∀ {d S acc R R'}, B d S acc R → (∀ S a, R S a → R' S a) → B d S acc R') (f : α → D) (xs : List α) {acc : β} (I : List α → Store → β → Prop) (h0 : I [] S acc) (hg : ∀ pre S a, I pre S a → gdOk gd S)
    (step : ∀ pre x post S a, xs = pre ++ x :: post → I pre S a → B (f x) S a (I (pre ++ [x]))) (hfin : ∀ S a, I xs S a → fin S a) : compL gd B fin (xs.map f) S acc := by
  have key : ∀ (post pre : List α) (S : Store) (a : β), xs = pre ++ post → I pre S a → compL gd B fin (post.map f) S a := by
    intro post
    induction post with
    | nil => intro pre S a e hI; rw [List.append_nil] at e; subst e; exact ⟨hg _ _ _ hI, hfin _ _ hI⟩
    | cons x post ih =>
      intro pre S a e hI
      exact ⟨hg _ _ _ hI, mB (step pre x post S a e hI) fun S a h => ih _ _ _ (by rw [e]; simp) h⟩
  exact key xs [] S acc rfl h0
theorem gdOk.keep {gd : List (Nat × Cell)} {S1 S2 : Store} (h : gdOk gd S1) (k : Keep [] S1 S2) : gdOk gd S2 := fun p hp => k.at (h p hp)
/-- what a clause makes of an item: a value, or nothing -/
abbrev Ev (call : CallF) (tg ifs elt : T) (own : List Nat) (σ : Env) (S : Store) (d : D) (P : Option D → Store → Prop) : Prop :=
  (w tg (C0 call)).g d (wipeE σ own) S fun σ1 S2 => (w ifs (C0 call)).ts σ1 S2 fun b S3 => if b = true then (w elt (C0 call)).e σ1 S3 fun y S4 => P (some y) S4 else P none S3
theorem Ev.mono {d : D} {P P' : Option D → Store → Prop} (hc : CMono call) (h : Ev call tg ifs elt own σ S d P) (k : ∀ y S, P y S → P' y S) : Ev call tg ifs elt own σ S d P' :=
  (mw tg (c := C0 call) hc).g h fun σ1 S2 h => (mw ifs (c := C0 call) hc).ts h fun b S3 h => ite_mono h (fun h => (mw elt (c := C0 call) hc).e h fun y S4 h => k _ _ h) (k _ _)
theorem ts_nil' {c : Cxt} {R : Bool → Store → Prop} (k : R true S) : (w .nil c).ts σ S R := k
theorem ts_one' {c : Cxt} {t : T} {R : Bool → Store → Prop} (hc : CMono c.call) (k : (w t c).t σ S R) : (w (.cons t .nil) c).ts σ S R := (mw t hc).t k fun b S1 h => by cases b <;> exact h
/-- [e for x in ..], whatever it does -/
theorem e_lc (hc : CMono call) (k : (w it ⟨call, X⟩).i σ S fun src S1 => ∃ (α : Type) (f : α → D) (xs : List α) (I : List α → List D → Store → Prop), src.items = xs.map f ∧ I [] [] (S1 ++ [.lst []]) ∧ (∀ pre acc S, I pre acc S → gdOk src.gd S) ∧
      (∀ pre x post acc S, xs = pre ++ x :: post → I pre acc S → S[S1.length]? = some (.lst acc) → Ev call tg ifs elt own σ S (f x) fun r S2 => S2[S1.length]? = some (.lst acc) ∧ (match r with
        | some y => acc.length < sizeLine ∧ I (pre ++ [x]) (acc ++ [y]) (S2.set S1.length (.lst (acc ++ [y])))
        | none => I (pre ++ [x]) acc S2)) ∧ ∀ acc S, I xs acc S → S[S1.length]? = some (.lst acc) → Q (.loc S1.length) S) : (w (.lcomp own elt tg it ifs) ⟨call, X⟩).e σ S Q := by
  show lcRd own (w it ⟨call, X⟩) (w tg (C0 call)) (w ifs (C0 call)) (w elt (C0 call)) σ S Q
  refine (mw it hc).i k fun src S1 ⟨α, f, xs, I, ei, h0, hg, step, hfin⟩ => ?_
  rw [ei]
  have mT := mw tg (c := C0 call) hc
  have mI := mw ifs (c := C0 call) hc
  have mE := mw elt (c := C0 call) hc
  refine comp_map (mB := by intro d S acc R R' h k; exact mT.g h fun σ1 S2 h => mI.ts h fun b S3 h => ite_mono h (fun h => mE.e h fun y S4 h => lcPut_mono h fun S5 h => k _ _ h) (k _ _))  f xs (fun pre S _ => ∃ acc, S[S1.length]? = some (.lst acc) ∧ I pre acc S) ⟨[], by simp, h0⟩ (fun pre S _ ⟨acc, _, h⟩ => hg pre acc S h) (fun pre x post S _ e ⟨acc, ha, hI⟩ => ?_) fun S _ ⟨acc, ha, hI⟩ => hfin acc S hI ha
  refine mT.g (step pre x post acc S e hI ha) fun σ1 S2 h => mI.ts h fun b S3 h => ?_
  cases b with
  | true =>
    refine mE.e h fun y S4 ⟨h1, h2, h3⟩ => ?_
    unfold lcPut
    rw [h1]
    exact ⟨h2, _, at_set h1, h3⟩
  | false => exact ⟨acc, h.1, h.2⟩
/-- [e for x in ..] that leaves all as it is -/
theorem e_lcP (hc : CMono call) (k : (w it ⟨call, X⟩).i σ S fun src S1 => ∃ (α : Type) (f : α → D) (xs : List α) (g : α → Option D), src.items = xs.map f ∧ gdOk src.gd S1 ∧ xs.length ≤ sizeLine ∧
      (∀ x ∈ xs, ∀ S, Keep [] S1 S → Ev call tg ifs elt own σ S (f x) fun r S2 => r = g x ∧ Keep [] S S2) ∧ ∀ S', Keep [] S1 S' → S'[S1.length]? = some (.lst (xs.filterMap g)) → Q (.loc S1.length) S') : (w (.lcomp own elt tg it ifs) ⟨call, X⟩).e σ S Q := by
  refine e_lc hc ((mw it hc).i k fun src S1 ⟨α, f, xs, g, ei, hg, hl, ev, hfin⟩ => ⟨α, f, xs, fun pre acc S => acc = pre.filterMap g ∧ Keep [] S1 S ∧ S1.length < S.length, ei, ⟨rfl, .new _ _ _, by simp⟩, fun pre acc S h => hg.keep h.2.1, fun pre x post acc S e ⟨ha, hk, hn⟩ hS => ?_, fun acc S ⟨ha, hk, _⟩ hS => hfin S hk (by rw [← ha]; exact hS)⟩)
  refine (ev x (by rw [e]; simp) S hk).mono hc fun r S2 ⟨er, k2⟩ => ⟨k2.at hS, ?_⟩
  subst er
  cases hgx : g x with
  | none => exact ⟨by rw [ha, List.filterMap_append]; simp [hgx], hk.trans k2, Nat.lt_of_lt_of_le hn k2.n⟩
  | some y =>
    refine ⟨?_, by rw [ha, List.filterMap_append]; simp [hgx], (hk.trans k2).put (Nat.le_refl _) _, by simpa using Nat.lt_of_lt_of_le hn k2.n⟩
    have h1 : acc.length ≤ pre.length := by rw [ha]; exact List.length_filterMap_le ..
    have h2 : xs.length = pre.length + (post.length + 1) := by rw [e]; simp
    omega
/-- the same, given to a name -/
theorem s_asgl' {i : Nat} (k : (w (.lcomp own elt tg it ifs) ⟨call, X⟩).e σ S fun x S1 => nx (σ.set i (some x)) S1) : (w (.asgl i own elt tg it ifs) ⟨call, X⟩).s ⟨nx, rt, bk, ct⟩ σ S := k
/-- generator expressions that leave all as it is -/
theorem gc_go (f : Gc) (hc : CMono call) (src : Src) (S1 : Store) (dflt : D) (fa : α → D) (xs : List α) (A : List α → List D → Prop) (hitems : src.items = xs.map fa) (hg : gdOk src.gd S1) (h0 : A [] (startG f))
    (ev : ∀ pre x post acc S, xs = pre ++ x :: post → A pre acc → Keep [] S1 S → Ev call tg ifs elt own σ S (fa x) fun r S2 => Keep [] S S2 ∧ (match r with
      | some y => stepG f acc y S2 (fun _ acc' => A (pre ++ [x]) acc') Q ∧ (∀ go : Store → List D → Prop, (∀ acc', A (pre ++ [x]) acc' → go S2 acc') → stepG f acc y S2 go Q)
      | none => A (pre ++ [x]) acc)) (hfin : ∀ S acc, Keep [] S1 S → A xs acc → endG f dflt acc S Q) :
    compL src.gd (fun d S acc nx => (w tg (C0 call)).g d (wipeE σ own) S fun σ1 S2 => (w ifs (C0 call)).ts σ1 S2 fun b S3 => if b then (w elt (C0 call)).e σ1 S3 fun y S4 => stepG f acc y S4 nx Q else nx S3 acc) (fun S acc => endG f dflt acc S Q) src.items S1 (startG f) := by
  have mT := mw tg (c := C0 call) hc
  have mI := mw ifs (c := C0 call) hc
  have mE := mw elt (c := C0 call) hc
  rw [hitems]
  refine comp_map (mB := by intro d S acc R R' h k; exact mT.g h fun σ1 S2 h => mI.ts h fun b S3 h => ite_mono h (fun h => mE.e h fun y S4 h => stepG_mono h (fun _ _ q => q) fun S a q => k _ _ q) (k _ _))  fa xs (fun pre S acc => Keep [] S1 S ∧ A pre acc) ⟨.refl _ _, h0⟩ (fun pre S a h => hg.keep h.1) (fun pre x post S a e ⟨hk, hA⟩ => ?_) fun S a h => hfin S a h.1 h.2
  refine mT.g (ev pre x post a S e hA hk) fun σ1 S2 h => mI.ts h fun b S3 h => ite_mono h (fun h => mE.e h fun y S4 ⟨k2, _, h⟩ => ?_) fun h => ⟨hk.trans h.1, h.2⟩
  exact h _ fun acc' q => ⟨hk.trans k2, q⟩
theorem e_gtup (hc : CMono call) (k : (w it ⟨call, X⟩).i σ S fun src S1 => ∃ (α : Type) (f : α → D) (xs : List α) (g : α → Option D), src.items = xs.map f ∧ gdOk src.gd S1 ∧ xs.length ≤ sizeLine ∧
      (∀ x ∈ xs, ∀ S, Keep [] S1 S → Ev call tg ifs elt own σ S (f x) fun r S2 => r = g x ∧ Keep [] S S2) ∧ ∀ S', Keep [] S1 S' → Q (.tup .kn (xs.filterMap g)) S') : (w (.gcall .tuple own elt tg it ifs .nil) ⟨call, X⟩).e σ S Q := by
  refine (mw it hc).i k fun src S1 ⟨α, f, xs, g, ei, hg, hl, ev, hfin⟩ => ?_
  refine gc_go .tuple hc src S1 .non f xs (fun pre acc => acc = pre.filterMap g) ei hg rfl (fun pre x post acc S e hA hk => ?_) fun S acc hk hA => by rw [hA]; exact hfin S hk
  refine (ev x (by rw [e]; simp) S hk).mono hc fun r S2 ⟨er, k2⟩ => ⟨k2, ?_⟩
  subst er
  have hlt : acc.length < sizeLine := by
    have h1 : acc.length ≤ pre.length := by rw [hA]; exact List.length_filterMap_le ..
    have h2 : xs.length = pre.length + (post.length + 1) := by rw [e]; simp
    omega
  cases hgx : g x with
  | none => exact by rw [hA, List.filterMap_append]; simp [hgx]
  | some y => exact ⟨⟨hlt, by rw [hA, List.filterMap_append]; simp [hgx]⟩, fun go h => ⟨hlt, h _ (by rw [hA, List.filterMap_append]; simp [hgx])⟩⟩
theorem e_gall (hc : CMono call) (k : (w it ⟨call, X⟩).i σ S fun src S1 => ∃ (α : Type) (f : α → D) (xs : List α) (g : α → Bool), src.items = xs.map f ∧ gdOk src.gd S1 ∧
      (∀ x ∈ xs, ∀ S, Keep [] S1 S → Ev call tg ifs elt own σ S (f x) fun r S2 => (match r with | some y => truD S2 y = some (g x) | none => g x = true) ∧ Keep [] S S2) ∧ ∀ S', Keep [] S1 S' → Q (.bl (xs.all g)) S') : (w (.gcall .all own elt tg it ifs .nil) ⟨call, X⟩).e σ S Q := by
  refine (mw it hc).i k fun src S1 ⟨α, f, xs, g, ei, hg, ev, hfin⟩ => ?_
  refine gc_go .all hc src S1 .non f xs (fun pre acc => acc = [] ∧ pre.all g = true) ei hg ⟨rfl, rfl⟩ (fun pre x post acc S e hA hk => ?_) fun S acc hk hA => by
    have := hfin S hk
    rw [hA.2] at this; exact this
  refine (ev x (by rw [e]; simp) S hk).mono hc fun r S2 ⟨er, k2⟩ => ⟨k2, ?_⟩
  cases r with
  | none => exact ⟨hA.1, by rw [List.all_append, hA.2]; simp [er]⟩
  | some y =>
    have er : truD S2 y = some (g x) := er
    have st : ∀ go : Store → List D → Prop, stepG .all acc y S2 go Q = (match truD S2 y with | some true => go S2 acc | some false => Q (.bl false) S2 | none => False) := fun _ => rfl
    simp only [st, er]
    cases hx : g x with
    | true => exact ⟨⟨hA.1, by rw [List.all_append, hA.2]; simp [hx]⟩, fun go h => h acc ⟨hA.1, by rw [List.all_append, hA.2]; simp [hx]⟩⟩
    | false =>
      have hq := hfin S2 (hk.trans k2)
      rw [show xs.all g = false by rw [e, List.all_append, List.all_cons, hx]; simp] at hq
      exact ⟨hq, fun _ _ => hq⟩
theorem e_gany (hc : CMono call) (k : (w it ⟨call, X⟩).i σ S fun src S1 => ∃ (α : Type) (f : α → D) (xs : List α) (g : α → Bool), src.items = xs.map f ∧ gdOk src.gd S1 ∧
      (∀ x ∈ xs, ∀ S, Keep [] S1 S → Ev call tg ifs elt own σ S (f x) fun r S2 => (match r with | some y => truD S2 y = some (g x) | none => g x = false) ∧ Keep [] S S2) ∧ ∀ S', Keep [] S1 S' → Q (.bl (xs.any g)) S') : (w (.gcall .any own elt tg it ifs .nil) ⟨call, X⟩).e σ S Q := by
  refine (mw it hc).i k fun src S1 ⟨α, f, xs, g, ei, hg, ev, hfin⟩ => ?_
  refine gc_go .any hc src S1 .non f xs (fun pre acc => acc = [] ∧ pre.any g = false) ei hg ⟨rfl, rfl⟩ (fun pre x post acc S e hA hk => ?_) fun S acc hk hA => by
    have := hfin S hk
    rw [hA.2] at this; exact this
  refine (ev x (by rw [e]; simp) S hk).mono hc fun r S2 ⟨er, k2⟩ => ⟨k2, ?_⟩
  cases r with
  | none => exact ⟨hA.1, by rw [List.any_append, hA.2]; simp [er]⟩
  | some y =>
    have er : truD S2 y = some (g x) := er
    have st : ∀ go : Store → List D → Prop, stepG .any acc y S2 go Q = (match truD S2 y with | some true => Q (.bl true) S2 | some false => go S2 acc | none => False) := fun _ => rfl
    simp only [st, er]
    cases hx : g x with
    | false => exact ⟨⟨hA.1, by rw [List.any_append, hA.2]; simp [hx]⟩, fun go h => h acc ⟨hA.1, by rw [List.any_append, hA.2]; simp [hx]⟩⟩
    | true =>
      have hq := hfin S2 (hk.trans k2)
      rw [show xs.any g = true by rw [e, List.any_append, List.any_cons, hx]; simp] at hq
      exact ⟨hq, fun _ _ => hq⟩
theorem e_gnext (hc : CMono call) (k : (w it ⟨call, X⟩).i σ S fun src S1 => ∃ (α : Type) (f : α → D) (xs : List α) (g : α → Option D), src.items = xs.map f ∧ gdOk src.gd S1 ∧
      (∀ x ∈ xs, ∀ S, Keep [] S1 S → Ev call tg ifs elt own σ S (f x) fun r S2 => r = g x ∧ Keep [] S S2) ∧ ∀ S', Keep [] S1 S' → Q ((xs.findSome? g).getD .non) S') : (w (.gcall .next own elt tg it ifs (.cons .non .nil)) ⟨call, X⟩).e σ S Q := by
  refine (mw it hc).i k fun src S1 ⟨α, f, xs, g, ei, hg, ev, hfin⟩ => ?_
  refine gc_go .next hc src S1 .non f xs (fun pre acc => acc = [] ∧ pre.findSome? g = none) ei hg ⟨rfl, rfl⟩ (fun pre x post acc S e hA hk => ?_) fun S acc hk hA => by
    have := hfin S hk
    rw [hA.2] at this; exact this
  refine (ev x (by rw [e]; simp) S hk).mono hc fun r S2 ⟨er, k2⟩ => ⟨k2, ?_⟩
  subst er
  cases hgx : g x with
  | none => exact ⟨hA.1, by rw [List.findSome?_append, hA.2]; simp [hgx]⟩
  | some y =>
    have hq := hfin S2 (hk.trans k2)
    rw [show xs.findSome? g = some y by rw [e, List.findSome?_append, hA.2]; simp [hgx]] at hq
    exact ⟨hq, fun _ _ => hq⟩
/-- two clauses -/
theorem e_gtup2 (hc : CMono call) (k : (w it ⟨call, X⟩).i σ S fun src S1 => ∃ (α : Type) (f : α → D) (xs : List α) (g : α → List D), src.items = xs.map f ∧ gdOk src.gd S1 ∧
      (∀ x ∈ xs, ∀ S, Keep [] S1 S → (w tg (C0 call)).g (f x) (wipeE σ own) S fun σ1 S2 => (w ifs (C0 call)).ts σ1 S2 fun b S3 => if b = true then (w it2 (C0 call)).i σ1 S3 fun src2 S4 => ∃ (β : Type) (f2 : β → D) (ys : List β) (g2 : β → Option D), src2.items = ys.map f2 ∧ gdOk src2.gd S4 ∧ Keep [] S S4 ∧ g x = ys.filterMap g2 ∧ ys.length ≤ 100 ∧
        (∀ y ∈ ys, ∀ S', Keep [] S4 S' → Ev call tg2 ifs2 elt own2 σ1 S' (f2 y) fun r S2 => r = g2 y ∧ Keep [] S' S2) else g x = [] ∧ Keep [] S S3) ∧ xs.length ≤ 100 ∧ ∀ S', Keep [] S1 S' → Q (.tup .kn (xs.flatMap g)) S') : (w (.gcall2 .tuple own own2 elt tg it ifs tg2 it2 ifs2) ⟨call, X⟩).e σ S Q := by
  refine (mw it hc).i k fun src S1 ⟨α, f, xs, g, ei, hg, ev, hxl, hfin⟩ => ?_
  have mT := mw tg (c := C0 call) hc
  have mI := mw ifs (c := C0 call) hc
  have mE := mw elt (c := C0 call) hc
  have mS2 := mw it2 (c := C0 call) hc
  have mT2 := mw tg2 (c := C0 call) hc
  have mI2 := mw ifs2 (c := C0 call) hc
  rw [ei]
  refine comp_map (mB := by intro d S acc R R' h k; exact mT.g h fun σ1 S2 h => mI.ts h fun b S3 h => ite_mono h (fun h => mS2.i h fun src2 S4 h => by refine compL_mono ?_ (fun S a q => k S a q) h; intro d S acc nx nx' h hn; exact mT2.g h fun σ2 S6 h => mI2.ts h fun b2 S7 h => ite_mono h (fun h => mE.e h fun y S8 h => stepG_mono h (fun _ _ q => q) fun S a q => hn _ _ q) (hn _ _)) (k _ _))  f xs
    (fun pre S acc => Keep [] S1 S ∧ acc = pre.flatMap g ∧ acc.length ≤ 100 * pre.length) ⟨.refl _ _, rfl, by simp [startG]⟩ (fun pre S a h => hg.keep h.1) (fun pre x post S a e ⟨hk, hA, hal⟩ => ?_) fun S a h => by rw [h.2.1]; exact hfin S h.1
  have hpl : pre.length < 100 := by have h2 : xs.length = pre.length + (post.length + 1) := by rw [e]; simp
                                    omega
  refine mT.g (ev x (by rw [e]; simp) S hk) fun σ1 S2 h => mI.ts h fun b S3 h => ?_
  cases b with
  | false => exact ⟨hk.trans h.2, by rw [List.flatMap_append, ← hA]; simp [h.1], by simp; omega⟩
  | true =>
    refine mS2.i h fun src2 S4 ⟨β, f2, ys, g2, ei2, hg2, k4, eg, hyl, ev2⟩ => ?_
    rw [ei2]
    refine comp_map (mB := by intro d S acc R R' h k; exact mT2.g h fun σ2 S6 h => mI2.ts h fun b2 S7 h => ite_mono h (fun h => mE.e h fun y S8 h => stepG_mono h (fun _ _ q => q) fun S a q => k _ _ q) (k _ _))  f2 ys
      (fun pre2 S' acc => Keep [] S4 S' ∧ acc = a ++ pre2.filterMap g2) ⟨.refl _ _, by simp⟩ (fun pre2 S' a2 h => hg2.keep h.1) (fun pre2 y post2 S' a2 e2 ⟨hk2, hA2⟩ => ?_) fun S' a2 ⟨hk2, hA2⟩ => ⟨(hk.trans k4).trans hk2, by rw [hA2, List.flatMap_append, ← hA]; simp [eg], ?_⟩
    · refine (ev2 y (by rw [e2]; simp) S' hk2).mono hc (P' := fun r S2 => match r with | some v => stepG .tuple a2 v S2 (fun S' acc => Keep [] S4 S' ∧ acc = a ++ (pre2 ++ [y]).filterMap g2) Q | none => Keep [] S4 S2 ∧ a2 = a ++ (pre2 ++ [y]).filterMap g2) fun r S2 ⟨er, k2⟩ => ?_
      subst er
      have hp2 : (pre2.filterMap g2).length ≤ pre2.length := List.length_filterMap_le ..
      have hy2 : ys.length = pre2.length + (post2.length + 1) := by rw [e2]; simp
      cases hgy : g2 y with
      | none => exact ⟨hk2.trans k2, by rw [hA2, List.filterMap_append]; simp [hgy]⟩
      | some v => exact ⟨by rw [hA2, List.length_append, sizeLine_eq]; omega, hk2.trans k2, by rw [hA2, List.filterMap_append]; simp [hgy]⟩
    · have hp2 : (ys.filterMap g2).length ≤ ys.length := List.length_filterMap_le ..
      rw [hA2, List.length_append, List.length_append, List.length_singleton]; omega
/-- while: an invariant, a measure -/
theorem s_while' (I : Nat → Env → Store → Prop) (m : Nat) (h0 : I m σ S) (turn : ∀ m σ S, I m σ S → (w cd ⟨call, X⟩).t σ S fun b S1 => if b = true then (w body ⟨call, X⟩).s ⟨fun σ' S' => ∃ m', m' < m ∧ I m' σ' S', rt, nx, fun σ' S' => ∃ m', m' < m ∧ I m' σ' S'⟩ σ S1 else nx σ S1) (hc : CMono call) : (w (.while_ cd body) ⟨call, X⟩).s ⟨nx, rt, bk, ct⟩ σ S :=
  ⟨I, ⟨m, h0⟩, fun m σ S hI => (mw cd hc).t (turn m σ S hI) fun b S1 z => ite_mono z (fun z => ⟨_, fun _ _ h => h, z⟩) fun z => z⟩
end
end Pw
/-! Pw58: what a def gives, told for callers. -/
namespace Pw
open PySem

/-- the def f, called with ds, gives d and leaves all as it is -/
def Gives (fns : List FnT) (m f : Nat) (ds : List D) (d : D) : Prop := ∀ n, m ≤ n → ∀ (S : Store) (Q : KD) (X : XX), (∀ S', Keep [] S S' → Q d S') → callAt fns n f ds S Q X
/-- the same where it hangs on the store -/
def GivesAt (fns : List FnT) (m f : Nat) (ds : List D) (S : Store) (R : D → Store → Prop) : Prop := ∀ n, m ≤ n → ∀ (Q : KD) (X : XX), (∀ d S', R d S' → Q d S') → callAt fns n f ds S Q X
section
variable {fns : List FnT} {m f : Nat} {fn : FnT} {ds : List D} {d : D} {S : Store} {R : D → Store → Prop}
theorem Gives.of {np : Nat} {names : List Str} {T0 : T} (hf : fns[f]? = some ⟨np, names, T0⟩) (hl : ds.length = np) (h : ∀ n, m ≤ n → CMono (callAt fns n) → ∀ (S : Store) (Q : KD) (X : XX), (∀ S', Keep [] S S' → Q d S') → (w T0 ⟨callAt fns n, X⟩).s ⟨fun _ S' => Q .non S', Q, fun _ _ => False, fun _ _ => False⟩ (ds.map some ++ List.replicate (names.length - ds.length) none) S) : Gives fns (m + 1) f ds d := fun n hn S Q X k => by
  cases n with
  | zero => exact absurd hn (Nat.not_succ_le_zero _)
  | succ n => exact g_call hf hl (h n (Nat.le_of_succ_le_succ hn) (callAt_mono fns n) S Q X k)
theorem GivesAt.of {np : Nat} {names : List Str} {T0 : T} (hf : fns[f]? = some ⟨np, names, T0⟩) (hl : ds.length = np) (h : ∀ n, m ≤ n → CMono (callAt fns n) → ∀ (Q : KD) (X : XX), (∀ d S', R d S' → Q d S') → (w T0 ⟨callAt fns n, X⟩).s ⟨fun _ S' => Q .non S', Q, fun _ _ => False, fun _ _ => False⟩ (ds.map some ++ List.replicate (names.length - ds.length) none) S) : GivesAt fns (m + 1) f ds S R := fun n hn Q X k => by
  cases n with
  | zero => exact absurd hn (Nat.not_succ_le_zero _)
  | succ n => exact g_call hf hl (h n (Nat.le_of_succ_le_succ hn) (callAt_mono fns n) Q X k)
end
section
variable {call : CallF} {X : XX} {σ : Env} {S : Store}
theorem t_var {i : Nat} {R : Bool → Store → Prop} (hc : CMono call) (k : (w (.var i) ⟨call, X⟩).e σ S fun d S1 => ∃ b, truD S1 d = some b ∧ R b S1) : (w (.var i) ⟨call, X⟩).t σ S R := t_ex rfl hc k
theorem i_var {i : Nat} {R : Src → Store → Prop} (hc : CMono call) (k : (w (.var i) ⟨call, X⟩).e σ S fun d S1 => ∃ s, srcD S1 d = some s ∧ R s S1) : (w (.var i) ⟨call, X⟩).i σ S R := i_ex rfl hc k
theorem p_var {i : Nat} {R : Option Int → Store → Prop} (hc : CMono call) (k : (w (.var i) ⟨call, X⟩).e σ S fun d S1 => ∃ i, d = .int i ∧ R (some i) S1) : (w (.var i) ⟨call, X⟩).p σ S R := p_ex rfl hc k
theorem t_call {f : Nat} {args : T} {R : Bool → Store → Prop} (hc : CMono call) (k : (w (.call f args) ⟨call, X⟩).e σ S fun d S1 => ∃ b, truD S1 d = some b ∧ R b S1) : (w (.call f args) ⟨call, X⟩).t σ S R := t_ex rfl hc k
theorem i_call {f : Nat} {args : T} {R : Src → Store → Prop} (hc : CMono call) (k : (w (.call f args) ⟨call, X⟩).e σ S fun d S1 => ∃ s, srcD S1 d = some s ∧ R s S1) : (w (.call f args) ⟨call, X⟩).i σ S R := i_ex rfl hc k
theorem p_call {f : Nat} {args : T} {R : Option Int → Store → Prop} (hc : CMono call) (k : (w (.call f args) ⟨call, X⟩).e σ S fun d S1 => ∃ i, d = .int i ∧ R (some i) S1) : (w (.call f args) ⟨call, X⟩).p σ S R := p_ex rfl hc k
theorem t_callk {f : Nat} {ks : List Nat} {args : T} {R : Bool → Store → Prop} (hc : CMono call) (k : (w (.callk f ks args) ⟨call, X⟩).e σ S fun d S1 => ∃ b, truD S1 d = some b ∧ R b S1) : (w (.callk f ks args) ⟨call, X⟩).t σ S R := t_ex rfl hc k
theorem i_callk {f : Nat} {ks : List Nat} {args : T} {R : Src → Store → Prop} (hc : CMono call) (k : (w (.callk f ks args) ⟨call, X⟩).e σ S fun d S1 => ∃ s, srcD S1 d = some s ∧ R s S1) : (w (.callk f ks args) ⟨call, X⟩).i σ S R := i_ex rfl hc k
theorem p_callk {f : Nat} {ks : List Nat} {args : T} {R : Option Int → Store → Prop} (hc : CMono call) (k : (w (.callk f ks args) ⟨call, X⟩).e σ S fun d S1 => ∃ i, d = .int i ∧ R (some i) S1) : (w (.callk f ks args) ⟨call, X⟩).p σ S R := p_ex rfl hc k
theorem t_bcall {B : Bi} {args : T} {R : Bool → Store → Prop} (hc : CMono call) (k : (w (.bcall B args) ⟨call, X⟩).e σ S fun d S1 => ∃ b, truD S1 d = some b ∧ R b S1) : (w (.bcall B args) ⟨call, X⟩).t σ S R := t_ex rfl hc k
theorem i_bcall {B : Bi} {args : T} {R : Src → Store → Prop} (hc : CMono call) (k : (w (.bcall B args) ⟨call, X⟩).e σ S fun d S1 => ∃ s, srcD S1 d = some s ∧ R s S1) : (w (.bcall B args) ⟨call, X⟩).i σ S R := i_ex rfl hc k
theorem p_bcall {B : Bi} {args : T} {R : Option Int → Store → Prop} (hc : CMono call) (k : (w (.bcall B args) ⟨call, X⟩).e σ S fun d S1 => ∃ i, d = .int i ∧ R (some i) S1) : (w (.bcall B args) ⟨call, X⟩).p σ S R := p_ex rfl hc k
theorem t_sub {a b : T} {R : Bool → Store → Prop} (hc : CMono call) (k : (w (.sub a b) ⟨call, X⟩).e σ S fun d S1 => ∃ b, truD S1 d = some b ∧ R b S1) : (w (.sub a b) ⟨call, X⟩).t σ S R := t_ex rfl hc k
theorem i_sub {a b : T} {R : Src → Store → Prop} (hc : CMono call) (k : (w (.sub a b) ⟨call, X⟩).e σ S fun d S1 => ∃ s, srcD S1 d = some s ∧ R s S1) : (w (.sub a b) ⟨call, X⟩).i σ S R := i_ex rfl hc k
theorem p_sub {a b : T} {R : Option Int → Store → Prop} (hc : CMono call) (k : (w (.sub a b) ⟨call, X⟩).e σ S fun d S1 => ∃ i, d = .int i ∧ R (some i) S1) : (w (.sub a b) ⟨call, X⟩).p σ S R := p_ex rfl hc k
theorem t_bin {op : Operator} {a b : T} {R : Bool → Store → Prop} (hc : CMono call) (k : (w (.bin op a b) ⟨call, X⟩).e σ S fun d S1 => ∃ b, truD S1 d = some b ∧ R b S1) : (w (.bin op a b) ⟨call, X⟩).t σ S R := t_ex rfl hc k
theorem i_bin {op : Operator} {a b : T} {R : Src → Store → Prop} (hc : CMono call) (k : (w (.bin op a b) ⟨call, X⟩).e σ S fun d S1 => ∃ s, srcD S1 d = some s ∧ R s S1) : (w (.bin op a b) ⟨call, X⟩).i σ S R := i_ex rfl hc k
theorem p_bin {op : Operator} {a b : T} {R : Option Int → Store → Prop} (hc : CMono call) (k : (w (.bin op a b) ⟨call, X⟩).e σ S fun d S1 => ∃ i, d = .int i ∧ R (some i) S1) : (w (.bin op a b) ⟨call, X⟩).p σ S R := p_ex rfl hc k
theorem t_int {z : Int} {R : Bool → Store → Prop} (hc : CMono call) (k : (w (.int z) ⟨call, X⟩).e σ S fun d S1 => ∃ b, truD S1 d = some b ∧ R b S1) : (w (.int z) ⟨call, X⟩).t σ S R := t_ex rfl hc k
theorem i_int {z : Int} {R : Src → Store → Prop} (hc : CMono call) (k : (w (.int z) ⟨call, X⟩).e σ S fun d S1 => ∃ s, srcD S1 d = some s ∧ R s S1) : (w (.int z) ⟨call, X⟩).i σ S R := i_ex rfl hc k
theorem p_int {z : Int} {R : Option Int → Store → Prop} (hc : CMono call) (k : (w (.int z) ⟨call, X⟩).e σ S fun d S1 => ∃ i, d = .int i ∧ R (some i) S1) : (w (.int z) ⟨call, X⟩).p σ S R := p_ex rfl hc k
theorem t_neg {a : T} {R : Bool → Store → Prop} (hc : CMono call) (k : (w (.neg a) ⟨call, X⟩).e σ S fun d S1 => ∃ b, truD S1 d = some b ∧ R b S1) : (w (.neg a) ⟨call, X⟩).t σ S R := t_ex rfl hc k
theorem i_neg {a : T} {R : Src → Store → Prop} (hc : CMono call) (k : (w (.neg a) ⟨call, X⟩).e σ S fun d S1 => ∃ s, srcD S1 d = some s ∧ R s S1) : (w (.neg a) ⟨call, X⟩).i σ S R := i_ex rfl hc k
theorem p_neg {a : T} {R : Option Int → Store → Prop} (hc : CMono call) (k : (w (.neg a) ⟨call, X⟩).e σ S fun d S1 => ∃ i, d = .int i ∧ R (some i) S1) : (w (.neg a) ⟨call, X⟩).p σ S R := p_ex rfl hc k
theorem t_gint {z : Str} {j : Int} {R : Bool → Store → Prop} (hc : CMono call) (k : (w (.gint z j) ⟨call, X⟩).e σ S fun d S1 => ∃ b, truD S1 d = some b ∧ R b S1) : (w (.gint z j) ⟨call, X⟩).t σ S R := t_ex rfl hc k
theorem i_gint {z : Str} {j : Int} {R : Src → Store → Prop} (hc : CMono call) (k : (w (.gint z j) ⟨call, X⟩).e σ S fun d S1 => ∃ s, srcD S1 d = some s ∧ R s S1) : (w (.gint z j) ⟨call, X⟩).i σ S R := i_ex rfl hc k
theorem p_gint {z : Str} {j : Int} {R : Option Int → Store → Prop} (hc : CMono call) (k : (w (.gint z j) ⟨call, X⟩).e σ S fun d S1 => ∃ i, d = .int i ∧ R (some i) S1) : (w (.gint z j) ⟨call, X⟩).p σ S R := p_ex rfl hc k
theorem t_gstr {z y : Str} {R : Bool → Store → Prop} (hc : CMono call) (k : (w (.gstr z y) ⟨call, X⟩).e σ S fun d S1 => ∃ b, truD S1 d = some b ∧ R b S1) : (w (.gstr z y) ⟨call, X⟩).t σ S R := t_ex rfl hc k
theorem i_gstr {z y : Str} {R : Src → Store → Prop} (hc : CMono call) (k : (w (.gstr z y) ⟨call, X⟩).e σ S fun d S1 => ∃ s, srcD S1 d = some s ∧ R s S1) : (w (.gstr z y) ⟨call, X⟩).i σ S R := i_ex rfl hc k
theorem p_gstr {z y : Str} {R : Option Int → Store → Prop} (hc : CMono call) (k : (w (.gstr z y) ⟨call, X⟩).e σ S fun d S1 => ∃ i, d = .int i ∧ R (some i) S1) : (w (.gstr z y) ⟨call, X⟩).p σ S R := p_ex rfl hc k
theorem t_gtups {z : Str} {ss : List Str} {R : Bool → Store → Prop} (hc : CMono call) (k : (w (.gtups z ss) ⟨call, X⟩).e σ S fun d S1 => ∃ b, truD S1 d = some b ∧ R b S1) : (w (.gtups z ss) ⟨call, X⟩).t σ S R := t_ex rfl hc k
theorem i_gtups {z : Str} {ss : List Str} {R : Src → Store → Prop} (hc : CMono call) (k : (w (.gtups z ss) ⟨call, X⟩).e σ S fun d S1 => ∃ s, srcD S1 d = some s ∧ R s S1) : (w (.gtups z ss) ⟨call, X⟩).i σ S R := i_ex rfl hc k
theorem p_gtups {z : Str} {ss : List Str} {R : Option Int → Store → Prop} (hc : CMono call) (k : (w (.gtups z ss) ⟨call, X⟩).e σ S fun d S1 => ∃ i, d = .int i ∧ R (some i) S1) : (w (.gtups z ss) ⟨call, X⟩).p σ S R := p_ex rfl hc k
theorem t_slice {a lo hi : T} {R : Bool → Store → Prop} (hc : CMono call) (k : (w (.slice a lo hi) ⟨call, X⟩).e σ S fun d S1 => ∃ b, truD S1 d = some b ∧ R b S1) : (w (.slice a lo hi) ⟨call, X⟩).t σ S R := t_ex rfl hc k
theorem i_slice {a lo hi : T} {R : Src → Store → Prop} (hc : CMono call) (k : (w (.slice a lo hi) ⟨call, X⟩).e σ S fun d S1 => ∃ s, srcD S1 d = some s ∧ R s S1) : (w (.slice a lo hi) ⟨call, X⟩).i σ S R := i_ex rfl hc k
theorem p_slice {a lo hi : T} {R : Option Int → Store → Prop} (hc : CMono call) (k : (w (.slice a lo hi) ⟨call, X⟩).e σ S fun d S1 => ∃ i, d = .int i ∧ R (some i) S1) : (w (.slice a lo hi) ⟨call, X⟩).p σ S R := p_ex rfl hc k
theorem t_rev {a : T} {R : Bool → Store → Prop} (hc : CMono call) (k : (w (.rev a) ⟨call, X⟩).e σ S fun d S1 => ∃ b, truD S1 d = some b ∧ R b S1) : (w (.rev a) ⟨call, X⟩).t σ S R := t_ex rfl hc k
theorem i_rev {a : T} {R : Src → Store → Prop} (hc : CMono call) (k : (w (.rev a) ⟨call, X⟩).e σ S fun d S1 => ∃ s, srcD S1 d = some s ∧ R s S1) : (w (.rev a) ⟨call, X⟩).i σ S R := i_ex rfl hc k
theorem p_rev {a : T} {R : Option Int → Store → Prop} (hc : CMono call) (k : (w (.rev a) ⟨call, X⟩).e σ S fun d S1 => ∃ i, d = .int i ∧ R (some i) S1) : (w (.rev a) ⟨call, X⟩).p σ S R := p_ex rfl hc k
theorem t_lcomp {own : List Nat} {elt tg it ifs : T} {R : Bool → Store → Prop} (hc : CMono call) (k : (w (.lcomp own elt tg it ifs) ⟨call, X⟩).e σ S fun d S1 => ∃ b, truD S1 d = some b ∧ R b S1) : (w (.lcomp own elt tg it ifs) ⟨call, X⟩).t σ S R := t_ex rfl hc k
theorem i_lcomp {own : List Nat} {elt tg it ifs : T} {R : Src → Store → Prop} (hc : CMono call) (k : (w (.lcomp own elt tg it ifs) ⟨call, X⟩).e σ S fun d S1 => ∃ s, srcD S1 d = some s ∧ R s S1) : (w (.lcomp own elt tg it ifs) ⟨call, X⟩).i σ S R := i_ex rfl hc k
theorem p_lcomp {own : List Nat} {elt tg it ifs : T} {R : Option Int → Store → Prop} (hc : CMono call) (k : (w (.lcomp own elt tg it ifs) ⟨call, X⟩).e σ S fun d S1 => ∃ i, d = .int i ∧ R (some i) S1) : (w (.lcomp own elt tg it ifs) ⟨call, X⟩).p σ S R := p_ex rfl hc k
theorem t_meth {m : Me} {o args : T} {R : Bool → Store → Prop} (hc : CMono call) (k : (w (.meth m o args) ⟨call, X⟩).e σ S fun d S1 => ∃ b, truD S1 d = some b ∧ R b S1) : (w (.meth m o args) ⟨call, X⟩).t σ S R := t_ex rfl hc k
theorem i_meth {m : Me} {o args : T} {R : Src → Store → Prop} (hc : CMono call) (k : (w (.meth m o args) ⟨call, X⟩).e σ S fun d S1 => ∃ s, srcD S1 d = some s ∧ R s S1) : (w (.meth m o args) ⟨call, X⟩).i σ S R := i_ex rfl hc k
theorem p_meth {m : Me} {o args : T} {R : Option Int → Store → Prop} (hc : CMono call) (k : (w (.meth m o args) ⟨call, X⟩).e σ S fun d S1 => ∃ i, d = .int i ∧ R (some i) S1) : (w (.meth m o args) ⟨call, X⟩).p σ S R := p_ex rfl hc k
theorem t_gc {f : Gc} {own : List Nat} {elt tg it ifs rest : T} {R : Bool → Store → Prop} (hc : CMono call) (k : (w (.gcall f own elt tg it ifs rest) ⟨call, X⟩).e σ S fun d S1 => ∃ b, truD S1 d = some b ∧ R b S1) : (w (.gcall f own elt tg it ifs rest) ⟨call, X⟩).t σ S R := t_ex rfl hc k
theorem i_gc {f : Gc} {own : List Nat} {elt tg it ifs rest : T} {R : Src → Store → Prop} (hc : CMono call) (k : (w (.gcall f own elt tg it ifs rest) ⟨call, X⟩).e σ S fun d S1 => ∃ s, srcD S1 d = some s ∧ R s S1) : (w (.gcall f own elt tg it ifs rest) ⟨call, X⟩).i σ S R := i_ex rfl hc k
theorem t_lst {es : T} {R : Bool → Store → Prop} (hc : CMono call) (k : (w (.lst es) ⟨call, X⟩).e σ S fun d S1 => ∃ b, truD S1 d = some b ∧ R b S1) : (w (.lst es) ⟨call, X⟩).t σ S R := t_ex rfl hc k
theorem i_lst {es : T} {R : Src → Store → Prop} (hc : CMono call) (k : (w (.lst es) ⟨call, X⟩).e σ S fun d S1 => ∃ s, srcD S1 d = some s ∧ R s S1) : (w (.lst es) ⟨call, X⟩).i σ S R := i_ex rfl hc k
theorem p_lst {es : T} {R : Option Int → Store → Prop} (hc : CMono call) (k : (w (.lst es) ⟨call, X⟩).e σ S fun d S1 => ∃ i, d = .int i ∧ R (some i) S1) : (w (.lst es) ⟨call, X⟩).p σ S R := p_ex rfl hc k
theorem t_tup {es : T} {R : Bool → Store → Prop} (hc : CMono call) (k : (w (.tup es) ⟨call, X⟩).e σ S fun d S1 => ∃ b, truD S1 d = some b ∧ R b S1) : (w (.tup es) ⟨call, X⟩).t σ S R := t_ex rfl hc k
theorem i_tup {es : T} {R : Src → Store → Prop} (hc : CMono call) (k : (w (.tup es) ⟨call, X⟩).e σ S fun d S1 => ∃ s, srcD S1 d = some s ∧ R s S1) : (w (.tup es) ⟨call, X⟩).i σ S R := i_ex rfl hc k
theorem p_tup {es : T} {R : Option Int → Store → Prop} (hc : CMono call) (k : (w (.tup es) ⟨call, X⟩).e σ S fun d S1 => ∃ i, d = .int i ∧ R (some i) S1) : (w (.tup es) ⟨call, X⟩).p σ S R := p_ex rfl hc k
theorem t_str {z : Str} {R : Bool → Store → Prop} (hc : CMono call) (k : (w (.str z) ⟨call, X⟩).e σ S fun d S1 => ∃ b, truD S1 d = some b ∧ R b S1) : (w (.str z) ⟨call, X⟩).t σ S R := t_ex rfl hc k
theorem i_str {z : Str} {R : Src → Store → Prop} (hc : CMono call) (k : (w (.str z) ⟨call, X⟩).e σ S fun d S1 => ∃ s, srcD S1 d = some s ∧ R s S1) : (w (.str z) ⟨call, X⟩).i σ S R := i_ex rfl hc k
theorem p_str {z : Str} {R : Option Int → Store → Prop} (hc : CMono call) (k : (w (.str z) ⟨call, X⟩).e σ S fun d S1 => ∃ i, d = .int i ∧ R (some i) S1) : (w (.str z) ⟨call, X⟩).p σ S R := p_ex rfl hc k
theorem t_ite {c a b : T} {R : Bool → Store → Prop} (hc : CMono call) (k : (w (.ite c a b) ⟨call, X⟩).e σ S fun d S1 => ∃ b, truD S1 d = some b ∧ R b S1) : (w (.ite c a b) ⟨call, X⟩).t σ S R := t_ex rfl hc k
theorem i_ite {c a b : T} {R : Src → Store → Prop} (hc : CMono call) (k : (w (.ite c a b) ⟨call, X⟩).e σ S fun d S1 => ∃ s, srcD S1 d = some s ∧ R s S1) : (w (.ite c a b) ⟨call, X⟩).i σ S R := i_ex rfl hc k
theorem p_ite {c a b : T} {R : Option Int → Store → Prop} (hc : CMono call) (k : (w (.ite c a b) ⟨call, X⟩).e σ S fun d S1 => ∃ i, d = .int i ∧ R (some i) S1) : (w (.ite c a b) ⟨call, X⟩).p σ S R := p_ex rfl hc k
theorem t_bci {B : Bi} {a : T} {R : Bool → Store → Prop} (hc : CMono call) (k : (w (.bcalli B a) ⟨call, X⟩).e σ S fun d S1 => ∃ b, truD S1 d = some b ∧ R b S1) : (w (.bcalli B a) ⟨call, X⟩).t σ S R := t_ex rfl hc k
theorem i_bci {B : Bi} {a : T} {R : Src → Store → Prop} (hc : CMono call) (k : (w (.bcalli B a) ⟨call, X⟩).e σ S fun d S1 => ∃ s, srcD S1 d = some s ∧ R s S1) : (w (.bcalli B a) ⟨call, X⟩).i σ S R := i_ex rfl hc k
theorem p_bci {B : Bi} {a : T} {R : Option Int → Store → Prop} (hc : CMono call) (k : (w (.bcalli B a) ⟨call, X⟩).e σ S fun d S1 => ∃ i, d = .int i ∧ R (some i) S1) : (w (.bcalli B a) ⟨call, X⟩).p σ S R := p_ex rfl hc k
theorem e_cmp' {op : CmpOp} {a b : T} {Q : KD} (k : (w (.cmp op a b) ⟨call, X⟩).t σ S fun b S1 => Q (.bl b) S1) : (w (.cmp op a b) ⟨call, X⟩).e σ S Q := k
theorem e_isn' {a : T} {Q : KD} (k : (w (.isn a) ⟨call, X⟩).t σ S fun b S1 => Q (.bl b) S1) : (w (.isn a) ⟨call, X⟩).e σ S Q := k
theorem e_notn' {a : T} {Q : KD} (k : (w (.notn a) ⟨call, X⟩).t σ S fun b S1 => Q (.bl b) S1) : (w (.notn a) ⟨call, X⟩).e σ S Q := k
theorem e_chain' {o1 o2 : CmpOp} {a b d : T} {Q : KD} (k : (w (.chain o1 o2 a b d) ⟨call, X⟩).t σ S fun b S1 => Q (.bl b) S1) : (w (.chain o1 o2 a b d) ⟨call, X⟩).e σ S Q := k
theorem e_isin' {a : T} {ty : Ty} {Q : KD} (k : (w (.isin a ty) ⟨call, X⟩).t σ S fun b S1 => Q (.bl b) S1) : (w (.isin a ty) ⟨call, X⟩).e σ S Q := k
end
-- which kind of goal it is
theorem isE {t : T} {c : Cxt} {σ : Env} {S : Store} {Q : KD} (k : (w t c).e σ S Q) : (w t c).e σ S Q := k
theorem isA {t : T} {c : Cxt} {σ : Env} {S : Store} {Q : List D → Store → Prop} (k : (w t c).a σ S Q) : (w t c).a σ S Q := k
theorem isS {t : T} {c : Cxt} {σ : Env} {S : Store} {Q : Ends} (k : (w t c).s Q σ S) : (w t c).s Q σ S := k
theorem isT {t : T} {c : Cxt} {σ : Env} {S : Store} {Q : Bool → Store → Prop} (k : (w t c).t σ S Q) : (w t c).t σ S Q := k
theorem isI {t : T} {c : Cxt} {σ : Env} {S : Store} {Q : Src → Store → Prop} (k : (w t c).i σ S Q) : (w t c).i σ S Q := k
theorem isP {t : T} {c : Cxt} {σ : Env} {S : Store} {Q : Option Int → Store → Prop} (k : (w t c).p σ S Q) : (w t c).p σ S Q := k
theorem isG {t : T} {c : Cxt} {d : D} {σ : Env} {S : Store} {Q : Env → Store → Prop} (k : (w t c).g d σ S Q) : (w t c).g d σ S Q := k
theorem isGs {t : T} {c : Cxt} {d : List D} {σ : Env} {S : Store} {Q : Env → Store → Prop} (k : (w t c).gs d σ S Q) : (w t c).gs d σ S Q := k
theorem isTs {t : T} {c : Cxt} {σ : Env} {S : Store} {Q : Bool → Store → Prop} (k : (w t c).ts σ S Q) : (w t c).ts σ S Q := k
theorem truD_bl {S : Store} {b : Bool} : truD S (.bl b) = some b := rfl
theorem byTru_t {S : Store} {P R : Prop} (h : P) : byTru S (.bl true) P R := h
theorem byTru_f {S : Store} {P R : Prop} (h : R) : byTru S (.bl false) P R := h
end Pw
namespace Pw
open PySem
section
variable {S : Store} {Q : KD} {R : Bool → Prop} {a b : Int} {x y : Str} {kk kl : TK} {xs ys : List D} {d v : D} {A B : Prop} {c : Bool}
-- isinstance
theorem ii_int (k : R true) : ∃ c, isinD S (.int a) .int = some c ∧ R c := ⟨true, rfl, k⟩
theorem ii_intb (k : R false) : ∃ c, isinD S (.int a) .bool = some c ∧ R c := ⟨false, rfl, k⟩
theorem ii_str (k : R true) : ∃ c, isinD S (.str x) .str = some c ∧ R c := ⟨true, rfl, k⟩
theorem ii_tup (k : R true) : ∃ c, isinD S (.tup kk xs) .tuple = some c ∧ R c := ⟨true, rfl, k⟩
-- comparisons of numbers, texts
theorem cm_lt (k : R (decide (a < b))) : ∃ c, cmpD .Lt S (.int a) (.int b) = some c ∧ R c := ⟨_, rfl, k⟩
theorem cm_le (k : R (decide (a ≤ b))) : ∃ c, cmpD .LtE S (.int a) (.int b) = some c ∧ R c := ⟨_, rfl, k⟩
theorem cm_gt (k : R (decide (b < a))) : ∃ c, cmpD .Gt S (.int a) (.int b) = some c ∧ R c := ⟨_, rfl, k⟩
theorem cm_ge (k : R (decide (b ≤ a))) : ∃ c, cmpD .GtE S (.int a) (.int b) = some c ∧ R c := ⟨_, rfl, k⟩
theorem cm_eq (k : R (decide (a = b))) : ∃ c, cmpD .Eq S (.int a) (.int b) = some c ∧ R c := ⟨_, rfl, k⟩
theorem cm_ne (k : R (decide (a ≠ b))) : ∃ c, cmpD .NotEq S (.int a) (.int b) = some c ∧ R c := ⟨_, by show some (!decide (a = b)) = _; simp, k⟩
theorem cs_eq (k : R (decide (x = y))) : ∃ c, cmpD .Eq S (.str x) (.str y) = some c ∧ R c := ⟨_, rfl, k⟩
theorem cs_ne (k : R (decide (x ≠ y))) : ∃ c, cmpD .NotEq S (.str x) (.str y) = some c ∧ R c := ⟨_, by show some (!decide (x = y)) = _; simp, k⟩
theorem cs_lt (k : R (decide (x.cps.toList < y.cps.toList))) : ∃ c, cmpD .Lt S (.str x) (.str y) = some c ∧ R c := ⟨_, rfl, k⟩
-- truth
theorem tr_bl (k : R c) : ∃ b, truD S (.bl c) = some b ∧ R b := ⟨_, rfl, k⟩
-- values
theorem len_tup (k : Q (.int (xs.length : Nat)) S) : biD .len [.tup kk xs] S Q := k
theorem len_lst {n : Nat} (h : S[n]? = some (.lst xs)) (k : Q (.int (xs.length : Nat)) S) : biD .len [.loc n] S Q := by
  show (match (match S[n]? with | some (.lst xs) => some xs.length | some (.rol xs) => some xs.length | _ => none) with | some n => Q (.int n) S | none => False)
  rw [h]; exact k
theorem int_int (k : Q (.int a) S) : biD .int [.int a] S Q := k
theorem min_int (k : Q (.int (min a b)) S) : biD .min [.int a, .int b] S Q := by
  show Q (.int (min2 a b)) S
  rw [show min2 a b = min a b by unfold min2; omega]; exact k
theorem max_int (k : Q (.int (max a b)) S) : biD .max [.int a, .int b] S Q := by
  show Q (.int (max2 a b)) S
  rw [show max2 a b = max a b by unfold max2; omega]; exact k
theorem sub_tup {j : Int} (h : L2.atI xs j = some v) (k : Q v S) : subD (.tup kk xs) (.int j) S Q := by
  show (match L2.atI xs j with | some v => Q v S | none => False)
  rw [h]; exact k
theorem sub_lst {n : Nat} {j : Int} (hn : S[n]? = some (.lst xs)) (h : L2.atI xs j = some v) (k : Q v S) : subD (.loc n) (.int j) S Q := by
  simp only [subD, hn, h]; exact k
theorem sub_rol {n : Nat} {j : Int} (hn : S[n]? = some (.rol xs)) (h : L2.atI xs j = some v) (k : Q v S) : subD (.loc n) (.int j) S Q := by
  simp only [subD, hn, h]; exact k
theorem sub_dK {n : Nat} {kvs : List (L2.Key × D)} {q : L2.Key} (hn : S[n]? = some (.dK kvs)) (hk : keyK d = some q) (h : valD kvs q = some v) (k : Q v S) : subD (.loc n) d S Q := by
  simp only [subD, hn, hk, h]; exact k
theorem sub_dT {n : Nat} {kvs : List (List L2.Key × D)} {q : List L2.Key} (hn : S[n]? = some (.dT kvs)) (hk : keyT d = some q) (h : valD kvs q = some v) (k : Q v S) : subD (.loc n) d S Q := by
  simp only [subD, hn, hk, h]; exact k
theorem b_addI (k : Q (.int (a + b)) S) : binD .Add (.int a) (.int b) S Q := k
theorem b_subI (k : Q (.int (a - b)) S) : binD .Sub (.int a) (.int b) S Q := k
theorem b_mulI (h : L2.CMul a b) (k : Q (.int (a * b)) S) : binD .Mult (.int a) (.int b) S Q := ⟨h, k⟩
theorem b_modI (h : 0 < b) (k : Q (.int (a % b)) S) : binD .Mod (.int a) (.int b) S Q := ⟨h, k⟩
theorem b_divI (h : L2.CDiv a b) (k : Q (.int (a / b)) S) : binD .FloorDiv (.int a) (.int b) S Q := ⟨h, k⟩
theorem b_addT (h : xs.length + ys.length ≤ sizeLine) (k : Q (.tup .any (xs ++ ys)) S) : binD .Add (.tup kk xs) (.tup kl ys) S Q := ⟨h, k⟩
theorem b_addS (h : x.length + y.length ≤ sizeLine) (k : Q (.str (x ++ y)) S) : binD .Add (.str x) (.str y) S Q := ⟨h, k⟩
theorem b_addL {m n : Nat} (hm : S[m]? = some (.lst xs)) (hn : S[n]? = some (.lst ys)) (h : xs.length + ys.length ≤ sizeLine) (k : Q (.loc S.length) (S ++ [.lst (xs ++ ys)])) : binD .Add (.loc m) (.loc n) S Q := by
  simp only [binD, hm, hn]; exact ⟨h, k⟩
theorem b_mulL {m : Nat} {j : Int} (hm : S[m]? = some (.lst xs)) (h : xs.length * j.toNat ≤ sizeLine) (h2 : small62 j) (k : Q (.loc S.length) (S ++ [.lst (List.replicate j.toNat xs).flatten])) : binD .Mult (.loc m) (.int j) S Q := by
  simp only [binD, hm]; exact ⟨h, h2, k⟩
theorem io_addI (k : Q (.int (a + b)) S) : iopD .Add (.int a) (.int b) S Q := k
theorem io_subI (k : Q (.int (a - b)) S) : iopD .Sub (.int a) (.int b) S Q := k
theorem lg_lst {n : Nat} {j : Int} (hn : S[n]? = some (.lst xs)) (h : L2.atI xs j = some v) (k : Q v S) : lgetD (.loc n) (.int j) S Q := by
  simp only [lgetD, hn, h]; exact k
theorem lg_dK {n : Nat} {kvs : List (L2.Key × D)} {q : L2.Key} (hn : S[n]? = some (.dK kvs)) (hk : keyK d = some q) (h : valD kvs q = some v) (k : Q v S) : lgetD (.loc n) d S Q := by
  simp only [lgetD, hn, hk, h]; exact k
theorem st_lst {n i : Nat} {j : Int} {P : Store → Prop} (hn : S[n]? = some (.lst xs)) (h : L2.ixN xs.length j = some i) (k : P (S.set n (.lst (xs.set i v)))) : setD (.loc n) (.int j) v S P := by
  simp only [setD, hn, h]; exact k
theorem st_dK {n : Nat} {P : Store → Prop} {kvs : List (L2.Key × D)} {q : L2.Key} (hn : S[n]? = some (.dK kvs)) (hk : keyK d = some q) (h : kvs.length < sizeLine) (k : P (S.set n (.dK (putD kvs q v)))) : setD (.loc n) d v S P := by
  simp only [setD, hn, hk]; exact ⟨h, k⟩
theorem st_dT {n : Nat} {P : Store → Prop} {kvs : List (List L2.Key × D)} {q : List L2.Key} (hn : S[n]? = some (.dT kvs)) (hk : keyT d = some q) (h : kvs.length < sizeLine) (k : P (S.set n (.dT (putD kvs q v)))) : setD (.loc n) d v S P := by
  simp only [setD, hn, hk]; exact ⟨h, k⟩
theorem me_append {n : Nat} {P : Prop} (hn : S[n]? = some (.lst xs)) (k : P) : meOk .append (.loc n) S ∧ P := ⟨by simp only [meOk, hn], k⟩
theorem me_pop {n : Nat} {P : Prop} (hn : S[n]? = some (.lst xs)) (k : P) : meOk .pop (.loc n) S ∧ P := ⟨by simp only [meOk, hn], k⟩
theorem me_getT {n : Nat} {P : Prop} {kvs : List (List L2.Key × D)} (hn : S[n]? = some (.dT kvs)) (k : P) : meOk .get (.loc n) S ∧ P := ⟨by simp only [meOk, hn], k⟩
theorem me_index {P : Prop} (k : P) : meOk .index (.tup .kn xs) S ∧ P := ⟨trivial, k⟩
theorem me_join {P : Prop} (k : P) : meOk .join (.str x) S ∧ P := ⟨trivial, k⟩
theorem md_append {n : Nat} (hn : S[n]? = some (.lst xs)) (h : xs.length < sizeLine) (k : Q .non (S.set n (.lst (xs ++ [d])))) : meD .append (.loc n) [d] S Q := by
  simp only [meD, hn]; exact ⟨h, k⟩
theorem md_pop {n i : Nat} {j : Int} (hn : S[n]? = some (.lst xs)) (h : L2.ixN xs.length j = some i) (h2 : xs[i]? = some v) (k : Q v (S.set n (.lst (xs.eraseIdx i)))) : meD .pop (.loc n) [.int j] S Q := by
  simp only [meD, hn, h, h2]; exact k
theorem md_getT {n : Nat} {kvs : List (List L2.Key × D)} {q : List L2.Key} (hn : S[n]? = some (.dT kvs)) (hk : keyT d = some q) (k : Q ((valD kvs q).getD v) S) : meD .get (.loc n) [d, v] S Q := by
  simp only [meD, hn, hk]; exact k
theorem strsD_map (ss : List Str) : strsD (ss.map .str) = some ss := by
  induction ss with
  | nil => rfl
  | cons s r ih => simp [strsD, ih]
theorem intsD_map (ss : List Int) : intsD (ss.map .int) = some ss := by
  induction ss with
  | nil => rfl
  | cons s r ih => simp [intsD, ih]
theorem md_index {ss : List Str} {j : Nat} (h : ss.findIdx? (fun q => decide (q = x)) = some j) (k : Q (.int j) S) : meD .index (.tup .kn (ss.map .str)) [.str x] S Q := by
  simp only [meD, strsD_map, h]; exact k
theorem ifn (h : if c = true then B else A) : if (!c) = true then A else B := by cases c <;> exact h
theorem tup_list {n : Nat} (h : S[n]? = some (.lst xs)) (k : Q (.tup .kn xs) S) : biD .tuple [.loc n] S Q := by
  show (match seqD S (.loc n) with | some xs => Q (.tup .kn xs) S | none => False)
  simp only [seqD, h]; exact k
theorem tup_tup (k : Q (.tup kk xs) S) : biD .tuple [.tup kk xs] S Q := k
theorem list_tup (h : xs.length ≤ sizeLine) (k : Q (.loc S.length) (S ++ [.lst xs])) : biD .list [.tup kk xs] S Q := ⟨h, k⟩
theorem list_lst {n : Nat} (hn : S[n]? = some (.lst xs)) (h : xs.length ≤ sizeLine) (k : Q (.loc S.length) (S ++ [.lst xs])) : biD .list [.loc n] S Q := by
  show (match srcD S (.loc n) with | some s => s.items.length ≤ sizeLine ∧ Q (.loc S.length) (S ++ [.lst s.items]) | none => False)
  simp only [srcD, hn]; exact ⟨h, k⟩
theorem list_str (h : x.cps.toList.length ≤ sizeLine) (k : Q (.loc S.length) (S ++ [.lst (signsD x)])) : biD .list [.str x] S Q := ⟨by unfold signsD; rw [List.length_map]; exact h, k⟩
theorem sum_ints (is : List Int) (k : Q (.int is.sum) S) : biD .sum [.tup kk (is.map .int)] S Q := by
  show (match (some (is.map D.int)).bind intsD with | some is => Q (.int is.sum) S | _ => False)
  rw [Option.bind_some, intsD_map]; exact k
theorem src_tup {P : Src → Prop} (k : P ⟨[], xs⟩) : ∃ s, srcD S (.tup kk xs) = some s ∧ P s := ⟨_, rfl, k⟩
theorem src_lst {n : Nat} {P : Src → Prop} (h : S[n]? = some (.lst xs)) (k : P ⟨[(n, .lst xs)], xs⟩) : ∃ s, srcD S (.loc n) = some s ∧ P s := ⟨_, by simp only [srcD, h], k⟩
theorem src_rol {n : Nat} {P : Src → Prop} (h : S[n]? = some (.rol xs)) (k : P ⟨[(n, .rol xs)], xs⟩) : ∃ s, srcD S (.loc n) = some s ∧ P s := ⟨_, by simp only [srcD, h], k⟩
theorem src_str {P : Src → Prop} (k : P ⟨[], signsD x⟩) : ∃ s, srcD S (.str x) = some s ∧ P s := ⟨_, rfl, k⟩
theorem seq_tup {P : Src → Prop} (k : P ⟨[], xs⟩) : ∃ s, seqS S (.tup kk xs) = some s ∧ P s := ⟨_, rfl, k⟩
theorem sl_tup {lo hi : Option Int} (k : Q (.tup .any (cutD xs lo hi)) S) : sliceD (.tup kk xs) lo hi S Q := k
theorem sl_lst {n : Nat} {lo hi : Option Int} (h : S[n]? = some (.lst xs)) (k : Q (.loc S.length) (S ++ [.lst (cutD xs lo hi)])) : sliceD (.loc n) lo hi S Q := by
  simp only [sliceD, h]; exact k
theorem sl_rol {n : Nat} {lo hi : Option Int} (h : S[n]? = some (.rol xs)) (k : Q (.loc S.length) (S ++ [.lst (cutD xs lo hi)])) : sliceD (.loc n) lo hi S Q := by
  simp only [sliceD, h]; exact k
theorem rv_tup (k : Q (.tup .any xs.reverse) S) : revD (.tup kk xs) S Q := k
theorem pex {P : Int → Prop} (k : P a) : ∃ i, D.int a = .int i ∧ P i := ⟨a, rfl, k⟩
theorem rg1 {P : Int → Prop} (h : small62 a) (k : P a) : ∃ m, D.int a = .int m ∧ small62 m ∧ P m := ⟨a, rfl, h, k⟩
theorem rg2 {P : Int → Int → Prop} (h : small62 a) (h2 : small62 b) (k : P a b) : ∃ l m, D.int a = .int l ∧ D.int b = .int m ∧ small62 l ∧ small62 m ∧ P l m := ⟨a, b, rfl, rfl, h, h2, k⟩
theorem zp {P : List D → List D → Prop} (k : P xs ys) : ∃ ka kb us vs, D.tup kk xs = .tup ka us ∧ D.tup kl ys = .tup kb vs ∧ P us vs := ⟨_, _, _, _, rfl, rfl, k⟩
end
end Pw
namespace Pw
open PySem
theorem ip {c : Bool} {A B : Prop} (h : c = true) (k : A) : if c = true then A else B := by rw [if_pos h]; exact k
theorem im {c : Bool} {A B : Prop} (h : c = false) (k : B) : if c = true then A else B := by rw [if_neg (by rw [h]; exact Bool.false_ne_true)]; exact k
theorem gd_nil {S : Store} : gdOk [] S := fun _ h => by cases h
theorem gd_one {S : Store} {n : Nat} {c : Cell} (h : S[n]? = some c) : gdOk [(n, c)] S := fun p hp => by
  rw [List.mem_singleton.mp hp]; exact h
theorem Keep.r {W : List Nat} {S : Store} : Keep W S S := Keep.refl W S
end Pw
/-! Pw59: values as data: equality, in, order, repr. -/
namespace Pw
open PySem

/-- d is the datum p, whatever the store is -/
structure Dat (n : Nat) (d : D) (p : PyData) : Prop where
  q : ∀ S, dq n S d = some p
  lay : p.canLay0 = true
  dep : p.depth < n
theorem Dat.int {n : Nat} (i : Int) : Dat (n + 1) (.int i) (.int i) := ⟨fun _ => rfl, by simp [PyData.canLay0], by simp [PyData.depth]⟩
theorem Dat.non {n : Nat} : Dat (n + 1) .non .none := ⟨fun _ => rfl, by simp [PyData.canLay0], by simp [PyData.depth]⟩
theorem Dat.bl {n : Nat} (b : Bool) : Dat (n + 1) (.bl b) (.bool b) := ⟨fun _ => rfl, by simp [PyData.canLay0], by simp [PyData.depth]⟩
/-- a text of signs that are ones -/
abbrev sOk (s : Str) : Prop := (PyData.str s).canLay0 = true
theorem Dat.str {n : Nat} {s : Str} (h : sOk s) : Dat (n + 1) (.str s) (.str s) := ⟨fun _ => rfl, h, by simp [PyData.depth]⟩
theorem sOk_of {s : Str} (h : ∀ c ∈ s.cps.toList, c < 1114112) : sOk s := by
  unfold sOk
  simp only [PyData.canLay0, PyData.strOk, Array.all_eq_true', decide_eq_true_eq]
  exact fun c hc => h c (by simpa using hc)
theorem mapM_map {α : Type} {n : Nat} {S : Store} {f : α → D} {g : α → PyData} : ∀ (l : List α), (∀ a ∈ l, dq n S (f a) = some (g a)) → (l.map f).mapM (dq n S) = some (l.map g)
  | [], _ => rfl
  | a :: l, h => by
    rw [List.map_cons, List.mapM_cons, h a List.mem_cons_self, mapM_map l fun b hb => h b (List.mem_cons_of_mem _ hb)]
    rfl
theorem layAll {α : Type} {g : α → PyData} : ∀ (l : List α), (∀ a ∈ l, (g a).canLay0 = true) → PyData.canLayAll0 (l.map g) = true
  | [], _ => by simp [PyData.canLayAll0]
  | a :: l, h => by
    rw [List.map_cons, PyData.canLayAll0, h a List.mem_cons_self, layAll l fun b hb => h b (List.mem_cons_of_mem _ hb)]; rfl
theorem depAll {α : Type} {g : α → PyData} {n : Nat} (hn : 0 < n) : ∀ (l : List α), (∀ a ∈ l, (g a).depth < n) → PyData.depthAll (l.map g) < n
  | [], _ => by simp [PyData.depthAll]; exact hn
  | a :: l, h => by
    rw [List.map_cons, PyData.depthAll]
    exact Nat.max_lt.mpr ⟨h a List.mem_cons_self, depAll hn l fun b hb => h b (List.mem_cons_of_mem _ hb)⟩
theorem Dat.tup {α : Type} {n : Nat} {k : TK} {f : α → D} {g : α → PyData} {l : List α} (hn : 0 < n) (h : ∀ a ∈ l, Dat n (f a) (g a)) : Dat (n + 1) (.tup k (l.map f)) (.tuple (l.map g)) where
  q := fun S => by
    show ((l.map f).mapM (dq n S)).map PyData.tuple = _
    rw [mapM_map l fun a ha => (h a ha).q S]; rfl
  lay := by rw [PyData.canLay0]; exact layAll l fun a ha => (h a ha).lay
  dep := by rw [PyData.depth]; have := depAll hn l fun a ha => (h a ha).dep; omega
theorem Dat.pair {n : Nat} {k : TK} {x y : D} {p q : PyData} (hx : Dat n x p) (hy : Dat n y q) (hn : 0 < n) : Dat (n + 1) (.tup k [x, y]) (.tuple [p, q]) := by
  have := Dat.tup (k := k) (f := fun a : D × PyData => a.1) (g := fun a => a.2) (l := [(x, p), (y, q)]) hn fun a ha => by
    rcases List.mem_cons.mp ha with e | ha
    · rw [e]; exact hx
    · rw [List.mem_singleton.mp ha]; exact hy
  exact this
theorem Dat.ints {n : Nat} {k : TK} (l : List Int) : Dat (n + 2) (.tup k (l.map .int)) (.tuple (l.map .int)) := Dat.tup (Nat.succ_pos _) fun a _ => Dat.int a
/-- rows of ints, each of its kind -/
theorem Dat.rows {n : Nat} {k : TK} (l : List (TK × List Int)) : Dat (n + 3) (.tup k (l.map fun r => .tup r.1 (r.2.map .int))) (.tuple (l.map fun r => .tuple (r.2.map .int))) := Dat.tup (Nat.succ_pos _) fun a _ => Dat.ints a.2
theorem shaped_of {n : Nat} {d : D} {p : PyData} (h : Dat n d p) (hn : n ≤ 64) : SeqAt.shaped p = true := by
  unfold SeqAt.shaped
  rw [h.lay, Bool.true_and, decide_eq_true_eq]
  have := h.dep; omega

/-- equality of data by a map is equality -/
def EqV {α : Type} [DecidableEq α] (g : α → PyData) : Prop := ∀ a b, PyData.eqv (g a) (g b) = decide (a = b)
theorem EqV.int : EqV PyData.int := fun a b => by
  rw [PyData.eqv]
  by_cases h : a = b
  · subst h; simp
  · simp [h]
theorem EqV.str : EqV PyData.str := fun a b => by
  rw [PyData.eqv]
  by_cases h : a = b
  · subst h; simp
  · simp [h]
theorem EqV.all {α : Type} [DecidableEq α] {g : α → PyData} (h : EqV g) : ∀ l m : List α, PyData.eqvAll (l.map g) (m.map g) = decide (l = m)
  | [], [] => by simp [PyData.eqvAll]
  | [], _ :: _ => by simp [PyData.eqvAll]
  | _ :: _, [] => by simp [PyData.eqvAll]
  | a :: l, b :: m => by
    rw [List.map_cons, List.map_cons, PyData.eqvAll, h a b, EqV.all h l m]
    by_cases e : a = b
    · subst e; simp
    · simp [e]
theorem EqV.tuple {α : Type} [DecidableEq α] {g : α → PyData} (h : EqV g) : EqV fun l : List α => PyData.tuple (l.map g) := fun a b => by rw [PyData.eqv]; exact h.all a b
theorem EqV.list {α : Type} [DecidableEq α] {g : α → PyData} (h : EqV g) : EqV fun l : List α => PyData.list (l.map g) := fun a b => by rw [PyData.eqv]; exact h.all a b
theorem EqV.pair {α β : Type} [DecidableEq α] [DecidableEq β] {g : α → PyData} {g' : β → PyData} (h : EqV g) (h' : EqV g') : EqV fun p : α × β => PyData.tuple [g p.1, g' p.2] := fun a b => by
  rw [PyData.eqv, PyData.eqvAll, PyData.eqvAll, PyData.eqvAll, h, h']
  by_cases e : a.1 = b.1
  · by_cases e2 : a.2 = b.2
    · simp [Prod.ext e e2]
    · have : a ≠ b := fun z => e2 (by rw [z])
      simp [e2, this]
  · have : a ≠ b := fun z => e (by rw [z])
    simp [e, this]
section
variable {S : Store} {R : Bool → Prop} {α : Type} [DecidableEq α] {g : α → PyData} {a b : α} {kk kl : TK} {xs ys : List D}
theorem dq_lift {n : Nat} {d : D} {p : PyData} (h : Dat n d p) (S : Store) (hn : n ≤ 16) : ∀ m, n ≤ m → dq m S d = some p := by
  have up : ∀ (n : Nat) (d : D) (p : PyData), dq n S d = some p → dq (n + 1) S d = some p := by
    intro n
    induction n with
    | zero => intro d p h; cases h
    | succ n ih =>
      intro d p h
      have lst : ∀ (l : List D) (ps : List PyData), l.mapM (dq n S) = some ps → l.mapM (dq (n + 1) S) = some ps := by
        intro l
        induction l with
        | nil => intro ps e; exact e
        | cons x l il =>
          intro ps e
          rw [List.mapM_cons] at e ⊢
          cases h1 : dq n S x with
          | none => rw [h1] at e; cases e
          | some q =>
            cases h2 : l.mapM (dq n S) with
            | none => rw [h1, h2] at e; cases e
            | some qs => rw [h1, h2] at e; rw [ih x q h1, il qs h2]; exact e
      cases d with
      | tup k l =>
        obtain ⟨ps, e, rfl⟩ := Option.map_eq_some_iff.mp (show (l.mapM (dq n S)).map PyData.tuple = some p from h)
        show (l.mapM (dq (n + 1) S)).map PyData.tuple = _
        rw [lst l ps e]; rfl
      | loc m =>
        unfold dq at h ⊢
        dsimp only at h ⊢
        split at h
        · rename_i l hl
          obtain ⟨ps, e, rfl⟩ := Option.map_eq_some_iff.mp h
          rw [lst l ps e]; rfl
        · cases h
      | _ => exact h
  intro m hm
  induction m with
  | zero => have : n = 0 := by omega
            subst this; exact h.q S
  | succ m ih =>
    by_cases e : n = m + 1
    · rw [← e]; exact h.q S
    · exact up m d p (ih (by omega))
theorem Dat.at16 {n : Nat} {d : D} {p : PyData} (h : Dat n d p) (S : Store) (hn : n ≤ 16) : dq 16 S d = some p := dq_lift h S hn 16 hn
theorem eq_dat {n m : Nat} (hx : Dat n (.tup kk xs) (g a)) (hy : Dat m (.tup kl ys) (g b)) (hg : EqV g) (hn : n ≤ 16 := by omega) (hm : m ≤ 16 := by omega) : eqD S (.tup kk xs) (.tup kl ys) = some (decide (a = b)) := by
  show (match dq 16 S (.tup kk xs), dq 16 S (.tup kl ys) with
    | some p, some q => if SeqAt.shaped p && SeqAt.shaped q then some (PyData.eqv p q) else none
    | _, _ => none) = _
  rw [hx.at16 S hn, hy.at16 S hm]
  show (if SeqAt.shaped (g a) && SeqAt.shaped (g b) then some (PyData.eqv (g a) (g b)) else none) = _
  rw [shaped_of hx (by omega), shaped_of hy (by omega), hg a b]; rfl
theorem cd_eq {n m : Nat} (hx : Dat n (.tup kk xs) (g a)) (hy : Dat m (.tup kl ys) (g b)) (hg : EqV g) (k : R (decide (a = b))) (hn : n ≤ 16 := by omega) (hm : m ≤ 16 := by omega) : ∃ c, cmpD .Eq S (.tup kk xs) (.tup kl ys) = some c ∧ R c := ⟨_, eq_dat hx hy hg hn hm, k⟩
theorem cd_ne {n m : Nat} (hx : Dat n (.tup kk xs) (g a)) (hy : Dat m (.tup kl ys) (g b)) (hg : EqV g) (k : R (decide (a ≠ b))) (hn : n ≤ 16 := by omega) (hm : m ≤ 16 := by omega) : ∃ c, cmpD .NotEq S (.tup kk xs) (.tup kl ys) = some c ∧ R c :=
  ⟨_, by show (eqD S _ _).map (!·) = _; rw [eq_dat hx hy hg hn hm]; rfl, by simpa using k⟩
/-- x in a tuple -/
theorem in_dat {n m : Nat} {x : D} {f : α → D} {l : List α} (hx : Dat n x (g a)) (hl : ∀ b ∈ l, Dat m (f b) (g b)) (hg : EqV g) (hm0 : 0 < m) (hn : n ≤ 16) (hm : m ≤ 15) : inD S x (.tup kk (l.map f)) = some (decide (a ∈ l)) := by
  have hl2 : dqs S (l.map f) = some (l.map g) := mapM_map l fun b hb => (hl b hb).at16 S (by omega)
  have hs : SeqAt.shaped (.tuple (l.map g)) = true := shaped_of (Dat.tup (k := kk) hm0 hl) (by omega)
  show (match dq 16 S x, dqs S (l.map f) with
    | some p, some qs => if SeqAt.shaped p && SeqAt.shaped (.tuple qs) then some (qs.any fun q => PyData.eqv q p) else none
    | _, _ => none) = _
  rw [hx.at16 S hn, hl2]
  show (if SeqAt.shaped (g a) && SeqAt.shaped (.tuple (l.map g)) then some ((l.map g).any fun q => PyData.eqv q (g a)) else none) = _
  rw [shaped_of hx (by omega), hs]
  show some ((l.map g).any fun q => PyData.eqv q (g a)) = _
  congr 1
  rw [List.any_map]
  rw [Bool.eq_iff_iff, List.any_eq_true, decide_eq_true_eq]
  constructor
  · rintro ⟨b, hb, e⟩
    have e : PyData.eqv (g b) (g a) = true := e
    rw [hg b a, decide_eq_true_eq] at e
    rw [← e]; exact hb
  · intro h
    exact ⟨a, h, by show PyData.eqv (g a) (g a) = true; rw [hg a a]; simp⟩
theorem in_strs {s : Str} {ss : List Str} (hs : sOk s) (hss : ∀ z ∈ ss, sOk z) (k : R (decide (s ∈ ss))) : ∃ c, cmpD .In S (.str s) (.tup kk (ss.map .str)) = some c ∧ R c :=
  ⟨_, in_dat (kk := kk) (n := 1) (m := 1) (g := PyData.str) (Dat.str hs) (fun b hb => Dat.str (hss b hb)) EqV.str (by omega) (by omega) (by omega), k⟩
theorem notin_strs {s : Str} {ss : List Str} (hs : sOk s) (hss : ∀ z ∈ ss, sOk z) (k : R (decide (s ∉ ss))) : ∃ c, cmpD .NotIn S (.str s) (.tup kk (ss.map .str)) = some c ∧ R c :=
  ⟨_, by show (inD S _ _).map (!·) = _; rw [in_dat (kk := kk) (n := 1) (m := 1) (g := PyData.str) (Dat.str hs) (fun b hb => Dat.str (hss b hb)) EqV.str (by omega) (by omega) (by omega)]; rfl, by simpa using k⟩
end
/-! ### order of tuples of ints -/
def ltI : List Int → List Int → Bool
  | [], [] => false
  | [], _ :: _ => true
  | _ :: _, [] => false
  | x :: xs, y :: ys => decide (x < y) || (decide (x = y) && ltI xs ys)
end Pw
/-! Pw60: dict comprehensions gone through; dicts as lists of keys and values. -/
namespace Pw
open PySem

section
variable {call : CallF} {X : XX} {σ : Env} {S : Store} {Q : KD} {tg it k' v' : T} {own : List Nat}
theorem putD_len {κ : Type} [DecidableEq κ] (kvs : List (κ × D)) (k : κ) (v : D) : (putD kvs k v).length ≤ kvs.length + 1 := by
  unfold putD; split <;> simp
theorem e_dcP (hc : CMono call) (k : (w it ⟨call, X⟩).i σ S fun src S1 => ∃ (α : Type) (f : α → D) (xs : List α) (g : α → List L2.Key × D), src.items = xs.map f ∧ gdOk src.gd S1 ∧ xs.length ≤ sizeLine ∧
      (∀ x ∈ xs, ∀ S, Keep [] S1 S → (w tg (C0 call)).g (f x) (wipeE σ own) S fun σ1 S2 => (w k' (C0 call)).e σ1 S2 fun kx S3 => (w v' (C0 call)).e σ1 S3 fun vx S4 => keyT kx = some (g x).1 ∧ vx = (g x).2 ∧ Keep [] S S4) ∧
      ∀ S', Keep [] S1 S' → S'[S1.length]? = some (.dT ((xs.map g).foldl (fun acc kv => putD acc kv.1 kv.2) [])) → Q (.loc S1.length) S') : (w (.dcomp own k' v' tg it) ⟨call, X⟩).e σ S Q := by
  show dcRd own (w it ⟨call, X⟩) (w tg (C0 call)) (w k' (C0 call)) (w v' (C0 call)) σ S Q
  refine (mw it hc).i k fun src S1 ⟨α, f, xs, g, ei, hg, hl, ev, hfin⟩ => ?_
  rw [ei]
  have mT := mw tg (c := C0 call) hc
  have mK := mw k' (c := C0 call) hc
  have mV := mw v' (c := C0 call) hc
  refine comp_map (mB := by intro d S acc R R' h k; exact mT.g h fun σ1 S2 h => mK.e h fun x S3 h => mV.e h fun y S4 h => dcPut_mono h fun S5 h => k _ _ h) f xs
    (fun pre S _ => Keep [] S1 S ∧ ∃ kvs, S[S1.length]? = some (.dT kvs) ∧ kvs = (pre.map g).foldl (fun acc kv => putD acc kv.1 kv.2) [] ∧ kvs.length ≤ pre.length) ⟨.new _ _ _, [], by simp, rfl, by simp⟩ (fun pre S _ h => hg.keep h.1) (fun pre x post S _ e ⟨hk, kvs, hS, hkv, hkl⟩ => ?_) fun S _ ⟨hk, kvs, hS, hkv, _⟩ => hfin S hk (by rw [← hkv]; exact hS)
  refine mT.g (ev x (by rw [e]; simp) S hk) fun σ1 S2 h => mK.e h fun kx S3 h => mV.e h fun vx S4 ⟨h1, h2, k4⟩ => ?_
  have hx : xs.length = pre.length + (post.length + 1) := by rw [e]; simp
  unfold dcPut
  rw [k4.at hS]
  show (match keyT kx with | some q => kvs.length < sizeLine ∧ _ | none => False)
  rw [h1]
  subst h2
  refine ⟨by omega, (hk.trans k4).put (Nat.le_refl _) _, _, at_set (k4.at hS), by rw [hkv, List.map_append, List.foldl_append]; rfl, ?_⟩
  have := putD_len kvs (g x).1 (g x).2
  simp; omega
end
/-! ### dicts -/
section
variable {κ : Type} [DecidableEq κ]
theorem putD_new {kvs : List (κ × D)} {k : κ} {v : D} (h : k ∉ kvs.map (·.1)) : putD kvs k v = kvs ++ [(k, v)] := by
  unfold putD
  rw [if_neg]
  intro z
  obtain ⟨q, hq, e⟩ := List.any_eq_true.mp z
  exact h (List.mem_map.mpr ⟨q, hq, of_decide_eq_true e⟩)
theorem fold_new : ∀ (l acc : List (κ × D)), ((acc ++ l).map (·.1)).Nodup → l.foldl (fun acc kv => putD acc kv.1 kv.2) acc = acc ++ l
  | [], acc, _ => by simp
  | kv :: l, acc, h => by
    have hk : kv.1 ∉ acc.map (·.1) := by
      rw [List.map_append, List.map_cons] at h
      intro z
      exact (List.nodup_append.mp h).2.2 _ z _ List.mem_cons_self rfl
    rw [List.foldl_cons, putD_new hk, fold_new l (acc ++ [kv]) (by simpa using h)]
    simp
theorem fold_nodup {l : List (κ × D)} (h : (l.map (·.1)).Nodup) : l.foldl (fun acc kv => putD acc kv.1 kv.2) [] = l := by
  have := fold_new l [] (by simpa using h)
  simpa using this
theorem valD_mem {l : List (κ × D)} {k : κ} {v : D} (h : (l.map (·.1)).Nodup) (hm : (k, v) ∈ l) : valD l k = some v := by
  induction l with
  | nil => cases hm
  | cons a l ih =>
    unfold valD
    rw [List.map_cons, List.nodup_cons] at h
    rcases List.mem_cons.mp hm with e | hm
    · subst e; simp
    · have : a.1 ≠ k := fun z => h.1 (by rw [z]; exact List.mem_map.mpr ⟨(k, v), hm, rfl⟩)
      rw [List.find?_cons_of_neg (by simpa using this)]
      exact ih h.2 hm
theorem valD_none {l : List (κ × D)} {k : κ} (h : k ∉ l.map (·.1)) : valD l k = none := by
  unfold valD
  rw [Option.map_eq_none_iff, List.find?_eq_none]
  intro x hx
  simp only [decide_eq_true_eq]
  exact fun e => h (List.mem_map.mpr ⟨x, hx, e⟩)
end
/-- a function changed at a place -/
def up {α β : Type} [DecidableEq α] (f : α → β) (k : α) (v : β) : α → β := fun x => if x = k then v else f x
theorem up_same {α β : Type} [DecidableEq α] {f : α → β} {k : α} {v : β} : up f k v k = v := if_pos rfl
theorem up_ne {α β : Type} [DecidableEq α] {f : α → β} {k x : α} {v : β} (h : x ≠ k) : up f k v x = f x := if_neg h
/-- a dict with text keys and numbers -/
abbrev dkS (ks : List Str) (f : Str → Int) : List (L2.Key × D) := ks.map fun k => (.inr k, .int (f k))
theorem dkS_val {ks : List Str} {f : Str → Int} {k : Str} (h : k ∈ ks) : valD (dkS ks f) (.inr k) = some (.int (f k)) := by
  induction ks with
  | nil => cases h
  | cons a l ih =>
    unfold valD dkS
    rw [List.map_cons]
    by_cases e : a = k
    · subst e; simp
    · rw [List.find?_cons_of_neg (by simpa using e)]
      exact ih ((List.mem_cons.mp h).resolve_left fun z => e z.symm)
theorem dkS_put {ks : List Str} {f : Str → Int} {k : Str} {v : Int} (h : k ∈ ks) : putD (dkS ks f) (.inr k) (.int v) = dkS ks (up f k v) := by
  unfold putD
  rw [if_pos (List.any_eq_true.mpr ⟨(.inr k, .int (f k)), List.mem_map.mpr ⟨k, h, rfl⟩, by simp⟩)]
  unfold dkS
  rw [List.map_map]
  refine List.map_congr_left fun x _ => ?_
  by_cases e : x = k
  · subst e; simp [up]
  · simp [up, e]
/-- the value that stands beside a key -/
def lk (ks : List Str) (vs : List Int) (k : Str) : Int := ((ks.zip vs).lookup k).getD 0
theorem lk_zip : ∀ {ks : List Str} {vs : List Int}, ks.Nodup → ks.length = vs.length → (ks.zip vs).map (fun p => ((Sum.inr p.1 : L2.Key), D.int p.2)) = dkS ks (lk ks vs)
  | [], _, _, _ => by simp
  | _ :: _, [], _, h => by cases h
  | k :: ks, v :: vs, hn, hl => by
    have hn := List.nodup_cons.mp hn
    rw [List.zip_cons_cons, List.map_cons, lk_zip hn.2 (by simpa using hl)]
    unfold dkS
    rw [List.map_cons]
    refine congr (congrArg _ ?_) (List.map_congr_left fun x hx => ?_)
    · simp [lk]
    · have : x ≠ k := fun e => hn.1 (by rw [← e]; exact hx)
      have h2 : (x == k) = false := by simpa using this
      simp [lk, List.lookup, h2]
theorem zip_pairK : ∀ (ks : List Str) (vs : List Int), (zipD (ks.map .str) (vs.map .int)).mapM pairK = some ((ks.zip vs).map fun p => ((Sum.inr p.1 : L2.Key), D.int p.2))
  | [], _ => by simp [zipD]
  | _ :: _, [] => by simp [zipD]
  | k :: ks, v :: vs => by
    have ih := zip_pairK ks vs
    unfold zipD at ih ⊢
    rw [List.map_cons, List.map_cons, List.zip_cons_cons, List.map_cons, List.mapM_cons, ih]
    rfl
theorem lk_get : ∀ {ks : List Str} {vs : List Int} {i : Nat} (h : i < ks.length) (h2 : i < vs.length), ks.Nodup → lk ks vs ks[i] = vs[i]
  | k :: ks, v :: vs, 0, _, _, _ => by simp [lk]
  | k :: ks, v :: vs, i + 1, h, h2, hn => by
    have hn := List.nodup_cons.mp hn
    have ih := lk_get (ks := ks) (vs := vs) (i := i) (by simpa using h) (by simpa using h2) hn.2
    have : ks[i]'(by simpa using h) ≠ k := fun e => hn.1 (by rw [← e]; exact List.getElem_mem _)
    have h3 : (ks[i]'(by simpa using h) == k) = false := by simpa using this
    simp only [List.getElem_cons_succ]
    rw [← ih]
    simp [lk, List.lookup, h3]
theorem enumD_map {α : Type} (f : α → D) (xs : List α) : enumD (xs.map f) = xs.zipIdx.map fun p => .tup .key [.int (p.2 : Nat), f p.1] := by
  unfold enumD
  rw [List.zipIdx_map, List.map_map]; rfl
/-- where a text stands -/
def ix (ss : List Str) (x : Str) : Nat := (ss.findIdx? fun q => decide (q = x)).getD 0
theorem ix_at : ∀ {ss : List Str} {x : Str}, x ∈ ss → ss.findIdx? (fun q => decide (q = x)) = some (ix ss x) ∧ ss[ix ss x]? = some x
  | s :: ss, x, h => by
    unfold ix
    rw [List.findIdx?_cons]
    by_cases e : s = x
    · subst e; simp
    · have hm : x ∈ ss := (List.mem_cons.mp h).resolve_left fun z => e z.symm
      obtain ⟨h1, h2⟩ := ix_at hm
      rw [decide_eq_false e, h1]
      simpa using h2
theorem ix_lt {ss : List Str} {x : Str} (h : x ∈ ss) : ix ss x < ss.length := (List.getElem?_eq_some_iff.mp (ix_at h).2).1
theorem ix_get {ss : List Str} {x : Str} (h : x ∈ ss) : ss[ix ss x]'(ix_lt h) = x := (List.getElem?_eq_some_iff.mp (ix_at h).2).2
theorem ix_of {ss : List Str} (hn : ss.Nodup) {i : Nat} (h : i < ss.length) : ix ss ss[i] = i := by
  have hm := List.getElem_mem h
  exact (List.getElem_inj hn).mp (ix_get hm)
end Pw
namespace K81
open Pw PySem
/-- value, low, high -/
def t_is_number : T := (.cons (.ret (.and_ (.isin (.var 0) .int) (.and_ (.not_ (.isin (.var 0) .bool)) (.and_ (.chain .LtE .LtE (.var 1) (.var 0) (.var 2)) .nil)))) .nil)
def f_is_number : FnT := ⟨3, ["value", "low", "high"], t_is_number⟩
/-- value, sign -/
def t_is_name : T := (.cons (.ifs (.or_ (.not_ (.isin (.var 0) .str)) (.or_ (.not_ (.chain .LtE .LtE (.int 1) (.bcall .len (.cons (.var 0) .nil)) (.int 8))) .nil)) (.cons (.ret (.bl false)) .nil) .nil) (.cons (.ret (.and_ (.gcall .all [1] (.cmp .In (.var 1) (.gstr "SMALL" "abcdefghijklmnopqrstuvwxyz")) (.var 1) (.var 0) .nil .nil) (.and_ (.cmp .NotIn (.var 0) (.gtups "WORDS" ["across", "alike", "along", "amounts", "at", "bring", "cost", "first", "good", "least", "load", "loads", "many", "more", "next", "none", "of", "order", "pair", "pairs", "pit", "pits", "plan", "price", "road", "send", "sent", "site", "sites", "spare", "to", "want"])) .nil))) .nil))
def f_is_name : FnT := ⟨1, ["value", "sign"], t_is_name⟩
/-- value, many, low, high, each -/
def t_are_numbers : T := (.cons (.ifs (.or_ (.not_ (.isin (.var 0) .tuple)) (.or_ (.cmp .NotEq (.bcall .len (.cons (.var 0) .nil)) (.var 1)) .nil)) (.cons (.ret (.bl false)) .nil) .nil) (.cons (.ret (.gcall .all [4] (.call 0 (.cons (.var 4) (.cons (.var 2) (.cons (.var 3) .nil)))) (.var 4) (.var 0) .nil .nil)) .nil))
def f_are_numbers : FnT := ⟨4, ["value", "many", "low", "high", "each"], t_are_numbers⟩
/-- value, many, width, low, high, row -/
def t_are_rows : T := (.cons (.ifs (.or_ (.not_ (.isin (.var 0) .tuple)) (.or_ (.cmp .NotEq (.bcall .len (.cons (.var 0) .nil)) (.var 1)) .nil)) (.cons (.ret (.bl false)) .nil) .nil) (.cons (.ret (.gcall .all [5] (.call 2 (.cons (.var 5) (.cons (.var 2) (.cons (.var 3) (.cons (.var 4) .nil))))) (.var 5) (.var 0) .nil .nil)) .nil))
def f_are_rows : FnT := ⟨5, ["value", "many", "width", "low", "high", "row"], t_are_rows⟩
/-- value, most, k, each -/
def t_are_names : T := (.cons (.ifs (.or_ (.not_ (.isin (.var 0) .tuple)) (.or_ (.not_ (.chain .LtE .LtE (.int 1) (.bcall .len (.cons (.var 0) .nil)) (.var 1))) .nil)) (.cons (.ret (.bl false)) .nil) .nil) (.cons (.ifs (.not_ (.gcall .all [3] (.call 1 (.cons (.var 3) .nil)) (.var 3) (.var 0) .nil .nil)) (.cons (.ret (.bl false)) .nil) .nil) (.cons (.ret (.gcall .all [2] (.cmp .Lt (.sub (.var 0) (.bin .Sub (.var 2) (.int 1))) (.sub (.var 0) (.var 2))) (.var 2) (.irange (.cons (.int 1) (.cons (.bcall .len (.cons (.var 0) .nil)) .nil))) .nil .nil)) .nil)))
def f_are_names : FnT := ⟨2, ["value", "most", "k", "each"], t_are_names⟩
/-- value, pits, sites, costs, pit -/
def t_is_board_form : T := (.cons (.ifs (.or_ (.not_ (.isin (.var 0) .tuple)) (.or_ (.cmp .NotEq (.bcall .len (.cons (.var 0) .nil)) (.int 3)) .nil)) (.cons (.ret (.bl false)) .nil) .nil) (.cons (.asg (.tup (.cons (.var 1) (.cons (.var 2) (.cons (.var 3) .nil)))) (.var 0)) (.cons (.ifs (.or_ (.not_ (.call 4 (.cons (.var 1) (.cons (.int 5) .nil)))) (.or_ (.not_ (.call 4 (.cons (.var 2) (.cons (.int 5) .nil)))) .nil)) (.cons (.ret (.bl false)) .nil) .nil) (.cons (.ifs (.gcall .any [4] (.cmp .In (.var 4) (.var 2)) (.var 4) (.var 1) .nil .nil) (.cons (.ret (.bl false)) .nil) .nil) (.cons (.ret (.call 3 (.cons (.var 3) (.cons (.bcall .len (.cons (.var 1) .nil)) (.cons (.bcall .len (.cons (.var 2) .nil)) (.cons (.int 0) (.cons (.gint "DEAREST" 99) .nil))))))) .nil)))))
def f_is_board_form : FnT := ⟨1, ["value", "pits", "sites", "costs", "pit"], t_is_board_form⟩
/-- board, pit, site -/
def t_all_pairs : T := (.cons (.ret (.gcall2 .tuple [1, 2] [2] (.tup (.cons (.var 1) (.cons (.var 2) .nil))) (.var 1) (.sub (.var 0) (.int 0)) .nil (.var 2) (.sub (.var 0) (.int 1)) .nil)) .nil)
def f_all_pairs : FnT := ⟨1, ["board", "pit", "site"], t_all_pairs⟩
/-- board, table, pits, sites, pit, site -/
def t_from_table : T := (.cons (.asg (.tup (.cons (.var 2) (.cons (.var 3) .nil))) (.tup (.cons (.sub (.var 0) (.int 0)) (.cons (.sub (.var 0) (.int 1)) .nil)))) (.cons (.ret (.gcall .tuple [4] (.gcall .tuple [5] (.meth .get (.var 1) (.cons (.tup (.cons (.var 4) (.cons (.var 5) .nil))) (.cons (.int 0) .nil))) (.var 5) (.var 3) .nil .nil) (.var 4) (.var 2) .nil .nil)) .nil))
def f_from_table : FnT := ⟨2, ["board", "table", "pits", "sites", "pit", "site"], t_from_table⟩
/-- rows, k, row -/
def t_columns_of : T := (.cons (.ret (.gcall .tuple [1] (.gcall .tuple [2] (.sub (.var 2) (.var 1)) (.var 2) (.var 0) .nil .nil) (.var 1) (.irange (.cons (.bcall .len (.cons (.sub (.var 0) (.int 0)) .nil)) .nil)) .nil .nil)) .nil)
def f_columns_of : FnT := ⟨1, ["rows", "k", "row"], t_columns_of⟩
/-- plan, row, column -/
def t_sums_of : T := (.cons (.ret (.tup (.cons (.gcall .tuple [1] (.bcall .sum (.cons (.var 1) .nil)) (.var 1) (.var 0) .nil .nil) (.cons (.gcall .tuple [2] (.bcall .sum (.cons (.var 2) .nil)) (.var 2) (.call 8 (.cons (.var 0) .nil)) .nil .nil) .nil)))) .nil)
def f_sums_of : FnT := ⟨1, ["plan", "row", "column"], t_sums_of⟩
/-- board, value, given, got -/
def t_is_plan_form : T := (.cons (.ifs (.not_ (.call 3 (.cons (.var 1) (.cons (.bcall .len (.cons (.sub (.var 0) (.int 0)) .nil)) (.cons (.bcall .len (.cons (.sub (.var 0) (.int 1)) .nil)) (.cons (.int 0) (.cons (.gint "MOST" 45) .nil))))))) (.cons (.ret (.bl false)) .nil) .nil) (.cons (.asg (.tup (.cons (.var 2) (.cons (.var 3) .nil))) (.call 9 (.cons (.var 1) .nil))) (.cons (.ret (.and_ (.cmp .LtE (.bcall .max (.cons (.var 2) .nil)) (.gint "MOST" 45)) (.and_ (.cmp .LtE (.bcall .max (.cons (.var 3) .nil)) (.gint "MOST" 45)) .nil))) .nil)))
def f_is_plan_form : FnT := ⟨2, ["board", "value", "given", "got"], t_is_plan_form⟩
/-- board, value, pairs, each -/
def t_is_order_form : T := (.cons (.ifs (.not_ (.isin (.var 1) .tuple)) (.cons (.ret (.bl false)) .nil) .nil) (.cons (.asg (.var 2) (.call 6 (.cons (.var 0) .nil))) (.cons (.ifs (.or_ (.cmp .NotEq (.bcall .len (.cons (.var 1) .nil)) (.bcall .len (.cons (.var 2) .nil))) (.or_ (.not_ (.gcall .all [3] (.call 12 (.cons (.var 0) (.cons (.var 3) .nil))) (.var 3) (.var 1) .nil .nil)) .nil)) (.cons (.ret (.bl false)) .nil) .nil) (.cons (.ret (.cmp .Eq (.bcall .lenset (.cons (.var 1) .nil)) (.bcall .len (.cons (.var 2) .nil)))) .nil))))
def f_is_order_form : FnT := ⟨2, ["board", "value", "pairs", "each"], t_is_order_form⟩
/-- board, value, pit, site -/
def t_is_pair : T := (.cons (.ifs (.or_ (.not_ (.isin (.var 1) .tuple)) (.or_ (.cmp .NotEq (.bcall .len (.cons (.var 1) .nil)) (.int 2)) .nil)) (.cons (.ret (.bl false)) .nil) .nil) (.cons (.asg (.tup (.cons (.var 2) (.cons (.var 3) .nil))) (.var 1)) (.cons (.ret (.and_ (.isin (.var 2) .str) (.and_ (.isin (.var 3) .str) (.and_ (.cmp .In (.var 2) (.sub (.var 0) (.int 0))) (.and_ (.cmp .In (.var 3) (.sub (.var 0) (.int 1))) .nil))))) .nil)))
def f_is_pair : FnT := ⟨2, ["board", "value", "pit", "site"], t_is_pair⟩
/-- board, line, amounts, stocks, needs, led, pit, site, many -/
def t_fill : T := (.cons (.asg (.var 3) (.bcalli .dictPairs (.izip (.cons (.sub (.var 0) (.int 0)) (.cons (.sub (.var 2) (.int 0)) .nil))))) (.cons (.asg (.var 4) (.bcalli .dictPairs (.izip (.cons (.sub (.var 0) (.int 1)) (.cons (.sub (.var 2) (.int 1)) .nil))))) (.cons (.asg (.var 5) (.lst .nil)) (.cons (.for_ (.tup (.cons (.var 6) (.cons (.var 7) .nil))) (.var 1) (.cons (.asg (.var 8) (.bcall .min (.cons (.sub (.var 3) (.var 6)) (.cons (.sub (.var 4) (.var 7)) .nil)))) (.cons (.aug .Sub (.sub (.var 3) (.var 6)) (.var 8)) (.cons (.aug .Sub (.sub (.var 4) (.var 7)) (.var 8)) (.cons (.expr (.meth .append (.var 5) (.cons (.tup (.cons (.var 6) (.cons (.var 7) (.cons (.var 8) .nil)))) .nil))) .nil))))) (.cons (.ret (.tup (.cons (.var 5) (.cons (.var 3) (.cons (.var 4) .nil))))) .nil)))))
def f_fill : FnT := ⟨3, ["board", "line", "amounts", "stocks", "needs", "led", "pit", "site", "many"], t_fill⟩
/-- board, line, amounts, led, pit, site, many -/
def t_filled : T := (.cons (.asg (.var 3) (.sub (.call 13 (.cons (.var 0) (.cons (.var 1) (.cons (.var 2) .nil)))) (.int 0))) (.cons (.ret (.call 7 (.cons (.var 0) (.cons (.dcomp [4, 5, 6] (.tup (.cons (.var 4) (.cons (.var 5) .nil))) (.var 6) (.tup (.cons (.var 4) (.cons (.var 5) (.cons (.var 6) .nil)))) (.var 3)) .nil)))) .nil))
def f_filled : FnT := ⟨3, ["board", "line", "amounts", "led", "pit", "site", "many"], t_filled⟩
/-- board -/
def t_need_board : T := (.cons (.ifs (.not_ (.call 5 (.cons (.var 0) .nil))) (.cons .never .nil) .nil) .nil)
def f_need_board : FnT := ⟨1, ["board"], t_need_board⟩
/-- board, value, most, k -/
def t_need_both : T := (.cons (.ifs (.or_ (.not_ (.isin (.var 1) .tuple)) (.or_ (.cmp .NotEq (.bcall .len (.cons (.var 1) .nil)) (.int 2)) .nil)) (.cons .never .nil) .nil) (.cons (.for_ (.var 3) (.irange (.cons (.int 2) .nil)) (.cons (.ifs (.not_ (.call 2 (.cons (.sub (.var 1) (.var 3)) (.cons (.bcall .len (.cons (.sub (.var 0) (.var 3)) .nil)) (.cons (.int 0) (.cons (.var 2) .nil)))))) (.cons .never .nil) .nil) .nil)) .nil))
def f_need_both : FnT := ⟨3, ["board", "value", "most", "k"], t_need_both⟩
/-- board, amounts -/
def t_need_amounts : T := (.cons (.expr (.call 16 (.cons (.var 0) (.cons (.var 1) (.cons (.int 45) .nil))))) (.cons (.ifs (.cmp .NotEq (.bcall .sum (.cons (.sub (.var 1) (.int 0)) .nil)) (.bcall .sum (.cons (.sub (.var 1) (.int 1)) .nil))) (.cons .never .nil) .nil) .nil))
def f_need_amounts : FnT := ⟨2, ["board", "amounts"], t_need_amounts⟩
/-- board, plan, k, row -/
def t_need_plan : T := (.cons (.ifs (.or_ (.not_ (.isin (.var 1) .tuple)) (.or_ (.cmp .NotEq (.bcall .len (.cons (.var 1) .nil)) (.bcall .len (.cons (.sub (.var 0) (.int 0)) .nil))) .nil)) (.cons .never .nil) .nil) (.cons (.for_ (.tup (.cons (.var 2) (.cons (.var 3) .nil))) (.ienum (.cons (.var 1) .nil)) (.cons (.ifs (.not_ (.call 3 (.cons (.tup (.cons (.var 3) .nil)) (.cons (.int 1) (.cons (.bcall .len (.cons (.sub (.var 0) (.int 1)) .nil)) (.cons (.int 0) (.cons (.int 45) .nil))))))) (.cons .never .nil) .nil) .nil)) (.cons (.ifs (.not_ (.call 10 (.cons (.var 0) (.cons (.var 1) .nil)))) (.cons .never .nil) .nil) .nil)))
def f_need_plan : FnT := ⟨2, ["board", "plan", "k", "row"], t_need_plan⟩
/-- board, order -/
def t_need_order : T := (.cons (.ifs (.call 11 (.cons (.var 0) (.cons (.var 1) .nil))) (.cons .retn .nil) .nil) (.cons (.ifs (.or_ (.not_ (.isin (.var 1) .tuple)) (.or_ (.cmp .NotEq (.bcall .len (.cons (.var 1) .nil)) (.bcall .len (.cons (.call 6 (.cons (.var 0) .nil)) .nil))) .nil)) (.cons .never .nil) .nil) (.cons .never .nil)))
def f_need_order : FnT := ⟨2, ["board", "order"], t_need_order⟩
/-- row, is_right, k, each -/
def t_first_wrong : T := (.cons (.for_ (.tup (.cons (.var 2) (.cons (.var 3) .nil))) (.ienum (.cons (.var 0) .nil)) (.cons .never .nil)) (.cons (.ret .non) .nil))
def f_first_wrong : FnT := ⟨2, ["row", "is_right", "k", "each"], t_first_wrong⟩
/-- board, plan, pit, site -/
def t_load_of : T := (.cons (.ret (.sub (.sub (.var 1) (.meth .index (.sub (.var 0) (.int 0)) (.cons (.var 2) .nil))) (.meth .index (.sub (.var 0) (.int 1)) (.cons (.var 3) .nil)))) .nil)
def f_load_of : FnT := ⟨4, ["board", "plan", "pit", "site"], t_load_of⟩
/-- board, order, plan -/
def t_need_ordered_plan : T := (.cons (.expr (.call 15 (.cons (.var 0) .nil))) (.cons (.expr (.call 19 (.cons (.var 0) (.cons (.var 1) .nil)))) (.cons (.expr (.call 18 (.cons (.var 0) (.cons (.var 2) .nil)))) .nil)))
def f_need_ordered_plan : FnT := ⟨3, ["board", "order", "plan"], t_need_ordered_plan⟩
/-- board, order, plan, pit, site -/
def t_row_by : T := (.cons (.ret (.gcall .tuple [3, 4] (.call 21 (.cons (.var 0) (.cons (.var 2) (.cons (.var 3) (.cons (.var 4) .nil))))) (.tup (.cons (.var 3) (.cons (.var 4) .nil))) (.var 1) .nil .nil)) .nil)
def f_row_by : FnT := ⟨3, ["board", "order", "plan", "pit", "site"], t_row_by⟩
/-- board, order, plan -/
def t_fills : T := (.cons (.ret (.cmp .Eq (.call 14 (.cons (.var 0) (.cons (.var 1) (.cons (.call 9 (.cons (.var 2) .nil)) .nil)))) (.var 2))) .nil)
def f_fills : FnT := ⟨3, ["board", "order", "plan"], t_fills⟩
/-- board, order, plan -/
def t_row_of : T := (.cons (.expr (.call 22 (.cons (.var 0) (.cons (.var 1) (.cons (.var 2) .nil))))) (.cons (.ret (.call 23 (.cons (.var 0) (.cons (.var 1) (.cons (.var 2) .nil))))) .nil))
def f_row_of : FnT := ⟨3, ["board", "order", "plan"], t_row_of⟩
/-- board, order, plan -/
def t_is_filling : T := (.cons (.expr (.call 22 (.cons (.var 0) (.cons (.var 1) (.cons (.var 2) .nil))))) (.cons (.ret (.call 24 (.cons (.var 0) (.cons (.var 1) (.cons (.var 2) .nil))))) .nil))
def f_is_filling : FnT := ⟨3, ["board", "order", "plan"], t_is_filling⟩
/-- board, order, amounts -/
def t_need_filling : T := (.cons (.expr (.call 15 (.cons (.var 0) .nil))) (.cons (.expr (.call 19 (.cons (.var 0) (.cons (.var 1) .nil)))) (.cons (.expr (.call 17 (.cons (.var 0) (.cons (.var 2) .nil)))) .nil)))
def f_need_filling : FnT := ⟨3, ["board", "order", "amounts"], t_need_filling⟩
/-- board, order, amounts -/
def t_filling : T := (.cons (.expr (.call 27 (.cons (.var 0) (.cons (.var 1) (.cons (.var 2) .nil))))) (.cons (.ret (.call 14 (.cons (.var 0) (.cons (.var 1) (.cons (.var 2) .nil))))) .nil))
def f_filling : FnT := ⟨3, ["board", "order", "amounts"], t_filling⟩
/-- script, turn, mixed, cell, own -/
def t_law_pail : T := (.cons (.asg (.var 2) (.bin .Add (.int 45007) (.bin .Mult (.int 9011) (.var 1)))) (.cons (.for_ (.var 3) (.slice (.var 0) .nil (.int 12)) (.cons (.asg (.var 2) (.bin .Mod (.bcall .int (.cons (.bin .Add (.bin .Add (.bin .Mult (.var 2) (.int 48017)) (.bin .Mult (.bin .Mod (.bcall .int (.cons (.var 3) .nil)) (.int 2147483489)) (.int 13))) (.int 7)) .nil)) (.int 2147483489))) .nil)) (.cons (.asg (.var 4) (.ite (.cmp .Lt (.var 1) (.bcall .len (.cons (.var 0) .nil))) (.bcall .int (.cons (.sub (.var 0) (.var 1)) .nil)) (.int 0))) (.cons (.asg (.var 2) (.bin .Mod (.bcall .int (.cons (.bin .Add (.bin .Add (.bin .Mult (.var 2) (.int 89)) (.bin .Mult (.bin .Mod (.var 4) (.int 2147483489)) (.int 58013))) (.int 11)) .nil)) (.int 2147483489))) (.cons (.ret (.lst (.cons (.ite (.or_ (.cmp .Lt (.var 4) (.int 0)) (.or_ (.cmp .GtE (.var 4) (.bin .Pow (.int 10) (.int 15))) .nil)) (.bcall .abs (.cons (.var 4) .nil)) (.int 0)) (.cons (.var 2) (.cons (.int 0) .nil))))) .nil)))))
def f_law_pail : FnT := ⟨2, ["script", "turn", "mixed", "cell", "own"], t_law_pail⟩
/-- pail, top, mixed, figure -/
def t_law_deal : T := (.cons (.ifs (.cmp .Gt (.sub (.var 0) (.int 0)) (.int 0)) (.cons (.asg (.tup (.cons (.sub (.var 0) (.int 0)) (.cons (.var 3) .nil))) (.bcall .divmod (.cons (.sub (.var 0) (.int 0)) (.cons (.var 1) .nil)))) (.cons (.ret (.var 3)) .nil)) .nil) (.cons (.asg (.sub (.var 0) (.int 2)) (.bin .Add (.sub (.var 0) (.int 2)) (.int 1))) (.cons (.asg (.var 2) (.bin .Mod (.bcall .int (.cons (.bin .Add (.bin .Mult (.sub (.var 0) (.int 1)) (.int 26501)) (.bin .Mult (.int 11003) (.sub (.var 0) (.int 2)))) .nil)) (.int 2147483489))) (.cons (.asg (.sub (.var 0) (.int 1)) (.bin .Mod (.bcall .int (.cons (.bin .Add (.bin .Mult (.var 2) (.bin .Add (.bin .Mod (.bcall .int (.cons (.var 2) .nil)) (.int 5087)) (.int 30011))) (.bin .Mult (.int 31) (.sub (.var 0) (.int 2)))) .nil)) (.int 2147483489))) (.cons (.ret (.bin .Mod (.bcall .int (.cons (.bin .FloorDiv (.sub (.var 0) (.int 1)) (.int 419)) .nil)) (.var 1))) .nil)))))
def f_law_deal : FnT := ⟨2, ["pail", "top", "mixed", "figure"], t_law_deal⟩
/-- pail, some -/
def t_law_any : T := (.cons (.ret (.sub (.var 1) (.call 30 (.cons (.var 0) (.cons (.bcall .len (.cons (.var 1) .nil)) .nil))))) .nil)
def f_law_any : FnT := ⟨2, ["pail", "some"], t_law_any⟩
/-- pail, some, turn, left, found -/
def t_law_shuffled : T := (.cons (.asg (.tup (.cons (.var 3) (.cons (.var 4) .nil))) (.tup (.cons (.bcall .list (.cons (.var 1) .nil)) (.cons (.lst .nil) .nil)))) (.cons (.for_ (.var 2) (.irange (.cons (.bcall .len (.cons (.var 3) .nil)) .nil)) (.cons (.expr (.meth .append (.var 4) (.cons (.meth .pop (.var 3) (.cons (.call 30 (.cons (.var 0) (.cons (.bcall .len (.cons (.var 3) .nil)) .nil))) .nil)) .nil))) .nil)) (.cons (.ret (.var 4)) .nil)))
def f_law_shuffled : FnT := ⟨2, ["pail", "some", "turn", "left", "found"], t_law_shuffled⟩
/-- pail, many, found, letter, turn -/
def t_law_names : T := (.cons (.asg (.var 2) (.lst .nil)) (.cons (.for_ (.var 3) (.slice (.call 32 (.cons (.var 0) (.cons (.bcall .list (.cons (.str "abcdefghijklmnopqrstuvwxyz") .nil)) .nil))) .nil (.var 1)) (.cons (.expr (.meth .append (.var 2) (.cons (.bin .Add (.var 3) (.meth .join (.str "") (.cons (.lcomp [4] (.call 31 (.cons (.var 0) (.cons (.str "bvxz") .nil))) (.var 4) (.irange (.cons (.call 31 (.cons (.var 0) (.cons (.lst (.cons (.int 0) (.cons (.int 1) (.cons (.int 2) (.cons (.int 7) .nil))))) .nil))) .nil)) .nil) .nil))) .nil))) .nil)) (.cons (.ret (.var 2)) .nil)))
def f_law_names : FnT := ⟨2, ["pail", "many", "found", "letter", "turn"], t_law_names⟩
/-- pail, pits, sites, high, names, costs, k, j -/
def t_law_board : T := (.cons (.asg (.var 4) (.call 33 (.cons (.var 0) (.cons (.bin .Add (.var 1) (.var 2)) .nil)))) (.cons (.asg (.tup (.cons (.var 1) (.cons (.var 2) .nil))) (.tup (.cons (.bin .Add (.int 1) (.call 30 (.cons (.var 0) (.cons (.var 1) .nil)))) (.cons (.bin .Add (.int 1) (.call 30 (.cons (.var 0) (.cons (.var 2) .nil)))) .nil)))) (.cons (.asg (.var 5) (.lst .nil)) (.cons (.for_ (.var 6) (.irange (.cons (.var 1) .nil)) (.cons (.expr (.meth .append (.var 5) (.cons (.bcall .tuple (.cons (.lcomp [7] (.call 30 (.cons (.var 0) (.cons (.bin .Add (.var 3) (.int 1)) .nil))) (.var 7) (.irange (.cons (.var 2) .nil)) .nil) .nil)) .nil))) .nil)) (.cons (.ret (.tup (.cons (.bcall .tuple (.cons (.bcall .sorted (.cons (.slice (.var 4) .nil (.var 1)) .nil)) .nil)) (.cons (.bcall .tuple (.cons (.bcall .sorted (.cons (.slice (.var 4) (.var 1) (.bin .Add (.var 1) (.var 2))) .nil)) .nil)) (.cons (.bcall .tuple (.cons (.var 5) .nil)) .nil))))) .nil)))))
def f_law_board : FnT := ⟨4, ["pail", "pits", "sites", "high", "names", "costs", "k", "j"], t_law_board⟩
/-- board, found, pit, site -/
def t_law_pairs : T := (.cons (.asg (.var 1) (.lst .nil)) (.cons (.for_ (.var 2) (.sub (.var 0) (.int 0)) (.cons (.asg (.var 1) (.bin .Add (.var 1) (.lcomp [3] (.tup (.cons (.var 2) (.cons (.var 3) .nil))) (.var 3) (.sub (.var 0) (.int 1)) .nil))) .nil)) (.cons (.ret (.var 1)) .nil)))
def f_law_pairs : FnT := ⟨1, ["board", "found", "pit", "site"], t_law_pairs⟩
/-- pail, board -/
def t_law_order : T := (.cons (.ret (.bcall .tuple (.cons (.call 32 (.cons (.var 0) (.cons (.call 35 (.cons (.var 1) .nil)) .nil))) .nil))) .nil)
def f_law_order : FnT := ⟨2, ["pail", "board"], t_law_order⟩
/-- board, order, amounts, stocks, needs, rows, pit, site, loads, k, j, row -/
def t_law_fill : T := (.cons (.asg (.tup (.cons (.var 3) (.cons (.var 4) (.cons (.var 5) .nil)))) (.tup (.cons (.bcall .list (.cons (.sub (.var 2) (.int 0)) .nil)) (.cons (.bcall .list (.cons (.sub (.var 2) (.int 1)) .nil)) (.cons (.lcomp [6] (.bin .Mult (.lst (.cons (.int 0) .nil)) (.bcall .len (.cons (.sub (.var 0) (.int 1)) .nil))) (.var 6) (.sub (.var 0) (.int 0)) .nil) .nil))))) (.cons (.for_ (.tup (.cons (.var 6) (.cons (.var 7) .nil))) (.var 1) (.cons (.asg (.tup (.cons (.var 9) (.cons (.var 10) .nil))) (.tup (.cons (.meth .index (.sub (.var 0) (.int 0)) (.cons (.var 6) .nil)) (.cons (.meth .index (.sub (.var 0) (.int 1)) (.cons (.var 7) .nil)) .nil)))) (.cons (.asg (.var 8) (.bcall .min (.cons (.sub (.var 3) (.var 9)) (.cons (.sub (.var 4) (.var 10)) .nil)))) (.cons (.asg (.tup (.cons (.sub (.sub (.var 5) (.var 9)) (.var 10)) (.cons (.sub (.var 3) (.var 9)) (.cons (.sub (.var 4) (.var 10)) .nil)))) (.tup (.cons (.var 8) (.cons (.bin .Sub (.sub (.var 3) (.var 9)) (.var 8)) (.cons (.bin .Sub (.sub (.var 4) (.var 10)) (.var 8)) .nil))))) .nil)))) (.cons (.ret (.bcall .tuple (.cons (.lcomp [11] (.bcall .tuple (.cons (.var 11) .nil)) (.var 11) (.var 5) .nil) .nil))) .nil)))
def f_law_fill : FnT := ⟨3, ["board", "order", "amounts", "stocks", "needs", "rows", "pit", "site", "loads", "k", "j", "row"], t_law_fill⟩
/-- pail, board, most, turn, stocks, needs, k, j -/
def t_law_amounts : T := (.cons (.asg (.tup (.cons (.var 4) (.cons (.var 5) .nil))) (.tup (.cons (.bin .Mult (.lst (.cons (.int 0) .nil)) (.bcall .len (.cons (.sub (.var 1) (.int 0)) .nil))) (.cons (.bin .Mult (.lst (.cons (.int 0) .nil)) (.bcall .len (.cons (.sub (.var 1) (.int 1)) .nil))) .nil)))) (.cons (.for_ (.var 3) (.irange (.cons (.call 30 (.cons (.var 0) (.cons (.bin .Add (.var 2) (.int 1)) .nil))) .nil)) (.cons (.asg (.tup (.cons (.var 6) (.cons (.var 7) .nil))) (.tup (.cons (.call 30 (.cons (.var 0) (.cons (.bcall .len (.cons (.var 4) .nil)) .nil))) (.cons (.call 30 (.cons (.var 0) (.cons (.bcall .len (.cons (.var 5) .nil)) .nil))) .nil)))) (.cons (.asg (.tup (.cons (.sub (.var 4) (.var 6)) (.cons (.sub (.var 5) (.var 7)) .nil))) (.tup (.cons (.bin .Add (.sub (.var 4) (.var 6)) (.int 1)) (.cons (.bin .Add (.sub (.var 5) (.var 7)) (.int 1)) .nil)))) .nil))) (.cons (.ret (.tup (.cons (.bcall .tuple (.cons (.var 4) .nil)) (.cons (.bcall .tuple (.cons (.var 5) .nil)) .nil)))) .nil)))
def f_law_amounts : FnT := ⟨3, ["pail", "board", "most", "turn", "stocks", "needs", "k", "j"], t_law_amounts⟩
/-- left, needs, found, need, longer, row, rest, loads -/
def t_law_rows : T := (.cons (.asg (.var 2) (.lst (.cons (.tup (.cons (.tup .nil) (.cons (.var 0) .nil))) .nil))) (.cons (.for_ (.var 3) (.var 1) (.cons (.asg (.var 4) (.lst .nil)) (.cons (.for_ (.tup (.cons (.var 5) (.cons (.var 6) .nil))) (.var 2) (.cons (.asg (.var 4) (.bin .Add (.var 4) (.lcomp [7] (.tup (.cons (.bin .Add (.var 5) (.tup (.cons (.var 7) .nil))) (.cons (.bin .Sub (.var 6) (.var 7)) .nil))) (.var 7) (.irange (.cons (.bin .Add (.bcall .min (.cons (.var 6) (.cons (.var 3) .nil))) (.int 1)) .nil)) .nil))) .nil)) (.cons (.asg (.var 2) (.var 4)) .nil)))) (.cons (.ret (.lcomp [5, 6] (.var 5) (.tup (.cons (.var 5) (.cons (.var 6) .nil))) (.var 2) (.cons (.cmp .Eq (.var 6) (.int 0)) .nil))) .nil)))
def f_law_rows : FnT := ⟨2, ["left", "needs", "found", "need", "longer", "row", "rest", "loads"], t_law_rows⟩
/-- amounts, found, stock, longer, rows, needs, row, j -/
def t_law_plans : T := (.cons (.asg (.var 1) (.lst (.cons (.tup (.cons (.tup .nil) (.cons (.sub (.var 0) (.int 1)) .nil))) .nil))) (.cons (.for_ (.var 2) (.sub (.var 0) (.int 0)) (.cons (.asg (.var 3) (.lst .nil)) (.cons (.for_ (.tup (.cons (.var 4) (.cons (.var 5) .nil))) (.var 1) (.cons (.for_ (.var 6) (.call 39 (.cons (.var 2) (.cons (.var 5) .nil))) (.cons (.expr (.meth .append (.var 3) (.cons (.tup (.cons (.bin .Add (.var 4) (.tup (.cons (.var 6) .nil))) (.cons (.bcall .tuple (.cons (.lcomp [7] (.bin .Sub (.sub (.var 5) (.var 7)) (.sub (.var 6) (.var 7))) (.var 7) (.irange (.cons (.bcall .len (.cons (.var 6) .nil)) .nil)) .nil) .nil)) .nil))) .nil))) .nil)) .nil)) (.cons (.asg (.var 1) (.var 3)) .nil)))) (.cons (.ret (.lcomp [4, 5] (.var 4) (.tup (.cons (.var 4) (.cons (.var 5) .nil))) (.var 1) .nil)) .nil)))
def f_law_plans : FnT := ⟨1, ["amounts", "found", "stock", "longer", "rows", "needs", "row", "j"], t_law_plans⟩
/-- board, plan, pair -/
def t_law_used : T := (.cons (.ret (.lcomp [2] (.var 2) (.var 2) (.call 35 (.cons (.var 0) .nil)) (.cons (.cmp .Gt (.sub (.sub (.var 1) (.meth .index (.sub (.var 0) (.int 0)) (.cons (.sub (.var 2) (.int 0)) .nil))) (.meth .index (.sub (.var 0) (.int 1)) (.cons (.sub (.var 2) (.int 1)) .nil))) (.int 0)) .nil))) .nil)
def f_law_used : FnT := ⟨2, ["board", "plan", "pair"], t_law_used⟩
/-- board, order, plan, used, at, pit, site, pit2, site2, k -/
def t_law_is_by_pairs : T := (.cons (.asg (.tup (.cons (.var 3) (.cons (.var 4) .nil))) (.tup (.cons (.call 41 (.cons (.var 0) (.cons (.var 2) .nil))) (.cons (.bcall .dictPairs (.cons (.lcomp [9] (.tup (.cons (.sub (.var 1) (.var 9)) (.cons (.var 9) .nil))) (.var 9) (.irange (.cons (.bcall .len (.cons (.var 1) .nil)) .nil)) .nil) .nil)) .nil)))) (.cons (.for_ (.tup (.cons (.var 5) (.cons (.var 6) .nil))) (.var 3) (.cons (.for_ (.tup (.cons (.var 7) (.cons (.var 8) .nil))) (.var 3) (.cons (.ifs (.and_ (.cmp .NotEq (.var 5) (.var 7)) (.and_ (.cmp .NotEq (.var 6) (.var 8)) .nil)) (.cons (.ifs (.cmp .Gt (.bcall .min (.cons (.sub (.var 4) (.tup (.cons (.var 5) (.cons (.var 6) .nil)))) (.cons (.sub (.var 4) (.tup (.cons (.var 7) (.cons (.var 8) .nil)))) .nil))) (.bcall .min (.cons (.sub (.var 4) (.tup (.cons (.var 5) (.cons (.var 8) .nil)))) (.cons (.sub (.var 4) (.tup (.cons (.var 7) (.cons (.var 6) .nil)))) .nil)))) (.cons (.ret (.bl false)) .nil) .nil) .nil) .nil) .nil)) .nil)) (.cons (.ret (.bl true)) .nil)))
def f_law_is_by_pairs : FnT := ⟨3, ["board", "order", "plan", "used", "at", "pit", "site", "pit2", "site2", "k"], t_law_is_by_pairs⟩
/-- pail, lap, board, plan, order, amounts, plans, own, due -/
def t_law_right : T := (.cons (.for_ (.var 1) (.irange (.cons (.int 8) .nil)) (.cons (.asg (.var 2) (.call 34 (.cons (.var 0) (.cons (.int 3) (.cons (.int 3) (.cons (.int 9) .nil)))))) (.cons (.asg (.tup (.cons (.var 4) (.cons (.var 5) .nil))) (.tup (.cons (.call 36 (.cons (.var 0) (.cons (.var 2) .nil))) (.cons (.call 38 (.cons (.var 0) (.cons (.var 2) (.cons (.int 5) .nil)))) .nil)))) (.cons (.asg (.tup (.cons (.var 6) (.cons (.var 7) .nil))) (.tup (.cons (.call 40 (.cons (.var 5) .nil)) (.cons (.call 37 (.cons (.var 2) (.cons (.var 4) (.cons (.var 5) .nil)))) .nil)))) (.cons (.ifs (.cmp .NotEq (.bcall .repr (.cons (.call 28 (.cons (.var 2) (.cons (.var 4) (.cons (.var 5) .nil)))) .nil)) (.bcall .repr (.cons (.var 7) .nil))) (.cons (.ret (.bl false)) .nil) .nil) (.cons (.for_ (.var 3) (.var 6) (.cons (.asg (.var 8) (.cmp .Eq (.var 3) (.var 7))) (.cons (.ifs (.or_ (.cmp .NotEq (.bcall .repr (.cons (.call 26 (.cons (.var 2) (.cons (.var 4) (.cons (.var 3) .nil)))) .nil)) (.bcall .repr (.cons (.var 8) .nil))) (.or_ (.cmp .NotEq (.call 42 (.cons (.var 2) (.cons (.var 4) (.cons (.var 3) .nil)))) (.var 8)) .nil)) (.cons (.ret (.bl false)) .nil) .nil) .nil))) (.cons (.ifs (.cmp .NotEq (.bcall .max (.cons (.lcomp [3] (.call 25 (.cons (.var 2) (.cons (.var 4) (.cons (.var 3) .nil)))) (.var 3) (.var 6) .nil) .nil)) (.call 25 (.cons (.var 2) (.cons (.var 4) (.cons (.var 7) .nil))))) (.cons (.ret (.bl false)) .nil) .nil) .nil))))))) (.cons (.ret (.bl true)) .nil))
def f_law_right : FnT := ⟨1, ["pail", "lap", "board", "plan", "order", "amounts", "plans", "own", "due"], t_law_right⟩
/-- script, turn -/
def t_law : T := (.cons (.ret (.bcall .all (.cons (.lcomp [1] (.call 43 (.cons (.call 29 (.cons (.var 0) (.cons (.var 1) .nil))) .nil)) (.var 1) (.irange (.cons (.bcall .max (.cons (.int 2) (.cons (.bcall .min (.cons (.bcall .len (.cons (.var 0) .nil)) (.cons (.int 3) .nil))) .nil))) .nil)) .nil) .nil))) .nil)
def f_law : FnT := ⟨1, ["script", "turn"], t_law⟩
def fns_0 : List FnT := [f_is_number, f_is_name, f_are_numbers, f_are_rows, f_are_names, f_is_board_form, f_all_pairs, f_from_table, f_columns_of, f_sums_of, f_is_plan_form, f_is_order_form, f_is_pair, f_fill, f_filled, f_need_board, f_need_both, f_need_amounts, f_need_plan, f_need_order, f_first_wrong, f_load_of, f_need_ordered_plan, f_row_by, f_fills]
def fns_1 : List FnT := [f_row_of, f_is_filling, f_need_filling, f_filling, f_law_pail, f_law_deal, f_law_any, f_law_shuffled, f_law_names, f_law_board, f_law_pairs, f_law_order, f_law_fill, f_law_amounts, f_law_rows, f_law_plans, f_law_used, f_law_is_by_pairs, f_law_right, f_law]
def fns : List FnT := fns_0 ++ fns_1
abbrev i_is_number : Nat := 0
abbrev i_is_name : Nat := 1
abbrev i_are_numbers : Nat := 2
abbrev i_are_rows : Nat := 3
abbrev i_are_names : Nat := 4
abbrev i_is_board_form : Nat := 5
abbrev i_all_pairs : Nat := 6
abbrev i_from_table : Nat := 7
abbrev i_columns_of : Nat := 8
abbrev i_sums_of : Nat := 9
abbrev i_is_plan_form : Nat := 10
abbrev i_is_order_form : Nat := 11
abbrev i_is_pair : Nat := 12
abbrev i_fill : Nat := 13
abbrev i_filled : Nat := 14
abbrev i_need_board : Nat := 15
abbrev i_need_both : Nat := 16
abbrev i_need_amounts : Nat := 17
abbrev i_need_plan : Nat := 18
abbrev i_need_order : Nat := 19
abbrev i_first_wrong : Nat := 20
abbrev i_load_of : Nat := 21
abbrev i_need_ordered_plan : Nat := 22
abbrev i_row_by : Nat := 23
abbrev i_fills : Nat := 24
abbrev i_row_of : Nat := 25
abbrev i_is_filling : Nat := 26
abbrev i_need_filling : Nat := 27
abbrev i_filling : Nat := 28
abbrev i_law_pail : Nat := 29
abbrev i_law_deal : Nat := 30
abbrev i_law_any : Nat := 31
abbrev i_law_shuffled : Nat := 32
abbrev i_law_names : Nat := 33
abbrev i_law_board : Nat := 34
abbrev i_law_pairs : Nat := 35
abbrev i_law_order : Nat := 36
abbrev i_law_fill : Nat := 37
abbrev i_law_amounts : Nat := 38
abbrev i_law_rows : Nat := 39
abbrev i_law_plans : Nat := 40
abbrev i_law_used : Nat := 41
abbrev i_law_is_by_pairs : Nat := 42
abbrev i_law_right : Nat := 43
abbrev i_law : Nat := 44
def pdDefs_0 : List (Str × List Str) := [("is_number", ["value", "low", "high"]), ("is_name", ["value"]), ("are_numbers", ["value", "many", "low", "high"]), ("are_rows", ["value", "many", "width", "low", "high"]), ("are_names", ["value", "most"]), ("is_board_form", ["value"]), ("all_pairs", ["board"]), ("from_table", ["board", "table"]), ("columns_of", ["rows"]), ("sums_of", ["plan"]), ("is_plan_form", ["board", "value"]), ("is_order_form", ["board", "value"]), ("is_pair", ["board", "value"]), ("fill", ["board", "line", "amounts"]), ("filled", ["board", "line", "amounts"]), ("need_board", ["board"]), ("need_both", ["board", "value", "most"]), ("need_amounts", ["board", "amounts"]), ("need_plan", ["board", "plan"]), ("need_order", ["board", "order"]), ("first_wrong", ["row", "is_right"]), ("load_of", ["board", "plan", "pit", "site"]), ("need_ordered_plan", ["board", "order", "plan"]), ("row_by", ["board", "order", "plan"]), ("fills", ["board", "order", "plan"])]
def pdDefs_1 : List (Str × List Str) := [("row_of", ["board", "order", "plan"]), ("is_filling", ["board", "order", "plan"]), ("need_filling", ["board", "order", "amounts"]), ("filling", ["board", "order", "amounts"]), ("_law_pail", ["script", "turn"]), ("_law_deal", ["pail", "top"]), ("_law_any", ["pail", "some"]), ("_law_shuffled", ["pail", "some"]), ("_law_names", ["pail", "many"]), ("_law_board", ["pail", "pits", "sites", "high"]), ("_law_pairs", ["board"]), ("_law_order", ["pail", "board"]), ("_law_fill", ["board", "order", "amounts"]), ("_law_amounts", ["pail", "board", "most"]), ("_law_rows", ["left", "needs"]), ("_law_plans", ["amounts"]), ("_law_used", ["board", "plan"]), ("_law_is_by_pairs", ["board", "order", "plan"]), ("_law_right", ["pail"]), ("law", ["script"])]
def pdDefs : List (Str × List Str) := pdDefs_0 ++ pdDefs_1
def pdKws_0 : List (Nat × List Str × List Nat) := []
def pdKws : List (Nat × List Str × List Nat) := pdKws_0
def pd : PD := ⟨pdDefs, ["isinstance", "bool", "int", "len", "str", "all", "tuple", "range", "any", "sum", "max", "set", "dict", "zip", "min", "enumerate", "abs", "divmod", "list", "sorted", "repr"], [("DEAREST", 99), ("MOST", 45)], [("SMALL", "abcdefghijklmnopqrstuvwxyz")], [("WORDS", ["across", "alike", "along", "amounts", "at", "bring", "cost", "first", "good", "least", "load", "loads", "many", "more", "next", "none", "of", "order", "pair", "pairs", "pit", "pits", "plan", "price", "road", "send", "sent", "site", "sites", "spare", "to", "want"])], pdKws⟩
end K81
namespace K81
open Pw PySem
local macro_rules | `(tactic| walk_at "s") => `(tactic| first | refine s_cons' ?_ | refine s_nil' ?_ | refine s_asg' ?_ | refine s_asgl' ?_ | refine s_ifs' ?_ | refine s_ret' ?_ | refine s_retn' ?_ | refine s_expr' ?_ | refine s_brk' ?_ | refine s_cont' ?_ | refine s_pass' ?_ | refine s_augS' ?_ | refine s_for' ?_)
local macro_rules | `(tactic| walk_at "g") => `(tactic| first | refine g_var' ?_ | refine g_sub' ?_)
local macro_rules | `(tactic| walk_at "e") => `(tactic| first | refine e_int' ?_ | refine e_call' ?_ | refine e_sub' ?_ | refine e_bcall' ?_ | refine e_tup' ?_ | refine e_bin' ?_ | refine e_meth' ?_ | refine e_cmp' ?_ | refine e_str' ?_ | refine e_bl' ?_ | refine e_non' ?_ | refine e_gint' ?_ | refine e_gstr' ?_ | refine e_gtups' ?_ | refine e_lst' ?_ | refine e_and' ?_ | refine e_and1 ?_ | refine e_or' ?_ | refine e_or1 ?_ | refine e_not' ?_ | refine e_ite' ?_ | refine e_slice' ?_ | refine e_rev' ?_ | refine e_callk' ?_ | refine e_isn' ?_ | refine e_notn' ?_ | refine e_chain' ?_ | refine e_isin' ?_ | refine e_dnewK' ?_ | refine e_dnewT' ?_ | refine e_dzip' ‹_› ?_)
local macro_rules | `(tactic| walk_at "t") => `(tactic| first | refine t_cmp' ‹_› ?_ | refine t_not' ?_ | refine t_and' ?_ | refine t_and1 ?_ | refine t_or' ?_ | refine t_or1 ?_ | refine t_isin' ‹_› ?_ | refine t_isn' ?_ | refine t_notn' ?_ | refine t_chain' ‹_› ?_ | refine t_var ‹_› ?_ | refine t_call ‹_› ?_ | refine t_callk ‹_› ?_ | refine t_bcall ‹_› ?_ | refine t_sub ‹_› ?_ | refine t_bin ‹_› ?_ | refine t_int ‹_› ?_ | refine t_neg ‹_› ?_ | refine t_gint ‹_› ?_ | refine t_gstr ‹_› ?_ | refine t_gtups ‹_› ?_ | refine t_slice ‹_› ?_ | refine t_rev ‹_› ?_ | refine t_lcomp ‹_› ?_ | refine t_meth ‹_› ?_ | refine t_gc ‹_› ?_ | refine t_lst ‹_› ?_ | refine t_tup ‹_› ?_ | refine t_str ‹_› ?_ | refine t_ite ‹_› ?_ | refine t_bci ‹_› ?_)
local macro_rules | `(tactic| walk_at "i") => `(tactic| first | refine i_range1 ‹_› ?_ | refine i_range2 ‹_› ?_ | refine i_enum ‹_› ?_ | refine i_zip ‹_› ?_ | refine i_var ‹_› ?_ | refine i_call ‹_› ?_ | refine i_callk ‹_› ?_ | refine i_bcall ‹_› ?_ | refine i_sub ‹_› ?_ | refine i_bin ‹_› ?_ | refine i_int ‹_› ?_ | refine i_neg ‹_› ?_ | refine i_gint ‹_› ?_ | refine i_gstr ‹_› ?_ | refine i_gtups ‹_› ?_ | refine i_slice ‹_› ?_ | refine i_rev ‹_› ?_ | refine i_lcomp ‹_› ?_ | refine i_meth ‹_› ?_ | refine i_gc ‹_› ?_ | refine i_lst ‹_› ?_ | refine i_tup ‹_› ?_ | refine i_str ‹_› ?_ | refine i_ite ‹_› ?_ | refine i_bci ‹_› ?_)
local macro_rules | `(tactic| walk_at "p") => `(tactic| first | refine p_nil' ?_ | refine p_var ‹_› ?_ | refine p_call ‹_› ?_ | refine p_callk ‹_› ?_ | refine p_bcall ‹_› ?_ | refine p_sub ‹_› ?_ | refine p_bin ‹_› ?_ | refine p_int ‹_› ?_ | refine p_neg ‹_› ?_ | refine p_gint ‹_› ?_ | refine p_gstr ‹_› ?_ | refine p_gtups ‹_› ?_ | refine p_slice ‹_› ?_ | refine p_rev ‹_› ?_ | refine p_lcomp ‹_› ?_ | refine p_meth ‹_› ?_ | refine p_lst ‹_› ?_ | refine p_tup ‹_› ?_ | refine p_str ‹_› ?_ | refine p_ite ‹_› ?_ | refine p_bci ‹_› ?_)
local macro_rules | `(tactic| walk_at "v") => `(tactic| first | refine ii_int ?_ | refine ii_intb ?_ | refine ii_str ?_ | refine ii_tup ?_ | refine cm_lt ?_ | refine cm_le ?_ | refine cm_gt ?_ | refine cm_ge ?_ | refine cm_eq ?_ | refine cm_ne ?_ | refine cs_eq ?_ | refine cs_ne ?_ | refine cs_lt ?_ | refine tr_bl ?_ | refine len_tup ?_ | refine int_int ?_ | refine min_int ?_ | refine max_int ?_ | refine b_addI ?_ | refine b_subI ?_ | refine io_addI ?_ | refine io_subI ?_ | refine tup_tup ?_ | refine src_tup ?_ | refine src_str ?_ | refine seq_tup ?_ | refine sl_tup ?_ | refine rv_tup ?_ | refine pex ?_ | refine zp ?_ | refine me_index ?_ | refine me_join ?_ | refine byTru_bl ?_ | refine ift ?_ | refine iff' ?_ | refine ifn ?_ | refine byTru_t ?_ | refine byTru_f ?_)
local macro_rules | `(tactic| walk_at "one") => `(tactic| first
  | (refine isE ?_; walk_at "e") | (refine isA ?_; first | refine a_cons' ?_ | refine a_nil' ?_) | (refine isS ?_; walk_at "s") | (refine isT ?_; walk_at "t") | (refine isG ?_; walk_at "g") | (refine isGs ?_; first | refine gs_cons' ?_ | refine gs_nil' ?_) | (refine isI ?_; walk_at "i") | (refine isTs ?_; first | refine ts_nil' ?_ | refine ts_one' ‹_› ?_) | (refine isP ?_; walk_at "p") | walk_at "v")
local macro_rules | `(tactic| walk_at "r") => `(tactic| first | ((with_reducible refine' e_var' ?hv ?_); (case hv => rfl)) | ((with_reducible refine' g_tup' ?hv ?_); (case hv => rfl)) | ((with_reducible refine' sub_tup ?hv ?_); (case hv => rfl)) | ((with_reducible refine ⟨lsz ?hv, ?_⟩); (case hv => rfl)) | ((with_reducible refine' s_augV' ?hv ?_); (case hv => rfl)))
local macro_rules | `(tactic| walk_at "go") => `(tactic| repeat (first | walk_at "r" | with_reducible walk_at "one"))
local macro_rules | `(tactic| walk_at "en") => `(tactic| simp only [List.map_cons, List.map_nil, List.length_cons, List.length_nil, List.replicate, List.cons_append, List.nil_append, Nat.reduceSub, Nat.reduceAdd, Nat.zero_add])
/-! ### formwork -/
abbrev SM : Str := "abcdefghijklmnopqrstuvwxyz"
abbrev WORDS : List Str := ["across", "alike", "along", "amounts", "at", "bring", "cost", "first", "good", "least", "load", "loads", "many", "more", "next", "none", "of", "order", "pair", "pairs", "pit", "pits", "plan", "price", "road", "send", "sent", "site", "sites", "spare", "to", "want"]
theorem small_in (c : Nat) (h1 : 97 ≤ c) (h2 : c ≤ 122) : strIn ⟨#[c]⟩ SM = true := by
  have h : (List.range 26).all (fun i => strIn ⟨#[97 + i]⟩ SM) = true := by decide +kernel
  have := List.all_eq_true.mp h (c - 97) (by simp; omega)
  rwa [show 97 + (c - 97) = c by omega] at this
/-- a name -/
structure NameOk (s : Str) : Prop where
  l1 : 1 ≤ s.length
  l8 : s.length ≤ 8
  cs : ∀ c ∈ s.cps.toList, 97 ≤ c ∧ c ≤ 122
  nw : s ∉ WORDS
theorem NameOk.ok {s : Str} (h : NameOk s) : sOk s := sOk_of fun c hc => by have := h.cs c hc; omega
theorem words_ok : ∀ z ∈ WORDS, sOk z := by
  have h : WORDS.all (fun z => (PyData.str z).canLay0) = true := by decide +kernel
  exact fun z hz => List.all_eq_true.mp h z hz
theorem len_str {S : Store} {Q : KD} {x : Str} (h : x.length ≤ sizeLine) (k : Q (.int (x.length : Nat)) S) : biD .len [.str x] S Q := by
  show (match (if x.length ≤ sizeLine then some x.length else none) with | some n => Q (.int n) S | none => False)
  rw [if_pos h]; exact k
theorem in_str {S : Store} {R : Bool → Prop} {x y : Str} (k : R (strIn x y)) : ∃ c, cmpD .In S (.str x) (.str y) = some c ∧ R c := ⟨_, rfl, k⟩
theorem sp_is_number (v lo hi : Int) (h : lo ≤ v ∧ v ≤ hi) : Gives fns 1 i_is_number [.int v, .int lo, .int hi] (.bl true) := Gives.of (T0 := t_is_number) rfl rfl fun n hn hc S Q X k => by
  unfold t_is_number
  walk_at "en"
  walk_at "go"
  refine ip (by simp [h]) ?_
  walk_at "go"
  have e : decide (v ≤ hi) = true := by simp [h]
  rw [e]
  exact k S .r
theorem sp_is_name (s : Str) (h : NameOk s) : Gives fns 1 i_is_name [.str s] (.bl true) := Gives.of (T0 := t_is_name) rfl rfl fun n hn hc S Q X k => by
  unfold t_is_name
  have h1 := h.l1
  have h8 := h.l8
  walk_at "en"
  walk_at "go"
  refine len_str (by rw [sizeLine_eq]; omega) ?_
  walk_at "go"
  refine ip (by simp; omega) ?_
  walk_at "go"
  refine ip (by simp; omega) ?_
  walk_at "go"
  refine e_gall hc ?_
  walk_at "go"
  refine ⟨_, fun c => .str ⟨#[c]⟩, s.cps.toList, fun _ => true, rfl, gd_nil, fun c hcs S1 k1 => ?_, fun S1 k1 => ?_⟩
  · walk_at "go"
    refine in_str ?_
    rw [small_in c (h.cs c hcs).1 (h.cs c hcs).2]
    exact ⟨rfl, .r⟩
  · rw [show s.cps.toList.all (fun _ => true) = true by simp]
    walk_at "go"
    refine notin_strs h.ok words_ok ?_
    rw [decide_eq_true h.nw]
    exact k S1 k1
theorem sp_are_numbers (kk : TK) (vs : List Int) (m lo hi : Int) (hm : m = vs.length) (h : ∀ v ∈ vs, lo ≤ v ∧ v ≤ hi) : Gives fns 2 i_are_numbers [.tup kk (vs.map .int), .int m, .int lo, .int hi] (.bl true) := Gives.of (T0 := t_are_numbers) rfl rfl fun n hn hc S Q X k => by
  unfold t_are_numbers
  walk_at "en"
  walk_at "go"
  refine im (by simp [hm]) ?_
  walk_at "go"
  refine e_gall hc ?_
  walk_at "go"
  refine ⟨_, D.int, vs, fun _ => true, rfl, gd_nil, fun v hv S1 k1 => ?_, fun S1 k1 => ?_⟩
  · walk_at "go"
    exact sp_is_number v lo hi (h v hv) n hn _ _ _ fun S2 k2 => ⟨rfl, k2⟩
  · rw [show vs.all (fun _ => true) = true by simp]
    exact k S1 k1
/-- rows, each of its kind -/
abbrev rowD (r : TK × List Int) : D := .tup r.1 (r.2.map .int)
theorem sp_are_rows (kk : TK) (rs : List (TK × List Int)) (m wd lo hi : Int) (hm : m = rs.length) (hw : ∀ r ∈ rs, wd = r.2.length) (h : ∀ r ∈ rs, ∀ v ∈ r.2, lo ≤ v ∧ v ≤ hi) : Gives fns 3 i_are_rows [.tup kk (rs.map rowD), .int m, .int wd, .int lo, .int hi] (.bl true) := Gives.of (T0 := t_are_rows) rfl rfl fun n hn hc S Q X k => by
  unfold t_are_rows
  walk_at "en"
  walk_at "go"
  refine im (by simp [hm]) ?_
  walk_at "go"
  refine e_gall hc ?_
  walk_at "go"
  refine ⟨_, rowD, rs, fun _ => true, rfl, gd_nil, fun r hr S1 k1 => ?_, fun S1 k1 => ?_⟩
  · walk_at "go"
    exact sp_are_numbers r.1 r.2 wd lo hi (hw r hr) (h r hr) n hn _ _ _ fun S2 k2 => ⟨rfl, k2⟩
  · rw [show rs.all (fun _ => true) = true by simp]
    exact k S1 k1
/-- texts that rise -/
abbrev Rise (ss : List Str) : Prop := ∀ i (h : i + 1 < ss.length), ss[i].cps.toList < ss[i + 1].cps.toList
theorem sp_are_names (kk : TK) (ss : List Str) (m : Int) (h0 : 1 ≤ ss.length) (hm : (ss.length : Int) ≤ m) (hn0 : ∀ s ∈ ss, NameOk s) (hr : Rise ss) (h63 : ss.length < 64) : Gives fns 2 i_are_names [.tup kk (ss.map .str), .int m] (.bl true) := Gives.of (T0 := t_are_names) rfl rfl fun n hn hc S Q X k => by
  unfold t_are_names
  walk_at "en"
  walk_at "go"
  refine ip (by simp; omega) ?_
  walk_at "go"
  refine ip (by simp; omega) ?_
  walk_at "go"
  refine e_gall hc ?_
  walk_at "go"
  refine ⟨_, D.str, ss, fun _ => true, rfl, gd_nil, fun s hs S1 k1 => ?_, fun S1 k1 => ?_⟩
  · walk_at "go"
    exact sp_is_name s (hn0 s hs) n hn _ _ _ fun S2 k2 => ⟨rfl, k2⟩
  · rw [show ss.all (fun _ => true) = true by simp]
    walk_at "go"
    refine e_gall hc ?_
    walk_at "go"
    refine rg2 (by unfold small62; omega) (by unfold small62; simp; omega) ?_
    refine ⟨_, fun i : Nat => .int (1 + (i : Int)), List.range ((((ss.map D.str).length : Nat) : Int) - 1).toNat, fun _ => true, rfl, gd_nil, fun i hi S2 k2 => ?_, fun S2 k2 => ?_⟩
    · have hi : i + 1 < ss.length := by simp at hi; omega
      walk_at "go"
      refine sub_tup (v := .str ss[i]) (by rw [show (1 + (i : Int) - 1) = ((i : Nat) : Int) by omega]; exact L2.atI_nat (by simp)) ?_
      walk_at "go"
      refine sub_tup (v := .str ss[i + 1]) (by rw [show (1 + (i : Int)) = ((i + 1 : Nat) : Int) by omega]; exact L2.atI_nat (by simp [hi])) ?_
      walk_at "go"
      rw [decide_eq_true (hr i hi)]
      exact ⟨rfl, .r⟩
    · rw [show ∀ l : List Nat, l.all (fun _ => true) = true by simp]
      exact k S2 (k1.trans k2)
/-! ### boardwork -/
theorem atI_0 {α : Type} (x : α) (xs : List α) : L2.atI (x :: xs) 0 = some x := by
  have := @L2.atI_nat α (x :: xs) 0 x rfl
  exact this
structure Bd where
  k : TK
  kc : TK
  pits : List Str
  sites : List Str
  rows : List (TK × List Int)
abbrev Bd.d (b : Bd) : D := .tup b.k [.tup .kn (b.pits.map .str), .tup .kn (b.sites.map .str), .tup b.kc (b.rows.map rowD)]
structure BdOk (b : Bd) : Prop where
  p1 : 1 ≤ b.pits.length
  p5 : b.pits.length ≤ 5
  s1 : 1 ≤ b.sites.length
  s5 : b.sites.length ≤ 5
  pn : ∀ s ∈ b.pits, NameOk s
  sn : ∀ s ∈ b.sites, NameOk s
  pr : Rise b.pits
  sr : Rise b.sites
  dj : ∀ p ∈ b.pits, p ∉ b.sites
  rl : b.rows.length = b.pits.length
  rw : ∀ r ∈ b.rows, r.2.length = b.sites.length
  rc : ∀ r ∈ b.rows, ∀ v ∈ r.2, 0 ≤ v ∧ v ≤ 99
theorem sp_is_board_form (b : Bd) (h : BdOk b) : Gives fns 4 i_is_board_form [b.d] (.bl true) := Gives.of (T0 := t_is_board_form) rfl rfl fun n hn hc S Q X k => by
  unfold t_is_board_form
  walk_at "en"
  walk_at "go"
  refine im (by simp) ?_
  walk_at "go"
  refine sp_are_names _ _ _ h.p1 (by have := h.p5; omega) h.pn h.pr (by have := h.p5; omega) n (by omega) _ _ _ fun S1 k1 => ?_
  walk_at "go"
  refine sp_are_names _ _ _ h.s1 (by have := h.s5; omega) h.sn h.sr (by have := h.s5; omega) n (by omega) _ _ _ fun S2 k2 => ?_
  walk_at "go"
  refine e_gany hc ?_
  walk_at "go"
  refine ⟨_, D.str, b.pits, fun _ => false, rfl, gd_nil, fun p hp S3 k3 => ?_, fun S3 k3 => ?_⟩
  · walk_at "go"
    refine in_strs (h.pn p hp).ok (fun z hz => (h.sn z hz).ok) ?_
    rw [decide_eq_false (h.dj p hp)]
    exact ⟨rfl, .r⟩
  · rw [show b.pits.any (fun _ => false) = false by simp]
    walk_at "go"
    refine sp_are_rows _ _ _ _ _ _ (by simp [h.rl]) (fun r hr => by simp [h.rw r hr]) h.rc n (by omega) _ _ _ fun S4 k4 => ?_
    exact k S4 ((k1.trans k2).trans (k3.trans k4))
/-- a pair, all pairs -/
abbrev prD (p : Str × Str) : D := .tup .key [.str p.1, .str p.2]
abbrev prs (b : Bd) : List (Str × Str) := b.pits.flatMap fun p => b.sites.map fun s => (p, s)
theorem sp_all_pairs (b : Bd) (h : BdOk b) : Gives fns 1 i_all_pairs [b.d] (.tup .kn ((prs b).map prD)) := Gives.of (T0 := t_all_pairs) rfl rfl fun n hn hc S Q X k => by
  unfold t_all_pairs
  have h5 := h.p5
  have g5 := h.s5
  walk_at "en"
  walk_at "go"
  refine e_gtup2 hc ?_
  walk_at "go"
  refine ⟨_, D.str, b.pits, fun p => (b.sites.map fun s => (p, s)).map prD, rfl, gd_nil, fun p hp S1 k1 => ?_, by omega, fun S1 k1 => ?_⟩
  · walk_at "go"
    refine ⟨_, D.str, b.sites, fun s => some (prD (p, s)), rfl, gd_nil, .r, by simp, by omega, fun s hs S2 k2 => ?_⟩
    walk_at "go"
    exact ⟨rfl, .r⟩
  · rw [show (b.pits.flatMap fun p => (b.sites.map fun s => (p, s)).map prD) = (prs b).map prD by rw [List.map_flatMap]]
    exact k S1 k1
/-- rows of a table -/
abbrev tabRows (b : Bd) (kvs : List (List L2.Key × D)) : List (List D) := b.pits.map fun p => b.sites.map fun s => (valD kvs [.inr p, .inr s]).getD (.int 0)
theorem sp_from_table (b : Bd) (h : BdOk b) {S : Store} {t : Nat} {kvs : List (List L2.Key × D)} (ht : S[t]? = some (.dT kvs)) : GivesAt fns 1 i_from_table [b.d, .loc t] S fun d S' => d = .tup .kn (b.pits.map fun p => .tup .kn (b.sites.map fun s => (valD kvs [.inr p, .inr s]).getD (.int 0))) ∧ Keep [] S S' := GivesAt.of (T0 := t_from_table) rfl rfl fun n hn hc Q X k => by
  unfold t_from_table
  have h5 := h.p5
  have g5 := h.s5
  walk_at "en"
  walk_at "go"
  refine e_gtup hc ?_
  walk_at "go"
  refine ⟨_, D.str, b.pits, fun p => some (.tup .kn (b.sites.map fun s => (valD kvs [.inr p, .inr s]).getD (.int 0))), rfl, gd_nil, by rw [sizeLine_eq]; omega, fun p hp S1 k1 => ?_, fun S1 k1 => ?_⟩
  · walk_at "go"
    refine e_gtup hc ?_
    walk_at "go"
    refine ⟨_, D.str, b.sites, fun s => some ((valD kvs [.inr p, .inr s]).getD (.int 0)), rfl, gd_nil, by rw [sizeLine_eq]; omega, fun s hs S2 k2 => ?_, fun S2 k2 => ?_⟩
    · walk_at "go"
      refine me_getT ((k1.trans k2).at ht) ?_
      walk_at "go"
      refine md_getT ((k1.trans k2).at ht) (q := [.inr p, .inr s]) rfl ?_
      exact ⟨rfl, .r⟩
    · simp only [List.filterMap_eq_map']
      exact ⟨trivial, k2⟩
  · simp only [List.filterMap_eq_map']
    exact k _ S1 ⟨rfl, k1⟩
/-- the i-th column -/
abbrev col (P : List (List Int)) (i : Nat) : List Int := P.map fun r => r.getD i 0
abbrev cols (P : List (List Int)) (wd : Nat) : List (List Int) := (List.range wd).map (col P)
theorem sp_columns_of (kk : TK) (rs : List (TK × List Int)) (wd : Nat) (h0 : rs ≠ []) (hl : rs.length ≤ 60) (hwd : wd ≤ 60) (hw : ∀ r ∈ rs, r.2.length = wd) : Gives fns 1 i_columns_of [.tup kk (rs.map rowD)] (.tup .kn ((cols (rs.map (·.2)) wd).map fun c => .tup .kn (c.map .int))) := Gives.of (T0 := t_columns_of) rfl rfl fun n hn hc S Q X k => by
  unfold t_columns_of
  walk_at "en"
  walk_at "go"
  refine e_gtup hc ?_
  walk_at "go"
  obtain ⟨r0, rs', rfl⟩ : ∃ r0 rs', rs = r0 :: rs' := by
    cases rs with
    | nil => exact absurd rfl h0
    | cons a l => exact ⟨a, l, rfl⟩
  have e0 := hw r0 List.mem_cons_self
  refine sub_tup (v := rowD r0) (atI_0 _ _) ?_
  walk_at "go"
  refine ⟨by unfold small62; simp; omega, ?_⟩
  refine ⟨_, fun i : Nat => .int (0 + (i : Int)), List.range ((((r0.2.map D.int).length : Nat) : Int) - 0).toNat, fun i => some (.tup .kn ((col ((r0 :: rs').map (·.2)) i).map .int)), rfl, gd_nil, by simp; rw [sizeLine_eq]; omega, fun i hi S1 k1 => ?_, fun S1 k1 => ?_⟩
  · have hi : i < wd := by simp at hi; omega
    walk_at "go"
    refine e_gtup hc ?_
    walk_at "go"
    refine ⟨_, rowD, r0 :: rs', fun r => some (.int (r.2.getD i 0)), rfl, gd_nil, by rw [sizeLine_eq]; omega, fun r hr S2 k2 => ?_, fun S2 k2 => ?_⟩
    · have := hw r hr
      walk_at "go"
      refine sub_tup (v := .int (r.2.getD i 0)) (by rw [show (0 + (i : Int)) = ((i : Nat) : Int) by omega]; exact L2.atI_nat (by simp [List.getElem?_eq_getElem (show i < r.2.length by omega)])) ?_
      exact ⟨rfl, .r⟩
    · simp only [List.filterMap_eq_map']
      exact ⟨by simp [col], k2⟩
  · simp only [List.filterMap_eq_map']
    have e : (List.range ((((r0.2.map D.int).length : Nat) : Int) - 0).toNat) = List.range wd := by simp [e0]
    rw [e]
    have := k S1 k1
    rw [List.map_map] at this
    exact this
abbrev sumsD (P : List (List Int)) (wd : Nat) : D := .tup .key [.tup .kn ((P.map List.sum).map .int), .tup .kn (((cols P wd).map List.sum).map .int)]
theorem sp_sums_of (kk : TK) (rs : List (TK × List Int)) (wd : Nat) (h0 : rs ≠ []) (hl : rs.length ≤ 60) (hwd : wd ≤ 60) (hw : ∀ r ∈ rs, r.2.length = wd) : Gives fns 2 i_sums_of [.tup kk (rs.map rowD)] (sumsD (rs.map (·.2)) wd) := Gives.of (T0 := t_sums_of) rfl rfl fun n hn hc S Q X k => by
  unfold t_sums_of
  walk_at "en"
  walk_at "go"
  refine e_gtup hc ?_
  walk_at "go"
  refine ⟨_, rowD, rs, fun r => some (.int r.2.sum), rfl, gd_nil, by rw [sizeLine_eq]; omega, fun r hr S1 k1 => ?_, fun S1 k1 => ?_⟩
  · walk_at "go"
    refine sum_ints _ ?_
    exact ⟨rfl, .r⟩
  · walk_at "go"
    refine e_gtup hc ?_
    walk_at "go"
    refine sp_columns_of kk rs wd h0 hl hwd hw n hn _ _ _ fun S2 k2 => ?_
    walk_at "go"
    refine ⟨_, fun c => .tup .kn (c.map .int), cols (rs.map (·.2)) wd, fun c => some (.int c.sum), rfl, gd_nil, by simp [cols]; rw [sizeLine_eq]; omega, fun c hcc S3 k3 => ?_, fun S3 k3 => ?_⟩
    · walk_at "go"
      refine sum_ints _ ?_
      exact ⟨rfl, .r⟩
    · walk_at "go"
      simp only [List.filterMap_eq_map']
      have := k S3 ((k1.trans k2).trans k3)
      simp only [sumsD, List.map_map, Function.comp_def] at this ⊢
      exact this
theorem foldl_max_le {m : Int} : ∀ (l : List Int) (a : Int), a ≤ m → (∀ x ∈ l, x ≤ m) → l.foldl max a ≤ m
  | [], a, h, _ => h
  | x :: l, a, h, hl => foldl_max_le l (max a x) (by have := hl x List.mem_cons_self; omega) fun y hy => hl y (List.mem_cons_of_mem _ hy)
theorem max_ints {S : Store} {Q : KD} {kk : TK} (is : List Int) (h0 : is ≠ []) (k : ∀ v, (∀ m, (∀ x ∈ is, x ≤ m) → v ≤ m) → Q (.int v) S) : biD .max [.tup kk (is.map .int)] S Q := by
  cases is with
  | nil => exact absurd rfl h0
  | cons i r =>
    have h1 : (seqD S (.tup kk ((i :: r).map D.int))).bind intsD = some (i :: r) := by
      show (some ((i :: r).map D.int)).bind intsD = _
      rw [Option.bind_some, intsD_map]
    unfold biD
    simp only [h1]
    exact k _ fun m hm => foldl_max_le r i (hm i List.mem_cons_self) fun x hx => hm x (List.mem_cons_of_mem _ hx)
/-- a right plan: rows of their kinds -/
structure PlanOk (b : Bd) (rs : List (TK × List Int)) : Prop where
  l : rs.length = b.pits.length
  w : ∀ r ∈ rs, r.2.length = b.sites.length
  c : ∀ r ∈ rs, ∀ v ∈ r.2, 0 ≤ v ∧ v ≤ 45
  su : ∀ r ∈ rs, r.2.sum ≤ 45
  cs : ∀ c ∈ cols (rs.map (·.2)) b.sites.length, c.sum ≤ 45
theorem PlanOk.ne {b : Bd} {rs : List (TK × List Int)} (h : PlanOk b rs) (hb : BdOk b) : rs ≠ [] := by
  have := h.l; have := hb.p1
  intro e; subst e; simp at *; omega
theorem sp_is_plan_form (b : Bd) (hb : BdOk b) (kk : TK) (rs : List (TK × List Int)) (h : PlanOk b rs) : Gives fns 4 i_is_plan_form [b.d, .tup kk (rs.map rowD)] (.bl true) := Gives.of (T0 := t_is_plan_form) rfl rfl fun n hn hc S Q X k => by
  unfold t_is_plan_form
  have h5 := hb.p5
  have g5 := hb.s5
  have g1 := hb.s1
  have p1 := hb.p1
  walk_at "en"
  walk_at "go"
  refine sp_are_rows _ _ _ _ _ _ (by simp [h.l]) (fun r hr => by simp [h.w r hr]) h.c n (by omega) _ _ _ fun S1 k1 => ?_
  walk_at "go"
  refine sp_sums_of kk rs b.sites.length (h.ne hb) (by have := h.l; omega) (by omega) h.w n (by omega) _ _ _ fun S2 k2 => ?_
  walk_at "go"
  refine max_ints _ (by have := h.ne hb; simpa using this) fun v hv => ?_
  walk_at "go"
  rw [decide_eq_true (hv 45 fun x hx => by obtain ⟨r, hr, rfl⟩ := List.mem_map.mp hx; obtain ⟨r', hr', rfl⟩ := List.mem_map.mp hr; exact h.su r' hr')]
  walk_at "go"
  refine max_ints _ (by intro e; have e2 := congrArg List.length e; simp only [List.length_map, List.length_range, List.length_nil] at e2; omega) fun v hv => ?_
  walk_at "go"
  rw [decide_eq_true (hv 45 fun x hx => by obtain ⟨c, hcc, rfl⟩ := List.mem_map.mp hx; exact h.cs c hcc)]
  exact k S2 (k1.trans k2)
theorem sp_is_pair (b : Bd) (hb : BdOk b) (p : Str × Str) (h1 : p.1 ∈ b.pits) (h2 : p.2 ∈ b.sites) : Gives fns 1 i_is_pair [b.d, prD p] (.bl true) := Gives.of (T0 := t_is_pair) rfl rfl fun n hn hc S Q X k => by
  unfold t_is_pair
  walk_at "en"
  walk_at "go"
  refine im (by simp) ?_
  walk_at "go"
  refine in_strs (hb.pn _ h1).ok (fun z hz => (hb.pn z hz).ok) ?_
  rw [decide_eq_true h1]
  walk_at "go"
  refine in_strs (hb.sn _ h2).ok (fun z hz => (hb.sn z hz).ok) ?_
  rw [decide_eq_true h2]
  exact k S .r
theorem rise_nodup {ss : List Str} (h : Rise ss) : ss.Nodup := by
  have lt : ∀ i j (hi : i < ss.length) (hj : j < ss.length), i < j → ss[i].cps.toList < ss[j].cps.toList := by
    intro i j hi hj hij
    induction j with
    | zero => omega
    | succ j ih =>
      rcases Nat.lt_succ_iff_lt_or_eq.mp hij with z | z
      · exact List.lt_trans (ih (by omega) z) (h j hj)
      · subst z; exact h i hj
  exact List.pairwise_iff_getElem.mpr fun i j hi hj hij e => by
    have := lt i j hi hj hij
    rw [e] at this
    exact absurd this (List.lt_irrefl _)
theorem nodup_map {α β : Type} {f : α → β} (hf : ∀ a b, f a = f b → a = b) {l : List α} (h : l.Nodup) : (l.map f).Nodup := List.Pairwise.map f (fun a b hne e => hne (hf a b e)) h
theorem mem_prs {b : Bd} {p : Str × Str} : p ∈ prs b ↔ p.1 ∈ b.pits ∧ p.2 ∈ b.sites := by
  unfold prs
  simp only [List.mem_flatMap, List.mem_map]
  constructor
  · rintro ⟨x, hx, y, hy, rfl⟩; exact ⟨hx, hy⟩
  · rintro ⟨h1, h2⟩; exact ⟨p.1, h1, p.2, h2, rfl⟩
theorem prs_len (b : Bd) : (prs b).length = b.pits.length * b.sites.length := by
  unfold prs
  induction b.pits with
  | nil => simp
  | cons a l ih => rw [List.flatMap_cons, List.length_append, ih, List.length_cons, List.length_map, Nat.succ_mul, Nat.add_comm]
theorem prs_nodup {b : Bd} (h : BdOk b) : (prs b).Nodup := by
  have hp := rise_nodup h.pr
  have hs := rise_nodup h.sr
  unfold prs
  generalize b.pits = ps at hp
  induction ps with
  | nil => simp
  | cons a l ih =>
    have hp := List.nodup_cons.mp hp
    rw [List.flatMap_cons, List.nodup_append]
    refine ⟨nodup_map (fun x y e => by simpa using e) hs, ih hp.2, fun x hx y hy e => ?_⟩
    subst e
    obtain ⟨s, _, rfl⟩ := List.mem_map.mp hx
    obtain ⟨q, hq, hy⟩ := List.mem_flatMap.mp hy
    obtain ⟨s', _, e⟩ := List.mem_map.mp hy
    have : q = a := (Prod.mk.inj e).1
    exact hp.1 (by rw [← this]; exact hq)
/-- an order of a board -/
abbrev OrdOk (b : Bd) (o : List (Str × Str)) : Prop := o.Perm (prs b)
theorem OrdOk.mem {b : Bd} {o : List (Str × Str)} (h : OrdOk b o) {p : Str × Str} (hp : p ∈ o) : p.1 ∈ b.pits ∧ p.2 ∈ b.sites := mem_prs.mp (h.mem_iff.mp hp)
theorem OrdOk.nd {b : Bd} (hb : BdOk b) {o : List (Str × Str)} (h : OrdOk b o) : o.Nodup := h.nodup_iff.mpr (prs_nodup hb)
theorem OrdOk.len {b : Bd} {o : List (Str × Str)} (h : OrdOk b o) : o.length = b.pits.length * b.sites.length := by rw [h.length_eq, prs_len]
theorem OrdOk.len25 {b : Bd} (hb : BdOk b) {o : List (Str × Str)} (h : OrdOk b o) : o.length ≤ 25 := by
  rw [h.len]
  exact Nat.mul_le_mul hb.p5 hb.s5
theorem pairs_keyT (o : List (Str × Str)) : (o.map prD).mapM keyT = some (o.map fun p => [.inr p.1, .inr p.2]) := by
  induction o with
  | nil => rfl
  | cons a l ih => rw [List.map_cons, List.mapM_cons, ih]; rfl
theorem keys_nodup {o : List (Str × Str)} (h : o.Nodup) : (o.map fun p => ([.inr p.1, .inr p.2] : List L2.Key)).Nodup := nodup_map (fun a b e => by
  simp only [List.cons.injEq, Sum.inr.injEq, and_true] at e
  exact Prod.ext e.1 e.2) h
theorem lenset_prs {S : Store} {Q : KD} {kk : TK} {o : List (Str × Str)} (hl : o.length ≤ 60) (hn : o.Nodup) (k : Q (.int (o.length : Nat)) S) : biD .lenset [.tup kk (o.map prD)] S Q := by
  show (match (o.map prD).mapM keyT with | some ks => ks.length ≤ 60 ∧ ks.Nodup ∧ Q (.int ks.length) S | none => False)
  rw [pairs_keyT]
  exact ⟨by simpa using hl, keys_nodup hn, by simpa using k⟩
theorem sp_is_order_form (b : Bd) (hb : BdOk b) (kk : TK) (o : List (Str × Str)) (h : OrdOk b o) : Gives fns 2 i_is_order_form [b.d, .tup kk (o.map prD)] (.bl true) := Gives.of (T0 := t_is_order_form) rfl rfl fun n hn hc S Q X k => by
  unfold t_is_order_form
  walk_at "en"
  walk_at "go"
  refine sp_all_pairs b hb n (by omega) _ _ _ fun S1 k1 => ?_
  walk_at "go"
  refine im (by simp [h.length_eq]) ?_
  walk_at "go"
  refine e_gall hc ?_
  walk_at "go"
  refine ⟨_, prD, o, fun _ => true, rfl, gd_nil, fun p hp S2 k2 => ?_, fun S2 k2 => ?_⟩
  · walk_at "go"
    exact sp_is_pair b hb p (h.mem hp).1 (h.mem hp).2 n (by omega) _ _ _ fun S3 k3 => ⟨rfl, k3⟩
  · rw [show o.all (fun _ => true) = true by simp]
    walk_at "go"
    refine lenset_prs (by have := h.len25 hb; omega) (h.nd hb) ?_
    walk_at "go"
    rw [decide_eq_true (by simp [h.length_eq])]
    exact k S2 (k1.trans k2)
theorem sp_need_board (b : Bd) (h : BdOk b) : Gives fns 5 i_need_board [b.d] .non := Gives.of (T0 := t_need_board) rfl rfl fun n hn hc S Q X k => by
  unfold t_need_board
  walk_at "en"
  walk_at "go"
  refine sp_is_board_form b h n (by omega) _ _ _ fun S1 k1 => ?_
  walk_at "go"
  exact k S1 k1
theorem sp_need_order (b : Bd) (hb : BdOk b) (kk : TK) (o : List (Str × Str)) (h : OrdOk b o) : Gives fns 3 i_need_order [b.d, .tup kk (o.map prD)] .non := Gives.of (T0 := t_need_order) rfl rfl fun n hn hc S Q X k => by
  unfold t_need_order
  walk_at "en"
  walk_at "go"
  refine sp_is_order_form b hb kk o h n (by omega) _ _ _ fun S1 k1 => ?_
  walk_at "go"
  exact k S1 k1
theorem sp_need_plan (b : Bd) (hb : BdOk b) (kk : TK) (rs : List (TK × List Int)) (h : PlanOk b rs) : Gives fns 5 i_need_plan [b.d, .tup kk (rs.map rowD)] .non := Gives.of (T0 := t_need_plan) rfl rfl fun n hn hc S Q X k => by
  unfold t_need_plan
  walk_at "en"
  walk_at "go"
  refine im (by simp [h.l]) ?_
  walk_at "go"
  dsimp only
  rw [enumD_map]
  refine for_map hc _ rs.zipIdx (fun _ σ S' => (∃ a c, σ = [some b.d, some (.tup kk (rs.map rowD)), a, c]) ∧ Keep [] S S') ⟨⟨_, _, rfl⟩, .r⟩ (fun _ _ _ _ => gd_nil) (fun pre x post σ S1 e ⟨⟨a, c, hσ⟩, k1⟩ => ?_) fun σ S1 ⟨⟨a, c, hσ⟩, k1⟩ => ?_
  · subst hσ
    have hm : x.1 ∈ rs := by
      have : x ∈ rs.zipIdx := by rw [e]; simp
      exact (List.mem_zipIdx this).2.2 ▸ List.getElem_mem _
    walk_at "go"
    refine sp_are_rows .key [x.1] _ _ _ _ (by simp) (fun r hr => by rw [List.mem_singleton.mp hr]; simp [h.w _ hm]) (fun r hr => by rw [List.mem_singleton.mp hr]; exact h.c _ hm) n (by omega) _ _ _ fun S2 k2 => ?_
    walk_at "go"
    exact ⟨⟨_, _, rfl⟩, k1.trans k2⟩
  · subst hσ
    walk_at "go"
    refine sp_is_plan_form b hb kk rs h n (by omega) _ _ _ fun S2 k2 => ?_
    walk_at "go"
    exact k S2 (k1.trans k2)
/-! ### filling -/
structure FS where
  st : Str → Int
  nd : Str → Int
  led : List (Str × Str × Int)
def fstep (a : FS) (q : Str × Str) : FS := ⟨up a.st q.1 (a.st q.1 - min (a.st q.1) (a.nd q.2)), up a.nd q.2 (a.nd q.2 - min (a.st q.1) (a.nd q.2)), a.led ++ [(q.1, q.2, min (a.st q.1) (a.nd q.2))]⟩
def fillF (o : List (Str × Str)) (st nd : Str → Int) : FS := o.foldl fstep ⟨st, nd, []⟩
theorem fillF_snoc (o : List (Str × Str)) (q : Str × Str) (st nd : Str → Int) : fillF (o ++ [q]) st nd = fstep (fillF o st nd) q := by simp [fillF]
theorem fillF_led (o : List (Str × Str)) (st nd : Str → Int) : (fillF o st nd).led.map (fun t => (t.1, t.2.1)) = o := by
  have key : ∀ (o pre : List (Str × Str)) (a : FS), a.led.map (fun t => (t.1, t.2.1)) = pre → (o.foldl fstep a).led.map (fun t => (t.1, t.2.1)) = pre ++ o := by
    intro o
    induction o with
    | nil => intro pre a h; simpa using h
    | cons q o ih =>
      intro pre a h
      rw [List.foldl_cons, ih (pre ++ [q]) (fstep a q) (by simp [fstep, h])]
      simp
  have := key o [] ⟨st, nd, []⟩ rfl
  rw [List.nil_append] at this
  exact this
abbrev triD (t : Str × Str × Int) : D := .tup .key [.str t.1, .str t.2.1, .int t.2.2]
theorem sp_fill (b : Bd) (hb : BdOk b) (kk ka k1 k2 : TK) (o : List (Str × Str)) (ho : ∀ p ∈ o, p.1 ∈ b.pits ∧ p.2 ∈ b.sites) (hl : o.length ≤ 60) (st nd : List Int) (hs : st.length = b.pits.length) (hn2 : nd.length = b.sites.length) (S : Store) :
    GivesAt fns 1 i_fill [b.d, .tup kk (o.map prD), .tup ka [.tup k1 (st.map .int), .tup k2 (nd.map .int)]] S fun d S' => ∃ l m n, d = .tup .key [.loc l, .loc m, .loc n] ∧ S'[l]? = some (.lst ((fillF o (lk b.pits st) (lk b.sites nd)).led.map triD)) ∧ Keep [] S S' := GivesAt.of (T0 := t_fill) rfl rfl fun n hn hc Q X k => by
  unfold t_fill
  have h5 := hb.p5
  have g5 := hb.s5
  have np := rise_nodup hb.pr
  have ns := rise_nodup hb.sr
  walk_at "en"
  walk_at "go"
  refine ⟨_, _, _, _, _, rfl, zip_pairK _ _, by simp; omega, ?_⟩
  rw [fold_nodup (by rw [lk_zip np hs.symm, List.map_map]; exact nodup_map (fun x y e => by simpa using e) np), lk_zip np hs.symm]
  walk_at "go"
  refine ⟨_, _, _, _, _, rfl, zip_pairK _ _, by simp; omega, ?_⟩
  rw [fold_nodup (by rw [lk_zip ns hn2.symm, List.map_map]; exact nodup_map (fun x y e => by simpa using e) ns), lk_zip ns hn2.symm]
  walk_at "go"
  generalize hF1 : lk b.pits st = F1
  generalize hF2 : lk b.sites nd = F2
  rw [hF1, hF2] at k
  generalize hS3 : S ++ [Cell.dK (dkS b.pits F1)] ++ [Cell.dK (dkS b.sites F2)] ++ [Cell.lst []] = S3
  have e2 : (S ++ [Cell.dK (dkS b.pits F1)]).length = S.length + 1 := by simp
  have e3 : (S ++ [Cell.dK (dkS b.pits F1)] ++ [Cell.dK (dkS b.sites F2)]).length = S.length + 2 := by simp
  rw [e2, e3]
  have a1 : S3[S.length]? = some (.dK (dkS b.pits F1)) := by rw [← hS3]; exact at_add (at_add at_new)
  have a2 : S3[S.length + 1]? = some (.dK (dkS b.sites F2)) := by rw [← hS3, ← e2]; exact at_add at_new
  have a3 : S3[S.length + 2]? = some (.lst []) := by rw [← hS3, ← e3]; exact at_new
  have k3 : Keep [] S S3 := by rw [← hS3]; exact ((Keep.new _ _ _).add _).add _
  clear hS3 e2 e3
  dsimp only
  refine for_map hc prD o (fun pre σ S' => (∃ a c d, σ = [some b.d, some (.tup kk (o.map prD)), some (.tup ka [.tup k1 (st.map .int), .tup k2 (nd.map .int)]), some (.loc S.length), some (.loc (S.length + 1)), some (.loc (S.length + 2)), a, c, d]) ∧
    S'[S.length]? = some (.dK (dkS b.pits (fillF pre F1 F2).st)) ∧ S'[S.length + 1]? = some (.dK (dkS b.sites (fillF pre F1 F2).nd)) ∧ S'[S.length + 2]? = some (.lst ((fillF pre F1 F2).led.map triD)) ∧ Keep [] S S') ⟨⟨_, _, _, rfl⟩, a1, a2, a3, k3⟩ (fun _ _ _ _ => gd_nil) (fun pre x post σ S' e ⟨⟨a, c, d, hσ⟩, q1, q2, q3, q4⟩ => ?_) fun σ S' ⟨⟨a, c, d, hσ⟩, q1, q2, q3, q4⟩ => ?_
  · subst hσ
    have hx := ho x (by rw [e]; simp)
    have hlen : (fillF pre F1 F2).led.length < 64 := by
      have h1 := congrArg List.length (fillF_led pre F1 F2)
      have h2 := congrArg List.length e
      simp at h1 h2; omega
    rw [fillF_snoc]
    generalize fillF pre F1 F2 = F at q1 q2 q3 hlen ⊢
    walk_at "go"
    refine sub_dK q1 (q := .inr x.1) rfl (dkS_val hx.1) ?_
    walk_at "go"
    refine sub_dK q2 (q := .inr x.2) rfl (dkS_val hx.2) ?_
    walk_at "go"
    refine lg_dK q1 (q := .inr x.1) rfl (dkS_val hx.1) ?_
    walk_at "go"
    refine st_dK q1 (q := .inr x.1) rfl (by rw [List.length_map, sizeLine_eq]; omega) ?_
    rw [dkS_put hx.1]
    have r1 := at_set (c := .dK (dkS b.pits (up F.st x.1 (F.st x.1 - min (F.st x.1) (F.nd x.2))))) q1
    have r2 := at_set_ne (c := .dK (dkS b.pits (up F.st x.1 (F.st x.1 - min (F.st x.1) (F.nd x.2))))) q2 (show S.length ≠ S.length + 1 by omega)
    have r3 := at_set_ne (c := .dK (dkS b.pits (up F.st x.1 (F.st x.1 - min (F.st x.1) (F.nd x.2))))) q3 (show S.length ≠ S.length + 2 by omega)
    have r4 := q4.put (n := S.length) (Nat.le_refl _) (.dK (dkS b.pits (up F.st x.1 (F.st x.1 - min (F.st x.1) (F.nd x.2)))))
    generalize S'.set S.length _ = S2 at r1 r2 r3 r4 ⊢
    walk_at "go"
    refine lg_dK r2 (q := .inr x.2) rfl (dkS_val hx.2) ?_
    walk_at "go"
    refine st_dK r2 (q := .inr x.2) rfl (by rw [List.length_map, sizeLine_eq]; omega) ?_
    rw [dkS_put hx.2]
    have t1 := at_set_ne (c := .dK (dkS b.sites (up F.nd x.2 (F.nd x.2 - min (F.st x.1) (F.nd x.2))))) r1 (show S.length + 1 ≠ S.length by omega)
    have t2 := at_set (c := .dK (dkS b.sites (up F.nd x.2 (F.nd x.2 - min (F.st x.1) (F.nd x.2))))) r2
    have t3 := at_set_ne (c := .dK (dkS b.sites (up F.nd x.2 (F.nd x.2 - min (F.st x.1) (F.nd x.2))))) r3 (show S.length + 1 ≠ S.length + 2 by omega)
    have t4 := r4.put (n := S.length + 1) (by omega) (.dK (dkS b.sites (up F.nd x.2 (F.nd x.2 - min (F.st x.1) (F.nd x.2)))))
    generalize S2.set (S.length + 1) _ = S4 at t1 t2 t3 t4 ⊢
    walk_at "go"
    refine me_append t3 ?_
    walk_at "go"
    refine md_append t3 (by rw [List.length_map, sizeLine_eq]; omega) ?_
    refine ⟨⟨_, _, _, rfl⟩, at_set_ne t1 (by omega), at_set_ne t2 (by omega), ?_, t4.put (by omega) _⟩
    rw [at_set t3]
    simp [fstep, triD]
  · subst hσ
    walk_at "go"
    exact k _ S' ⟨_, _, _, rfl, q3, q4⟩
/-- the load of a pair -/
def lval (led : List (Str × Str × Int)) (p s : Str) : Int := ((led.find? fun t => decide ((t.1, t.2.1) = (p, s))).map (·.2.2)).getD 0
abbrev planR (b : Bd) (F : Str → Str → Int) : List (TK × List Int) := b.pits.map fun p => (.kn, b.sites.map fun s => F p s)
theorem valD_led (led : List (Str × Str × Int)) (p s : Str) : (valD (led.map fun t => (([.inr t.1, .inr t.2.1] : List L2.Key), D.int t.2.2)) [.inr p, .inr s]).getD (.int 0) = .int (lval led p s) := by
  unfold valD lval
  induction led with
  | nil => rfl
  | cons t led ih =>
    rw [List.map_cons, List.find?_cons, List.find?_cons]
    by_cases h : (t.1, t.2.1) = (p, s)
    · obtain ⟨h1, h2⟩ := Prod.mk.inj h
      subst h1; subst h2
      simp
    · have h2 : ¬ (([.inr t.1, .inr t.2.1] : List L2.Key) = [.inr p, .inr s]) := fun e => by
        simp only [List.cons.injEq, Sum.inr.injEq, and_true] at e
        exact h (Prod.ext e.1 e.2)
      rw [decide_eq_false h, decide_eq_false h2]
      exact ih
abbrev sumS (b : Bd) (P : List (List Int)) : Str → Int := lk b.pits (P.map List.sum)
abbrev sumC (b : Bd) (P : List (List Int)) : Str → Int := lk b.sites ((cols P b.sites.length).map List.sum)
theorem sp_filled (b : Bd) (hb : BdOk b) (kk ka k1 k2 : TK) (o : List (Str × Str)) (ho : OrdOk b o) (st nd : List Int) (hs : st.length = b.pits.length) (hn2 : nd.length = b.sites.length) :
    Gives fns 2 i_filled [b.d, .tup kk (o.map prD), .tup ka [.tup k1 (st.map .int), .tup k2 (nd.map .int)]] (.tup .kn ((planR b (lval (fillF o (lk b.pits st) (lk b.sites nd)).led)).map rowD)) := Gives.of (T0 := t_filled) rfl rfl fun n hn hc S Q X k => by
  unfold t_filled
  have l25 := ho.len25 hb
  walk_at "en"
  walk_at "go"
  refine sp_fill b hb kk ka k1 k2 o (fun p hp => ho.mem hp) (by omega) st nd hs hn2 S n hn _ _ fun d S1 ⟨l, m, q, ed, hS1, k1⟩ => ?_
  subst ed
  walk_at "go"
  refine e_dcP hc ?_
  walk_at "go"
  refine src_lst hS1 ?_
  generalize hL : (fillF o (lk b.pits st) (lk b.sites nd)).led = L at hS1 k ⊢
  have hkeys : L.map (fun t => (t.1, t.2.1)) = o := by rw [← hL]; exact fillF_led _ _ _
  have hlen : L.length = o.length := by rw [← hkeys]; simp
  refine ⟨_, triD, L, fun t => ([.inr t.1, .inr t.2.1], .int t.2.2), rfl, gd_one hS1, by rw [sizeLine_eq]; omega, fun t ht S2 k2 => ?_, fun S2 k2 hS2 => ?_⟩
  · walk_at "go"
    exact ⟨rfl, rfl, .r⟩
  · rw [fold_nodup (by
      rw [List.map_map]
      have := keys_nodup (ho.nd hb)
      rw [← hkeys, List.map_map] at this
      exact this)] at hS2
    walk_at "go"
    refine sp_from_table b hb hS2 n (by omega) _ _ fun d S3 ⟨ed, k3⟩ => ?_
    subst ed
    have := k S3 ((k1.trans k2).trans k3)
    simp only [valD_led]
    simp only [rowD, List.map_map, Function.comp_def] at this
    exact this
/-- the load of a pair in rows -/
def pv (b : Bd) (P : List (List Int)) (p s : Str) : Int := (P.getD (ix b.pits p) []).getD (ix b.sites s) 0
theorem sp_load_of (b : Bd) (kk : TK) (rs : List (TK × List Int)) (h1 : rs.length = b.pits.length) (h2 : ∀ r ∈ rs, r.2.length = b.sites.length) (p s : Str) (hp : p ∈ b.pits) (hs : s ∈ b.sites) : Gives fns 1 i_load_of [b.d, .tup kk (rs.map rowD), .str p, .str s] (.int (pv b (rs.map (·.2)) p s)) := Gives.of (T0 := t_load_of) rfl rfl fun n hn hc S Q X k => by
  unfold t_load_of
  have i1 := ix_lt hp
  have i2 := ix_lt hs
  have e1 : rs[ix b.pits p]? = some (rs[ix b.pits p]'(by omega)) := List.getElem?_eq_getElem (by omega)
  have w1 := h2 _ (List.getElem_mem (show ix b.pits p < rs.length by omega))
  generalize rs[ix b.pits p]'(by omega) = r at e1 w1
  have e2 : r.2[ix b.sites s]? = some (r.2[ix b.sites s]'(by omega)) := List.getElem?_eq_getElem (by omega)
  have hv : pv b (rs.map (·.2)) p s = r.2[ix b.sites s]'(by omega) := by
    have e3 : (rs.map (·.2)).getD (ix b.pits p) [] = r.2 := by rw [List.getD_eq_getElem?_getD, List.getElem?_map, e1]; rfl
    unfold pv
    rw [e3, List.getD_eq_getElem?_getD, e2]; rfl
  rw [hv] at k
  generalize r.2[ix b.sites s]'(by omega) = v at e2 k
  walk_at "en"
  walk_at "go"
  refine md_index (ix_at hp).1 ?_
  refine sub_tup (v := rowD r) (L2.atI_nat (by rw [List.getElem?_map, e1]; rfl)) ?_
  walk_at "go"
  refine md_index (ix_at hs).1 ?_
  refine sub_tup (v := .int v) (L2.atI_nat (by rw [List.getElem?_map, e2]; rfl)) ?_
  exact k S .r
abbrev rowF (b : Bd) (P : List (List Int)) (o : List (Str × Str)) : List Int := o.map fun q => pv b P q.1 q.2
theorem sp_row_by (b : Bd) (hb : BdOk b) (kk k2 : TK) (o : List (Str × Str)) (ho : OrdOk b o) (rs : List (TK × List Int)) (h1 : rs.length = b.pits.length) (h2 : ∀ r ∈ rs, r.2.length = b.sites.length) : Gives fns 2 i_row_by [b.d, .tup kk (o.map prD), .tup k2 (rs.map rowD)] (.tup .kn ((rowF b (rs.map (·.2)) o).map .int)) := Gives.of (T0 := t_row_by) rfl rfl fun n hn hc S Q X k => by
  unfold t_row_by
  have l25 := ho.len25 hb
  walk_at "en"
  walk_at "go"
  refine e_gtup hc ?_
  walk_at "go"
  refine ⟨_, prD, o, fun q => some (.int (pv b (rs.map (·.2)) q.1 q.2)), rfl, gd_nil, by rw [sizeLine_eq]; omega, fun q hq S1 k1 => ?_, fun S1 k1 => ?_⟩
  · walk_at "go"
    exact sp_load_of b k2 rs h1 h2 q.1 q.2 (ho.mem hq).1 (ho.mem hq).2 n hn _ _ _ fun S2 k2 => ⟨rfl, k2⟩
  · simp only [List.filterMap_eq_map']
    have := k S1 k1
    rw [List.map_map] at this
    exact this
theorem planR_snd (b : Bd) (F : Str → Str → Int) : (planR b F).map (·.2) = b.pits.map fun p => b.sites.map fun s => F p s := by simp
/-- the filling of a plan's own amounts, as rows -/
abbrev ownR (b : Bd) (o : List (Str × Str)) (P : List (List Int)) : List (TK × List Int) := planR b (lval (fillF o (sumS b P) (sumC b P)).led)
theorem sums_len (b : Bd) {rs : List (TK × List Int)} (h : PlanOk b rs) : ((rs.map (·.2)).map List.sum).length = b.pits.length ∧ ((cols (rs.map (·.2)) b.sites.length).map List.sum).length = b.sites.length := by
  simp [h.l]
theorem dat_rows (kk : TK) (rs : List (TK × List Int)) : Dat 3 (.tup kk (rs.map rowD)) (.tuple ((rs.map (·.2)).map fun r => .tuple (r.map .int))) := by rw [List.map_map]; exact Dat.rows rs
theorem sp_fills (b : Bd) (hb : BdOk b) (kk k2 : TK) (o : List (Str × Str)) (ho : OrdOk b o) (rs : List (TK × List Int)) (h : PlanOk b rs) : Gives fns 3 i_fills [b.d, .tup kk (o.map prD), .tup k2 (rs.map rowD)] (.bl (decide ((ownR b o (rs.map (·.2))).map (·.2) = rs.map (·.2)))) := Gives.of (T0 := t_fills) rfl rfl fun n hn hc S Q X k => by
  unfold t_fills
  have h5 := hb.p5
  have g5 := hb.s5
  walk_at "en"
  walk_at "go"
  refine sp_sums_of k2 rs b.sites.length (h.ne hb) (by have := h.l; omega) (by omega) h.w n hn _ _ _ fun S1 k1 => ?_
  walk_at "go"
  refine sp_filled b hb kk .key .kn .kn o ho _ _ (sums_len b h).1 (sums_len b h).2 n hn _ _ _ fun S2 k2 => ?_
  walk_at "go"
  refine cd_eq (g := fun P : List (List Int) => .tuple (P.map fun r => .tuple (r.map .int))) (a := (ownR b o (rs.map (·.2))).map (·.2)) (b := rs.map (·.2)) (n := 3) (m := 3) (dat_rows _ _) (dat_rows _ _) (EqV.int.tuple.tuple) ?_
  exact k S2 (k1.trans k2)
theorem sp_need_ordered_plan (b : Bd) (hb : BdOk b) (kk k2 : TK) (o : List (Str × Str)) (ho : OrdOk b o) (rs : List (TK × List Int)) (h : PlanOk b rs) : Gives fns 6 i_need_ordered_plan [b.d, .tup kk (o.map prD), .tup k2 (rs.map rowD)] .non := Gives.of (T0 := t_need_ordered_plan) rfl rfl fun n hn hc S Q X k => by
  unfold t_need_ordered_plan
  walk_at "en"
  walk_at "go"
  refine sp_need_board b hb n (by omega) _ _ _ fun S1 k1 => ?_
  walk_at "go"
  refine sp_need_order b hb kk o ho n (by omega) _ _ _ fun S2 k2 => ?_
  walk_at "go"
  refine sp_need_plan b hb _ rs h n (by omega) _ _ _ fun S3 k3 => ?_
  walk_at "go"
  exact k S3 ((k1.trans k2).trans k3)
theorem sp_row_of (b : Bd) (hb : BdOk b) (kk k2 : TK) (o : List (Str × Str)) (ho : OrdOk b o) (rs : List (TK × List Int)) (h : PlanOk b rs) : Gives fns 7 i_row_of [b.d, .tup kk (o.map prD), .tup k2 (rs.map rowD)] (.tup .kn ((rowF b (rs.map (·.2)) o).map .int)) := Gives.of (T0 := t_row_of) rfl rfl fun n hn hc S Q X k => by
  unfold t_row_of
  walk_at "en"
  walk_at "go"
  refine sp_need_ordered_plan b hb kk k2 o ho rs h n (by omega) _ _ _ fun S1 k1 => ?_
  walk_at "go"
  refine sp_row_by b hb kk k2 o ho rs h.l h.w n (by omega) _ _ _ fun S2 k2 => ?_
  exact k S2 (k1.trans k2)
theorem sp_is_filling (b : Bd) (hb : BdOk b) (kk k2 : TK) (o : List (Str × Str)) (ho : OrdOk b o) (rs : List (TK × List Int)) (h : PlanOk b rs) : Gives fns 7 i_is_filling [b.d, .tup kk (o.map prD), .tup k2 (rs.map rowD)] (.bl (decide ((ownR b o (rs.map (·.2))).map (·.2) = rs.map (·.2)))) := Gives.of (T0 := t_is_filling) rfl rfl fun n hn hc S Q X k => by
  unfold t_is_filling
  walk_at "en"
  walk_at "go"
  refine sp_need_ordered_plan b hb kk k2 o ho rs h n (by omega) _ _ _ fun S1 k1 => ?_
  walk_at "go"
  refine sp_fills b hb kk k2 o ho rs h n (by omega) _ _ _ fun S2 k2 => ?_
  exact k S2 (k1.trans k2)
/-- where two rows of numbers part first -/
abbrev unl (xs ys : List Int) : D := ((List.range xs.length).findSome? fun i => if xs.getD i 0 ≠ ys.getD i 0 then some (D.int (0 + (i : Int))) else none).getD .non
/-! ### the pail -/
def PailOk (S : Store) (p : Nat) : Prop := ∃ a m c : Int, S[p]? = some (.lst [.int a, .int m, .int c])
theorem PailOk.keep {S S' : Store} {p : Nat} (h : PailOk S p) (k : Keep [] S S') : PailOk S' p := by
  obtain ⟨a, m, c, e⟩ := h
  exact ⟨a, m, c, k.at e⟩
theorem PailOk.lt {S : Store} {p : Nat} (h : PailOk S p) : p < S.length := by
  obtain ⟨a, m, c, e⟩ := h
  exact lt_of_at e
abbrev DealR (p : Nat) (top : Int) (S : Store) (d : D) (S' : Store) : Prop := ∃ r : Int, d = .int r ∧ 0 ≤ r ∧ r < top ∧ Keep [p] S S' ∧ PailOk S' p
theorem abs_int {S : Store} {Q : KD} {a : Int} (k : Q (.int (absI a)) S) : biD .abs [.int a] S Q := k
theorem divmod_int {S : Store} {Q : KD} {a b : Int} (h : L2.CDiv a b) (k : Q (.tup .any [.int (a / b), .int (a % b)]) S) : biD .divmod [.int a, .int b] S Q := ⟨h, k⟩
theorem b_powI {S : Store} {Q : KD} {a b : Int} (h : L2.CPow a b) (k : Q (.int (a ^ b.toNat)) S) : binD .Pow (.int a) (.int b) S Q := ⟨h, k⟩
theorem cml {a b : Int} (h : -(2 ^ 64) < a ∧ a < 2 ^ 64) : L2.CMul a b := .inl h
theorem cmr {a b : Int} (h : -(2 ^ 64) < b ∧ b < 2 ^ 64) : L2.CMul a b := .inr h
theorem sp_law_deal (p : Nat) (top : Int) (h1 : 0 < top) (h2 : top < 1073741824) {S : Store} (hp : PailOk S p) : GivesAt fns 1 i_law_deal [.loc p, .int top] S (DealR p top S) := GivesAt.of (T0 := t_law_deal) rfl rfl fun n hn hc Q X k => by
  obtain ⟨a, m, c, e⟩ := hp
  unfold t_law_deal
  walk_at "en"
  walk_at "go"
  refine sub_lst e rfl ?_
  walk_at "go"
  refine ifd (fun ha => ?_) fun ha => ?_
  · walk_at "go"
    refine sub_lst e rfl ?_
    walk_at "go"
    refine divmod_int ⟨h1, by omega⟩ ?_
    walk_at "go"
    refine st_lst e rfl ?_
    walk_at "go"
    exact k _ _ ⟨_, rfl, Int.emod_nonneg _ (by omega), Int.emod_lt_of_pos _ h1, (Keep.refl _ _).set (by simp) _, _, _, _, at_set e⟩
  · walk_at "go"
    refine sub_lst e rfl ?_
    walk_at "go"
    refine st_lst (i := 2) e rfl ?_
    have e1 := at_set (c := .lst ([D.int a, .int m, .int c].set 2 (.int (c + 1)))) e
    have k1 : Keep [p] S (S.set p (.lst ([D.int a, .int m, .int c].set 2 (.int (c + 1))))) := (Keep.refl _ _).set (by simp) _
    generalize S.set p _ = S1 at e1 k1 ⊢
    walk_at "go"
    refine sub_lst e1 rfl ?_
    walk_at "go"
    refine b_mulI (b := 26501) (cmr (by decide)) ?_
    walk_at "go"
    refine sub_lst e1 rfl ?_
    walk_at "go"
    refine b_mulI (a := 11003) (cml (by decide)) ?_
    walk_at "go"
    refine b_modI (by decide) ?_
    walk_at "go"
    refine b_modI (by decide) ?_
    walk_at "go"
    refine b_mulI (cml ?_) ?_
    · have q1 := Int.emod_nonneg (m * 26501 + 11003 * (c + 1)) (b := 2147483489) (by decide)
      have q2 := Int.emod_lt_of_pos (m * 26501 + 11003 * (c + 1)) (b := 2147483489) (by decide)
      constructor <;> omega
    walk_at "go"
    refine sub_lst e1 rfl ?_
    walk_at "go"
    refine b_mulI (a := 31) (cml (by decide)) ?_
    walk_at "go"
    refine b_modI (by decide) ?_
    walk_at "go"
    refine st_lst (i := 1) e1 rfl ?_
    walk_at "go"
    refine sub_lst (at_set e1) rfl ?_
    walk_at "go"
    refine b_divI ⟨by decide, by decide⟩ ?_
    walk_at "go"
    refine b_modI h1 ?_
    exact k _ _ ⟨_, rfl, Int.emod_nonneg _ (by omega), Int.emod_lt_of_pos _ h1, k1.set (by simp) _, _, _, _, at_set e1⟩
theorem erase_perm {α : Type} : ∀ {l : List α} {i : Nat} (h : i < l.length), (l[i] :: l.eraseIdx i).Perm l
  | a :: l, 0, _ => .refl _
  | a :: l, i + 1, h => by
    have ih := erase_perm (l := l) (i := i) (by simpa using h)
    exact (List.Perm.swap a _ _).trans (ih.cons a)
theorem atI_int {α : Type} {xs : List α} {r : Int} {v : α} (h0 : 0 ≤ r) (h : xs[r.toNat]? = some v) : L2.atI xs r = some v := by
  have h := @L2.atI_nat α xs r.toNat v h
  rw [show ((r.toNat : Nat) : Int) = r by omega] at h; exact h
theorem ixN_int {n : Nat} {r : Int} (h0 : 0 ≤ r) (h : r < n) : L2.ixN n r = some r.toNat := by
  unfold L2.ixN
  rw [if_pos h0, if_pos h]
abbrev PK (p : Nat) (S S' : Store) : Prop := Keep [p] S S' ∧ PailOk S' p
theorem at_ne {S S' : Store} {p q : Nat} {c : Cell} (k : Keep [p] S S') (h : S[q]? = some c) (ne : q ≠ p) : S'[q]? = some c := k.c q c (by simpa using ne) h
theorem sp_law_any (p q : Nat) (xs : List D) (h1 : 1 ≤ xs.length) (h2 : xs.length < 1073741824) {S : Store} (hp : PailOk S p) (hq : S[q]? = some (.lst xs)) (ne : q ≠ p) :
    GivesAt fns 2 i_law_any [.loc p, .loc q] S fun d S' => d ∈ xs ∧ PK p S S' := GivesAt.of (T0 := t_law_any) rfl rfl fun n hn hc Q X k => by
  unfold t_law_any
  walk_at "en"
  walk_at "go"
  refine len_lst hq ?_
  walk_at "go"
  refine sp_law_deal p xs.length (by omega) (by omega) hp n hn _ _ fun d S1 ⟨r, e, r0, r1, k1, p1⟩ => ?_
  subst e
  have hr : r.toNat < xs.length := by omega
  refine sub_lst (v := xs[r.toNat]) (at_ne k1 hq ne) (atI_int r0 (List.getElem?_eq_getElem hr)) ?_
  exact k _ _ ⟨List.getElem_mem hr, k1, p1⟩
theorem sp_law_any_str (p : Nat) (x : Str) (h1 : 1 ≤ x.length) (h2 : x.length < 1000000) {S : Store} (hp : PailOk S p) :
    GivesAt fns 2 i_law_any [.loc p, .str x] S fun d S' => (∃ c ∈ x.cps.toList, d = .str ⟨#[c]⟩) ∧ PK p S S' := GivesAt.of (T0 := t_law_any) rfl rfl fun n hn hc Q X k => by
  unfold t_law_any
  have hl : x.length ≤ sizeLine := by rw [sizeLine_eq]; omega
  walk_at "en"
  walk_at "go"
  refine len_str hl ?_
  walk_at "go"
  refine sp_law_deal p x.length (by omega) (by omega) hp n hn _ _ fun d S1 ⟨r, e, r0, r1, k1, p1⟩ => ?_
  subst e
  have hx : x.length = x.cps.toList.length := by simp [Str.length]
  have hr : r.toNat < x.cps.toList.length := by omega
  have ha : L2.atI x.cps.toList r = some x.cps.toList[r.toNat] := atI_int r0 (List.getElem?_eq_getElem hr)
  show x.length ≤ sizeLine ∧ match L2.atI x.cps.toList r with | some c => Q (.str ⟨#[c]⟩) S1 | none => False
  rw [ha]
  exact ⟨hl, k _ _ ⟨⟨_, List.getElem_mem hr, rfl⟩, k1, p1⟩⟩
theorem sp_law_shuffled (p q : Nat) (xs : List D) (h2 : xs.length < 1000) {S : Store} (hp : PailOk S p) (hq : S[q]? = some (.lst xs)) (ne : q ≠ p) :
    GivesAt fns 2 i_law_shuffled [.loc p, .loc q] S fun d S' => ∃ f ys, d = .loc f ∧ S'[f]? = some (.lst ys) ∧ ys.Perm xs ∧ S.length ≤ f ∧ PK p S S' := GivesAt.of (T0 := t_law_shuffled) rfl rfl fun n hn hc Q X k => by
  unfold t_law_shuffled
  have hpl := hp.lt
  walk_at "en"
  walk_at "go"
  refine list_lst hq (by rw [sizeLine_eq]; omega) ?_
  walk_at "go"
  have a1 : (S ++ [Cell.lst xs] ++ [Cell.lst []])[S.length]? = some (.lst xs) := at_add at_new
  have a2 : (S ++ [Cell.lst xs] ++ [Cell.lst []])[S.length + 1]? = some (.lst []) := by rw [show S.length + 1 = (S ++ [Cell.lst xs]).length by simp]; exact at_new
  have k2 : Keep [p] S (S ++ [Cell.lst xs] ++ [Cell.lst []]) := (Keep.new _ _ _).add _
  have p2 : PailOk (S ++ [Cell.lst xs] ++ [Cell.lst []]) p := (hp.keep (.new _ _ _)).keep (.new _ _ _)
  rw [show (S ++ [Cell.lst xs]).length = S.length + 1 by simp]
  generalize S ++ [Cell.lst xs] ++ [Cell.lst []] = S2 at a1 a2 k2 p2 ⊢
  refine len_lst a1 ?_
  walk_at "go"
  refine ⟨by unfold small62; omega, ?_⟩
  unfold rangeD
  refine for_map hc (fun i : Nat => D.int (0 + (i : Int))) _ (fun pre σ S' => ∃ t ls fs, σ = [some (.loc p), some (.loc q), t, some (.loc S.length), some (.loc (S.length + 1))] ∧ S'[S.length]? = some (.lst ls) ∧ S'[S.length + 1]? = some (.lst fs) ∧ ls.length + pre.length = xs.length ∧ fs.length = pre.length ∧ (fs ++ ls).Perm xs ∧ Keep [p] S S' ∧ PailOk S' p)
    ⟨_, xs, [], rfl, a1, a2, by simp, rfl, by simp, k2, p2⟩ (fun _ _ _ _ => gd_nil) (fun pre x post σ S' e ⟨t, ls, fs, eσ, q1, q2, l1, l2, pm, kk, pp⟩ => ?_) fun σ S' ⟨t, ls, fs, eσ, q1, q2, l1, l2, pm, kk, pp⟩ => ?_
  · subst eσ
    have hl := congrArg List.length e
    simp at hl
    walk_at "go"
    refine me_append q2 ?_
    walk_at "go"
    refine me_pop q1 ?_
    walk_at "go"
    refine len_lst q1 ?_
    walk_at "go"
    refine sp_law_deal p ls.length (by omega) (by omega) pp n hn _ _ fun d S3 ⟨r, e, r0, r1, k3, p3⟩ => ?_
    subst e
    have hr : r.toNat < ls.length := by omega
    have b1 := at_ne k3 q1 (by omega)
    have b2 := at_ne k3 q2 (by omega)
    walk_at "go"
    refine md_pop (i := r.toNat) (v := ls[r.toNat]) b1 (ixN_int r0 (by omega)) (List.getElem?_eq_getElem hr) ?_
    walk_at "go"
    have c2 := at_set_ne (c := .lst (ls.eraseIdx r.toNat)) b2 (show S.length ≠ S.length + 1 by omega)
    refine md_append c2 (by rw [sizeLine_eq]; omega) ?_
    refine ⟨_, _, _, rfl, at_set_ne (at_set b1) (by omega), at_set c2, ?_, by simp [l2], ?_, ((kk.trans k3).put (Nat.le_refl _) _).put (by omega) _, ?_⟩
    · rw [List.length_eraseIdx_of_lt hr]; simp; omega
    · have h1 : (ls[r.toNat] :: ls.eraseIdx r.toNat).Perm ls := erase_perm hr
      have h3 : (fs ++ [ls[r.toNat]] ++ ls.eraseIdx r.toNat).Perm (fs ++ ls) := by
        rw [List.append_assoc]
        exact List.Perm.append_left fs h1
      exact h3.trans pm
    · obtain ⟨a, m, c, e4⟩ := p3
      exact ⟨a, m, c, at_set_ne (at_set_ne e4 (by omega)) (by omega)⟩
  · subst eσ
    walk_at "go"
    have : ls = [] := List.length_eq_zero_iff.mp (by rw [List.length_range] at l1; omega)
    subst this
    rw [List.append_nil] at pm
    exact k _ _ ⟨_, fs, rfl, q2, pm, by omega, kk, pp⟩
/-! ### names -/
abbrev chD (c : Nat) : D := .str ⟨#[c]⟩
def chN : D → Nat
  | .str s => s.cps.toList.headD 0
  | _ => 0
theorem perm_map {α : Type} {f : α → D} {g : D → α} {l : List α} (hgf : ∀ a ∈ l, g (f a) = a) {ys : List D} (h : ys.Perm (l.map f)) : ∃ l' : List α, l'.Perm l ∧ ys = l'.map f := by
  refine ⟨ys.map g, ?_, ?_⟩
  · have h1 := h.map g
    have e : (l.map f).map g = l := by
      rw [List.map_map]
      refine (List.map_congr_left (g := id) fun a ha => hgf a ha).trans (List.map_id l)
    rwa [e] at h1
  · rw [List.map_map]
    refine (List.map_id ys).symm.trans (List.map_congr_left fun y hy => ?_)
    obtain ⟨a, ha, rfl⟩ := List.mem_map.mp (h.mem_iff.mp hy)
    show f a = f (g (f a))
    rw [hgf a ha]
theorem joinL_ch : ∀ cs : List Nat, TL.joinL [] (cs.map fun c => [c]) = cs
  | [] => rfl
  | [_] => rfl
  | c :: d :: r => by
    have ih := joinL_ch (d :: r)
    show [c] ++ ([] ++ TL.joinL [] ((d :: r).map fun c => [c])) = _
    rw [ih]; rfl
theorem tl_join_ch (cs : List Nat) : (Txt.join "" (cs.map fun c => (⟨#[c]⟩ : Str))).cps.toList = cs := by
  show TL.tl (PySem.Builtin.Str.glued "" _) = cs
  rw [StrLaws.glued_eq_join, TL.tl_join, List.map_map]
  exact joinL_ch cs
theorem md_join {S : Store} {Q : KD} {n : Nat} {s : Str} {ss : List Str} (hn : S[n]? = some (.lst (ss.map .str))) (hl : (ss.map (·.length)).sum + ss.length * s.length ≤ sizeLine) (k : Q (.str (Txt.join s ss)) S) : meD .join (.str s) [.loc n] S Q := by
  simp only [meD, hn, strsD_map]
  exact ⟨hl, k⟩
theorem words_tail : ∀ z ∈ WORDS, ¬ (∀ c ∈ z.cps.toList.drop 1, c ∈ [98, 118, 120, 122]) := by
  have h : WORDS.all (fun z => !((z.cps.toList.drop 1).all fun c => decide (c ∈ [98, 118, 120, 122]))) = true := by decide +kernel
  intro z hz hh
  have h1 := List.all_eq_true.mp h z hz
  rw [Bool.not_eq_true', List.all_eq_false] at h1
  obtain ⟨c, hc, h2⟩ := h1
  exact h2 (decide_eq_true (hh c hc))
theorem name_of {s : Str} {c : Nat} {cs : List Nat} (e : s.cps.toList = c :: cs) (hc : 97 ≤ c ∧ c ≤ 122) (hcs : ∀ z ∈ cs, z ∈ [98, 118, 120, 122]) (hl : cs.length ≤ 7) : NameOk s where
  l1 := by show 1 ≤ s.cps.size; rw [← Array.length_toList, e]; simp
  l8 := by show s.cps.size ≤ 8; rw [← Array.length_toList, e]; simp; omega
  cs := fun z hz => by
    rw [e] at hz
    rcases List.mem_cons.mp hz with q | q
    · rw [q]; exact hc
    · have := hcs z q
      simp at this; omega
  nw := fun h => words_tail s h (by rw [e]; exact hcs)

abbrev VX : Str := "bvxz"
theorem vx_in {c : Nat} (h : c ∈ VX.cps.toList) : c ∈ [98, 118, 120, 122] := by
  have h0 : VX.cps.toList.all (fun c => decide (c ∈ [98, 118, 120, 122])) = true := by decide +kernel
  exact of_decide_eq_true (List.all_eq_true.mp h0 c h)
abbrev SMc : List Nat := (List.range 26).map (97 + ·)
theorem sm_signs : signsD "abcdefghijklmnopqrstuvwxyz" = SMc.map chD := by
  have h : ("abcdefghijklmnopqrstuvwxyz" : Str).cps.toList = SMc := by decide +kernel
  show List.map chD _ = _
  rw [h]
theorem sm_len : ("abcdefghijklmnopqrstuvwxyz" : Str).cps.toList.length = 26 := by decide +kernel
theorem sum_ch : ∀ cs : List Nat, ((cs.map fun c => (⟨#[c]⟩ : Str)).map (·.length)).sum = cs.length
  | [] => rfl
  | a :: cs => by
    rw [List.map_cons, List.map_cons, List.sum_cons, sum_ch cs, List.length_cons]
    show 1 + _ = _; omega
/-- the sign beside the name's first -/
theorem sp_name (p : Nat) (c : Nat) {S : Store} {σ : Pw.Env} {X : XX} {Q : KD} {n : Nat} (hn : 2 ≤ n) (hc : CMono (callAt fns n)) (h3 : σ[3]? = some (some (chD c))) (h0 : σ[0]? = some (some (.loc p))) (h5 : 4 < σ.length) (hcc : 97 ≤ c ∧ c ≤ 122) (hp : PailOk S p)
    (k : ∀ (s : Str) S', s.cps.toList.head? = some c → NameOk s → PK p S S' → Q (.str s) S') :
    (w (.bin .Add (.var 3) (.meth .join (.str "") (.cons (.lcomp [4] (.call i_law_any (.cons (.var 0) (.cons (.str "bvxz") .nil))) (.var 4) (.irange (.cons (.call i_law_any (.cons (.var 0) (.cons (.lst (.cons (.int 0) (.cons (.int 1) (.cons (.int 2) (.cons (.int 7) .nil))))) .nil))) .nil)) .nil) .nil))) ⟨callAt fns n, X⟩).e σ S Q := by
  have hpl := hp.lt
  refine e_bin' ?_
  refine e_var' h3 ?_
  refine e_meth' ?_
  walk_at "go"
  refine e_lc hc ?_
  refine i_range1 hc ?_
  refine e_call' (a_cons' (e_var' h0 ?_))
  walk_at "go"
  refine sp_law_any p S.length [.int 0, .int 1, .int 2, .int 7] (by simp) (by simp) (hp.keep (.new _ _ _)) at_new (by omega) n hn _ _ fun d S1 ⟨hd, k1, p1⟩ => ?_
  obtain ⟨m, hm0, hm, rfl⟩ : ∃ m : Nat, m ≤ 7 ∧ (m : Int) < 8 ∧ d = .int m := by
    simp at hd
    rcases hd with h | h | h | h
    · exact ⟨0, by omega, by omega, h⟩
    · exact ⟨1, by omega, by omega, h⟩
    · exact ⟨2, by omega, by omega, h⟩
    · exact ⟨7, by omega, by omega, h⟩
  have k0 : Keep [p] S S1 := (Keep.new _ _ _).trans k1
  refine ⟨m, rfl, by unfold small62; omega, ?_⟩
  have hpl1 := p1.lt
  refine ⟨_, fun i : Nat => .int (0 + (i : Int)), List.range m, fun pre acc S' => ∃ cs : List Nat, acc = cs.map chD ∧ cs.length = pre.length ∧ (∀ z ∈ cs, z ∈ [98, 118, 120, 122]) ∧ PK p S S', by simp [rangeD], ⟨[], rfl, rfl, by simp, k0.add _, p1.keep (.new _ _ _)⟩, fun _ _ _ _ => gd_nil, fun pre x post acc S2 e ⟨cs, ea, hl, hz, k2, p2⟩ hS2 => ?_, fun acc S2 ⟨cs, ea, hl, hz, k2, p2⟩ hS2 => ?_⟩
  · have e0 : (wipeE σ [4])[0]? = some (some (.loc p)) := by
      show (σ.set 4 none)[0]? = _
      rw [List.getElem?_set_ne (by omega)]; exact h0
    have e0' : ((wipeE σ [4]).set 4 (some (.int (0 + (x : Int)))))[0]? = some (some (.loc p)) := by
      rw [List.getElem?_set_ne (by omega)]; exact e0
    refine g_var' ?_
    refine ts_nil' ?_
    refine ift ?_
    refine e_call' (a_cons' (e_var' e0' ?_))
    walk_at "go"
    refine sp_law_any_str p VX (by decide +kernel) (by decide +kernel) p2 n hn _ _ fun d S3 ⟨⟨z, hzv, ed⟩, k3, p3⟩ => ?_
    have hS3 := at_ne k3 hS2 (by omega)
    refine ⟨hS3, ?_, cs ++ [z], by rw [ea, List.map_append, ed]; rfl, by simp [hl], ?_, (k2.trans k3).put (by have := k0.n; omega) _, ?_⟩
    · have := congrArg List.length e
      simp at this
      rw [ea, List.length_map, sizeLine_eq]; omega
    · intro y hy
      rcases List.mem_append.mp hy with q | q
      · exact hz y q
      · rw [List.mem_singleton.mp q]; exact vx_in hzv
    · obtain ⟨a, m, c, e4⟩ := p3
      exact ⟨a, m, c, at_set_ne e4 (by omega)⟩
  · rw [List.length_range] at hl
    walk_at "go"
    have ej := tl_join_ch cs
    have eq : acc = (cs.map fun c => (⟨#[c]⟩ : Str)).map .str := by rw [ea, List.map_map]; rfl
    rw [eq] at hS2
    have hsum := sum_ch cs
    refine md_join hS2 (by rw [hsum, List.length_map, sizeLine_eq]; show cs.length + cs.length * 0 ≤ _; omega) ?_
    have e2 : ((⟨#[c]⟩ : Str) ++ Txt.join "" (cs.map fun c => (⟨#[c]⟩ : Str))).cps.toList = c :: cs := by
      rw [Str.cps_append, Array.toList_append, ej]; rfl
    refine b_addS ?_ (k _ _ (by rw [e2]; rfl) (name_of e2 hcc hz (by omega)) ⟨k2, p2⟩)
    have : (Txt.join "" (cs.map fun c => (⟨#[c]⟩ : Str))).length = cs.length := by
      show (Txt.join "" (cs.map fun c => (⟨#[c]⟩ : Str))).cps.size = _
      rw [← Array.length_toList, ej]
    rw [this, sizeLine_eq]; show 1 + _ ≤ _; omega

theorem sp_law_names (p m : Nat) (hm : m ≤ 26) {S : Store} (hp : PailOk S p) : GivesAt fns 3 i_law_names [.loc p, .int m] S fun d S' => ∃ (f : Nat) (ss : List Str), d = .loc f ∧ S'[f]? = some (.lst (ss.map .str)) ∧ ss.length = m ∧ (∀ s ∈ ss, NameOk s) ∧ ss.Nodup ∧ S.length ≤ f ∧ PK p S S' := GivesAt.of (T0 := t_law_names) rfl rfl fun n hn hc Q X k => by
  unfold t_law_names
  have hpl := hp.lt
  walk_at "en"
  walk_at "go"
  refine list_str (by rw [sm_len, sizeLine_eq]; omega) ?_
  rw [sm_signs]
  walk_at "go"
  have a1 : (S ++ [Cell.lst []] ++ [Cell.lst (SMc.map chD)])[S.length]? = some (.lst []) := at_add at_new
  have a2 : (S ++ [Cell.lst []] ++ [Cell.lst (SMc.map chD)])[S.length + 1]? = some (.lst (SMc.map chD)) := by rw [show S.length + 1 = (S ++ [Cell.lst []]).length by simp]; exact at_new
  have k2 : Keep [p] S (S ++ [Cell.lst []] ++ [Cell.lst (SMc.map chD)]) := (Keep.new _ _ _).add _
  have p2 : PailOk (S ++ [Cell.lst []] ++ [Cell.lst (SMc.map chD)]) p := (hp.keep (.new _ _ _)).keep (.new _ _ _)
  rw [show (S ++ [Cell.lst []]).length = S.length + 1 by simp]
  generalize S ++ [Cell.lst []] ++ [Cell.lst (SMc.map chD)] = S2 at a1 a2 k2 p2 ⊢
  refine sp_law_shuffled p (S.length + 1) _ (by simp) p2 a2 (by omega) n hn _ _ fun d S3 ⟨g, ys, ed, hg, pm, hgl, k3, p3⟩ => ?_
  subst ed
  obtain ⟨l, pl, ey⟩ := perm_map (g := chN) (fun a _ => rfl) pm
  subst ey
  walk_at "go"
  refine sl_lst hg ?_
  have a4 : (S3 ++ [Cell.lst (cutD (l.map chD) none (some (m : Int)))])[S3.length]? = some (.lst (cutD (l.map chD) none (some (m : Int)))) := at_new
  have b4 : (S3 ++ [Cell.lst (cutD (l.map chD) none (some (m : Int)))])[S.length]? = some (.lst []) := at_add (at_ne k3 a1 (by omega))
  have k4 : Keep [p] S (S3 ++ [Cell.lst (cutD (l.map chD) none (some (m : Int)))]) := (k2.trans k3).add _
  have p4 : PailOk (S3 ++ [Cell.lst (cutD (l.map chD) none (some (m : Int)))]) p := p3.keep (.new _ _ _)
  have h34 : S.length < S3.length := lt_of_at (at_ne k3 a1 (by omega))
  have l26 : l.length = 26 := by rw [pl.length_eq]; simp
  have ecut : cutD (l.map chD) none (some (m : Int)) = (l.take m).map chD := by
    unfold cutD
    rw [HT.sIx_none, HT.sIx_nat]
    simp
  rw [ecut] at a4 b4 k4 p4 ⊢
  generalize S3 ++ [Cell.lst ((l.take m).map chD)] = S4 at a4 b4 k4 p4 ⊢
  walk_at "go"
  refine src_lst a4 ?_
  refine for_map hc chD (l.take m) (fun pre σ S' => ∃ t u, ∃ ss : List Str, σ = [some (.loc p), some (.int m), some (.loc S.length), t, u] ∧ S'[S.length]? = some (.lst (ss.map .str)) ∧ S'[S3.length]? = some (.lst ((l.take m).map chD)) ∧ ss.map (·.cps.toList.head?) = pre.map some ∧ (∀ s ∈ ss, NameOk s) ∧ Keep [p] S S' ∧ PailOk S' p)
    ⟨_, _, [], rfl, b4, a4, rfl, by simp, k4, p4⟩ (fun pre σ S' ⟨_, _, _, _, _, h, _⟩ => gd_one h) (fun pre x post σ S' e ⟨t, u, ss, eσ, q1, q2, hh, hok, kk, pp⟩ => ?_) fun σ S' ⟨t, u, ss, eσ, q1, q2, hh, hok, kk, pp⟩ => ?_
  · subst eσ
    have hx : 97 ≤ x ∧ x ≤ 122 := by
      have h1 : x ∈ l := List.mem_of_mem_take (show x ∈ l.take m by rw [e]; simp)
      have h2 := pl.mem_iff.mp h1
      simp at h2
      omega
    have hl : ss.length < 27 := by
      have h1 := congrArg List.length hh
      have h2 := congrArg List.length e
      simp at h1 h2; omega
    walk_at "go"
    refine me_append q1 ?_
    refine a_cons' ?_
    refine sp_name p x hn hc rfl rfl (by simp) hx pp fun s S5 hs hsok ⟨k5, p5⟩ => ?_
    walk_at "go"
    have r1 := at_ne k5 q1 (by omega)
    have r2 := at_ne k5 q2 (by omega)
    refine md_append r1 (by rw [List.length_map, sizeLine_eq]; omega) ?_
    refine ⟨_, _, ss ++ [s], rfl, ?_, at_set_ne r2 (by omega), ?_, ?_, (kk.trans k5).put (Nat.le_refl _) _, ?_⟩
    · rw [at_set r1]; simp
    · rw [List.map_append, List.map_append, hh]; simp [hs]
    · intro z hz
      rcases List.mem_append.mp hz with q | q
      · exact hok z q
      · rw [List.mem_singleton.mp q]; exact hsok
    · obtain ⟨a, m, c, e4⟩ := p5
      exact ⟨a, m, c, at_set_ne e4 (by omega)⟩
  · subst eσ
    walk_at "go"
    have hnd : ss.Nodup := by
      have h1 : (l.take m).Nodup := (List.take_sublist m l).nodup (pl.nodup_iff.mpr (by decide))
      have h2 : ((l.take m).map some).Nodup := List.Pairwise.map _ (fun a b h e => h (Option.some.inj e)) h1
      rw [← hh] at h2
      exact List.Pairwise.imp (fun h e => h (by rw [e])) (List.pairwise_map.mp h2)
    have hlen : ss.length = m := by
      have h1 := congrArg List.length hh
      simp at h1; omega
    exact k _ _ ⟨_, ss, rfl, q1, hlen, hok, hnd, by omega, kk, pp⟩
/-! ### boards -/
theorem rise_of : ∀ (ss : List Str), ss.Nodup → PyProof.Rows.sortedS ss = true → Rise ss
  | [], _, _ => fun i h => by simp at h
  | x :: r, hn, hs => by
    have key : ∀ (r : List Str) (x : Str), (x :: r).Nodup → PyProof.Rows.risingS x r = true → Rise (x :: r) := by
      intro r
      induction r with
      | nil => intro x _ _ i h; simp at h
      | cons y r ih =>
        intro x hn hs i h
        unfold PyProof.Rows.risingS at hs
        rw [Bool.and_eq_true, Bool.not_eq_true', PyProof.Rows.ltCps_eq, decide_eq_false_iff_not] at hs
        have hn2 := List.nodup_cons.mp hn
        cases i with
        | zero =>
          have h1 : x.cps.toList ≤ y.cps.toList := List.not_lt.mp hs.1
          rcases List.le_iff_lt_or_eq.mp h1 with h2 | h2
          · exact h2
          · exact absurd (show x ∈ y :: r by rw [Str.ext' (Array.toList_inj.mp h2)]; exact List.mem_cons_self) hn2.1
        | succ i => exact ih y hn2.2 hs.2 i (by simpa using h)
    exact key r x hn hs
theorem sort_strs {S : Store} {Q : KD} {n : Nat} {ss : List Str} (hn : S[n]? = some (.lst (ss.map .str))) (hl : ss.length < 64) (k : ∀ ys : List Str, ys.Perm ss → PyProof.Rows.sortedS ys = true → Q (.loc S.length) (S ++ [.lst (ys.map .str)])) : biD .sorted [.loc n] S Q := by
  have h1 : lstD S (.loc n) = some (ss.map .str) := by simp only [lstD, seqD, hn]
  unfold biD
  simp only [h1, strsD_map]
  exact ⟨hl, k⟩

theorem cut_to {xs : List D} {m : Nat} : cutD xs none (some (m : Int)) = xs.take m := by
  unfold cutD
  rw [HT.sIx_none, HT.sIx_nat, List.drop_zero, Nat.sub_zero, Nat.min_def]
  split
  · rfl
  · rw [List.take_of_length_le (Nat.le_refl _), List.take_of_length_le (by omega)]
theorem cut_mid {xs : List D} {l m : Nat} (h : l + m ≤ xs.length) : cutD xs (some (l : Int)) (some ((l + m : Nat) : Int)) = (xs.drop l).take m := by
  unfold cutD
  rw [HT.sIx_nat, HT.sIx_nat, Nat.min_eq_left h, Nat.min_eq_left (by omega)]
  congr 1; omega
theorem sp_law_board (p P R hi : Nat) (hP : 1 ≤ P ∧ P ≤ 5) (hR : 1 ≤ R ∧ R ≤ 5) (hh : hi ≤ 99) {S : Store} (hp : PailOk S p) :
    GivesAt fns 4 i_law_board [.loc p, .int P, .int R, .int hi] S fun d S' => ∃ b : Bd, d = b.d ∧ BdOk b ∧ b.k = .key ∧ b.kc = .kn ∧ b.pits.length ≤ P ∧ b.sites.length ≤ R ∧ PK p S S' := GivesAt.of (T0 := t_law_board) rfl rfl fun n hn hc Q X k => by
  unfold t_law_board
  walk_at "en"
  walk_at "go"
  refine sp_law_names p (P + R) (by omega) hp n (by omega) _ _ fun d S1 ⟨f, ss, ed, hf, hl, hok, hnd, hfl, k1, p1⟩ => ?_
  subst ed
  walk_at "go"
  refine sp_law_deal p P (by omega) (by omega) p1 n (by omega) _ _ fun d S2 ⟨r1, e1, r1a, r1b, k2, p2⟩ => ?_
  subst e1
  walk_at "go"
  refine sp_law_deal p R (by omega) (by omega) p2 n (by omega) _ _ fun d S3 ⟨r2, e2, r2a, r2b, k3, p3⟩ => ?_
  subst e2
  have hpl := hp.lt
  obtain ⟨a, ha, rfl⟩ : ∃ a : Nat, a < P ∧ r1 = a := ⟨r1.toNat, by omega, by omega⟩
  obtain ⟨c, hcR, rfl⟩ : ∃ a : Nat, a < R ∧ r2 = a := ⟨r2.toNat, by omega, by omega⟩
  have k03 := (k1.trans k2).trans k3
  have hf3 := at_ne k3 (at_ne k2 hf (by omega)) (by omega)
  refine b_addI ?_
  rw [show (1 : Int) + (a : Int) = ((1 + a : Nat) : Int) by omega, show (1 : Int) + (c : Int) = ((1 + c : Nat) : Int) by omega]
  walk_at "go"
  refine ⟨by unfold small62; omega, ?_⟩
  unfold rangeD
  have hfl3 := lt_of_at hf3
  refine for_map hc (fun i : Nat => D.int (0 + (i : Int))) _ (fun pre σ S' => ∃ t u, ∃ rs : List (TK × List Int), σ = [some (.loc p), some (.int (1 + a : Nat)), some (.int (1 + c : Nat)), some (.int hi), some (.loc f), some (.loc S3.length), t, u] ∧ S'[f]? = some (.lst (ss.map .str)) ∧ S'[S3.length]? = some (.lst (rs.map rowD)) ∧ rs.length = pre.length ∧ (∀ r ∈ rs, r.2.length = 1 + c) ∧ (∀ r ∈ rs, ∀ v ∈ r.2, 0 ≤ v ∧ v ≤ 99) ∧ PK p S S')
    ⟨_, _, [], rfl, at_add hf3, at_new, rfl, by simp, by simp, k03.add _, p3.keep (.new _ _ _)⟩ (fun _ _ _ _ => gd_nil) (fun pre x post σ S' e ⟨t, u, rs, eσ, q1, q2, hlen, hw, hv, kk, pp⟩ => ?_) fun σ S' ⟨t, u, rs, eσ, q1, q2, hlen, hw, hv, kk, pp⟩ => ?_
  · subst eσ
    have hlx := congrArg List.length e
    simp at hlx
    walk_at "go"
    refine me_append q2 ?_
    walk_at "go"
    refine e_lc hc ?_
    walk_at "go"
    refine ⟨by unfold small62; omega, ?_⟩
    refine ⟨_, fun i : Nat => D.int (0 + (i : Int)), List.range (((1 + c : Nat) : Int) - 0).toNat, fun pre2 acc S2 => ∃ is : List Int, acc = is.map .int ∧ is.length = pre2.length ∧ (∀ v ∈ is, 0 ≤ v ∧ v ≤ 99) ∧ S2[f]? = some (.lst (ss.map .str)) ∧ S2[S3.length]? = some (.lst (rs.map rowD)) ∧ PK p S S2, rfl, ⟨[], rfl, rfl, by simp, at_add q1, at_add q2, kk.add _, pp.keep (.new _ _ _)⟩, fun _ _ _ _ => gd_nil, fun pre2 y post2 acc S2 e2 ⟨is, ea, il, iv, u1, u2, u3, u4⟩ hS2 => ?_, fun acc S2 ⟨is, ea, il, iv, u1, u2, u3, u4⟩ hS2 => ?_⟩
    · have hly := congrArg List.length e2
      simp at hly
      walk_at "go"
      have hpS := pp.lt
      have hqS := lt_of_at q2
      have hfS := lt_of_at q1
      refine sp_law_deal p (hi + 1) (by omega) (by omega) u4 n (by omega) _ _ fun d S5 ⟨r, er, ra, rb, k5, p5⟩ => ?_
      subst er
      refine ⟨at_ne k5 hS2 (by omega), by rw [ea, List.length_map, sizeLine_eq]; omega, is ++ [r], by rw [ea]; simp, by simp [il], ?_, at_set_ne (at_ne k5 u1 (by omega)) (by omega), at_set_ne (at_ne k5 u2 (by omega)) (by omega), (u3.trans k5).put (by have := kk.n; omega) _, ?_⟩
      · intro v hv
        rcases List.mem_append.mp hv with q | q
        · exact iv v q
        · rw [List.mem_singleton.mp q]; exact ⟨ra, by omega⟩
      · obtain ⟨x1, x2, x3, e4⟩ := p5
        exact ⟨x1, x2, x3, at_set_ne e4 (by omega)⟩
    · walk_at "go"
      refine tup_list hS2 ?_
      walk_at "go"
      refine md_append u2 (by rw [List.length_map, sizeLine_eq]; omega) ?_
      have hqS := k03.n
      refine ⟨_, _, rs ++ [(.kn, is)], rfl, at_set_ne u1 (by omega), ?_, by simp [hlen], ?_, ?_, u3.put (by omega) _, ?_⟩
      · rw [at_set u2, ea]; simp
      · intro r hr
        rcases List.mem_append.mp hr with q | q
        · exact hw r q
        · rw [List.mem_singleton.mp q]; show is.length = 1 + c; rw [List.length_range] at il; omega
      · intro r hr
        rcases List.mem_append.mp hr with q | q
        · exact hv r q
        · rw [List.mem_singleton.mp q]; exact iv
      · obtain ⟨x1, x2, x3, e4⟩ := u4
        exact ⟨x1, x2, x3, at_set_ne e4 (by omega)⟩
  · subst eσ
    rw [List.length_range] at hlen
    walk_at "go"
    refine sl_lst q1 ?_
    rw [cut_to, ← List.map_take]
    walk_at "go"
    refine sort_strs at_new (by rw [List.length_take]; omega) fun ys1 pm1 so1 => ?_
    walk_at "go"
    refine tup_list at_new ?_
    have g1 : (S' ++ [Cell.lst ((ss.take (1 + a)).map .str)] ++ [Cell.lst (ys1.map .str)])[f]? = some (.lst (ss.map .str)) := at_add (at_add q1)
    have g2 : (S' ++ [Cell.lst ((ss.take (1 + a)).map .str)] ++ [Cell.lst (ys1.map .str)])[S3.length]? = some (.lst (rs.map rowD)) := at_add (at_add q2)
    have g3 : Keep [p] S (S' ++ [Cell.lst ((ss.take (1 + a)).map .str)] ++ [Cell.lst (ys1.map .str)]) := (kk.add _).add _
    have g4 : PailOk (S' ++ [Cell.lst ((ss.take (1 + a)).map .str)] ++ [Cell.lst (ys1.map .str)]) p := (pp.keep (.new _ _ _)).keep (.new _ _ _)
    generalize S' ++ [Cell.lst ((ss.take (1 + a)).map .str)] ++ [Cell.lst (ys1.map .str)] = S6 at g1 g2 g3 g4 ⊢
    walk_at "go"
    refine sl_lst g1 ?_
    rw [show ((1 + a : Nat) : Int) + ((1 + c : Nat) : Int) = ((1 + a + (1 + c) : Nat) : Int) by omega, cut_mid (by rw [List.length_map]; omega), ← List.map_drop, ← List.map_take]
    walk_at "go"
    refine sort_strs at_new (by rw [List.length_take]; omega) fun ys2 pm2 so2 => ?_
    walk_at "go"
    refine tup_list at_new ?_
    walk_at "go"
    refine tup_list (at_add (at_add g2)) ?_
    walk_at "go"
    have hsub1 : ∀ s ∈ ys1, s ∈ ss.take (1 + a) := fun s h => pm1.mem_iff.mp h
    have hsub2 : ∀ s ∈ ys2, s ∈ ss.drop (1 + a) := fun s h => List.mem_of_mem_take (pm2.mem_iff.mp h)
    have l1 : ys1.length = 1 + a := by rw [pm1.length_eq, List.length_take]; omega
    have l2 : ys2.length = 1 + c := by rw [pm2.length_eq, List.length_take, List.length_drop]; omega
    have n1 : ys1.Nodup := pm1.nodup_iff.mpr ((List.take_sublist _ _).nodup hnd)
    have n2 : ys2.Nodup := pm2.nodup_iff.mpr ((List.take_sublist _ _).nodup ((List.drop_sublist _ _).nodup hnd))
    refine k _ _ ⟨⟨.key, .kn, ys1, ys2, rs⟩, rfl, ?_, rfl, rfl, by show ys1.length ≤ _; omega, by show ys2.length ≤ _; omega, (g3.add _).add _, (g4.keep (.new _ _ _)).keep (.new _ _ _)⟩
    exact {
      p1 := by show 1 ≤ ys1.length; omega
      p5 := by show ys1.length ≤ 5; omega
      s1 := by show 1 ≤ ys2.length; omega
      s5 := by show ys2.length ≤ 5; omega
      pn := fun s h => hok s (List.mem_of_mem_take (hsub1 s h))
      sn := fun s h => hok s (List.mem_of_mem_drop (hsub2 s h))
      pr := rise_of _ n1 so1
      sr := rise_of _ n2 so2
      dj := fun s h1 h2 => by
        have h3 : (ss.take (1 + a) ++ ss.drop (1 + a)).Nodup := by rw [List.take_append_drop]; exact hnd
        exact (List.nodup_append.mp h3).2.2 s (hsub1 s h1) s (hsub2 s h2) rfl
      rl := by show rs.length = ys1.length; omega
      rw := fun r h => by rw [hw r h]; exact l2.symm
      rc := hv }
def prN : D → Str × Str
  | .tup _ [.str a, .str b] => (a, b)
  | _ => ("", "")
theorem fm_len (ps ss : List Str) : (ps.flatMap fun p => ss.map fun s => (p, s)).length = ps.length * ss.length := by
  induction ps with
  | nil => simp
  | cons a l ih => rw [List.flatMap_cons, List.length_append, ih, List.length_cons, List.length_map, Nat.succ_mul, Nat.add_comm]
theorem sp_law_pairs (b : Bd) (hb : BdOk b) {S : Store} : GivesAt fns 1 i_law_pairs [b.d] S fun d S' => ∃ f, d = .loc f ∧ S'[f]? = some (.lst ((prs b).map prD)) ∧ S.length ≤ f ∧ Keep [] S S' := GivesAt.of (T0 := t_law_pairs) rfl rfl fun n hn hc Q X k => by
  unfold t_law_pairs
  have h5 := hb.p5
  have g5 := hb.s5
  walk_at "en"
  walk_at "go"
  refine for_map hc D.str b.pits (fun pre σ S' => ∃ t u f, σ = [some b.d, some (.loc f), t, u] ∧ S'[f]? = some (.lst ((pre.flatMap fun p => b.sites.map fun s => (p, s)).map prD)) ∧ S.length ≤ f ∧ Keep [] S S') ⟨_, _, S.length, rfl, at_new, Nat.le_refl _, .new _ _ _⟩ (fun _ _ _ _ => gd_nil) (fun pre x post σ S' e ⟨t, u, f, eσ, q1, q2, kk⟩ => ?_) fun σ S' ⟨t, u, f, eσ, q1, q2, kk⟩ => ?_
  · subst eσ
    have hlx := congrArg List.length e
    simp at hlx
    walk_at "go"
    refine e_lcP hc ?_
    walk_at "go"
    refine ⟨_, D.str, b.sites, fun s => some (prD (x, s)), rfl, gd_nil, by rw [sizeLine_eq]; omega, fun s hs S2 k2 => ?_, fun S2 k2 hS2 => ?_⟩
    · walk_at "go"
      exact ⟨rfl, .r⟩
    · walk_at "go"
      refine b_addL (k2.at q1) hS2 ?_ ?_
      · have h1 : ((pre.flatMap fun p => b.sites.map fun s => (p, s)).map prD).length = pre.length * b.sites.length := by
          rw [List.length_map]; exact fm_len pre b.sites
        have h2 : pre.length * b.sites.length ≤ 5 * 5 := Nat.mul_le_mul (by omega) g5
        rw [h1, List.filterMap_eq_map', List.length_map, sizeLine_eq]; omega
      refine g_var' ?_
      walk_at "go"
      refine ⟨_, _, S2.length, rfl, ?_, by have := kk.n; have := k2.n; omega, (kk.trans k2).add _⟩
      rw [at_new, List.filterMap_eq_map', List.flatMap_append, List.map_append]
      simp
  · subst eσ
    walk_at "go"
    exact k _ _ ⟨f, rfl, q1, q2, kk⟩
theorem sp_law_order (p : Nat) (b : Bd) (hb : BdOk b) {S : Store} (hp : PailOk S p) : GivesAt fns 3 i_law_order [.loc p, b.d] S fun d S' => ∃ o, d = .tup .kn (o.map prD) ∧ OrdOk b o ∧ PK p S S' := GivesAt.of (T0 := t_law_order) rfl rfl fun n hn hc Q X k => by
  unfold t_law_order
  have hpl := hp.lt
  walk_at "en"
  walk_at "go"
  refine sp_law_pairs b hb n (by omega) _ _ fun d S1 ⟨f, ed, hf, hfl, k1⟩ => ?_
  subst ed
  walk_at "go"
  have hl : ((prs b).map prD).length ≤ 25 := by rw [List.length_map]; exact OrdOk.len25 hb (.refl _)
  refine sp_law_shuffled p f _ (by omega) (hp.keep k1) hf (by omega) n (by omega) _ _ fun d S2 ⟨g, ys, ed, hg, pm, hgl, k2, p2⟩ => ?_
  subst ed
  obtain ⟨o, po, ey⟩ := perm_map (g := prN) (fun a _ => rfl) pm
  subst ey
  walk_at "go"
  refine tup_list hg ?_
  exact k _ _ ⟨o, rfl, po, k1.any.trans k2, p2⟩
/-! ### the law's own filling -/
theorem at_ix {ss : List Str} {x : Str} (h : x ∈ ss) (f : Str → D) : L2.atI (ss.map f) ((ix ss x : Nat) : Int) = some (f x) := L2.atI_nat (by rw [List.getElem?_map, (ix_at h).2]; rfl)
theorem ixN_ix {ss : List Str} {x : Str} (h : x ∈ ss) (f : Str → D) : L2.ixN (ss.map f).length ((ix ss x : Nat) : Int) = some (ix ss x) := by
  have := ixN_int (n := (ss.map f).length) (r := (ix ss x : Nat)) (by omega) (by have := ix_lt h; rw [List.length_map]; omega)
  rwa [Int.toNat_natCast] at this
theorem nodup_get {α : Type} {l : List α} (h : l.Nodup) {i j : Nat} (hi : i < l.length) (hj : j < l.length) (e : l[i] = l[j]) : i = j := by
  have h1 := List.pairwise_iff_getElem.mp h
  rcases Nat.lt_trichotomy i j with z | z | z
  · exact absurd e (h1 i j hi hj z)
  · exact z
  · exact absurd e.symm (h1 j i hj hi z)
theorem set_map {ss : List Str} (hn : ss.Nodup) {x : Str} (h : x ∈ ss) (f : Str → Int) (v : Int) : (ss.map fun q => D.int (f q)).set (ix ss x) (.int v) = ss.map fun q => D.int (up f x v q) := by
  apply List.ext_getElem
  · simp
  · intro i h1 h2
    simp at h1 h2
    rw [List.getElem_set, List.getElem_map]
    by_cases e : ix ss x = i
    · have e2 := (ix_at h).2
      rw [e, List.getElem?_eq_getElem h2] at e2
      rw [if_pos e, List.getElem_map, Option.some.inj e2, up_same]
    · rw [if_neg e, List.getElem_map, up_ne]
      intro z
      have hx := ix_lt h
      have e2 := (ix_at h).2
      rw [List.getElem?_eq_getElem hx] at e2
      exact e (nodup_get hn hx h1 (by rw [Option.some.inj e2, z]))
theorem lk_map {ks : List Str} {vs : List Int} (hn : ks.Nodup) (hl : vs.length = ks.length) : vs.map D.int = ks.map fun k => D.int (lk ks vs k) := by
  apply List.ext_getElem
  · simp [hl]
  · intro i h1 h2
    simp at h1 h2
    rw [List.getElem_map, List.getElem_map, lk_get h2 h1 hn]
theorem lval_snoc {led : List (Str × Str × Int)} {p s : Str} {m : Int} (h : (p, s) ∉ led.map fun t => (t.1, t.2.1)) (p' s' : Str) : lval (led ++ [(p, s, m)]) p' s' = if (p', s') = (p, s) then m else lval led p' s' := by
  unfold lval
  rw [List.find?_append]
  by_cases e : (p', s') = (p, s)
  · rw [if_pos e]
    have h0 : led.find? (fun t => decide ((t.1, t.2.1) = (p', s'))) = none := by
      rw [List.find?_eq_none]
      intro t ht z
      exact h (List.mem_map.mpr ⟨t, ht, by rw [← e]; exact of_decide_eq_true z⟩)
    rw [h0]
    simp [List.find?, e]
  · rw [if_neg e]
    have h1 : ([(p, s, m)] : List (Str × Str × Int)).find? (fun t => decide ((t.1, t.2.1) = (p', s'))) = none := by
      rw [List.find?_eq_none]
      intro t ht z
      rw [List.mem_singleton.mp ht] at z
      exact e (of_decide_eq_true z).symm
    rw [h1, Option.or_none]

theorem sp_law_fill (b : Bd) (hb : BdOk b) (kk ka k1 k2 : TK) (o : List (Str × Str)) (ho : OrdOk b o) (st nd : List Int) (hs : st.length = b.pits.length) (hn2 : nd.length = b.sites.length) :
    Gives fns 1 i_law_fill [b.d, .tup kk (o.map prD), .tup ka [.tup k1 (st.map .int), .tup k2 (nd.map .int)]] (.tup .kn ((planR b (lval (fillF o (lk b.pits st) (lk b.sites nd)).led)).map rowD)) := Gives.of (T0 := t_law_fill) rfl rfl fun n hn hc S Q X k => by
  unfold t_law_fill
  have h5 := hb.p5
  have g5 := hb.s5
  have hpn := rise_nodup hb.pr
  have hsn := rise_nodup hb.sr
  have hond := ho.nd hb
  have ol := ho.len25 hb
  rw [lk_map hpn hs, lk_map hsn hn2]
  generalize hF1 : lk b.pits st = F1
  generalize hF2 : lk b.sites nd = F2
  rw [hF1, hF2] at k
  walk_at "en"
  walk_at "go"
  refine list_tup (by rw [List.length_map, sizeLine_eq]; omega) ?_
  walk_at "go"
  refine list_tup (by rw [List.length_map, sizeLine_eq]; omega) ?_
  have a1 : (S ++ [Cell.lst (b.pits.map fun q => .int (F1 q))] ++ [Cell.lst (b.sites.map fun q => .int (F2 q))])[S.length]? = some (.lst (b.pits.map fun q => .int (F1 q))) := at_add at_new
  have a2 : (S ++ [Cell.lst (b.pits.map fun q => .int (F1 q))] ++ [Cell.lst (b.sites.map fun q => .int (F2 q))])[S.length + 1]? = some (.lst (b.sites.map fun q => .int (F2 q))) := by rw [show S.length + 1 = (S ++ [Cell.lst (b.pits.map fun q => D.int (F1 q))]).length by simp]; exact at_new
  have aK : Keep [] S (S ++ [Cell.lst (b.pits.map fun q => .int (F1 q))] ++ [Cell.lst (b.sites.map fun q => .int (F2 q))]) := (Keep.new _ _ _).add _
  have aL : (S ++ [Cell.lst (b.pits.map fun q => .int (F1 q))] ++ [Cell.lst (b.sites.map fun q => .int (F2 q))]).length = S.length + 2 := by simp
  rw [show (S ++ [Cell.lst (b.pits.map fun q => D.int (F1 q))]).length = S.length + 1 by simp]
  generalize S ++ [Cell.lst (b.pits.map fun q => .int (F1 q))] ++ [Cell.lst (b.sites.map fun q => .int (F2 q))] = S1 at a1 a2 aK aL ⊢
  walk_at "go"
  refine e_lc hc ?_
  walk_at "go"
  refine ⟨_, D.str, b.pits, fun pre acc S' => ∃ r : Str → Nat, acc = pre.map (fun p => .loc (r p)) ∧ (∀ p ∈ pre, ∀ q ∈ pre, r p = r q → p = q) ∧ (∀ p ∈ pre, S.length + 3 ≤ r p ∧ S'[r p]? = some (.lst (b.sites.map fun _ => .int 0))) ∧ S'[S.length]? = some (.lst (b.pits.map fun q => .int (F1 q))) ∧ S'[S.length + 1]? = some (.lst (b.sites.map fun q => .int (F2 q))) ∧ Keep [] S S' ∧ S.length + 3 ≤ S'.length, rfl,
    ⟨fun _ => 0, rfl, by simp, by simp, at_add a1, at_add a2, aK.add _, by simp [aL]⟩, fun _ _ _ _ => gd_nil, fun pre x post acc S2 e ⟨r, ea, rj, rc, q1, q2, kk2, hl⟩ hS2 => ?_, fun acc S2 ⟨r, ea, rj, rc, q1, q2, kk2, hl⟩ hS2 => ?_⟩
  · walk_at "go"
    refine b_mulL (xs := [.int 0]) at_new ?_ ?_ ?_
    · simp [sizeLine_eq]; omega
    · unfold small62; simp; omega
    have hx : x ∉ pre := by
      have h1 := hpn
      rw [e] at h1
      exact fun h => (List.nodup_append.mp h1).2.2 x h x List.mem_cons_self rfl
    have hacc : acc.length < sizeLine := by
      have := congrArg List.length e
      simp at this
      rw [ea, List.length_map, sizeLine_eq]; omega
    have eR : (List.replicate (((b.sites.map D.str).length : Nat) : Int).toNat [D.int 0]).flatten = b.sites.map fun _ => D.int 0 := by
      rw [Int.toNat_natCast, List.length_map, List.flatten_replicate_singleton, List.map_const']
    rw [eR]
    have z1 : (S2 ++ [Cell.lst [D.int 0]]).length = S2.length + 1 := by simp
    rw [z1]
    refine ⟨at_add (at_add hS2), hacc, up r x (S2.length + 1), ?_, ?_, ?_, at_set_ne (at_add (at_add q1)) (by omega), at_set_ne (at_add (at_add q2)) (by omega), ((kk2.add _).add _).put (by omega) _, by simp; omega⟩
    · rw [ea, List.map_append]
      refine congr (congrArg _ (List.map_congr_left fun p hp => ?_)) ?_
      · rw [up_ne (fun z => hx (by rw [← z]; exact hp))]
      · simp [up]
    · have hlt : ∀ p ∈ pre, r p < S2.length := fun p hp => lt_of_at (rc p hp).2
      intro p hp q hq ee
      rcases List.mem_append.mp hp with hp | hp <;> rcases List.mem_append.mp hq with hq | hq
      · rw [up_ne (fun z => hx (by rw [← z]; exact hp)), up_ne (fun z => hx (by rw [← z]; exact hq))] at ee
        exact rj p hp q hq ee
      · rw [List.mem_singleton.mp hq, up_same, up_ne (fun z => hx (by rw [← z]; exact hp))] at ee
        have := hlt p hp; omega
      · rw [List.mem_singleton.mp hp, up_same, up_ne (fun z => hx (by rw [← z]; exact hq))] at ee
        have := hlt q hq; omega
      · rw [List.mem_singleton.mp hp, List.mem_singleton.mp hq]
    · intro p hp
      rcases List.mem_append.mp hp with hp | hp
      · rw [up_ne (fun z => hx (by rw [← z]; exact hp))]
        have h1 := rc p hp
        exact ⟨h1.1, at_set_ne (at_add (at_add h1.2)) (by omega)⟩
      · rw [List.mem_singleton.mp hp, up_same]
        refine ⟨by omega, at_set_ne ?_ (by have := lt_of_at hS2; omega)⟩
        rw [← z1]; exact at_new
  · have eq : S1.length = S.length + 2 := aL
    rw [eq] at hS2 ⊢
    subst ea
    walk_at "go"
    refine for_map hc prD o (fun pre σ S' => (∃ t1 t2 t3 t4 t5 t6, σ = [some b.d, some (.tup kk (o.map prD)), some (.tup ka [.tup k1 (b.pits.map fun q => .int (F1 q)), .tup k2 (b.sites.map fun q => .int (F2 q))]), some (.loc S.length), some (.loc (S.length + 1)), some (.loc (S.length + 2)), t1, t2, t3, t4, t5, t6]) ∧
      S'[S.length]? = some (.lst (b.pits.map fun q => .int ((fillF pre F1 F2).st q))) ∧ S'[S.length + 1]? = some (.lst (b.sites.map fun q => .int ((fillF pre F1 F2).nd q))) ∧ S'[S.length + 2]? = some (.lst (b.pits.map fun p => .loc (r p))) ∧
      (∀ p ∈ b.pits, S'[r p]? = some (.lst (b.sites.map fun s => .int (lval (fillF pre F1 F2).led p s)))) ∧ Keep [] S S') ⟨⟨_, _, _, _, _, _, rfl⟩, q1, q2, hS2, fun p hp => (rc p hp).2, kk2⟩ (fun _ _ _ _ => gd_nil) (fun pre x post σ S' e ⟨⟨t1, t2, t3, t4, t5, t6, eσ⟩, u1, u2, u3, u4, u5⟩ => ?_) fun σ S' ⟨⟨t1, t2, t3, t4, t5, t6, eσ⟩, u1, u2, u3, u4, u5⟩ => ?_
    · subst eσ
      have hx := ho.mem (show x ∈ o by rw [e]; simp)
      have hnew : x ∉ (fillF pre F1 F2).led.map fun t => (t.1, t.2.1) := by
        rw [fillF_led]
        have h1 := hond
        rw [e] at h1
        exact fun h => (List.nodup_append.mp h1).2.2 x h x List.mem_cons_self rfl
      rw [fillF_snoc]
      generalize fillF pre F1 F2 = F at u1 u2 u3 u4 hnew ⊢
      walk_at "go"
      refine md_index (ix_at hx.1).1 ?_
      walk_at "go"
      refine md_index (ix_at hx.2).1 ?_
      walk_at "go"
      refine sub_lst u1 (at_ix hx.1 _) ?_
      walk_at "go"
      refine sub_lst u2 (at_ix hx.2 _) ?_
      walk_at "go"
      refine sub_lst u1 (at_ix hx.1 _) ?_
      walk_at "go"
      refine sub_lst u2 (at_ix hx.2 _) ?_
      walk_at "go"
      refine sub_lst u3 (at_ix hx.1 _) ?_
      walk_at "go"
      have hr3 := (rc x.1 hx.1).1
      refine st_lst (u4 x.1 hx.1) (ixN_ix hx.2 _) ?_
      rw [set_map hsn hx.2]
      have w1 := at_set_ne (c := .lst (b.sites.map fun q => D.int (up (lval F.led x.1) x.2 (min (F.st x.1) (F.nd x.2)) q))) u1 (show r x.1 ≠ S.length by omega)
      have w2 := at_set_ne (c := .lst (b.sites.map fun q => D.int (up (lval F.led x.1) x.2 (min (F.st x.1) (F.nd x.2)) q))) u2 (show r x.1 ≠ S.length + 1 by omega)
      have w3 := at_set_ne (c := .lst (b.sites.map fun q => D.int (up (lval F.led x.1) x.2 (min (F.st x.1) (F.nd x.2)) q))) u3 (show r x.1 ≠ S.length + 2 by omega)
      have w4 : ∀ p ∈ b.pits, (S'.set (r x.1) (.lst (b.sites.map fun q => D.int (up (lval F.led x.1) x.2 (min (F.st x.1) (F.nd x.2)) q))))[r p]? = some (.lst (b.sites.map fun s => .int (lval (F.led ++ [(x.1, x.2, min (F.st x.1) (F.nd x.2))]) p s))) := by
        intro p hp
        by_cases ep : p = x.1
        · subst ep
          rw [at_set (u4 _ hp)]
          refine congrArg some (congrArg Cell.lst (List.map_congr_left fun s _ => ?_))
          rw [lval_snoc hnew]
          unfold up
          by_cases es : s = x.2
          · rw [if_pos es, if_pos (by rw [es])]
          · rw [if_neg es, if_neg (fun z => es (Prod.mk.inj z).2)]
        · rw [at_set_ne (u4 p hp) (fun z => ep (rj x.1 hx.1 p hp z).symm)]
          refine congrArg some (congrArg Cell.lst (List.map_congr_left fun s _ => ?_))
          rw [lval_snoc hnew, if_neg (fun z => ep (Prod.mk.inj z).1)]
      have w5 := u5.put (n := r x.1) (by omega) (.lst (b.sites.map fun q => D.int (up (lval F.led x.1) x.2 (min (F.st x.1) (F.nd x.2)) q)))
      generalize S'.set (r x.1) _ = S3 at w1 w2 w3 w4 w5 ⊢
      walk_at "go"
      refine st_lst w1 (ixN_ix hx.1 _) ?_
      rw [set_map hpn hx.1]
      walk_at "go"
      refine st_lst (at_set_ne w2 (by omega)) (ixN_ix hx.2 _) ?_
      rw [set_map hsn hx.2]
      walk_at "go"
      refine ⟨⟨_, _, _, _, _, _, rfl⟩, at_set_ne (at_set w1) (by omega), at_set (at_set_ne w2 (by omega)), at_set_ne (at_set_ne w3 (by omega)) (by omega), fun p hp => ?_, (w5.put (Nat.le_refl _) _).put (by omega) _⟩
      have hr4 := (rc p hp).1
      exact at_set_ne (at_set_ne (w4 p hp) (by omega)) (by omega)
    · subst eσ
      walk_at "go"
      refine e_lcP hc ?_
      walk_at "go"
      refine src_lst u3 ?_
      refine ⟨_, fun p => .loc (r p), b.pits, fun p => some (rowD (.kn, b.sites.map fun s => lval (fillF o F1 F2).led p s)), rfl, gd_one u3, by rw [sizeLine_eq]; omega, fun p hp S4 k4 => ?_, fun S4 k4 hS4 => ?_⟩
      · walk_at "go"
        refine tup_list (k4.at (u4 p hp)) ?_
        exact ⟨by simp [rowD], .r⟩
      · walk_at "go"
        refine tup_list hS4 ?_
        walk_at "go"
        have := k S4 (u5.trans k4)
        rw [List.filterMap_eq_map']
        rw [List.map_map] at this
        exact this
/-! ### amounts -/
theorem sum_set : ∀ (l : List Int) (i : Nat) (h : i < l.length) (v : Int), (l.set i v).sum = l.sum - l[i] + v
  | a :: l, 0, _, v => by simp [List.sum_cons]; omega
  | a :: l, i + 1, h, v => by
    have ih := sum_set l i (by simpa using h) v
    simp only [List.set_cons_succ, List.sum_cons, List.getElem_cons_succ]
    rw [ih]; omega
theorem sum_nonneg : ∀ (l : List Int), (∀ v ∈ l, 0 ≤ v) → 0 ≤ l.sum
  | [], _ => by simp
  | a :: l, h => by
    have := sum_nonneg l fun v hv => h v (List.mem_cons_of_mem _ hv)
    have := h a List.mem_cons_self
    rw [List.sum_cons]; omega
theorem le_sum : ∀ (l : List Int), (∀ v ∈ l, 0 ≤ v) → ∀ v ∈ l, v ≤ l.sum
  | a :: l, h, v, hv => by
    have h0 := sum_nonneg l fun v hv => h v (List.mem_cons_of_mem _ hv)
    have h1 := h a List.mem_cons_self
    rw [List.sum_cons]
    rcases List.mem_cons.mp hv with e | hv
    · omega
    · have := le_sum l (fun v hv => h v (List.mem_cons_of_mem _ hv)) v hv
      omega
/-- amounts: stocks and needs of one sum -/
structure AmtOk (b : Bd) (m : Nat) (st nd : List Int) : Prop where
  l1 : st.length = b.pits.length
  l2 : nd.length = b.sites.length
  n1 : ∀ v ∈ st, 0 ≤ v
  n2 : ∀ v ∈ nd, 0 ≤ v
  eq : st.sum = nd.sum
  le : st.sum ≤ m
theorem set_up {l : List Int} {i : Nat} (h : i < l.length) (hn : ∀ v ∈ l, 0 ≤ v) : ∀ v ∈ l.set i (l[i] + 1), 0 ≤ v := fun v hv => by
  rcases List.mem_or_eq_of_mem_set hv with q | q
  · exact hn v q
  · have := hn _ (List.getElem_mem h); omega
abbrev amtD (st nd : List Int) : D := .tup .key [.tup .kn (st.map .int), .tup .kn (nd.map .int)]
theorem rep0 (j : Nat) : (List.replicate ((j : Nat) : Int).toNat [D.int 0]).flatten = (List.replicate j (0 : Int)).map .int := by
  rw [Int.toNat_natCast, List.flatten_replicate_singleton, List.map_replicate]
theorem sum_rep0 : ∀ j : Nat, (List.replicate j (0 : Int)).sum = 0
  | 0 => rfl
  | j + 1 => by rw [List.replicate_succ, List.sum_cons, sum_rep0 j]; rfl
theorem at_ints {l : List Int} {i : Nat} (h : i < l.length) : L2.atI (l.map D.int) (i : Int) = some (.int l[i]) := L2.atI_nat (by rw [List.getElem?_map, List.getElem?_eq_getElem h]; rfl)
theorem sp_law_amounts (p m : Nat) (b : Bd) (hb : BdOk b) (hm : m ≤ 9) {S : Store} (hp : PailOk S p) : GivesAt fns 2 i_law_amounts [.loc p, b.d, .int m] S fun d S' => ∃ st nd, d = amtD st nd ∧ AmtOk b m st nd ∧ PK p S S' := GivesAt.of (T0 := t_law_amounts) rfl rfl fun n hn hc Q X k => by
  unfold t_law_amounts
  have h5 := hb.p5
  have g5 := hb.s5
  have h1 := hb.p1
  have g1 := hb.s1
  have hpl := hp.lt
  walk_at "en"
  walk_at "go"
  refine b_mulL (xs := [.int 0]) at_new ?_ ?_ ?_
  · simp [sizeLine_eq]; omega
  · unfold small62; simp; omega
  rw [rep0]
  walk_at "go"
  refine b_mulL (xs := [.int 0]) at_new ?_ ?_ ?_
  · simp [sizeLine_eq]; omega
  · unfold small62; simp; omega
  rw [rep0]
  rw [show (S ++ [Cell.lst [D.int 0]] ++ [Cell.lst ((List.replicate (b.pits.map D.str).length (0 : Int)).map .int)] ++ [Cell.lst [D.int 0]]).length = S.length + 3 by simp, show (S ++ [Cell.lst [D.int 0]]).length = S.length + 1 by simp]
  have a1 : (S ++ [Cell.lst [D.int 0]] ++ [Cell.lst ((List.replicate (b.pits.map D.str).length (0 : Int)).map .int)] ++ [Cell.lst [D.int 0]] ++ [Cell.lst ((List.replicate (b.sites.map D.str).length (0 : Int)).map .int)])[S.length + 1]? = some (.lst ((List.replicate (b.pits.map D.str).length (0 : Int)).map .int)) := by
    refine at_add (at_add ?_)
    rw [show S.length + 1 = (S ++ [Cell.lst [D.int 0]]).length by simp]; exact at_new
  have a2 : (S ++ [Cell.lst [D.int 0]] ++ [Cell.lst ((List.replicate (b.pits.map D.str).length (0 : Int)).map .int)] ++ [Cell.lst [D.int 0]] ++ [Cell.lst ((List.replicate (b.sites.map D.str).length (0 : Int)).map .int)])[S.length + 3]? = some (.lst ((List.replicate (b.sites.map D.str).length (0 : Int)).map .int)) := by
    rw [show S.length + 3 = (S ++ [Cell.lst [D.int 0]] ++ [Cell.lst ((List.replicate (b.pits.map D.str).length (0 : Int)).map .int)] ++ [Cell.lst [D.int 0]]).length by simp]; exact at_new
  have a3 : Keep [] S (S ++ [Cell.lst [D.int 0]] ++ [Cell.lst ((List.replicate (b.pits.map D.str).length (0 : Int)).map .int)] ++ [Cell.lst [D.int 0]] ++ [Cell.lst ((List.replicate (b.sites.map D.str).length (0 : Int)).map .int)]) := (((Keep.new _ _ _).add _).add _).add _
  rw [List.length_map] at a1 a2 a3 ⊢
  rw [List.length_map] at a1 a2 a3 ⊢
  generalize S ++ [Cell.lst [D.int 0]] ++ [Cell.lst ((List.replicate b.pits.length (0 : Int)).map .int)] ++ [Cell.lst [D.int 0]] ++ [Cell.lst ((List.replicate b.sites.length (0 : Int)).map .int)] = S1 at a1 a2 a3 ⊢
  have p1 := hp.keep a3
  walk_at "go"
  refine sp_law_deal p (m + 1) (by omega) (by omega) p1 n hn _ _ fun d S2 ⟨r, ed, ra, rb, k2, p2⟩ => ?_
  subst ed
  refine ⟨r, rfl, by unfold small62; omega, ?_⟩
  unfold rangeD
  refine for_map hc (fun i : Nat => D.int (0 + (i : Int))) _ (fun pre σ S' => ∃ t u v, ∃ st nd : List Int, σ = [some (.loc p), some b.d, some (.int m), t, some (.loc (S.length + 1)), some (.loc (S.length + 3)), u, v] ∧ S'[S.length + 1]? = some (.lst (st.map .int)) ∧ S'[S.length + 3]? = some (.lst (nd.map .int)) ∧ st.length = b.pits.length ∧ nd.length = b.sites.length ∧ (∀ v ∈ st, 0 ≤ v) ∧ (∀ v ∈ nd, 0 ≤ v) ∧ st.sum = pre.length ∧ nd.sum = pre.length ∧ PK p S S')
    ⟨_, _, _, List.replicate b.pits.length 0, List.replicate b.sites.length 0, rfl, at_ne k2 a1 (by omega), at_ne k2 a2 (by omega), by simp, by simp, by simp, by simp, sum_rep0 _, sum_rep0 _, a3.any.trans k2, p2⟩ (fun _ _ _ _ => gd_nil) (fun pre x post σ S' e ⟨t, u, v, st, nd, eσ, q1, q2, l1, l2, n1, n2, s1, s2, kk, pp⟩ => ?_) fun σ S' ⟨t, u, v, st, nd, eσ, q1, q2, l1, l2, n1, n2, s1, s2, kk, pp⟩ => ?_
  · subst eσ
    walk_at "go"
    refine len_lst q1 ?_
    walk_at "go"
    refine sp_law_deal p _ (by simp; omega) (by simp; omega) pp n hn _ _ fun d S3 ⟨r1, ed, r1a, r1b, k3, p3⟩ => ?_
    subst ed
    rw [List.length_map] at r1b
    have q13 := at_ne k3 q1 (by omega)
    have q23 := at_ne k3 q2 (by omega)
    walk_at "go"
    refine len_lst q23 ?_
    walk_at "go"
    refine sp_law_deal p _ (by simp; omega) (by simp; omega) p3 n hn _ _ fun d S4 ⟨r2, ed, r2a, r2b, k4, p4⟩ => ?_
    subst ed
    rw [List.length_map] at r2b
    have q14 := at_ne k4 q13 (by omega)
    have q24 := at_ne k4 q23 (by omega)
    obtain ⟨i, hi, rfl⟩ : ∃ i : Nat, i < st.length ∧ r1 = i := ⟨r1.toNat, by omega, by omega⟩
    obtain ⟨j, hj, rfl⟩ : ∃ i : Nat, i < nd.length ∧ r2 = i := ⟨r2.toNat, by omega, by omega⟩
    walk_at "go"
    refine sub_lst q14 (at_ints hi) ?_
    walk_at "go"
    refine sub_lst q24 (at_ints hj) ?_
    walk_at "go"
    refine st_lst q14 (ixN_int (by omega) (by rw [List.length_map]; omega)) ?_
    rw [Int.toNat_natCast]
    walk_at "go"
    refine st_lst (at_set_ne q24 (by omega)) (ixN_int (by omega) (by rw [List.length_map]; omega)) ?_
    rw [Int.toNat_natCast]
    refine gs_nil' ?_
    walk_at "go"
    refine ⟨_, _, _, st.set i (st[i] + 1), nd.set j (nd[j] + 1), rfl, ?_, ?_, by simp [l1], by simp [l2], set_up hi n1, set_up hj n2, by rw [sum_set _ _ hi, s1]; simp; omega, by rw [sum_set _ _ hj, s2]; simp; omega, (((kk.trans k3).trans k4).put (by omega) _).put (by omega) _, ?_⟩
    · rw [at_set_ne (at_set q14) (by omega), List.map_set]
    · rw [at_set (at_set_ne q24 (by omega)), List.map_set]
    · obtain ⟨x1, x2, x3, e4⟩ := p4
      exact ⟨x1, x2, x3, at_set_ne (at_set_ne e4 (by omega)) (by omega)⟩
  · subst eσ
    walk_at "go"
    refine tup_list q1 ?_
    walk_at "go"
    refine tup_list q2 ?_
    walk_at "go"
    rw [List.length_range] at s1 s2
    exact k _ _ ⟨st, nd, rfl, ⟨l1, l2, n1, n2, by omega, by omega⟩, kk, pp⟩
/-! ### all plans of some amounts -/
abbrev RI := TK × List Int × Int
abbrev itD (it : RI) : D := .tup .key [.tup it.1 (it.2.1.map .int), .int it.2.2]
def expR (x : Int) (it : RI) : List RI := (List.range ((min it.2.2 x + 1) - 0).toNat).map fun i : Nat => (TK.any, it.2.1 ++ [0 + (i : Int)], it.2.2 - (0 + (i : Int)))
def stepR (F : List RI) (x : Int) : List RI := F.flatMap (expR x)
def rowsR (left : Int) (nd : List Int) : List RI := nd.foldl stepR [(.key, [], left)]
theorem rowsR_snoc (left : Int) (nd : List Int) (x : Int) : rowsR left (nd ++ [x]) = stepR (rowsR left nd) x := by unfold rowsR; rw [List.foldl_append]; rfl
theorem fm_le {α β : Type} (f : α → List β) (B : Nat) : ∀ (l : List α), (∀ a ∈ l, (f a).length ≤ B) → (l.flatMap f).length ≤ l.length * B
  | [], _ => by simp
  | a :: l, h => by
    have h1 := h a List.mem_cons_self
    have h2 := fm_le f B l fun b hb => h b (List.mem_cons_of_mem _ hb)
    rw [List.flatMap_cons, List.length_append, List.length_cons, Nat.succ_mul]; omega
/-- what is so of each row that is begun -/
structure RowB (left : Int) (pre : List Int) (it : RI) : Prop where
  l : it.2.1.length = pre.length
  n : ∀ v ∈ it.2.1, 0 ≤ v
  le : ∀ j, it.2.1.getD j 0 ≤ pre.getD j 0
  s : it.2.1.sum + it.2.2 = left
  r : 0 ≤ it.2.2
theorem getD_snoc (l : List Int) (x : Int) (j : Nat) : (l ++ [x]).getD j 0 = if j = l.length then x else l.getD j 0 := by
  rw [List.getD_eq_getElem?_getD, List.getD_eq_getElem?_getD]
  by_cases h : j < l.length
  · rw [List.getElem?_append_left h, if_neg (by omega)]
  · rw [List.getElem?_append_right (by omega)]
    by_cases e : j = l.length
    · subst e; simp
    · rw [if_neg e, List.getElem?_eq_none (by simp; omega), List.getElem?_eq_none (by omega)]
theorem rowB_step {left x : Int} {pre : List Int} {it jt : RI} (hx : 0 ≤ x) (h : RowB left pre it) (hj : jt ∈ expR x it) : RowB left (pre ++ [x]) jt := by
  obtain ⟨i, hi, rfl⟩ := List.mem_map.mp hj
  rw [List.mem_range] at hi
  have hr := h.r
  refine ⟨by simp [h.l], fun v hv => ?_, fun j => ?_, ?_, by show 0 ≤ it.2.2 - _; omega⟩
  · rcases List.mem_append.mp hv with q | q
    · exact h.n v q
    · rw [List.mem_singleton.mp q]; omega
  · show (it.2.1 ++ [0 + (i : Int)]).getD j 0 ≤ _
    rw [getD_snoc, getD_snoc, h.l]
    by_cases e : j = pre.length
    · rw [if_pos e, if_pos e]; omega
    · rw [if_neg e, if_neg e]; exact h.le j
  · show (it.2.1 ++ [0 + (i : Int)]).sum + (it.2.2 - _) = left
    have := h.s
    rw [List.sum_append]; simp; omega
theorem rowsR_ok (left : Int) (hl : 0 ≤ left) : ∀ (nd : List Int), (∀ x ∈ nd, 0 ≤ x) → ∀ it ∈ rowsR left nd, RowB left nd it := by
  have key : ∀ (n : Nat) (nd : List Int), nd.length = n → (∀ x ∈ nd, 0 ≤ x) → ∀ it ∈ rowsR left nd, RowB left nd it := by
    intro n
    induction n with
    | zero =>
      intro nd hn _ it hit
      have : nd = [] := List.length_eq_zero_iff.mp hn
      subst this
      rw [List.mem_singleton.mp hit]
      exact ⟨rfl, by simp, by simp, by simp, hl⟩
    | succ n ih =>
      intro nd hn hx it hit
      obtain ⟨pre, x, rfl⟩ : ∃ pre x, nd = pre ++ [x] := ⟨nd.dropLast, nd.getLast (by intro e; subst e; simp at hn), (List.dropLast_concat_getLast _).symm⟩
      rw [rowsR_snoc] at hit
      obtain ⟨jt, hjt, hit⟩ := List.mem_flatMap.mp hit
      exact rowB_step (hx x (by simp)) (ih pre (by simpa using hn) (fun y hy => hx y (by simp [hy])) jt hjt) hit
  exact fun nd => key _ nd rfl
theorem rowsR_len (left : Int) (hl : 0 ≤ left) : ∀ (n : Nat) (nd : List Int), nd.length = n → (∀ x ∈ nd, 0 ≤ x ∧ x ≤ 9) → (rowsR left nd).length ≤ 10 ^ n := by
  intro n
  induction n with
  | zero =>
    intro nd hn _
    have : nd = [] := List.length_eq_zero_iff.mp hn
    subst this; simp [rowsR]
  | succ n ih =>
    intro nd hn hx
    obtain ⟨pre, x, rfl⟩ : ∃ pre x, nd = pre ++ [x] := ⟨nd.dropLast, nd.getLast (by intro e; subst e; simp at hn), (List.dropLast_concat_getLast _).symm⟩
    rw [rowsR_snoc]
    have h1 := ih pre (by simpa using hn) (fun y hy => hx y (by simp [hy]))
    have h2 := fm_le (expR x) 10 (rowsR left pre) fun it hit => by
      have := hx x (by simp)
      unfold expR
      rw [List.length_map, List.length_range]; omega
    unfold stepR
    rw [Nat.pow_succ]
    exact Nat.le_trans h2 (Nat.mul_le_mul_right _ h1)
theorem rowsR_some (left : Int) (hl : 0 ≤ left) : ∀ (n : Nat) (nd : List Int), nd.length = n → (∀ x ∈ nd, 0 ≤ x) → ∃ it ∈ rowsR left nd, it.2.2 = max 0 (left - nd.sum) := by
  intro n
  induction n with
  | zero =>
    intro nd hn _
    have : nd = [] := List.length_eq_zero_iff.mp hn
    subst this
    exact ⟨_, List.mem_singleton.mpr rfl, by simp; omega⟩
  | succ n ih =>
    intro nd hn hx
    obtain ⟨pre, x, rfl⟩ : ∃ pre x, nd = pre ++ [x] := ⟨nd.dropLast, nd.getLast (by intro e; subst e; simp at hn), (List.dropLast_concat_getLast _).symm⟩
    obtain ⟨it, hit, er⟩ := ih pre (by simpa using hn) (fun y hy => hx y (by simp [hy]))
    have h0 := hx x (by simp)
    have hs := sum_nonneg pre fun y hy => hx y (by simp [hy])
    rw [rowsR_snoc]
    refine ⟨(.any, it.2.1 ++ [0 + ((min it.2.2 x).toNat : Int)], it.2.2 - (0 + ((min it.2.2 x).toNat : Int))), List.mem_flatMap.mpr ⟨it, hit, List.mem_map.mpr ⟨(min it.2.2 x).toNat, by rw [List.mem_range]; omega, rfl⟩⟩, ?_⟩
    show it.2.2 - _ = _
    rw [List.sum_append, List.sum_singleton]; omega
/-- the rows -/
def rowsO (left : Int) (nd : List Int) : List (TK × List Int) := (rowsR left nd).filterMap fun it => if it.2.2 = 0 then some (it.1, it.2.1) else none
structure RowIn (left : Int) (nd : List Int) (row : List Int) : Prop where
  l : row.length = nd.length
  n : ∀ v ∈ row, 0 ≤ v
  le : ∀ j, row.getD j 0 ≤ nd.getD j 0
  s : row.sum = left
theorem rowsO_ok {left : Int} {nd : List Int} (hl : 0 ≤ left) (hn : ∀ x ∈ nd, 0 ≤ x) : ∀ r ∈ rowsO left nd, RowIn left nd r.2 := fun r hr => by
  obtain ⟨it, hit, e⟩ := List.mem_filterMap.mp hr
  have h := rowsR_ok left hl nd hn it hit
  by_cases h0 : it.2.2 = 0
  · rw [if_pos h0] at e
    rw [← Option.some.inj e]
    have := h.s
    exact ⟨h.l, h.n, h.le, by show it.2.1.sum = left; omega⟩
  · rw [if_neg h0] at e; cases e
theorem rowsO_len {left : Int} {nd : List Int} (hl : 0 ≤ left) (hn : ∀ x ∈ nd, 0 ≤ x ∧ x ≤ 9) : (rowsO left nd).length ≤ 10 ^ nd.length := Nat.le_trans (List.length_filterMap_le ..) (rowsR_len left hl _ nd rfl hn)
theorem rowsO_ne {left : Int} {nd : List Int} (hl : 0 ≤ left) (hn : ∀ x ∈ nd, 0 ≤ x) (hs : left ≤ nd.sum) : rowsO left nd ≠ [] := by
  obtain ⟨it, hit, e⟩ := rowsR_some left hl _ nd rfl hn
  have h0 : it.2.2 = 0 := by rw [e]; omega
  intro z
  have : (it.1, it.2.1) ∈ rowsO left nd := List.mem_filterMap.mpr ⟨it, hit, by rw [if_pos h0]⟩
  rw [z] at this; cases this
theorem pow10 {n : Nat} (h : n ≤ 5) : 10 ^ n ≤ 100000 := Nat.pow_le_pow_right (n := 10) (by omega) h
theorem sp_law_rows (left : Int) (kk : TK) (nd : List Int) (hl : 0 ≤ left) (hl2 : nd.length ≤ 5) (hn : ∀ x ∈ nd, 0 ≤ x ∧ x ≤ 9) {S : Store} : GivesAt fns 1 i_law_rows [.int left, .tup kk (nd.map .int)] S fun d S' => ∃ f, d = .loc f ∧ S'[f]? = some (.lst ((rowsO left nd).map rowD)) ∧ S.length ≤ f ∧ Keep [] S S' := GivesAt.of (T0 := t_law_rows) rfl rfl fun n hn0 hc Q X k => by
  unfold t_law_rows
  walk_at "en"
  walk_at "go"
  refine for_map hc D.int nd (fun pre σ S' => ∃ t3 t4 t5 t6 t7 c, σ = [some (.int left), some (.tup kk (nd.map .int)), some (.loc c), t3, t4, t5, t6, t7] ∧ S'[c]? = some (.lst ((rowsR left pre).map itD)) ∧ Keep [] S S') ⟨_, _, _, _, _, S.length, rfl, at_new, .new _ _ _⟩ (fun _ _ _ _ => gd_nil) (fun pre x post σ S1 e ⟨t3, t4, t5, t6, t7, c, eσ, q1, kk1⟩ => ?_) fun σ S1 ⟨t3, t4, t5, t6, t7, c, eσ, q1, kk1⟩ => ?_
  · subst eσ
    have hx := hn x (by rw [e]; simp)
    have hpre : ∀ y ∈ pre, 0 ≤ y ∧ y ≤ 9 := fun y hy => hn y (by rw [e]; simp [hy])
    have hok := rowsR_ok left hl pre fun y hy => (hpre y hy).1
    have hlen := rowsR_len left hl _ pre rfl hpre
    have hp4 : 10 ^ pre.length ≤ 100000 := pow10 (by have := congrArg List.length e; simp at this; omega)
    rw [rowsR_snoc]
    generalize rowsR left pre = F at q1 hok hlen ⊢
    walk_at "go"
    refine src_lst (at_add q1) ?_
    refine for_map hc itD F (fun pre2 σ S' => ∃ t5 t6 t7 l, σ = [some (.int left), some (.tup kk (nd.map .int)), some (.loc c), some (.int x), some (.loc l), t5, t6, t7] ∧ S'[l]? = some (.lst ((pre2.flatMap (expR x)).map itD)) ∧ S'[c]? = some (.lst (F.map itD)) ∧ Keep [] S S') ⟨_, _, _, S1.length, rfl, at_new, at_add q1, kk1.add _⟩ (fun _ _ _ ⟨_, _, _, _, _, _, h, _⟩ => gd_one h) (fun pre2 it post2 σ S2 e2 ⟨u5, u6, u7, l, eσ, r1, r2, kk2⟩ => ?_) fun σ S2 ⟨u5, u6, u7, l, eσ, r1, r2, kk2⟩ => ?_
    · subst eσ
      have hit := hok it (by rw [e2]; simp)
      have h0 := hit.r
      walk_at "go"
      refine e_lcP hc ?_
      walk_at "go"
      refine ⟨by unfold small62; omega, ?_⟩
      refine ⟨_, fun i : Nat => D.int (0 + (i : Int)), List.range ((min it.2.2 x + 1) - 0).toNat, fun i => some (itD (.any, it.2.1 ++ [0 + (i : Int)], it.2.2 - (0 + (i : Int)))), rfl, gd_nil, by rw [List.length_range, sizeLine_eq]; omega, fun i hi S3 k3 => ?_, fun S3 k3 hS3 => ?_⟩
      · walk_at "go"
        refine b_addT ?_ ?_
        · have := hit.l
          have := congrArg List.length e
          simp at this
          rw [List.length_map, sizeLine_eq]; simp; omega
        walk_at "go"
        exact ⟨by simp [itD], .r⟩
      · walk_at "go"
        have hb : (pre2.flatMap (expR x)).length ≤ pre2.length * 10 := fm_le _ 10 _ fun jt hjt => by unfold expR; rw [List.length_map, List.length_range]; omega
        have hpl : pre2.length < F.length := by rw [e2]; simp
        refine b_addL (k3.at r1) hS3 ?_ ?_
        · rw [List.length_map, List.filterMap_eq_map', List.length_map, List.length_range, sizeLine_eq]; omega
        refine g_var' ?_
        walk_at "go"
        refine ⟨_, _, _, S3.length, rfl, ?_, at_add (k3.at r2), (kk2.trans k3).add _⟩
        rw [at_new, List.filterMap_eq_map', List.flatMap_append, List.map_append]
        simp only [List.flatMap_cons, List.flatMap_nil, List.append_nil]
        unfold expR
        rw [List.map_map]
        rfl
    · subst eσ
      walk_at "go"
      exact ⟨_, _, _, _, _, l, rfl, r1, kk2⟩
  · subst eσ
    have hok := rowsR_ok left hl nd fun y hy => (hn y hy).1
    have hlen := rowsR_len left hl _ nd rfl hn
    have hp4 := pow10 hl2
    walk_at "go"
    refine e_lcP hc ?_
    walk_at "go"
    refine src_lst q1 ?_
    refine ⟨_, itD, rowsR left nd, fun it => if it.2.2 = 0 then some (rowD (it.1, it.2.1)) else none, rfl, gd_one q1, by rw [sizeLine_eq]; omega, fun it hit S3 k3 => ?_, fun S3 k3 hS3 => ?_⟩
    · walk_at "go"
      refine ifd (fun h0 => ?_) fun h0 => ?_
      · walk_at "go"
        exact ⟨by dsimp only; rw [if_pos h0], .r⟩
      · exact ⟨by dsimp only; rw [if_neg h0], .r⟩
    · refine k _ _ ⟨_, rfl, ?_, by have := kk1.n; omega, kk1.trans k3⟩
      rw [hS3]
      unfold rowsO
      rw [List.map_filterMap]
      refine congrArg some (congrArg Cell.lst ?_)
      congr 1
      funext it
      by_cases h0 : it.2.2 = 0
      · rw [if_pos h0, if_pos h0]; rfl
      · rw [if_neg h0, if_neg h0]; rfl
abbrev PI := TK × List (TK × List Int) × TK × List Int
abbrev plD (it : PI) : D := .tup .key [.tup it.1 (it.2.1.map rowD), .tup it.2.2.1 (it.2.2.2.map .int)]
def lessR (ns row : List Int) : List Int := (List.range row.length).map fun j => ns.getD j 0 - row.getD j 0
def nxtP (it : PI) (r : TK × List Int) : PI := (.any, it.2.1 ++ [r], .kn, lessR it.2.2.2 r.2)
def expP (x : Int) (it : PI) : List PI := (rowsO x it.2.2.2).map (nxtP it)
def stepP (F : List PI) (x : Int) : List PI := F.flatMap (expP x)
def plansP (k : TK) (st nd : List Int) : List PI := st.foldl stepP [(.key, [], k, nd)]
theorem plansP_snoc (k : TK) (st nd : List Int) (x : Int) : plansP k (st ++ [x]) nd = stepP (plansP k st nd) x := by unfold plansP; rw [List.foldl_append]; rfl
theorem range_getD (l : List Int) : (List.range l.length).map (fun j => l.getD j 0) = l := by
  apply List.ext_getElem
  · simp
  · intro i h1 h2
    rw [List.getElem_map, List.getElem_range, List.getD_eq_getElem?_getD, List.getElem?_eq_getElem h2]; rfl
theorem sum_sub {α : Type} (f g : α → Int) : ∀ l : List α, (l.map fun a => f a - g a).sum = (l.map f).sum - (l.map g).sum
  | [] => rfl
  | a :: l => by simp only [List.map_cons, List.sum_cons]; rw [sum_sub f g l]; omega
theorem lessR_sum {ns row : List Int} (h : row.length = ns.length) : (lessR ns row).sum = ns.sum - row.sum := by
  unfold lessR
  rw [sum_sub, range_getD row, h, range_getD ns]
theorem lessR_getD {ns row : List Int} (h : row.length = ns.length) (j : Nat) : (lessR ns row).getD j 0 = ns.getD j 0 - row.getD j 0 := by
  unfold lessR
  rw [List.getD_eq_getElem?_getD, List.getElem?_map]
  by_cases hj : j < row.length
  · rw [List.getElem?_range hj]; rfl
  · rw [List.getElem?_eq_none (by simp; omega), List.getD_eq_getElem?_getD, List.getD_eq_getElem?_getD, List.getElem?_eq_none (by omega), List.getElem?_eq_none (by omega)]; rfl
theorem mem_getD {l : List Int} {v : Int} (h : v ∈ l) : ∃ j, j < l.length ∧ l.getD j 0 = v := by
  obtain ⟨j, hj, e⟩ := List.getElem_of_mem h
  exact ⟨j, hj, by rw [List.getD_eq_getElem?_getD, List.getElem?_eq_getElem hj, e]; rfl⟩
/-- what is so of each plan that is begun -/
structure PlB (pre nd : List Int) (it : PI) : Prop where
  s : it.2.1.map (fun r => r.2.sum) = pre
  w : ∀ r ∈ it.2.1, r.2.length = nd.length ∧ ∀ v ∈ r.2, 0 ≤ v
  l : it.2.2.2.length = nd.length
  n : ∀ v ∈ it.2.2.2, 0 ≤ v ∧ v ≤ 9
  c : ∀ j, it.2.2.2.getD j 0 + (it.2.1.map fun r => r.2.getD j 0).sum = nd.getD j 0
  t : it.2.2.2.sum + pre.sum = nd.sum
theorem plB_step {x : Int} {pre nd : List Int} {it : PI} {r : TK × List Int} (hx : 0 ≤ x) (h : PlB pre nd it) (hr : r ∈ rowsO x it.2.2.2) : PlB (pre ++ [x]) nd (nxtP it r) := by
  have hr := rowsO_ok hx (fun v hv => (h.n v hv).1) r hr
  have hle := hr.l
  refine ⟨by simp [nxtP, h.s, hr.s], fun q hq => ?_, by simp [nxtP, lessR, hr.l, h.l], fun v hv => ?_, fun j => ?_, ?_⟩
  · rcases List.mem_append.mp hq with z | z
    · exact h.w q z
    · rw [List.mem_singleton.mp z]; exact ⟨by rw [hr.l, h.l], hr.n⟩
  · obtain ⟨j, hj, e⟩ := mem_getD hv
    have e : (lessR it.2.2.2 r.2).getD j 0 = v := e
    rw [lessR_getD hr.l] at e
    have h1 := hr.le j
    have hj : j < (lessR it.2.2.2 r.2).length := hj
    simp [lessR] at hj
    have h2 := h.n (it.2.2.2.getD j 0) (by rw [List.getD_eq_getElem?_getD, List.getElem?_eq_getElem (by omega)]; exact List.getElem_mem _)
    have h3 := hr.n (r.2.getD j 0) (by rw [List.getD_eq_getElem?_getD, List.getElem?_eq_getElem (by omega)]; exact List.getElem_mem _)
    omega
  · show (lessR it.2.2.2 r.2).getD j 0 + ((it.2.1 ++ [r]).map fun r => r.2.getD j 0).sum = _
    rw [lessR_getD hr.l, List.map_append, List.sum_append, List.map_singleton, List.sum_singleton]
    have := h.c j; omega
  · show (lessR it.2.2.2 r.2).sum + _ = _
    rw [lessR_sum hr.l, List.sum_append, List.sum_singleton, hr.s]
    have := h.t; omega
theorem snoc_of {α : Type} {n : Nat} {l : List α} (h : l.length = n + 1) : ∃ pre x, l = pre ++ [x] := ⟨l.dropLast, l.getLast (by intro e; subst e; simp at h), (List.dropLast_concat_getLast _).symm⟩
theorem plansP_ok (k : TK) {nd : List Int} (hnd : ∀ v ∈ nd, 0 ≤ v ∧ v ≤ 9) : ∀ (n : Nat) (st : List Int), st.length = n → (∀ x ∈ st, 0 ≤ x) → ∀ it ∈ plansP k st nd, PlB st nd it := by
  intro n
  induction n with
  | zero =>
    intro st hn _ it hit
    have : st = [] := List.length_eq_zero_iff.mp hn
    subst this
    rw [List.mem_singleton.mp hit]
    exact ⟨rfl, by simp, rfl, hnd, by simp, by simp⟩
  | succ n ih =>
    intro st hn hx it hit
    obtain ⟨pre, x, rfl⟩ := snoc_of hn
    rw [plansP_snoc] at hit
    obtain ⟨jt, hjt, hit⟩ := List.mem_flatMap.mp hit
    obtain ⟨r, hr, rfl⟩ := List.mem_map.mp hit
    exact plB_step (hx x (by simp)) (ih pre (by simpa using hn) (fun y hy => hx y (by simp [hy])) jt hjt) hr
theorem rowsR_len2 (left : Int) (hl : 0 ≤ left) : ∀ (n : Nat) (nd : List Int), nd.length = n → (∀ x ∈ nd, 0 ≤ x) → (rowsR left nd).length ≤ (left.toNat + 1) ^ n := by
  intro n
  induction n with
  | zero =>
    intro nd hn _
    have : nd = [] := List.length_eq_zero_iff.mp hn
    subst this; simp [rowsR]
  | succ n ih =>
    intro nd hn hx
    obtain ⟨pre, x, rfl⟩ := snoc_of hn
    rw [rowsR_snoc]
    have hpre := fun y (hy : y ∈ pre) => hx y (by simp [hy])
    have h1 := ih pre (by simpa using hn) hpre
    have h2 := fm_le (expR x) (left.toNat + 1) (rowsR left pre) fun it hit => by
      have h := rowsR_ok left hl pre hpre it hit
      have h3 := sum_nonneg _ h.n
      have h4 := h.s
      unfold expR
      rw [List.length_map, List.length_range]; omega
    unfold stepR
    rw [Nat.pow_succ]
    exact Nat.le_trans h2 (Nat.mul_le_mul_right _ h1)
theorem cube8 (a : Nat) : (a + 1) ^ 3 ≤ 8 ^ a := by
  have h : a + 1 ≤ 2 ^ a := Nat.lt_two_pow_self
  have h2 := Nat.pow_le_pow_left h 3
  rwa [← Nat.pow_mul, Nat.mul_comm, Nat.pow_mul] at h2
theorem rowsO_len2 {left : Int} {nd : List Int} (hl : 0 ≤ left) (hn : ∀ x ∈ nd, 0 ≤ x) (h3 : nd.length ≤ 3) : (rowsO left nd).length ≤ 8 ^ left.toNat :=
  Nat.le_trans (List.length_filterMap_le ..) (Nat.le_trans (rowsR_len2 left hl _ nd rfl hn) (Nat.le_trans (Nat.pow_le_pow_right (by omega) h3) (cube8 _)))
theorem plansP_len (k : TK) {nd : List Int} (hnd : ∀ v ∈ nd, 0 ≤ v ∧ v ≤ 9) (hl : nd.length ≤ 3) : ∀ (n : Nat) (st : List Int), st.length = n → (∀ x ∈ st, 0 ≤ x) → (plansP k st nd).length ≤ 8 ^ st.sum.toNat := by
  intro n
  induction n with
  | zero =>
    intro st hn _
    have : st = [] := List.length_eq_zero_iff.mp hn
    subst this; simp [plansP]
  | succ n ih =>
    intro st hn hx
    obtain ⟨pre, x, rfl⟩ := snoc_of hn
    rw [plansP_snoc]
    have hpre := fun y (hy : y ∈ pre) => hx y (by simp [hy])
    have h1 := ih pre (by simpa using hn) hpre
    have h0 := hx x (by simp)
    have hs := sum_nonneg _ hpre
    have h2 := fm_le (expP x) (8 ^ x.toNat) (plansP k pre nd) fun it hit => by
      have h := plansP_ok k hnd _ pre rfl hpre it hit
      unfold expP
      rw [List.length_map]
      exact rowsO_len2 h0 (fun v hv => (h.n v hv).1) (by rw [h.l]; exact hl)
    unfold stepP
    rw [List.sum_append, List.sum_singleton, show (pre.sum + x).toNat = pre.sum.toNat + x.toNat by omega, Nat.pow_add]
    exact Nat.le_trans h2 (Nat.mul_le_mul_right _ h1)
theorem plansP_ne (k : TK) {nd : List Int} (hnd : ∀ v ∈ nd, 0 ≤ v ∧ v ≤ 9) : ∀ (n : Nat) (st : List Int), st.length = n → (∀ x ∈ st, 0 ≤ x) → st.sum ≤ nd.sum → plansP k st nd ≠ [] := by
  intro n
  induction n with
  | zero =>
    intro st hn _ _
    have : st = [] := List.length_eq_zero_iff.mp hn
    subst this; simp [plansP]
  | succ n ih =>
    intro st hn hx hs
    obtain ⟨pre, x, rfl⟩ := snoc_of hn
    rw [List.sum_append, List.sum_singleton] at hs
    have hpre := fun y (hy : y ∈ pre) => hx y (by simp [hy])
    have h0 := hx x (by simp)
    have h1 := ih pre (by simpa using hn) hpre (by omega)
    obtain ⟨it, hit⟩ := List.exists_mem_of_ne_nil _ h1
    have h := plansP_ok k hnd _ pre rfl hpre it hit
    have h2 := rowsO_ne (left := x) (nd := it.2.2.2) h0 (fun v hv => (h.n v hv).1) (by have := h.t; omega)
    obtain ⟨r, hr⟩ := List.exists_mem_of_ne_nil _ h2
    rw [plansP_snoc]
    intro z
    have : nxtP it r ∈ stepP (plansP k pre nd) x := List.mem_flatMap.mpr ⟨it, hit, List.mem_map.mpr ⟨r, hr, rfl⟩⟩
    rw [z] at this; cases this
theorem at_intsD {l : List Int} {j : Nat} (h : j < l.length) : L2.atI (l.map D.int) (0 + (j : Int)) = some (.int (l.getD j 0)) := by
  rw [Int.zero_add, at_ints h, List.getD_eq_getElem?_getD, List.getElem?_eq_getElem h]; rfl
theorem sp_law_plans (kk k1 k2 : TK) (st nd : List Int) (hst : ∀ x ∈ st, 0 ≤ x) (hs3 : st.length ≤ 3) (hl : nd.length ≤ 3) (hnd : ∀ x ∈ nd, 0 ≤ x ∧ x ≤ 9) (h7 : st.sum ≤ 7) {S : Store} : GivesAt fns 2 i_law_plans [.tup kk [.tup k1 (st.map .int), .tup k2 (nd.map .int)]] S fun d S' => ∃ f, d = .loc f ∧ S'[f]? = some (.lst ((plansP k2 st nd).map fun it => .tup it.1 (it.2.1.map rowD))) ∧ S.length ≤ f ∧ Keep [] S S' := GivesAt.of (T0 := t_law_plans) rfl rfl fun n hn0 hc Q X k => by
  unfold t_law_plans
  walk_at "en"
  walk_at "go"
  refine for_map hc D.int st (fun pre σ S' => ∃ t2 t3 t4 t5 t6 t7 c, σ = [some (.tup kk [.tup k1 (st.map .int), .tup k2 (nd.map .int)]), some (.loc c), t2, t3, t4, t5, t6, t7] ∧ S'[c]? = some (.lst ((plansP k2 pre nd).map plD)) ∧ Keep [] S S') ⟨_, _, _, _, _, _, S.length, rfl, at_new, .new _ _ _⟩ (fun _ _ _ _ => gd_nil) (fun pre x post σ S1 e ⟨t2, t3, t4, t5, t6, t7, c, eσ, q1, kk1⟩ => ?_) fun σ S1 ⟨t2, t3, t4, t5, t6, t7, c, eσ, q1, kk1⟩ => ?_
  · subst eσ
    have hx := hst x (by rw [e]; simp)
    have hpre : ∀ y ∈ pre, 0 ≤ y := fun y hy => hst y (by rw [e]; simp [hy])
    have hok := plansP_ok k2 hnd _ pre rfl hpre
    have hlen := plansP_len k2 hnd hl _ pre rfl hpre
    have hps := sum_nonneg _ hpre
    have hposts := sum_nonneg post fun y hy => hst y (by rw [e]; simp [hy])
    have hsx : pre.sum + x ≤ 7 := by
      have := congrArg List.sum e
      rw [List.sum_append, List.sum_cons] at this; omega
    have hp2 : 8 ^ pre.sum.toNat * 8 ^ x.toNat ≤ 2097152 := by
      rw [← Nat.pow_add]
      exact Nat.pow_le_pow_right (n := 8) (by omega) (show _ ≤ 7 by omega)
    have hpl3 : pre.length ≤ 3 := by have := congrArg List.length e; simp at this; omega
    rw [plansP_snoc]
    generalize plansP k2 pre nd = F at q1 hok hlen ⊢
    walk_at "go"
    refine src_lst (at_add q1) ?_
    refine for_map hc plD F (fun pre2 σ S' => ∃ t4 t5 t6 t7, σ = [some (.tup kk [.tup k1 (st.map .int), .tup k2 (nd.map .int)]), some (.loc c), some (.int x), some (.loc S1.length), t4, t5, t6, t7] ∧ S'[S1.length]? = some (.lst ((pre2.flatMap (expP x)).map plD)) ∧ S'[c]? = some (.lst (F.map plD)) ∧ Keep [] S S') ⟨_, _, _, _, rfl, at_new, at_add q1, kk1.add _⟩ (fun _ _ _ ⟨_, _, _, _, _, _, h, _⟩ => gd_one h) (fun pre2 it post2 σ S2 e2 ⟨u4, u5, u6, u7, eσ, r1, r2, kk2⟩ => ?_) fun σ S2 ⟨u4, u5, u6, u7, eσ, r1, r2, kk2⟩ => ?_
    · subst eσ
      have hit := hok it (by rw [e2]; simp)
      have hpl : pre2.length < F.length := by rw [e2]; simp
      have hmem : ∀ jt ∈ pre2, jt ∈ F := fun jt h => by rw [e2]; simp [h]
      have hb : (pre2.flatMap (expP x)).length ≤ pre2.length * 8 ^ x.toNat := fm_le _ _ _ fun jt hjt => by
        have h := hok jt (hmem jt hjt)
        unfold expP
        rw [List.length_map]
        exact rowsO_len2 hx (fun v hv => (h.n v hv).1) (by rw [h.l]; exact hl)
      have hrl : (rowsO x it.2.2.2).length ≤ 8 ^ x.toNat := rowsO_len2 hx (fun v hv => (hit.n v hv).1) (by rw [hit.l]; exact hl)
      have hbr : (pre2.length + 1) * 8 ^ x.toNat ≤ 2097152 := Nat.le_trans (Nat.mul_le_mul_right _ (show pre2.length + 1 ≤ 8 ^ pre.sum.toNat by omega)) hp2
      rw [Nat.succ_mul] at hbr
      have hril : it.2.1.length = pre.length := by have := congrArg List.length hit.s; simpa using this
      walk_at "go"
      refine sp_law_rows x it.2.2.1 it.2.2.2 hx (by rw [hit.l]; omega) hit.n n (by omega) _ _ fun d S3 ⟨g, ed, hg, hgl, k3⟩ => ?_
      subst ed
      refine ⟨⟨[(g, .lst ((rowsO x it.2.2.2).map rowD))], (rowsO x it.2.2.2).map rowD⟩, by simp only [srcD, hg], ?_⟩
      have hc2 := lt_of_at r2
      have hS2 := lt_of_at r1
      refine for_map hc rowD (rowsO x it.2.2.2) (fun pre3 σ S' => ∃ t6 t7, σ = [some (.tup kk [.tup k1 (st.map .int), .tup k2 (nd.map .int)]), some (.loc c), some (.int x), some (.loc S1.length), some (.tup it.1 (it.2.1.map rowD)), some (.tup it.2.2.1 (it.2.2.2.map .int)), t6, t7] ∧ S'[S1.length]? = some (.lst ((pre2.flatMap (expP x) ++ pre3.map (nxtP it)).map plD)) ∧ S'[c]? = some (.lst (F.map plD)) ∧ S'[g]? = some (.lst ((rowsO x it.2.2.2).map rowD)) ∧ Keep [] S S') ⟨_, _, rfl, by rw [List.map_nil, List.append_nil]; exact k3.at r1, k3.at r2, hg, kk2.trans k3⟩ (fun _ _ _ ⟨_, _, _, _, _, h, _⟩ => gd_one h) (fun pre3 r post3 σ S4 e3 ⟨v6, v7, eσ, w1, w2, w3, kk4⟩ => ?_) fun σ S4 ⟨v6, v7, eσ, w1, w2, w3, kk4⟩ => ?_
      · subst eσ
        have hr := rowsO_ok hx (fun v hv => (hit.n v hv).1) r (by rw [e3]; simp)
        have hrl3 := hr.l
        have hitl := hit.l
        have hp3 := congrArg List.length e3
        simp at hp3
        walk_at "go"
        refine me_append w1 ?_
        walk_at "go"
        refine b_addT (by rw [List.length_map, sizeLine_eq]; simp; omega) ?_
        walk_at "go"
        refine e_lcP hc ?_
        walk_at "go"
        refine ⟨by unfold small62; simp; omega, ?_⟩
        refine ⟨_, fun j : Nat => D.int (0 + (j : Int)), List.range (((((r.2.map D.int).length : Nat) : Int)) - 0).toNat, fun j => some (.int (it.2.2.2.getD j 0 - r.2.getD j 0)), rfl, gd_nil, by rw [List.length_range, List.length_map, sizeLine_eq]; omega, fun j hj S5 k5 => ?_, fun S5 k5 hS5 => ?_⟩
        · have hj : j < r.2.length := by simp at hj; omega
          walk_at "go"
          refine sub_tup (at_intsD (by omega)) ?_
          walk_at "go"
          refine sub_tup (at_intsD hj) ?_
          walk_at "go"
          exact ⟨rfl, .r⟩
        · walk_at "go"
          refine tup_list hS5 ?_
          walk_at "go"
          refine md_append (k5.at w1) ?_ ?_
          · rw [List.length_map, List.length_append, List.length_map, sizeLine_eq]; omega
          have hS4 := lt_of_at w1
          refine ⟨_, _, rfl, ?_, at_set_ne (k5.at w2) ?_, at_set_ne (k5.at w3) (by have := k3.n; have := kk2.n; omega), (kk4.trans k5).put (by have := kk1.n; omega) _⟩
          · rw [at_set (k5.at w1)]
            refine congrArg some (congrArg Cell.lst ?_)
            simp only [List.map_append, List.map_cons, List.map_nil, List.append_assoc]
            congr 2
            unfold plD nxtP lessR
            simp only [List.filterMap_eq_map', List.map_append, List.map_cons, List.map_nil, List.map_map, List.length_map]
            simp
          · have := lt_of_at q1; omega
      · subst eσ
        refine ⟨_, _, _, _, rfl, ?_, w2, kk4⟩
        rw [w1, List.flatMap_append]
        simp only [List.flatMap_cons, List.flatMap_nil, List.append_nil]
        rfl
    · subst eσ
      walk_at "go"
      exact ⟨_, _, _, _, _, _, _, rfl, r1, kk2⟩
  · subst eσ
    have hlen := plansP_len k2 hnd hl _ st rfl hst
    have hp3 : 8 ^ st.sum.toNat ≤ 2097152 := Nat.pow_le_pow_right (n := 8) (by omega) (show _ ≤ 7 by omega)
    walk_at "go"
    refine e_lcP hc ?_
    walk_at "go"
    refine src_lst q1 ?_
    refine ⟨_, plD, plansP k2 st nd, fun it => some (.tup it.1 (it.2.1.map rowD)), rfl, gd_one q1, by rw [sizeLine_eq]; omega, fun it hit S3 k3 => ?_, fun S3 k3 hS3 => ?_⟩
    · walk_at "go"
      exact ⟨rfl, .r⟩
    · refine k _ _ ⟨_, rfl, ?_, by have := kk1.n; omega, kk1.trans k3⟩
      rw [hS3, List.filterMap_eq_map']
/-! ### data: order, repr -/
theorem ltI_eq : ∀ xs ys : List Int, PyProof.Rows.lexLt PyProof.Rows.itemOrd (PySem.W.keyToksAll (xs.map .int)) (PySem.W.keyToksAll (ys.map .int)) = ltI xs ys
  | [], [] => PyProof.Rows.lex_irrefl _
  | [], y :: ys => by
    rw [List.map_nil, List.map_cons, PySem.W.toks_all_cons]
    simp only [PySem.W.keyToksAll]
    rw [PyProof.Rows.lex_diff (O := PyProof.Rows.itemOrd) (by simp)]
    rfl
  | x :: xs, [] => by
    rw [List.map_nil, List.map_cons, PySem.W.toks_all_cons]
    simp only [PySem.W.keyToksAll]
    rw [PyProof.Rows.lex_diff (O := PyProof.Rows.itemOrd) (by simp)]
    rfl
  | x :: xs, y :: ys => by
    rw [List.map_cons, List.map_cons, ltI]
    by_cases h : x = y
    · rw [PySem.W.dataLt_all_yes (by simp [PySem.W.alike]) (by simp [PyData.eqv, h]), ltI_eq xs ys]
      subst h
      simp
    · rw [PySem.W.dataLt_all_no (by simp [PySem.W.alike]) (by simp [PyData.eqv, h]), PySem.W.dataLt_int]
      simp [h]
theorem alike_ints : ∀ xs ys : List Int, PySem.W.alikeAll (xs.map .int) (ys.map .int) = true
  | [], _ => by rw [List.map_nil, PySem.W.alikeAll]
  | _ :: _, [] => by rw [List.map_nil, List.map_cons, PySem.W.alikeAll]
  | x :: xs, y :: ys => by
    rw [List.map_cons, List.map_cons, PySem.W.alikeAll, alike_ints xs ys]
    simp [PySem.W.alike]
theorem lt_ints {S : Store} {R : Bool → Prop} {kk kl : TK} {xs ys : List Int} (k : R (ltI xs ys)) : ∃ c, cmpD .Lt S (.tup kk (xs.map .int)) (.tup kl (ys.map .int)) = some c ∧ R c := by
  refine ⟨ltI xs ys, ?_, k⟩
  have h1 : Dat 2 (.tup kk (xs.map .int)) (.tuple (xs.map .int)) := Dat.ints xs
  have h2 : Dat 2 (.tup kl (ys.map .int)) (.tuple (ys.map .int)) := Dat.ints ys
  show (match dq 16 S (.tup kk (xs.map .int)), dq 16 S (.tup kl (ys.map .int)) with
    | some p, some q => if PySem.W.alike p q && (decide (p.depth ≤ 64) && decide (q.depth ≤ 64)) then some (PySem.W.dataLt p q) else none
    | _, _ => none) = _
  rw [h1.at16 S (by omega), h2.at16 S (by omega)]
  show (if PySem.W.alike (.tuple (xs.map .int)) (.tuple (ys.map .int)) && (decide (PyData.depth (.tuple (xs.map .int)) ≤ 64) && decide (PyData.depth (.tuple (ys.map .int)) ≤ 64)) then some (PySem.W.dataLt (.tuple (xs.map .int)) (.tuple (ys.map .int))) else none) = _
  have d1 := h1.dep
  have d2 := h2.dep
  rw [show PySem.W.alike (.tuple (xs.map .int)) (.tuple (ys.map .int)) = true by rw [PySem.W.alike]; exact alike_ints xs ys, decide_eq_true (show _ ≤ 64 by omega), decide_eq_true (show _ ≤ 64 by omega), PySem.W.dataLt_tuple, ltI_eq]
  rfl
/-- data that can be shown, of a weight -/
structure Sh (w : Nat) (p : PyData) : Prop where
  s : p.showable = true
  l : p.leavesShort 13 = true
  w : p.weight ≤ w
theorem Sh.up {w v : Nat} {p : PyData} (h : Sh w p) (hv : w ≤ v) : Sh v p := ⟨h.s, h.l, Nat.le_trans h.w hv⟩
theorem Sh.int {i : Int} (h0 : 0 ≤ i) (h : i < 400) : Sh 9 (.int i) := by
  have h1 : (List.range 400).all (fun i => (PyData.int (i : Int)).showable && (PyData.int (i : Int)).leavesShort 13 && decide ((PyData.int (i : Int)).weight ≤ 9)) = true := by decide +kernel
  have h2 := List.all_eq_true.mp h1 i.toNat (by rw [List.mem_range]; omega)
  rw [show ((i.toNat : Nat) : Int) = i by omega, Bool.and_eq_true, Bool.and_eq_true, decide_eq_true_eq] at h2
  exact ⟨h2.1.1, h2.1.2, h2.2⟩
theorem Sh.bl {b : Bool} : Sh 0 (.bool b) := ⟨by simp [PyData.showable], by simp [PyData.leavesShort], by simp [PyData.weight]⟩
theorem Sh.non : Sh 0 .none := ⟨by simp [PyData.showable], by simp [PyData.leavesShort], by simp [PyData.weight]⟩
theorem Sh.all {w : Nat} : ∀ (l : List PyData), (∀ p ∈ l, Sh w p) → PyData.showableAll l = true ∧ PyData.leavesShortAll 13 l = true ∧ PyData.weightAll l ≤ l.length * (w + 1)
  | [], _ => ⟨by simp [PyData.showableAll], by simp [PyData.leavesShortAll], by simp [PyData.weightAll]⟩
  | a :: l, h => by
    have h1 := h a List.mem_cons_self
    have h2 := Sh.all l fun p hp => h p (List.mem_cons_of_mem _ hp)
    refine ⟨by rw [PyData.showableAll, h1.s, h2.1]; rfl, by rw [PyData.leavesShortAll, h1.l, h2.2.1]; rfl, ?_⟩
    rw [PyData.weightAll, List.length_cons, Nat.succ_mul]
    have := h1.w; have := h2.2.2; omega
theorem Sh.tuple {w : Nat} {l : List PyData} (h : ∀ p ∈ l, Sh w p) : Sh (l.length * (w + 1)) (.tuple l) := by
  have := Sh.all l h
  exact ⟨by rw [PyData.showable]; exact this.1, by rw [PyData.leavesShort]; exact this.2.1, by rw [PyData.weight]; exact this.2.2⟩
theorem Sh.list {w : Nat} {l : List PyData} (h : ∀ p ∈ l, Sh w p) : Sh (l.length * (w + 1)) (.list l) := by
  have := Sh.all l h
  exact ⟨by rw [PyData.showable]; exact this.1, by rw [PyData.leavesShort]; exact this.2.1, by rw [PyData.weight]; exact this.2.2⟩
theorem repr_d {S : Store} {Q : KD} {x : D} {p : PyData} {w : Nat} (h : dq 16 S x = some p) (hs : Sh w p) (hw : w ≤ 1048576) (k : Q (.str p.shown) S) : biD .repr [x] S Q := by
  show (match dq 16 S x with | some p => p.showable = true ∧ p.shown.length ≤ sizeLine ∧ Q (.str p.shown) S | none => False)
  rw [h]
  have e : (2 : Nat) ^ 20 = 1048576 := by decide
  exact ⟨hs.s, PyData.shown_fits (B := 13) (by decide) (by decide) hs.l (by have := hs.w; omega), k⟩
/-- the lists of ints -/
theorem dq_ints {S : Store} {n m : Nat} {xs : List Int} (h : S[m]? = some (.lst (xs.map .int))) : dq (n + 2) S (.loc m) = some (.list (xs.map .int)) := by
  show (match S[m]? with | some (.lst xs) => (xs.mapM (dq (n + 1) S)).map PyData.list | _ => none) = _
  rw [h]
  show ((xs.map D.int).mapM (dq (n + 1) S)).map PyData.list = _
  rw [mapM_map (g := PyData.int) xs fun a _ => rfl]; rfl
theorem shaped_ints (xs : List Int) : SeqAt.shaped (.list (xs.map .int)) = true := by
  unfold SeqAt.shaped
  have h1 : PyData.canLayAll0 (xs.map PyData.int) = true := layAll xs fun a _ => by simp [PyData.canLay0]
  have h2 : PyData.depthAll (xs.map PyData.int) < 1 := depAll (by omega) xs fun a _ => by simp [PyData.depth]
  rw [PyData.canLay0, h1, PyData.depth, Bool.true_and, decide_eq_true_eq]; omega
theorem eq_lsts {S : Store} {m l : Nat} {xs ys : List Int} (h : S[m]? = some (.lst (xs.map .int))) (h2 : S[l]? = some (.lst (ys.map .int))) : eqD S (.loc m) (.loc l) = some (decide (xs = ys)) := by
  show (match dq 16 S (.loc m), dq 16 S (.loc l) with
    | some p, some q => if SeqAt.shaped p && SeqAt.shaped q then some (PyData.eqv p q) else none
    | _, _ => none) = _
  rw [dq_ints (n := 14) h, dq_ints (n := 14) h2]
  show (if SeqAt.shaped (.list (xs.map .int)) && SeqAt.shaped (.list (ys.map .int)) then some (PyData.eqv (.list (xs.map .int)) (.list (ys.map .int))) else none) = _
  rw [shaped_ints, shaped_ints]
  have := EqV.list EqV.int xs ys
  rw [this]; rfl
theorem cl_eq {S : Store} {R : Bool → Prop} {m l : Nat} {xs ys : List Int} (h : S[m]? = some (.lst (xs.map .int))) (h2 : S[l]? = some (.lst (ys.map .int))) (k : R (decide (xs = ys))) : ∃ c, cmpD .Eq S (.loc m) (.loc l) = some c ∧ R c := ⟨_, eq_lsts h h2, k⟩
theorem cl_ne {S : Store} {R : Bool → Prop} {m l : Nat} {xs ys : List Int} (h : S[m]? = some (.lst (xs.map .int))) (h2 : S[l]? = some (.lst (ys.map .int))) (k : R (decide (xs ≠ ys))) : ∃ c, cmpD .NotEq S (.loc m) (.loc l) = some c ∧ R c := ⟨_, by show (eqD S _ _).map (!·) = _; rw [eq_lsts h h2]; rfl, by simpa using k⟩
/-- what a value is as data, by the store -/
theorem dq_lst {S : Store} {n m : Nat} {xs : List D} {ps : List PyData} (h : S[m]? = some (.lst xs)) (h2 : xs.mapM (dq n S) = some ps) : dq (n + 1) S (.loc m) = some (.list ps) := by
  show (match S[m]? with | some (.lst xs) => (xs.mapM (dq n S)).map PyData.list | _ => none) = _
  rw [h]
  show (xs.mapM (dq n S)).map PyData.list = _
  rw [h2]; rfl
theorem mapM2 {α β : Type} {f : α → Option β} {x y : α} {p q : β} (h1 : f x = some p) (h2 : f y = some q) : [x, y].mapM f = some [p, q] := by
  simp [List.mapM_cons, h1, h2]
theorem mapM3 {α β : Type} {f : α → Option β} {x y z : α} {p q r : β} (h1 : f x = some p) (h2 : f y = some q) (h3 : f z = some r) : [x, y, z].mapM f = some [p, q, r] := by
  simp [List.mapM_cons, h1, h2, h3]
/-! ### a plan by an order -/
/-! ### the plain law -/
/-- what a filling gives, pair by pair -/
def fv : List (Str × Str) → (Str → Int) → (Str → Int) → List Int
  | [], _, _ => []
  | x :: r, F, G => min (F x.1) (G x.2) :: fv r (up F x.1 (F x.1 - min (F x.1) (G x.2))) (up G x.2 (G x.2 - min (F x.1) (G x.2)))
theorem led_fv : ∀ (o : List (Str × Str)) (a : FS), (o.foldl fstep a).led.map (·.2.2) = a.led.map (·.2.2) ++ fv o a.st a.nd
  | [], a => by simp [fv]
  | x :: o, a => by
    rw [List.foldl_cons, led_fv o (fstep a x)]
    simp [fstep, fv]
theorem lval_all : ∀ (led : List (Str × Str × Int)), (led.map fun t => (t.1, t.2.1)).Nodup → (led.map fun t => lval led t.1 t.2.1) = led.map (·.2.2)
  | led, hn => by
    refine List.map_congr_left fun t ht => ?_
    unfold lval
    have : led.find? (fun u => decide ((u.1, u.2.1) = (t.1, t.2.1))) = some t := by
      induction led with
      | nil => cases ht
      | cons a l ih =>
        rw [List.map_cons, List.nodup_cons] at hn
        rcases List.mem_cons.mp ht with e | ht
        · subst e; simp
        · have hne : (a.1, a.2.1) ≠ (t.1, t.2.1) := fun z => hn.1 (by rw [z]; exact List.mem_map.mpr ⟨t, ht, rfl⟩)
          rw [List.find?_cons_of_neg (by simpa using hne)]
          exact ih hn.2 ht
    rw [this]; rfl
abbrev ledL (o : List (Str × Str)) (F G : Str → Int) (q : Str × Str) : Int := lval (fillF o F G).led q.1 q.2
theorem ledL_fv {o : List (Str × Str)} (hn : o.Nodup) (F G : Str → Int) : o.map (ledL o F G) = fv o F G := by
  have h1 := led_fv o ⟨F, G, []⟩
  have h2 := fillF_led o F G
  have h3 := lval_all (fillF o F G).led (by rw [h2]; exact hn)
  have h4 := congrArg (List.map (ledL o F G)) h2.symm
  rw [List.map_map] at h4
  exact h4.trans (Eq.trans h3 h1)
/-- sums over the pairs of a pit, of a site -/
abbrev sP (o : List (Str × Str)) (V : Str × Str → Int) (p : Str) : Int := (o.map fun q => if q.1 = p then V q else 0).sum
abbrev sS (o : List (Str × Str)) (V : Str × Str → Int) (s : Str) : Int := (o.map fun q => if q.2 = s then V q else 0).sum
theorem sum_nn {α : Type} (f : α → Int) : ∀ l : List α, (∀ a ∈ l, 0 ≤ f a) → 0 ≤ (l.map f).sum
  | l, h => sum_nonneg _ fun v hv => by obtain ⟨a, ha, rfl⟩ := List.mem_map.mp hv; exact h a ha
/-- no plan of the amounts is more than the filling, read by the order -/
theorem greedy : ∀ (o : List (Str × Str)) (F G : Str → Int) (V : Str × Str → Int), (∀ q ∈ o, 0 ≤ V q) → (∀ p, sP o V p ≤ F p) → (∀ s, sS o V s ≤ G s) → ltI (fv o F G) (o.map V) = false
  | [], _, _, _, _, _, _ => rfl
  | x :: r, F, G, V, h0, hF, hG => by
    have hr0 : ∀ q ∈ r, 0 ≤ V q := fun q hq => h0 q (List.mem_cons_of_mem _ hq)
    have cP : ∀ p, sP (x :: r) V p = (if x.1 = p then V x else 0) + sP r V p := fun p => by simp [sP]
    have cS : ∀ p, sS (x :: r) V p = (if x.2 = p then V x else 0) + sS r V p := fun p => by simp [sS]
    have nP : ∀ p, 0 ≤ sP r V p := fun p => sum_nn _ _ fun q hq => by
      have := hr0 q hq
      by_cases e : q.1 = p
      · simp [e]; omega
      · simp [e]
    have nS : ∀ p, 0 ≤ sS r V p := fun p => sum_nn _ _ fun q hq => by
      have := hr0 q hq
      by_cases e : q.2 = p
      · simp [e]; omega
      · simp [e]
    have a1 := hF x.1
    have a2 := hG x.2
    rw [cP, if_pos rfl] at a1
    rw [cS, if_pos rfl] at a2
    have b1 := nP x.1
    have b2 := nS x.2
    rw [fv, List.map_cons, ltI, decide_eq_false (show ¬ min (F x.1) (G x.2) < V x by omega), Bool.false_or]
    by_cases e : min (F x.1) (G x.2) = V x
    · rw [decide_eq_true e, Bool.true_and]
      refine greedy r _ _ V hr0 (fun p => ?_) fun s => ?_
      · have := hF p
        rw [cP] at this
        by_cases ep : p = x.1
        · subst ep; rw [up_same]; rw [if_pos rfl] at this; omega
        · rw [up_ne ep]; rw [if_neg (fun z => ep z.symm)] at this; omega
      · have := hG s
        rw [cS] at this
        by_cases ep : s = x.2
        · subst ep; rw [up_same]; rw [if_pos rfl] at this; omega
        · rw [up_ne ep]; rw [if_neg (fun z => ep z.symm)] at this; omega
    · rw [decide_eq_false e, Bool.false_and]
theorem perm_sum {l m : List Int} (h : l.Perm m) : l.sum = m.sum := by
  induction h with
  | nil => rfl
  | cons a _ ih => rw [List.sum_cons, List.sum_cons, ih]
  | swap a b l => simp only [List.sum_cons]; omega
  | trans _ _ h1 h2 => rw [h1, h2]
theorem sum_ite_one {ss : List Str} (hn : ss.Nodup) {x : Str} (h : x ∈ ss) (v : Str → Int) : (ss.map fun s => if s = x then v s else 0).sum = v x := by
  induction ss with
  | nil => cases h
  | cons a l ih =>
    have hn := List.nodup_cons.mp hn
    rw [List.map_cons, List.sum_cons]
    by_cases e : a = x
    · subst e
      rw [if_pos rfl]
      have : (l.map fun s => if s = a then v s else 0).sum = 0 := by
        have h2 : (l.map fun s => if s = a then v s else 0) = l.map fun _ => (0 : Int) := List.map_congr_left fun s hs => if_neg fun z => hn.1 (by rw [← z]; exact hs)
        rw [h2, List.map_const', sum_rep0]
      omega
    · rw [if_neg e]
      have := ih hn.2 ((List.mem_cons.mp h).resolve_left fun z => e z.symm)
      omega
theorem sum_none {ss : List Str} {x : Str} (h : x ∉ ss) (v : Str → Int) : (ss.map fun s => if s = x then v s else 0).sum = 0 := by
  have h2 : (ss.map fun s => if s = x then v s else 0) = ss.map fun _ => (0 : Int) := List.map_congr_left fun s hs => if_neg fun z => h (by rw [← z]; exact hs)
  rw [h2, List.map_const', sum_rep0]
theorem sum_prs (V : Str × Str → Int) (ps ss : List Str) : ((ps.flatMap fun p => ss.map fun s => (p, s)).map V).sum = (ps.map fun p => (ss.map fun s => V (p, s)).sum).sum := by
  induction ps with
  | nil => rfl
  | cons p ps ih => rw [List.flatMap_cons, List.map_append, List.sum_append, ih, List.map_cons, List.sum_cons, List.map_map]; rfl
theorem sum_add {α : Type} (f g : α → Int) : ∀ l : List α, (l.map fun a => f a + g a).sum = (l.map f).sum + (l.map g).sum
  | [] => rfl
  | a :: l => by simp only [List.map_cons, List.sum_cons]; rw [sum_add f g l]; omega
theorem sP_of {b : Bd} (hb : BdOk b) {o : List (Str × Str)} (ho : OrdOk b o) (V : Str × Str → Int) {p : Str} (hp : p ∈ b.pits) : sP o V p = (b.sites.map fun s => V (p, s)).sum := by
  unfold sP
  rw [perm_sum (ho.map _), sum_prs]
  have : (fun p' => (b.sites.map fun s => if (p', s).1 = p then V (p', s) else 0).sum) = fun p' => if p' = p then (b.sites.map fun s => V (p', s)).sum else 0 := by
    funext p'
    by_cases e : p' = p
    · simp [e]
    · simp only [e, if_false]
      rw [List.map_const', sum_rep0]
  rw [this, sum_ite_one (rise_nodup hb.pr) hp]
theorem sP_no {b : Bd} {o : List (Str × Str)} (ho : OrdOk b o) (V : Str × Str → Int) {p : Str} (hp : p ∉ b.pits) : sP o V p = 0 := by
  unfold sP
  have h2 : (o.map fun q => if q.1 = p then V q else 0) = o.map fun _ => (0 : Int) := List.map_congr_left fun q hq => if_neg fun z => hp (by rw [← z]; exact (ho.mem hq).1)
  rw [h2, List.map_const', sum_rep0]
theorem sS_of {b : Bd} (hb : BdOk b) {o : List (Str × Str)} (ho : OrdOk b o) (V : Str × Str → Int) {s : Str} (hs : s ∈ b.sites) : sS o V s = (b.pits.map fun p => V (p, s)).sum := by
  unfold sS
  rw [perm_sum (ho.map _), sum_prs]
  refine congrArg List.sum (List.map_congr_left fun p _ => ?_)
  exact sum_ite_one (rise_nodup hb.sr) hs fun s => V (p, s)
theorem sS_no {b : Bd} {o : List (Str × Str)} (ho : OrdOk b o) (V : Str × Str → Int) {s : Str} (hp : s ∉ b.sites) : sS o V s = 0 := by
  unfold sS
  have h2 : (o.map fun q => if q.2 = s then V q else 0) = o.map fun _ => (0 : Int) := List.map_congr_left fun q hq => if_neg fun z => hp (by rw [← z]; exact (ho.mem hq).2)
  rw [h2, List.map_const', sum_rep0]
/-- what a filling leaves -/
theorem fill_st : ∀ (o : List (Str × Str)) (a : FS) (p : Str), ((o.zip (fv o a.st a.nd)).map fun z => if z.1.1 = p then z.2 else 0).sum + (o.foldl fstep a).st p = a.st p
  | [], a, p => by simp
  | x :: o, a, p => by
    have ih := fill_st o (fstep a x) p
    rw [List.foldl_cons, fv, List.zip_cons_cons, List.map_cons, List.sum_cons]
    have e : fv o (fstep a x).st (fstep a x).nd = fv o (up a.st x.1 (a.st x.1 - min (a.st x.1) (a.nd x.2))) (up a.nd x.2 (a.nd x.2 - min (a.st x.1) (a.nd x.2))) := rfl
    rw [← e]
    by_cases ep : x.1 = p
    · have h2 : (fstep a x).st p = a.st p - min (a.st x.1) (a.nd x.2) := by subst ep; exact up_same
      rw [if_pos ep]; omega
    · have h2 : (fstep a x).st p = a.st p := up_ne fun z => ep z.symm
      rw [if_neg ep]; omega
theorem fill_nd : ∀ (o : List (Str × Str)) (a : FS) (p : Str), ((o.zip (fv o a.st a.nd)).map fun z => if z.1.2 = p then z.2 else 0).sum + (o.foldl fstep a).nd p = a.nd p
  | [], a, p => by simp
  | x :: o, a, p => by
    have ih := fill_nd o (fstep a x) p
    rw [List.foldl_cons, fv, List.zip_cons_cons, List.map_cons, List.sum_cons]
    have e : fv o (fstep a x).st (fstep a x).nd = fv o (up a.st x.1 (a.st x.1 - min (a.st x.1) (a.nd x.2))) (up a.nd x.2 (a.nd x.2 - min (a.st x.1) (a.nd x.2))) := rfl
    rw [← e]
    by_cases ep : x.2 = p
    · have h2 : (fstep a x).nd p = a.nd p - min (a.st x.1) (a.nd x.2) := by subst ep; exact up_same
      rw [if_pos ep]; omega
    · have h2 : (fstep a x).nd p = a.nd p := up_ne fun z => ep z.symm
      rw [if_neg ep]; omega
theorem zip_map_self {α β : Type} (V : α → β) : ∀ l : List α, l.zip (l.map V) = l.map fun a => (a, V a)
  | [] => rfl
  | a :: l => by rw [List.map_cons, List.zip_cons_cons, zip_map_self V l, List.map_cons]
theorem sP_fill {o : List (Str × Str)} (hn : o.Nodup) (F G : Str → Int) (p : Str) : sP o (ledL o F G) p + (fillF o F G).st p = F p := by
  have h := fill_st o ⟨F, G, []⟩ p
  rw [show fv o (FS.st ⟨F, G, []⟩) (FS.nd ⟨F, G, []⟩) = o.map (ledL o F G) from (ledL_fv hn F G).symm, zip_map_self, List.map_map] at h
  exact h
theorem sS_fill {o : List (Str × Str)} (hn : o.Nodup) (F G : Str → Int) (p : Str) : sS o (ledL o F G) p + (fillF o F G).nd p = G p := by
  have h := fill_nd o ⟨F, G, []⟩ p
  rw [show fv o (FS.st ⟨F, G, []⟩) (FS.nd ⟨F, G, []⟩) = o.map (ledL o F G) from (ledL_fv hn F G).symm, zip_map_self, List.map_map] at h
  exact h
/-- nothing is below nought; of each pair that was passed one is at nought -/
theorem fill_pos : ∀ (o : List (Str × Str)) (a : FS) (done : List (Str × Str)), (∀ p, 0 ≤ a.st p) → (∀ p, 0 ≤ a.nd p) → (∀ q ∈ done, a.st q.1 = 0 ∨ a.nd q.2 = 0) →
    (∀ p, 0 ≤ (o.foldl fstep a).st p) ∧ (∀ p, 0 ≤ (o.foldl fstep a).nd p) ∧ ∀ q ∈ done ++ o, (o.foldl fstep a).st q.1 = 0 ∨ (o.foldl fstep a).nd q.2 = 0
  | [], a, done, h1, h2, h3 => ⟨h1, h2, by simpa using h3⟩
  | x :: o, a, done, h1, h2, h3 => by
    have g1 := h1 x.1
    have g2 := h2 x.2
    have st : ∀ p, (fstep a x).st p = if p = x.1 then a.st p - min (a.st x.1) (a.nd x.2) else a.st p := fun p => by
      by_cases e : p = x.1
      · rw [if_pos e]; subst e; exact up_same
      · rw [if_neg e]; exact up_ne e
    have nd : ∀ p, (fstep a x).nd p = if p = x.2 then a.nd p - min (a.st x.1) (a.nd x.2) else a.nd p := fun p => by
      by_cases e : p = x.2
      · rw [if_pos e]; subst e; exact up_same
      · rw [if_neg e]; exact up_ne e
    have r := fill_pos o (fstep a x) (done ++ [x]) (fun p => by
      have := h1 p
      rw [st]; split
      · rename_i e; subst e; omega
      · exact this) (fun p => by
      have := h2 p
      rw [nd]; split
      · rename_i e; subst e; omega
      · exact this) fun q hq => by
      rw [st, nd]
      rcases List.mem_append.mp hq with z | z
      · rcases h3 q z with w | w
        · left; split
          · rename_i e; rw [e] at w ⊢; omega
          · exact w
        · right; split
          · rename_i e; rw [e] at w ⊢; omega
          · exact w
      · rw [List.mem_singleton.mp z, if_pos rfl, if_pos rfl]; omega
    rw [List.foldl_cons]
    refine ⟨r.1, r.2.1, fun q hq => r.2.2 q ?_⟩
    simpa using hq
theorem lk_nn : ∀ (ks : List Str) (vs : List Int), (∀ v ∈ vs, 0 ≤ v) → ∀ k, 0 ≤ lk ks vs k
  | [], _, _, k => by simp [lk]
  | _ :: _, [], _, k => by simp [lk]
  | a :: ks, v :: vs, h, k => by
    have ih := lk_nn ks vs (fun v hv => h v (List.mem_cons_of_mem _ hv)) k
    have h0 := h v List.mem_cons_self
    unfold lk at ih ⊢
    rw [List.zip_cons_cons, List.lookup]
    split
    · exact h0
    · exact ih
theorem lk_no : ∀ (ks : List Str) (vs : List Int) (k : Str), k ∉ ks → lk ks vs k = 0
  | [], _, k, _ => by simp [lk]
  | _ :: _, [], k, _ => by simp [lk]
  | a :: ks, v :: vs, k, h => by
    have ih := lk_no ks vs k fun z => h (List.mem_cons_of_mem _ z)
    have : (k == a) = false := by
      simp only [beq_eq_false_iff_ne]
      intro z; exact h (by rw [z]; exact List.mem_cons_self)
    unfold lk at ih ⊢
    rw [List.zip_cons_cons, List.lookup, this]
    exact ih
theorem map_ix {α : Type} {ss : List Str} (hn : ss.Nodup) {xs : List α} (h : xs.length = ss.length) (d : α) : ss.map (fun s => xs.getD (ix ss s) d) = xs := by
  apply List.ext_getElem
  · simp [h]
  · intro i h1 h2
    simp at h1
    rw [List.getElem_map, ix_of hn h1, List.getD_eq_getElem?_getD, List.getElem?_eq_getElem h2]; rfl
theorem lk_ix {ks : List Str} (hn : ks.Nodup) {vs : List Int} (hl : vs.length = ks.length) {k : Str} (h : k ∈ ks) : lk ks vs k = vs.getD (ix ks k) 0 := by
  have h1 := ix_lt h
  have h2 := lk_get (vs := vs) h1 (by omega) hn
  rw [ix_get h] at h2
  rw [h2, List.getD_eq_getElem?_getD, List.getElem?_eq_getElem (by omega)]; rfl
theorem lk_all {ks : List Str} (hn : ks.Nodup) {vs : List Int} (hl : vs.length = ks.length) : ks.map (lk ks vs) = vs := by
  rw [← map_ix hn hl 0]
  refine List.map_congr_left fun k hk => ?_
  rw [map_ix hn hl 0]; exact lk_ix hn hl hk
/-- a plan of the amounts -/
structure PlanA (b : Bd) (st nd : List Int) (rs : List (TK × List Int)) : Prop where
  l : rs.length = b.pits.length
  w : ∀ r ∈ rs, r.2.length = b.sites.length
  n : ∀ r ∈ rs, ∀ v ∈ r.2, 0 ≤ v
  r : rs.map (fun r => r.2.sum) = st
  c : (cols (rs.map (·.2)) b.sites.length).map List.sum = nd
theorem PlanA.r2 {b : Bd} {st nd : List Int} {rs : List (TK × List Int)} (h : PlanA b st nd rs) : (rs.map (·.2)).map List.sum = st := by rw [List.map_map]; exact h.r
theorem PlanA.ok {b : Bd} {m : Nat} {st nd : List Int} {rs : List (TK × List Int)} (h : PlanA b st nd rs) (ha : AmtOk b m st nd) (hm : m ≤ 45) : PlanOk b rs := by
  have hle := ha.le
  have heq := ha.eq
  have su : ∀ r ∈ rs, r.2.sum ≤ 45 := fun r hr => by
    have := le_sum st ha.n1 r.2.sum (by rw [← h.r]; exact List.mem_map.mpr ⟨r, hr, rfl⟩)
    omega
  refine ⟨h.l, h.w, fun r hr v hv => ⟨h.n r hr v hv, ?_⟩, su, fun c hc => ?_⟩
  · have h1 := le_sum r.2 (h.n r hr) v hv
    have h2 := su r hr
    omega
  · have := le_sum nd ha.n2 c.sum (by rw [← h.c]; exact List.mem_map.mpr ⟨c, hc, rfl⟩)
    omega
theorem pv_plan (b : Bd) (H : Str → Str → Int) {p s : Str} (hp : p ∈ b.pits) (hs : s ∈ b.sites) : pv b ((planR b H).map (·.2)) p s = H p s := by
  have e : ((planR b H).map (·.2)).getD (ix b.pits p) [] = b.sites.map fun s => H p s := by
    rw [planR_snd, List.getD_eq_getElem?_getD, List.getElem?_map, (ix_at hp).2]; rfl
  unfold pv
  rw [e]
  rw [List.getD_eq_getElem?_getD, List.getElem?_map, (ix_at hs).2]; rfl
theorem rowF_plan {b : Bd} {o : List (Str × Str)} (ho : OrdOk b o) (H : Str → Str → Int) : rowF b ((planR b H).map (·.2)) o = o.map fun q => H q.1 q.2 := List.map_congr_left fun q hq => pv_plan b H (ho.mem hq).1 (ho.mem hq).2
theorem sP_plan {b : Bd} (hb : BdOk b) {o : List (Str × Str)} (ho : OrdOk b o) {st nd : List Int} {rs : List (TK × List Int)} (h : PlanA b st nd rs) (p : Str) : sP o (fun q => pv b (rs.map (·.2)) q.1 q.2) p = lk b.pits st p := by
  by_cases hp : p ∈ b.pits
  · have hn := rise_nodup hb.pr
    have hl : st.length = b.pits.length := by rw [← h.r]; simp [h.l]
    rw [sP_of hb ho _ hp, lk_ix hn hl hp]
    have i1 := ix_lt hp
    have e1 : rs[ix b.pits p]? = some (rs[ix b.pits p]'(by rw [h.l]; omega)) := List.getElem?_eq_getElem _
    have hm := List.getElem_mem (show ix b.pits p < rs.length by rw [h.l]; omega)
    generalize rs[ix b.pits p]'(by rw [h.l]; omega) = r at e1 hm
    have e3 : (rs.map (·.2)).getD (ix b.pits p) [] = r.2 := by rw [List.getD_eq_getElem?_getD, List.getElem?_map, e1]; rfl
    have e4 : st.getD (ix b.pits p) 0 = r.2.sum := by rw [← h.r, List.getD_eq_getElem?_getD, List.getElem?_map, e1]; rfl
    rw [e4]
    unfold pv
    simp only [e3]
    rw [map_ix (rise_nodup hb.sr) (h.w r hm) 0]
  · rw [sP_no ho _ hp, lk_no _ _ _ hp]
theorem sS_plan {b : Bd} (hb : BdOk b) {o : List (Str × Str)} (ho : OrdOk b o) {st nd : List Int} {rs : List (TK × List Int)} (h : PlanA b st nd rs) (s : Str) : sS o (fun q => pv b (rs.map (·.2)) q.1 q.2) s = lk b.sites nd s := by
  by_cases hs : s ∈ b.sites
  · have hn := rise_nodup hb.sr
    have hl : nd.length = b.sites.length := by rw [← h.c]; simp
    rw [sS_of hb ho _ hs, lk_ix hn hl hs]
    have i1 := ix_lt hs
    have e4 : nd.getD (ix b.sites s) 0 = (col (rs.map (·.2)) (ix b.sites s)).sum := by
      rw [← h.c, List.getD_eq_getElem?_getD, List.getElem?_map, List.getElem?_map, List.getElem?_range i1]; rfl
    rw [e4]
    unfold pv
    refine congrArg List.sum ?_
    have h5 := map_ix (rise_nodup hb.pr) (xs := rs.map (·.2)) (by rw [List.length_map, h.l]) []
    show b.pits.map _ = (rs.map (·.2)).map _
    conv => rhs; rw [← h5]
    rw [List.map_map]; rfl
  · rw [sS_no ho _ hs, lk_no _ _ _ hs]
theorem rows_of {b : Bd} (hb : BdOk b) {P : List (List Int)} (h1 : P.length = b.pits.length) (h2 : ∀ r ∈ P, r.length = b.sites.length) : P = b.pits.map fun p => b.sites.map fun s => pv b P p s := by
  conv => lhs; rw [← map_ix (rise_nodup hb.pr) h1 []]
  refine List.map_congr_left fun p hp => ?_
  have hr : P.getD (ix b.pits p) [] ∈ P := by
    have := ix_lt hp
    rw [List.getD_eq_getElem?_getD, List.getElem?_eq_getElem (by omega)]; exact List.getElem_mem _
  conv => lhs; rw [← map_ix (rise_nodup hb.sr) (h2 _ hr) 0]
  rfl
theorem rowF_inj {b : Bd} (hb : BdOk b) {o : List (Str × Str)} (ho : OrdOk b o) {P R : List (List Int)} (h1 : P.length = b.pits.length) (h2 : ∀ r ∈ P, r.length = b.sites.length) (g1 : R.length = b.pits.length) (g2 : ∀ r ∈ R, r.length = b.sites.length) (e : rowF b P o = rowF b R o) : P = R := by
  rw [rows_of hb h1 h2, rows_of hb g1 g2]
  have e2 := List.map_inj_left.mp e
  refine List.map_congr_left fun p hp => List.map_congr_left fun s hs => ?_
  exact e2 (p, s) (ho.mem_iff.mpr (mem_prs.mpr ⟨hp, hs⟩))
theorem fv_nn : ∀ (o : List (Str × Str)) (F G : Str → Int), (∀ p, 0 ≤ F p) → (∀ p, 0 ≤ G p) → ∀ v ∈ fv o F G, 0 ≤ v
  | [], _, _, _, _, v, hv => by cases hv
  | x :: o, F, G, h1, h2, v, hv => by
    have g1 := h1 x.1
    have g2 := h2 x.2
    rw [fv] at hv
    rcases List.mem_cons.mp hv with e | hv
    · rw [e]; omega
    · refine fv_nn o _ _ (fun p => ?_) (fun p => ?_) v hv
      · have := h1 p
        unfold up; split <;> omega
      · have := h2 p
        unfold up; split <;> omega
theorem sum_swap {α β : Type} (f : α → β → Int) : ∀ (l : List α) (m : List β), (l.map fun a => (m.map fun c => f a c).sum).sum = (m.map fun c => (l.map fun a => f a c).sum).sum
  | [], m => by
    simp only [List.map_nil, List.sum_nil]
    rw [List.map_const', sum_rep0]
  | a :: l, m => by
    simp only [List.map_cons, List.sum_cons]
    rw [sum_swap f l m, ← sum_add]
theorem sum_zero : ∀ (l : List Int), (∀ v ∈ l, 0 ≤ v) → l.sum = 0 → ∀ v ∈ l, v = 0 := fun l h e v hv => by
  have h1 := le_sum l h v hv
  have h2 := h v hv
  omega
/-- a filling of all pairs leaves nothing -/
theorem fill_zero {b : Bd} (hb : BdOk b) {o : List (Str × Str)} (ho : OrdOk b o) {m : Nat} {st nd : List Int} (ha : AmtOk b m st nd) :
    (∀ p ∈ b.pits, (fillF o (lk b.pits st) (lk b.sites nd)).st p = 0) ∧ ∀ s ∈ b.sites, (fillF o (lk b.pits st) (lk b.sites nd)).nd s = 0 := by
  have hpn := rise_nodup hb.pr
  have hsn := rise_nodup hb.sr
  have e1 := fun p => sP_fill (ho.nd hb) (lk b.pits st) (lk b.sites nd) p
  have e2 := fun p => sS_fill (ho.nd hb) (lk b.pits st) (lk b.sites nd) p
  have ps := fill_pos o ⟨lk b.pits st, lk b.sites nd, []⟩ [] (lk_nn _ _ ha.n1) (lk_nn _ _ ha.n2) (by simp)
  have z1 : ∀ p, 0 ≤ (fillF o (lk b.pits st) (lk b.sites nd)).st p := ps.1
  have z2 : ∀ p, 0 ≤ (fillF o (lk b.pits st) (lk b.sites nd)).nd p := ps.2.1
  have z3 : ∀ q ∈ o, (fillF o (lk b.pits st) (lk b.sites nd)).st q.1 = 0 ∨ (fillF o (lk b.pits st) (lk b.sites nd)).nd q.2 = 0 := fun q hq => ps.2.2 q (by simpa using hq)
  generalize hV : ledL o (lk b.pits st) (lk b.sites nd) = V at e1 e2
  generalize fillF o (lk b.pits st) (lk b.sites nd) = E at e1 e2 z1 z2 z3 ⊢
  have t1 : (b.pits.map fun p => sP o V p).sum = (o.map V).sum := by
    rw [sum_swap (fun p (q : Str × Str) => if q.1 = p then V q else 0)]
    refine congrArg List.sum (List.map_congr_left fun q hq => ?_)
    have := sum_ite_one hpn (ho.mem hq).1 fun _ => V q
    refine Eq.trans ?_ this
    refine congrArg List.sum (List.map_congr_left fun p _ => ?_)
    by_cases e : q.1 = p
    · rw [if_pos e, if_pos e.symm]
    · rw [if_neg e, if_neg (fun z => e z.symm)]
  have t2 : (b.sites.map fun p => sS o V p).sum = (o.map V).sum := by
    rw [sum_swap (fun p (q : Str × Str) => if q.2 = p then V q else 0)]
    refine congrArg List.sum (List.map_congr_left fun q hq => ?_)
    have := sum_ite_one hsn (ho.mem hq).2 fun _ => V q
    refine Eq.trans ?_ this
    refine congrArg List.sum (List.map_congr_left fun p _ => ?_)
    by_cases e : q.2 = p
    · rw [if_pos e, if_pos e.symm]
    · rw [if_neg e, if_neg (fun z => e z.symm)]
  have t3 : (b.pits.map fun p => sP o V p).sum + (b.pits.map E.st).sum = st.sum := by
    rw [← sum_add]
    conv => rhs; rw [← lk_all hpn ha.l1]
    exact congrArg List.sum (List.map_congr_left fun p _ => e1 p)
  have t4 : (b.sites.map fun p => sS o V p).sum + (b.sites.map E.nd).sum = nd.sum := by
    rw [← sum_add]
    conv => rhs; rw [← lk_all hsn ha.l2]
    exact congrArg List.sum (List.map_congr_left fun p _ => e2 p)
  have heq := ha.eq
  have n1 : ∀ v ∈ b.pits.map E.st, 0 ≤ v := fun v hv => by obtain ⟨p, _, rfl⟩ := List.mem_map.mp hv; exact z1 p
  have n2 : ∀ v ∈ b.sites.map E.nd, 0 ≤ v := fun v hv => by obtain ⟨p, _, rfl⟩ := List.mem_map.mp hv; exact z2 p
  have fin : (b.pits.map E.st).sum = 0 := by
    by_cases hx : ∃ p ∈ b.pits, E.st p ≠ 0
    · obtain ⟨p, hp, hne⟩ := hx
      have : b.sites.map E.nd = b.sites.map fun _ => (0 : Int) := List.map_congr_left fun s hs => (z3 (p, s) (ho.mem_iff.mpr (mem_prs.mpr ⟨hp, hs⟩))).resolve_left hne
      rw [this, List.map_const', sum_rep0] at t4
      omega
    · have : b.pits.map E.st = b.pits.map fun _ => (0 : Int) := List.map_congr_left fun p hp => Classical.byContradiction fun z => hx ⟨p, hp, z⟩
      rw [this, List.map_const', sum_rep0]
  have fin2 : (b.sites.map E.nd).sum = 0 := by omega
  exact ⟨fun p hp => sum_zero _ n1 fin _ (List.mem_map.mpr ⟨p, hp, rfl⟩), fun s hs => sum_zero _ n2 fin2 _ (List.mem_map.mpr ⟨s, hs, rfl⟩)⟩
/-- the filling's rows -/
abbrev ownP (b : Bd) (o : List (Str × Str)) (st nd : List Int) : List (TK × List Int) := planR b (lval (fillF o (lk b.pits st) (lk b.sites nd)).led)
theorem own_ok {b : Bd} (hb : BdOk b) {o : List (Str × Str)} (ho : OrdOk b o) {m : Nat} {st nd : List Int} (ha : AmtOk b m st nd) : PlanA b st nd (ownP b o st nd) := by
  have hpn := rise_nodup hb.pr
  have hsn := rise_nodup hb.sr
  have fz := fill_zero hb ho ha
  have e1 := fun p => sP_fill (ho.nd hb) (lk b.pits st) (lk b.sites nd) p
  have e2 := fun p => sS_fill (ho.nd hb) (lk b.pits st) (lk b.sites nd) p
  refine ⟨by simp, fun r hr => by obtain ⟨p, _, rfl⟩ := List.mem_map.mp hr; simp, fun r hr v hv => ?_, ?_, ?_⟩
  · obtain ⟨p, hp, rfl⟩ := List.mem_map.mp hr
    obtain ⟨s, hs, rfl⟩ := List.mem_map.mp hv
    have h1 := fv_nn o (lk b.pits st) (lk b.sites nd) (lk_nn _ _ ha.n1) (lk_nn _ _ ha.n2)
    rw [← ledL_fv (ho.nd hb)] at h1
    exact h1 _ (List.mem_map.mpr ⟨(p, s), ho.mem_iff.mpr (mem_prs.mpr ⟨hp, hs⟩), rfl⟩)
  · rw [List.map_map]
    refine Eq.trans (List.map_congr_left fun p hp => ?_) (lk_all hpn ha.l1)
    have h1 := e1 p
    rw [fz.1 p hp, sP_of hb ho _ hp] at h1
    rw [Int.add_zero] at h1
    exact h1
  · rw [planR_snd]
    apply List.ext_getElem
    · simp [ha.l2]
    · intro j h1 h2
      simp at h1
      rw [List.getElem_map, List.getElem_map, List.getElem_range]
      have hs := List.getElem_mem h1
      have h3 := e2 b.sites[j]
      rw [fz.2 _ hs, sS_of hb ho _ hs, lk_get h1 h2 hsn] at h3
      rw [Int.add_zero] at h3
      rw [← h3]
      unfold col
      rw [List.map_map]
      refine congrArg List.sum (List.map_congr_left fun p _ => ?_)
      show (b.sites.map fun s => lval _ p s).getD j 0 = _
      rw [List.getD_eq_getElem?_getD, List.getElem?_map, List.getElem?_eq_getElem h1]; rfl
theorem own_eq {b : Bd} {o : List (Str × Str)} {st nd : List Int} {rs : List (TK × List Int)} (h : PlanA b st nd rs) : ownR b o (rs.map (·.2)) = ownP b o st nd := by
  unfold ownR ownP sumS sumC
  rw [h.r2, h.c]
theorem own_most {b : Bd} (hb : BdOk b) {o : List (Str × Str)} (ho : OrdOk b o) {st nd : List Int} {rs : List (TK × List Int)} (h : PlanA b st nd rs) : ltI (rowF b ((ownP b o st nd).map (·.2)) o) (rowF b (rs.map (·.2)) o) = false := by
  rw [rowF_plan ho, show (o.map fun q => lval (fillF o (lk b.pits st) (lk b.sites nd)).led q.1 q.2) = fv o (lk b.pits st) (lk b.sites nd) from ledL_fv (ho.nd hb) _ _]
  refine greedy o _ _ (fun q => pv b (rs.map (·.2)) q.1 q.2) (fun q hq => ?_) (fun p => by rw [sP_plan hb ho h]; exact Int.le_refl _) fun s => by rw [sS_plan hb ho h]; exact Int.le_refl _
  have i1 := ix_lt (ho.mem hq).1
  have i2 := ix_lt (ho.mem hq).2
  unfold pv
  have hr : (rs.map (·.2)).getD (ix b.pits q.1) [] ∈ rs.map (·.2) := by
    rw [List.getD_eq_getElem?_getD, List.getElem?_eq_getElem (by rw [List.length_map, h.l]; omega)]; exact List.getElem_mem _
  obtain ⟨r, hr, e⟩ := List.mem_map.mp hr
  show 0 ≤ ((rs.map (·.2)).getD (ix b.pits q.1) []).getD _ 0
  rw [← e]
  refine h.n r hr _ ?_
  have := h.w r hr
  rw [List.getD_eq_getElem?_getD, List.getElem?_eq_getElem (by omega)]; exact List.getElem_mem _
/-- the law's plans -/
theorem plans_ok {b : Bd} {m : Nat} {st nd : List Int} (ha : AmtOk b m st nd) (hm : m ≤ 9) (k : TK) : ∀ it ∈ plansP k st nd, PlanA b st nd it.2.1 := fun it hit => by
  have hle := ha.le
  have heq := ha.eq
  have h := plansP_ok k (nd := nd) (fun v hv => ⟨ha.n2 v hv, by have := le_sum nd ha.n2 v hv; omega⟩) _ st rfl ha.n1 it hit
  have hl : it.2.1.length = b.pits.length := by
    have := congrArg List.length h.s
    rw [List.length_map] at this
    rw [this, ha.l1]
  refine ⟨hl, fun r hr => by rw [(h.w r hr).1, ha.l2], fun r hr => (h.w r hr).2, h.s, ?_⟩
  have ht := h.t
  have hz := sum_zero _ (fun v hv => (h.n v hv).1) (show it.2.2.2.sum = 0 by omega)
  apply List.ext_getElem
  · simp [ha.l2]
  · intro j h1 h2
    simp at h1
    rw [List.getElem_map, List.getElem_map, List.getElem_range]
    have hc := h.c j
    have e0 : it.2.2.2.getD j 0 = 0 := hz _ (by rw [List.getD_eq_getElem?_getD, List.getElem?_eq_getElem (by rw [h.l]; omega)]; exact List.getElem_mem _)
    have e1 : nd.getD j 0 = nd[j] := by rw [List.getD_eq_getElem?_getD, List.getElem?_eq_getElem h2]; rfl
    rw [e0, e1, Int.zero_add] at hc
    rw [← hc]
    unfold col
    rw [List.map_map]; rfl
/-! ### fillings by used pairs -/
section
variable {α : Type} [DecidableEq α]
def pos (o : List α) (q : α) : Nat := (o.findIdx? fun x => decide (x = q)).getD 0
theorem pos_at : ∀ {o : List α} {q : α}, q ∈ o → o[pos o q]? = some q
  | a :: o, q, h => by
    unfold pos
    rw [List.findIdx?_cons]
    by_cases e : a = q
    · subst e; simp
    · have hm : q ∈ o := (List.mem_cons.mp h).resolve_left fun z => e z.symm
      have ih := pos_at hm
      unfold pos at ih
      rw [decide_eq_false e]
      cases hf : o.findIdx? fun x => decide (x = q) with
      | none => exact absurd hm (by
          intro hm
          have := List.findIdx?_eq_none_iff.mp hf q hm
          simp at this)
      | some i => rw [hf] at ih; simpa using ih
theorem pos_of {o : List α} (hn : o.Nodup) {i : Nat} (h : i < o.length) : pos o o[i] = i := by
  have h1 := pos_at (List.getElem_mem h)
  have h2 := (List.getElem?_eq_some_iff.mp h1)
  exact nodup_get hn h2.1 h h2.2
theorem pos_lt {o : List α} {q : α} (h : q ∈ o) : pos o q < o.length := (List.getElem?_eq_some_iff.mp (pos_at h)).1
theorem pos_pw {o : List α} (hn : o.Nodup) : o.Pairwise fun a b => pos o a < pos o b := List.pairwise_iff_getElem.mpr fun i j hi hj hij => by rw [pos_of hn hi, pos_of hn hj]; exact hij
end
abbrev Prs := List (Str × Str)
theorem sP_cons (x : Str × Str) (r : Prs) (V : Str × Str → Int) (p : Str) : sP (x :: r) V p = (if x.1 = p then V x else 0) + sP r V p := by simp [sP]
theorem sS_cons (x : Str × Str) (r : Prs) (V : Str × Str → Int) (p : Str) : sS (x :: r) V p = (if x.2 = p then V x else 0) + sS r V p := by simp [sS]
theorem sP_nn {r : Prs} {V : Str × Str → Int} (h : ∀ q ∈ r, 0 ≤ V q) (p : Str) : 0 ≤ sP r V p := sum_nn _ _ fun q hq => by
  have := h q hq
  by_cases e : q.1 = p
  · simp [e]; omega
  · simp [e]
theorem sS_nn {r : Prs} {V : Str × Str → Int} (h : ∀ q ∈ r, 0 ≤ V q) (p : Str) : 0 ≤ sS r V p := sum_nn _ _ fun q hq => by
  have := h q hq
  by_cases e : q.2 = p
  · simp [e]; omega
  · simp [e]
theorem sum_pos {α : Type} (f : α → Int) : ∀ l : List α, 0 < (l.map f).sum → ∃ a ∈ l, 0 < f a
  | [], h => by simp at h
  | a :: l, h => by
    rw [List.map_cons, List.sum_cons] at h
    by_cases h0 : 0 < f a
    · exact ⟨a, List.mem_cons_self, h0⟩
    · obtain ⟨c, hc, h1⟩ := sum_pos f l (by omega)
      exact ⟨c, List.mem_cons_of_mem _ hc, h1⟩
theorem sP_pos {r : Prs} {V : Str × Str → Int} {p : Str} (h : 0 < sP r V p) : ∃ q ∈ r, q.1 = p ∧ 0 < V q := by
  obtain ⟨q, hq, h1⟩ := sum_pos _ r h
  by_cases e : q.1 = p
  · exact ⟨q, hq, e, by simpa [e] using h1⟩
  · simp [e] at h1
theorem sS_pos {r : Prs} {V : Str × Str → Int} {p : Str} (h : 0 < sS r V p) : ∃ q ∈ r, q.2 = p ∧ 0 < V q := by
  obtain ⟨q, hq, h1⟩ := sum_pos _ r h
  by_cases e : q.2 = p
  · exact ⟨q, hq, e, by simpa [e] using h1⟩
  · simp [e] at h1
abbrev CondP (ps : Str × Str → Nat) (x y : Str × Str) : Prop := min (ps x) (ps y) ≤ min (ps (x.1, y.2)) (ps (y.1, x.2))
theorem by_fill (ps : Str × Str → Nat) (V : Str × Str → Int) : ∀ (o : Prs) (F G : Str → Int), o.Pairwise (fun a b => ps a < ps b) → (∀ q ∈ o, 0 ≤ V q) → (∀ p, sP o V p = F p) → (∀ s, sS o V s = G s) →
    (∀ x ∈ o, ∀ y ∈ o, 0 < V x → 0 < V y → x.1 ≠ y.1 → x.2 ≠ y.2 → CondP ps x y) → fv o F G = o.map V
  | [], _, _, _, _, _, _, _ => rfl
  | w :: r, F, G, hp, h0, hF, hG, hc => by
    have hp2 := List.pairwise_cons.mp hp
    have hr0 : ∀ q ∈ r, 0 ≤ V q := fun q hq => h0 q (List.mem_cons_of_mem _ hq)
    have hw0 := h0 w List.mem_cons_self
    have a1 := hF w.1
    have a2 := hG w.2
    rw [sP_cons, if_pos rfl] at a1
    rw [sS_cons, if_pos rfl] at a2
    have b1 := sP_nn hr0 w.1
    have b2 := sS_nn hr0 w.2
    have hm : min (F w.1) (G w.2) = V w := by
      refine Classical.byContradiction fun ne => ?_
      obtain ⟨x, hx, x1, x2⟩ := sP_pos (V := V) (p := w.1) (r := r) (by omega)
      obtain ⟨y, hy, y1, y2⟩ := sS_pos (V := V) (p := w.2) (r := r) (by omega)
      have wx := hp2.1 x hx
      have wy := hp2.1 y hy
      have e1 : x.2 ≠ w.2 := fun z => by
        have : x = w := Prod.ext x1 z
        rw [this] at wx; omega
      have e2 : y.1 ≠ w.1 := fun z => by
        have : y = w := Prod.ext z y1
        rw [this] at wy; omega
      have := hc x (List.mem_cons_of_mem _ hx) y (List.mem_cons_of_mem _ hy) x2 y2 (by rw [x1]; exact fun z => e2 z.symm) (by rw [y1]; exact e1)
      have eu : ((x.1, y.2) : Str × Str) = w := Prod.ext x1 y1
      unfold CondP at this
      rw [eu] at this
      omega
    rw [fv, List.map_cons, hm]
    congr 1
    refine by_fill ps V r _ _ hp2.2 hr0 (fun p => ?_) (fun s => ?_) fun x hx y hy => hc x (List.mem_cons_of_mem _ hx) y (List.mem_cons_of_mem _ hy)
    · have := hF p
      rw [sP_cons] at this
      by_cases ep : p = w.1
      · subst ep; rw [up_same]; rw [if_pos rfl] at this; omega
      · rw [up_ne ep]; rw [if_neg (fun z => ep z.symm)] at this; omega
    · have := hG s
      rw [sS_cons] at this
      by_cases ep : s = w.2
      · subst ep; rw [up_same]; rw [if_pos rfl] at this; omega
      · rw [up_ne ep]; rw [if_neg (fun z => ep z.symm)] at this; omega
theorem up_nn {F : Str → Int} (h : ∀ p, 0 ≤ F p) {k : Str} {v : Int} (hv : 0 ≤ v) : ∀ p, 0 ≤ up F k v p := fun p => by
  unfold up; split
  · exact hv
  · exact h p
theorem fv_zero1 (V : Str × Str → Int) : ∀ (r : Prs) (F G : Str → Int) (p : Str), (∀ p, 0 ≤ F p) → (∀ p, 0 ≤ G p) → F p = 0 → fv r F G = r.map V → ∀ q ∈ r, q.1 = p → V q = 0
  | [], _, _, _, _, _, _, _, q, hq, _ => by cases hq
  | w :: r, F, G, p, hF, hG, h0, e, q, hq, eq => by
    rw [fv, List.map_cons] at e
    obtain ⟨e1, e2⟩ := List.cons.inj e
    have g1 := hF w.1
    have g2 := hG w.2
    rcases List.mem_cons.mp hq with z | hq
    · subst z
      rw [eq, h0] at e1; omega
    · refine fv_zero1 V r _ _ p (up_nn hF (by omega)) (up_nn hG (by omega)) ?_ e2 q hq eq
      by_cases ep : p = w.1
      · subst ep; rw [up_same]; omega
      · rw [up_ne ep]; exact h0
theorem fv_zero2 (V : Str × Str → Int) : ∀ (r : Prs) (F G : Str → Int) (p : Str), (∀ p, 0 ≤ F p) → (∀ p, 0 ≤ G p) → G p = 0 → fv r F G = r.map V → ∀ q ∈ r, q.2 = p → V q = 0
  | [], _, _, _, _, _, _, _, q, hq, _ => by cases hq
  | w :: r, F, G, p, hF, hG, h0, e, q, hq, eq => by
    rw [fv, List.map_cons] at e
    obtain ⟨e1, e2⟩ := List.cons.inj e
    have g1 := hF w.1
    have g2 := hG w.2
    rcases List.mem_cons.mp hq with z | hq
    · subst z
      rw [eq, h0] at e1; omega
    · refine fv_zero2 V r _ _ p (up_nn hF (by omega)) (up_nn hG (by omega)) ?_ e2 q hq eq
      by_cases ep : p = w.2
      · subst ep; rw [up_same]; omega
      · rw [up_ne ep]; exact h0
theorem fill_by (ps : Str × Str → Nat) (V : Str × Str → Int) : ∀ (o : Prs) (F G : Str → Int), o.Pairwise (fun a b => ps a < ps b) → (∀ p, 0 ≤ F p) → (∀ p, 0 ≤ G p) → fv o F G = o.map V →
    ∀ x ∈ o, ∀ y ∈ o, (x.1, y.2) ∈ o → (y.1, x.2) ∈ o → 0 < V x → 0 < V y → x.1 ≠ y.1 → x.2 ≠ y.2 → CondP ps x y
  | [], _, _, _, _, _, _, x, hx, _, _, _, _, _, _, _, _ => by cases hx
  | w :: r, F, G, hp, hF, hG, e, x, hx, y, hy, hu, hv, vx, vy, n1, n2 => by
    have hp2 := List.pairwise_cons.mp hp
    have le : ∀ q ∈ w :: r, ps w ≤ ps q := fun q hq => by
      rcases List.mem_cons.mp hq with z | hq
      · rw [z]; exact Nat.le_refl _
      · exact Nat.le_of_lt (hp2.1 q hq)
    have lu := le _ hu
    have lv := le _ hv
    by_cases xw : x = w
    · unfold CondP
      rw [xw] at lu lv ⊢; omega
    by_cases yw : y = w
    · unfold CondP
      rw [yw] at lu lv ⊢; omega
    have hx2 := (List.mem_cons.mp hx).resolve_left xw
    have hy2 := (List.mem_cons.mp hy).resolve_left yw
    rw [fv, List.map_cons] at e
    obtain ⟨e1, e2⟩ := List.cons.inj e
    have g1 := hF w.1
    have g2 := hG w.2
    have hF' := up_nn hF (k := w.1) (v := F w.1 - min (F w.1) (G w.2)) (by omega)
    have hG' := up_nn hG (k := w.2) (v := G w.2 - min (F w.1) (G w.2)) (by omega)
    have hz : up F w.1 (F w.1 - min (F w.1) (G w.2)) w.1 = 0 ∨ up G w.2 (G w.2 - min (F w.1) (G w.2)) w.2 = 0 := by
      rw [up_same, up_same]; omega
    by_cases uw : (x.1, y.2) = w
    · have u1 : x.1 = w.1 := by rw [← uw]
      have u2 : y.2 = w.2 := by rw [← uw]
      rcases hz with z | z
      · have := fv_zero1 V r _ _ w.1 hF' hG' z e2 x hx2 u1; omega
      · have := fv_zero2 V r _ _ w.2 hF' hG' z e2 y hy2 u2; omega
    by_cases vw : (y.1, x.2) = w
    · have u1 : y.1 = w.1 := by rw [← vw]
      have u2 : x.2 = w.2 := by rw [← vw]
      rcases hz with z | z
      · have := fv_zero1 V r _ _ w.1 hF' hG' z e2 y hy2 u1; omega
      · have := fv_zero2 V r _ _ w.2 hF' hG' z e2 x hx2 u2; omega
    exact fill_by ps V r _ _ hp2.2 hF' hG' e2 x hx2 y hy2 ((List.mem_cons.mp hu).resolve_left uw) ((List.mem_cons.mp hv).resolve_left vw) vx vy n1 n2
/-- the pairs that a plan uses -/
abbrev usedL (b : Bd) (P : List (List Int)) : Prs := (prs b).filter fun q => decide (0 < pv b P q.1 q.2)
def byP (o us : Prs) : Bool := us.all fun x => us.all fun y => decide (x.1 = y.1) || (decide (x.2 = y.2) || decide (CondP (pos o) x y))
theorem byP_iff {o us : Prs} : byP o us = true ↔ ∀ x ∈ us, ∀ y ∈ us, x.1 ≠ y.1 → x.2 ≠ y.2 → CondP (pos o) x y := by
  unfold byP
  simp only [List.all_eq_true, Bool.or_eq_true, decide_eq_true_eq]
  constructor
  · intro h x hx y hy n1 n2
    exact ((h x hx y hy).resolve_left n1).resolve_left n2
  · intro h x hx y hy
    by_cases n1 : x.1 = y.1
    · exact .inl n1
    by_cases n2 : x.2 = y.2
    · exact .inr (.inl n2)
    exact .inr (.inr (h x hx y hy n1 n2))
theorem pv_nn {b : Bd} {st nd : List Int} {rs : List (TK × List Int)} (h : PlanA b st nd rs) {p s : Str} (hp : p ∈ b.pits) (hs : s ∈ b.sites) : 0 ≤ pv b (rs.map (·.2)) p s := by
  have i1 := ix_lt hp
  have i2 := ix_lt hs
  unfold pv
  have hr : (rs.map (·.2)).getD (ix b.pits p) [] ∈ rs.map (·.2) := by
    rw [List.getD_eq_getElem?_getD, List.getElem?_eq_getElem (by rw [List.length_map, h.l]; omega)]; exact List.getElem_mem _
  obtain ⟨r, hr, e⟩ := List.mem_map.mp hr
  show 0 ≤ ((rs.map (·.2)).getD (ix b.pits p) []).getD _ 0
  rw [← e]
  refine h.n r hr _ ?_
  have := h.w r hr
  rw [List.getD_eq_getElem?_getD, List.getElem?_eq_getElem (by omega)]; exact List.getElem_mem _
theorem snd_len {rs : List (TK × List Int)} {n : Nat} (h : ∀ r ∈ rs, r.2.length = n) : ∀ r ∈ rs.map (·.2), r.length = n := fun r hr => by obtain ⟨q, hq, rfl⟩ := List.mem_map.mp hr; exact h q hq
theorem by_iff {b : Bd} (hb : BdOk b) {o : Prs} (ho : OrdOk b o) {m : Nat} {st nd : List Int} (ha : AmtOk b m st nd) {rs : List (TK × List Int)} (h : PlanA b st nd rs) :
    byP o (usedL b (rs.map (·.2))) = true ↔ rs.map (·.2) = (ownP b o st nd).map (·.2) := by
  have ow := own_ok hb ho ha
  have hown : rowF b ((ownP b o st nd).map (·.2)) o = fv o (lk b.pits st) (lk b.sites nd) := by
    rw [rowF_plan ho]; exact ledL_fv (ho.nd hb) _ _
  have hpw := pos_pw (ho.nd hb)
  rw [byP_iff]
  constructor
  · intro hc
    refine rowF_inj hb ho (by rw [List.length_map, h.l]) (snd_len h.w) (by rw [List.length_map, ow.l]) (snd_len ow.w) ?_
    rw [hown]
    refine (by_fill (pos o) (fun q => pv b (rs.map (·.2)) q.1 q.2) o _ _ hpw (fun q hq => pv_nn h (ho.mem hq).1 (ho.mem hq).2) (fun p => sP_plan hb ho h p) (fun s => sS_plan hb ho h s) fun x hx y hy vx vy n1 n2 => ?_).symm
    exact hc x (List.mem_filter.mpr ⟨ho.mem_iff.mp hx, decide_eq_true vx⟩) y (List.mem_filter.mpr ⟨ho.mem_iff.mp hy, decide_eq_true vy⟩) n1 n2
  · intro e x hx y hy n1 n2
    obtain ⟨hx1, vx⟩ := List.mem_filter.mp hx
    obtain ⟨hy1, vy⟩ := List.mem_filter.mp hy
    have mx := mem_prs.mp hx1
    have my := mem_prs.mp hy1
    rw [e] at vx vy
    exact fill_by (pos o) (fun q => pv b ((ownP b o st nd).map (·.2)) q.1 q.2) o _ _ hpw (lk_nn _ _ ha.n1) (lk_nn _ _ ha.n2) hown.symm x (ho.mem_iff.mpr hx1) y (ho.mem_iff.mpr hy1) (ho.mem_iff.mpr (mem_prs.mpr ⟨mx.1, my.2⟩)) (ho.mem_iff.mpr (mem_prs.mpr ⟨my.1, mx.2⟩)) (of_decide_eq_true vx) (of_decide_eq_true vy) n1 n2
/-! ### all plans are there -/
theorem rowsR_all (left : Int) : ∀ (n : Nat) (nd row : List Int), nd.length = n → row.length = n → (∀ v ∈ row, 0 ≤ v) → (∀ j, row.getD j 0 ≤ nd.getD j 0) → row.sum ≤ left → ∃ k, (k, row, left - row.sum) ∈ rowsR left nd := by
  intro n
  induction n with
  | zero =>
    intro nd row h1 h2 _ _ _
    have : nd = [] := List.length_eq_zero_iff.mp h1
    subst this
    have : row = [] := List.length_eq_zero_iff.mp h2
    subst this
    exact ⟨.key, by simp [rowsR]⟩
  | succ n ih =>
    intro nd row h1 h2 h3 h4 h5
    obtain ⟨pre, x, rfl⟩ := snoc_of h1
    obtain ⟨rp, v, rfl⟩ := snoc_of h2
    have l1 : pre.length = n := by simpa using h1
    have l2 : rp.length = n := by simpa using h2
    rw [List.sum_append, List.sum_singleton] at h5 ⊢
    have hv := h3 v (by simp)
    obtain ⟨k, hk⟩ := ih pre rp l1 l2 (fun z hz => h3 z (by simp [hz])) (fun j => by
      have := h4 j
      rw [getD_snoc, getD_snoc, l1, l2] at this
      by_cases e : j = n
      · rw [List.getD_eq_getElem?_getD, List.getD_eq_getElem?_getD, List.getElem?_eq_none (by omega), List.getElem?_eq_none (by omega)]
        exact Int.le_refl _
      · rw [if_neg e, if_neg e] at this; exact this) (by omega)
    have hx : v ≤ x := by
      have := h4 n
      rw [getD_snoc, getD_snoc, l1, l2, if_pos rfl, if_pos rfl] at this; exact this
    rw [rowsR_snoc]
    refine ⟨.any, List.mem_flatMap.mpr ⟨_, hk, List.mem_map.mpr ⟨v.toNat, ?_, ?_⟩⟩⟩
    · rw [List.mem_range]
      show v.toNat < ((min (left - rp.sum) x + 1) - 0).toNat
      omega
    · show (TK.any, rp ++ [0 + ((v.toNat : Nat) : Int)], (left - rp.sum) - (0 + ((v.toNat : Nat) : Int))) = _
      rw [show (0 : Int) + ((v.toNat : Nat) : Int) = v by omega]
      congr 2; omega
theorem rowsO_all {left : Int} {nd row : List Int} (h : RowIn left nd row) : ∃ k, (k, row) ∈ rowsO left nd := by
  obtain ⟨k, hk⟩ := rowsR_all left _ nd row rfl h.l h.n h.le (by rw [h.s]; exact Int.le_refl _)
  refine ⟨k, List.mem_filterMap.mpr ⟨_, hk, ?_⟩⟩
  rw [if_pos (by show left - row.sum = 0; rw [h.s]; omega)]
theorem plansP_all (k : TK) {nd : List Int} (hnd : ∀ v ∈ nd, 0 ≤ v ∧ v ≤ 9) : ∀ (n : Nat) (st : List Int) (rows : List (List Int)), st.length = n → (∀ x ∈ st, 0 ≤ x) → rows.map List.sum = st → (∀ r ∈ rows, r.length = nd.length ∧ ∀ v ∈ r, 0 ≤ v) → (∀ j, (rows.map fun r => r.getD j 0).sum ≤ nd.getD j 0) →
    ∃ it ∈ plansP k st nd, it.2.1.map (·.2) = rows := by
  intro n
  induction n with
  | zero =>
    intro st rows h1 _ h2 _ _
    have : st = [] := List.length_eq_zero_iff.mp h1
    subst this
    have : rows = [] := by simpa using h2
    subst this
    exact ⟨_, List.mem_singleton.mpr rfl, rfl⟩
  | succ n ih =>
    intro st rows h1 h0 h2 h3 h4
    have hl : rows.length = n + 1 := by rw [← h1, ← h2]; simp
    obtain ⟨rp, r, rfl⟩ := snoc_of hl
    rw [List.map_append, List.map_singleton] at h2
    subst h2
    have hr := h3 r (by simp)
    have hcol : ∀ j, (rp.map fun r => r.getD j 0).sum + r.getD j 0 ≤ nd.getD j 0 := fun j => by
      have := h4 j
      rw [List.map_append, List.sum_append, List.map_singleton, List.sum_singleton] at this; exact this
    have hrj : ∀ j, 0 ≤ r.getD j 0 := fun j => by
      rw [List.getD_eq_getElem?_getD]
      by_cases hj : j < r.length
      · rw [List.getElem?_eq_getElem hj]; exact hr.2 _ (List.getElem_mem hj)
      · rw [List.getElem?_eq_none (by omega)]; exact Int.le_refl _
    have hpre : ∀ x ∈ rp.map List.sum, 0 ≤ x := fun x hx => h0 x (by simp only [List.mem_append]; exact .inl hx)
    obtain ⟨it, hit, e⟩ := ih (rp.map List.sum) rp (by simpa using h1) hpre rfl (fun q hq => h3 q (by simp [hq])) (fun j => by have := hcol j; have := hrj j; omega)
    have hB := plansP_ok k hnd _ (rp.map List.sum) rfl hpre it hit
    have hin : RowIn r.sum it.2.2.2 r := ⟨by rw [hr.1, hB.l], hr.2, fun j => by
      have h5 := hB.c j
      have h6 := hcol j
      have h7 : (it.2.1.map fun r => r.2.getD j 0) = rp.map fun r => r.getD j 0 := by rw [← e, List.map_map]; rfl
      rw [h7] at h5; omega, rfl⟩
    obtain ⟨k2, hk2⟩ := rowsO_all hin
    refine ⟨nxtP it (k2, r), ?_, by simp [nxtP, e]⟩
    rw [plansP_snoc]
    exact List.mem_flatMap.mpr ⟨it, hit, List.mem_map.mpr ⟨_, hk2, rfl⟩⟩
theorem plans_all {b : Bd} {m : Nat} {st nd : List Int} (ha : AmtOk b m st nd) (hm : m ≤ 9) (k : TK) {rs : List (TK × List Int)} (h : PlanA b st nd rs) : ∃ it ∈ plansP k st nd, it.2.1.map (·.2) = rs.map (·.2) := by
  have hle := ha.le
  have heq := ha.eq
  refine plansP_all k (fun v hv => ⟨ha.n2 v hv, by have := le_sum nd ha.n2 v hv; omega⟩) _ st (rs.map (·.2)) rfl ha.n1 h.r2 (fun r hr => by obtain ⟨q, hq, rfl⟩ := List.mem_map.mp hr; exact ⟨by rw [h.w q hq, ha.l2], h.n q hq⟩) fun j => ?_
  by_cases hj : j < b.sites.length
  · have : nd.getD j 0 = (col (rs.map (·.2)) j).sum := by
      rw [← h.c, List.getD_eq_getElem?_getD, List.getElem?_map, List.getElem?_map, List.getElem?_range hj]; rfl
    rw [this]; exact Int.le_refl _
  · have e : ((rs.map (·.2)).map fun r => r.getD j 0) = (rs.map (·.2)).map fun _ => (0 : Int) := List.map_congr_left fun r hr => by
      rw [List.getD_eq_getElem?_getD, List.getElem?_eq_none (by rw [snd_len h.w r hr]; omega)]; rfl
    rw [e, List.map_const', sum_rep0, List.getD_eq_getElem?_getD, List.getElem?_eq_none (by rw [ha.l2]; omega)]
    exact Int.le_refl _
/-! ### the greatest row -/
theorem ltI_tot : ∀ (xs ys : List Int), xs.length = ys.length → ltI xs ys = false → ltI ys xs = false → xs = ys
  | [], [], _, _, _ => rfl
  | [], _ :: _, h, _, _ => by simp at h
  | _ :: _, [], h, _, _ => by simp at h
  | x :: xs, y :: ys, h, h1, h2 => by
    rw [ltI, Bool.or_eq_false_iff, decide_eq_false_iff_not, Bool.and_eq_false_iff] at h1 h2
    have e : x = y := by omega
    subst e
    simp only [decide_true, Bool.true_eq_false, false_or] at h1 h2
    rw [ltI_tot xs ys (by simpa using h) h1.2 h2.2]
abbrev dI (xs : List Int) : PyData := .tuple (xs.map .int)
theorem dataLt_dI (xs ys : List Int) : PySem.W.dataLt (dI xs) (dI ys) = ltI xs ys := by rw [PySem.W.dataLt_tuple]; exact ltI_eq xs ys
theorem fold_max (own : List Int) : ∀ (l : List (List Int)) (a : List Int), (a = own ∨ own ∈ l) → a.length = own.length → ltI own a = false → (∀ y ∈ l, y.length = own.length ∧ ltI own y = false) →
    (l.map dI).foldl (fun a y => if PySem.W.dataLt a y then y else a) (dI a) = dI own
  | [], a, h, _, _, _ => by rw [h.resolve_right (by simp)]; rfl
  | y :: l, a, h, la, ha, hl => by
    have hy := hl y List.mem_cons_self
    have hl2 : ∀ z ∈ l, z.length = own.length ∧ ltI own z = false := fun z hz => hl z (List.mem_cons_of_mem _ hz)
    rw [List.map_cons, List.foldl_cons, dataLt_dI]
    by_cases ea : a = own
    · subst ea
      rw [hy.2]
      exact fold_max a l a (.inl rfl) rfl ha hl2
    · by_cases hlt : ltI a y = true
      · rw [if_pos hlt]
        refine fold_max own l y ?_ hy.1 hy.2 hl2
        rcases List.mem_cons.mp (h.resolve_left ea) with z | z
        · exact .inl z.symm
        · exact .inr z
      · rw [if_neg hlt]
        refine fold_max own l a ?_ la ha hl2
        rcases List.mem_cons.mp (h.resolve_left ea) with z | z
        · exact absurd (ltI_tot a own la (by rw [z]; exact Bool.eq_false_iff.mpr hlt) ha) ea
        · exact .inr z
/-! ### amounts, asked -/
theorem sp_need_both (b : Bd) (hb : BdOk b) (k k1 k2 : TK) (st nd : List Int) (most : Int) (hs : st.length = b.pits.length) (hn2 : nd.length = b.sites.length) (h1 : ∀ v ∈ st, 0 ≤ v ∧ v ≤ most) (h2 : ∀ v ∈ nd, 0 ≤ v ∧ v ≤ most) : Gives fns 3 i_need_both [b.d, .tup k [.tup k1 (st.map .int), .tup k2 (nd.map .int)], .int most] .non := Gives.of (T0 := t_need_both) rfl rfl fun n hn hc S Q X kq => by
  unfold t_need_both
  walk_at "en"
  walk_at "go"
  refine im (by simp) ?_
  walk_at "go"
  refine ⟨by unfold small62; omega, ?_⟩
  unfold rangeD
  refine for_map hc (fun i : Nat => D.int (0 + (i : Int))) _ (fun _ σ S' => (∃ t, σ = [some b.d, some (.tup k [.tup k1 (st.map .int), .tup k2 (nd.map .int)]), some (.int most), t]) ∧ Keep [] S S') ⟨⟨_, rfl⟩, .r⟩ (fun _ _ _ _ => gd_nil) (fun pre x post σ S1 e ⟨⟨t, eσ⟩, q1⟩ => ?_) fun σ S1 ⟨⟨t, eσ⟩, q1⟩ => ?_
  · subst eσ
    have hx : x = 0 ∨ x = 1 := by
      have : x ∈ List.range ((2 : Int) - 0).toNat := by rw [e]; simp
      rw [List.mem_range] at this; omega
    rcases hx with rfl | rfl
    · walk_at "go"
      refine sp_are_numbers k1 st _ 0 most (by simp [hs]) h1 n (by omega) _ _ _ fun S2 q2 => ?_
      walk_at "go"
      exact ⟨⟨_, rfl⟩, q1.trans q2⟩
    · walk_at "go"
      refine sp_are_numbers k2 nd _ 0 most (by simp [hn2]) h2 n (by omega) _ _ _ fun S2 q2 => ?_
      walk_at "go"
      exact ⟨⟨_, rfl⟩, q1.trans q2⟩
  · subst eσ
    walk_at "go"
    exact kq _ q1
theorem sp_need_amounts (b : Bd) (hb : BdOk b) (k k1 k2 : TK) (st nd : List Int) (hs : st.length = b.pits.length) (hn2 : nd.length = b.sites.length) (h1 : ∀ v ∈ st, 0 ≤ v ∧ v ≤ 45) (h2 : ∀ v ∈ nd, 0 ≤ v ∧ v ≤ 45) (he : st.sum = nd.sum) : Gives fns 4 i_need_amounts [b.d, .tup k [.tup k1 (st.map .int), .tup k2 (nd.map .int)]] .non := Gives.of (T0 := t_need_amounts) rfl rfl fun n hn hc S Q X kq => by
  unfold t_need_amounts
  walk_at "en"
  walk_at "go"
  refine sp_need_both b hb k k1 k2 st nd 45 hs hn2 h1 h2 n (by omega) _ _ _ fun S1 q1 => ?_
  walk_at "go"
  refine sum_ints st ?_
  walk_at "go"
  refine sum_ints nd ?_
  walk_at "go"
  refine im (by simp [he]) ?_
  walk_at "go"
  exact kq _ q1
theorem sp_need_filling (b : Bd) (hb : BdOk b) (kk k k1 k2 : TK) (o : List (Str × Str)) (ho : OrdOk b o) (st nd : List Int) (hs : st.length = b.pits.length) (hn2 : nd.length = b.sites.length) (h1 : ∀ v ∈ st, 0 ≤ v ∧ v ≤ 45) (h2 : ∀ v ∈ nd, 0 ≤ v ∧ v ≤ 45) (he : st.sum = nd.sum) : Gives fns 6 i_need_filling [b.d, .tup kk (o.map prD), .tup k [.tup k1 (st.map .int), .tup k2 (nd.map .int)]] .non := Gives.of (T0 := t_need_filling) rfl rfl fun n hn hc S Q X kq => by
  unfold t_need_filling
  walk_at "en"
  walk_at "go"
  refine sp_need_board b hb n (by omega) _ _ _ fun S1 q1 => ?_
  walk_at "go"
  refine sp_need_order b hb kk o ho n (by omega) _ _ _ fun S2 q2 => ?_
  walk_at "go"
  refine sp_need_amounts b hb k k1 k2 st nd hs hn2 h1 h2 he n (by omega) _ _ _ fun S3 q3 => ?_
  walk_at "go"
  exact kq _ ((q1.trans q2).trans q3)
theorem sp_filling (b : Bd) (hb : BdOk b) (kk k k1 k2 : TK) (o : List (Str × Str)) (ho : OrdOk b o) (st nd : List Int) (hs : st.length = b.pits.length) (hn2 : nd.length = b.sites.length) (h1 : ∀ v ∈ st, 0 ≤ v ∧ v ≤ 45) (h2 : ∀ v ∈ nd, 0 ≤ v ∧ v ≤ 45) (he : st.sum = nd.sum) : Gives fns 7 i_filling [b.d, .tup kk (o.map prD), .tup k [.tup k1 (st.map .int), .tup k2 (nd.map .int)]] (.tup .kn ((ownP b o st nd).map rowD)) := Gives.of (T0 := t_filling) rfl rfl fun n hn hc S Q X kq => by
  unfold t_filling
  walk_at "en"
  walk_at "go"
  refine sp_need_filling b hb kk k k1 k2 o ho st nd hs hn2 h1 h2 he n (by omega) _ _ _ fun S1 q1 => ?_
  walk_at "go"
  refine sp_filled b hb kk k k1 k2 o ho st nd hs hn2 n (by omega) _ _ _ fun S2 q2 => ?_
  exact kq _ (q1.trans q2)
theorem fm_filter {α : Type} (f : α → D) (c : α → Bool) : ∀ l : List α, l.filterMap (fun a => if c a = true then some (f a) else none) = (l.filter c).map f
  | [] => rfl
  | a :: l => by
    rw [List.filterMap_cons, List.filter_cons]
    cases h : c a with
    | true => simp [fm_filter f c l]
    | false => simp [fm_filter f c l]
theorem sp_law_used (b : Bd) (hb : BdOk b) (k2 : TK) (rs : List (TK × List Int)) (h1 : rs.length = b.pits.length) (h2 : ∀ r ∈ rs, r.2.length = b.sites.length) {S : Store} : GivesAt fns 2 i_law_used [b.d, .tup k2 (rs.map rowD)] S fun d S' => ∃ f, d = .loc f ∧ S'[f]? = some (.lst ((usedL b (rs.map (·.2))).map prD)) ∧ S.length ≤ f ∧ Keep [] S S' := GivesAt.of (T0 := t_law_used) rfl rfl fun n hn hc Q X kq => by
  unfold t_law_used
  have l25 : (prs b).length ≤ 25 := OrdOk.len25 hb (.refl _)
  walk_at "en"
  walk_at "go"
  refine e_lcP hc ?_
  walk_at "go"
  refine sp_law_pairs b hb n (by omega) _ _ fun d S1 ⟨f, ed, hf, hfl, q1⟩ => ?_
  subst ed
  refine src_lst hf ?_
  refine ⟨_, prD, prs b, fun q => if decide (0 < pv b (rs.map (·.2)) q.1 q.2) = true then some (prD q) else none, rfl, gd_one hf, by rw [sizeLine_eq]; omega, fun q hq S2 q2 => ?_, fun S2 q2 hS2 => ?_⟩
  · have hm := mem_prs.mp hq
    have hp := hm.1
    have hs := hm.2
    have i1 := ix_lt hp
    have i2 := ix_lt hs
    have e1 : rs[ix b.pits q.1]? = some (rs[ix b.pits q.1]'(by omega)) := List.getElem?_eq_getElem (by omega)
    have w1 := h2 _ (List.getElem_mem (show ix b.pits q.1 < rs.length by omega))
    generalize rs[ix b.pits q.1]'(by omega) = r at e1 w1
    have e2 : r.2[ix b.sites q.2]? = some (r.2[ix b.sites q.2]'(by omega)) := List.getElem?_eq_getElem (by omega)
    have hv : pv b (rs.map (·.2)) q.1 q.2 = r.2[ix b.sites q.2]'(by omega) := by
      have e3 : (rs.map (·.2)).getD (ix b.pits q.1) [] = r.2 := by rw [List.getD_eq_getElem?_getD, List.getElem?_map, e1]; rfl
      unfold pv
      rw [e3, List.getD_eq_getElem?_getD, e2]; rfl
    generalize r.2[ix b.sites q.2]'(by omega) = v at e2 hv
    walk_at "go"
    refine md_index (ix_at hp).1 ?_
    refine sub_tup (v := rowD r) (L2.atI_nat (by rw [List.getElem?_map, e1]; rfl)) ?_
    walk_at "go"
    refine md_index (ix_at hs).1 ?_
    refine sub_tup (v := .int v) (L2.atI_nat (by rw [List.getElem?_map, e2]; rfl)) ?_
    walk_at "go"
    refine ifb (fun h0 => ?_) fun h0 => ?_
    · walk_at "go"
      exact ⟨by dsimp only; rw [hv, if_pos h0], .r⟩
    · exact ⟨by dsimp only; rw [hv, if_neg (by rw [h0]; exact Bool.false_ne_true)], .r⟩
  · refine kq _ _ ⟨_, rfl, ?_, q1.n, q1.trans q2⟩
    rw [hS2, fm_filter prD (fun q : Str × Str => decide (0 < pv b (rs.map (·.2)) q.1 q.2))]
theorem dict_pairs {α : Type} {S : Store} {Q : KD} {n : Nat} {kk : TK} {f g : α → D} {q : α → List L2.Key} {xs : List α} (hn : S[n]? = some (.lst (xs.map fun a => .tup kk [f a, g a]))) (hq : ∀ a ∈ xs, keyT (f a) = some (q a)) (hl : xs.length ≤ 1000)
    (k : Q (.loc S.length) (S ++ [.dT ((xs.map fun a => (q a, g a)).foldl (fun acc kv => putD acc kv.1 kv.2) [])])) : biD .dictPairs [.loc n] S Q := by
  have key : ∀ xs : List α, (∀ a ∈ xs, keyT (f a) = some (q a)) → (xs.map fun a => D.tup kk [f a, g a]).mapM pairT = some (xs.map fun a => (q a, g a)) := by
    intro xs
    induction xs with
    | nil => intro _; rfl
    | cons a l ih =>
      intro h
      rw [List.map_cons, List.mapM_cons, ih fun b hb => h b (List.mem_cons_of_mem _ hb)]
      simp only [pairT, h a List.mem_cons_self]
      rfl
  unfold biD
  simp only [hn, key xs hq]
  exact ⟨by rw [List.length_map]; exact hl, k⟩
abbrev kyP (p : Str × Str) : List L2.Key := [.inr p.1, .inr p.2]
abbrev DT (o : Prs) : List (List L2.Key × D) := (List.range o.length).map fun i => (kyP (o.getD i ("", "")), D.int (0 + (i : Int)))
theorem DT_keys (o : Prs) : (DT o).map (·.1) = o.map kyP := by
  rw [List.map_map]
  apply List.ext_getElem
  · simp
  · intro i h1 h2
    simp at h2
    rw [List.getElem_map, List.getElem_map, List.getElem_range]
    show kyP (o.getD i ("", "")) = _
    rw [List.getD_eq_getElem?_getD, List.getElem?_eq_getElem h2]; rfl
theorem DT_val {o : Prs} (hn : o.Nodup) {q : Str × Str} (h : q ∈ o) : valD (DT o) (kyP q) = some (.int (0 + (pos o q : Int))) := by
  refine valD_mem (by rw [DT_keys]; exact keys_nodup hn) (List.mem_map.mpr ⟨pos o q, List.mem_range.mpr (pos_lt h), ?_⟩)
  rw [List.getD_eq_getElem?_getD, pos_at h]; rfl
theorem sp_law_is_by_pairs (b : Bd) (hb : BdOk b) (kk k2 : TK) (o : Prs) (ho : OrdOk b o) (rs : List (TK × List Int)) (h1 : rs.length = b.pits.length) (h2 : ∀ r ∈ rs, r.2.length = b.sites.length) {S : Store} : GivesAt fns 3 i_law_is_by_pairs [b.d, .tup kk (o.map prD), .tup k2 (rs.map rowD)] S fun d S' => d = .bl (byP o (usedL b (rs.map (·.2)))) ∧ Keep [] S S' := GivesAt.of (T0 := t_law_is_by_pairs) rfl rfl fun n hn hc Q X kq => by
  unfold t_law_is_by_pairs
  have hnd := ho.nd hb
  have l25 := ho.len25 hb
  walk_at "en"
  walk_at "go"
  refine sp_law_used b hb k2 rs h1 h2 n (by omega) _ _ fun d S1 ⟨f, ed, hf, hfl, q1⟩ => ?_
  subst ed
  have hus : ∀ q ∈ usedL b (rs.map (·.2)), q ∈ o := fun q hq => ho.mem_iff.mpr (List.mem_filter.mp hq).1
  generalize usedL b (rs.map (·.2)) = us at hf hus kq ⊢
  walk_at "go"
  refine e_lcP hc ?_
  walk_at "go"
  refine ⟨by unfold small62; rw [List.length_map]; omega, ?_⟩
  refine ⟨_, fun i : Nat => D.int (0 + (i : Int)), List.range ((((o.map prD).length : Nat) : Int) - 0).toNat, fun i => some (.tup .key [prD (o.getD i ("", "")), .int (0 + (i : Int))]), rfl, gd_nil, by rw [List.length_range, List.length_map, sizeLine_eq]; omega, fun i hi S2 q2 => ?_, fun S2 q2 hS2 => ?_⟩
  · have hi : i < o.length := by simp at hi; omega
    walk_at "go"
    refine sub_tup (v := prD (o.getD i ("", ""))) (by rw [Int.zero_add]; exact L2.atI_nat (by rw [List.getElem?_map, List.getD_eq_getElem?_getD, List.getElem?_eq_getElem hi]; rfl)) ?_
    walk_at "go"
    exact ⟨rfl, .r⟩
  have eR : (List.range ((((o.map prD).length : Nat) : Int) - 0).toNat) = List.range o.length := by simp
  rw [eR, List.filterMap_eq_map'] at hS2
  walk_at "go"
  refine dict_pairs (q := fun i => kyP (o.getD i ("", ""))) hS2 (fun i _ => rfl) (by rw [List.length_range]; omega) ?_
  rw [fold_nodup (l := DT o) (by rw [DT_keys]; exact keys_nodup hnd)]
  have hD := @at_new S2 (Cell.dT (DT o))
  have hF := at_add (c := Cell.dT (DT o)) (q2.at hf)
  have kS : Keep [] S (S2 ++ [Cell.dT (DT o)]) := (q1.trans q2).add _
  generalize S2 ++ [Cell.dT (DT o)] = S3 at hD hF kS ⊢
  walk_at "go"
  refine src_lst hF ?_
  refine for_map hc prD us (fun pre σ S' => (∃ t5 t6 t7 t8 t9, σ = [some b.d, some (.tup kk (o.map prD)), some (.tup k2 (rs.map rowD)), some (.loc f), some (.loc S2.length), t5, t6, t7, t8, t9]) ∧ S' = S3 ∧ ∀ x ∈ pre, ∀ y ∈ us, x.1 ≠ y.1 → x.2 ≠ y.2 → CondP (pos o) x y) ⟨⟨_, _, _, _, _, rfl⟩, rfl, by simp⟩ (fun _ _ _ h => by rw [h.2.1]; exact gd_one hF) (fun pre x post σ S' e ⟨⟨t5, t6, t7, t8, t9, eσ⟩, eS, hpre⟩ => ?_) fun σ S' ⟨⟨t5, t6, t7, t8, t9, eσ⟩, eS, hpre⟩ => ?_
  · subst eσ
    subst eS
    have hxu : x ∈ us := by rw [e]; simp
    have hx := hus x hxu
    walk_at "go"
    refine src_lst hF ?_
    refine for_map hc prD us (fun pre2 σ S4 => (∃ t7 t8 t9, σ = [some b.d, some (.tup kk (o.map prD)), some (.tup k2 (rs.map rowD)), some (.loc f), some (.loc S2.length), some (.str x.1), some (.str x.2), t7, t8, t9]) ∧ S4 = S' ∧ ∀ y ∈ pre2, x.1 ≠ y.1 → x.2 ≠ y.2 → CondP (pos o) x y) ⟨⟨_, _, _, rfl⟩, rfl, by simp⟩ (fun _ _ _ h => by rw [h.2.1]; exact gd_one hF) (fun pre2 y post2 σ S4 e2 ⟨⟨t7, t8, t9, eσ⟩, eS, hpre2⟩ => ?_) fun σ S4 ⟨⟨t7, t8, t9, eσ⟩, eS, hpre2⟩ => ?_
    · subst eσ
      subst eS
      have hyu : y ∈ us := by rw [e2]; simp
      have hy := hus y hyu
      have hu : (x.1, y.2) ∈ o := ho.mem_iff.mpr (mem_prs.mpr ⟨(ho.mem hx).1, (ho.mem hy).2⟩)
      have hv : (y.1, x.2) ∈ o := ho.mem_iff.mpr (mem_prs.mpr ⟨(ho.mem hy).1, (ho.mem hx).2⟩)
      have nxt : (x.1 ≠ y.1 → x.2 ≠ y.2 → CondP (pos o) x y) → ∀ z ∈ pre2 ++ [y], x.1 ≠ z.1 → x.2 ≠ z.2 → CondP (pos o) x z := fun h z hz => by
        rcases List.mem_append.mp hz with w | w
        · exact hpre2 z w
        · rw [List.mem_singleton.mp w]; exact h
      walk_at "go"
      refine ifd (fun n1 => ?_) fun n1 => ?_
      · walk_at "go"
        refine ifd (fun n2 => ?_) fun n2 => ?_
        · walk_at "go"
          refine sub_dT hD rfl (DT_val hnd hx) ?_
          walk_at "go"
          refine sub_dT hD rfl (DT_val hnd hy) ?_
          walk_at "go"
          refine sub_dT hD rfl (DT_val hnd hu) ?_
          walk_at "go"
          refine sub_dT hD rfl (DT_val hnd hv) ?_
          walk_at "go"
          refine ifd (fun h0 => ?_) fun h0 => ?_
          · walk_at "go"
            refine kq _ _ ⟨?_, kS⟩
            have : byP o us = false := by
              rw [Bool.eq_false_iff]
              intro z
              have := byP_iff.mp z x hxu y hyu n1 n2
              unfold CondP at this
              omega
            rw [this]
          · walk_at "go"
            exact ⟨⟨_, _, _, rfl⟩, rfl, nxt fun _ _ => by unfold CondP; omega⟩
        · walk_at "go"
          exact ⟨⟨_, _, _, rfl⟩, rfl, nxt fun _ z => absurd z n2⟩
      · walk_at "go"
        exact ⟨⟨_, _, _, rfl⟩, rfl, nxt fun z _ => absurd z n1⟩
    · subst eσ
      subst eS
      walk_at "go"
      refine ⟨⟨_, _, _, _, _, rfl⟩, rfl, fun z hz => ?_⟩
      rcases List.mem_append.mp hz with w | w
      · exact hpre z w
      · rw [List.mem_singleton.mp w]; exact hpre2
  · subst eσ
    subst eS
    walk_at "go"
    refine kq _ _ ⟨?_, kS⟩
    rw [byP_iff.mpr hpre]
/-! ### the law's body -/
theorem e_iteV {call : CallF} {X : XX} {σ : Pw.Env} {S : Store} {Q : KD} {cd a b : T} (hc : CMono call) (L : D) (h : (w cd ⟨call, X⟩).t σ S fun k S1 => if k = true then (w a ⟨call, X⟩).e σ S1 (fun d S2 => d = L ∧ Keep [] S S2) else (w b ⟨call, X⟩).e σ S1 (fun d S2 => d = L ∧ Keep [] S S2)) (k : ∀ S2, Keep [] S S2 → Q L S2) : (w (.ite cd a b) ⟨call, X⟩).e σ S Q :=
  e_ite' ((mw cd hc).t h fun c S1 z => ite_mono z (fun z => (mw a hc).e z fun d S2 ⟨e, q⟩ => by subst e; exact k S2 q) fun z => (mw b hc).e z fun d S2 ⟨e, q⟩ => by subst e; exact k S2 q)
abbrev gU (due own : List Int) (i : Nat) : Option Int := if due.getD i 0 ≠ own.getD i 0 then some (0 + (i : Int)) else none
abbrev fmU (due own : List Int) : List Int := (List.range due.length).filterMap (gU due own)
theorem gU_pos {due own : List Int} {i : Nat} (h : due.getD i 0 ≠ own.getD i 0) : gU due own i = some (0 + (i : Int)) := if_pos h
theorem gU_neg {due own : List Int} {i : Nat} (h : ¬ due.getD i 0 ≠ own.getD i 0) : gU due own i = none := if_neg h
theorem fmU_nil {due own : List Int} (hl : own.length = due.length) : fmU due own = [] ↔ due = own := by
  rw [List.filterMap_eq_nil_iff]
  constructor
  · intro h
    rw [← range_getD due]
    conv => rhs; rw [← range_getD own, hl]
    refine List.map_congr_left fun i hi => Classical.byContradiction fun ne => ?_
    have := h i hi
    unfold gU at this
    rw [if_pos ne] at this; cases this
  · intro h i _
    subst h
    unfold gU
    rw [if_neg (fun z => z rfl)]
theorem unl_eq (due own : List Int) : unl due own = ((fmU due own).head?.map D.int).getD .non := by
  unfold unl fmU
  rw [List.head?_filterMap, List.map_findSome?]
  refine congrArg (fun o => Option.getD o D.non) ?_
  congr 1
  funext i
  by_cases h : due.getD i 0 ≠ own.getD i 0
  · show _ = (gU due own i).map D.int
    unfold gU
    rw [if_pos h, if_pos h]; rfl
  · show _ = (gU due own i).map D.int
    unfold gU
    rw [if_neg h, if_neg h]; rfl
theorem rowF_bd {b : Bd} {rs : List (TK × List Int)} (h : PlanOk b rs) {o : List (Str × Str)} (ho : OrdOk b o) : ∀ v ∈ rowF b (rs.map (·.2)) o, 0 ≤ v ∧ v ≤ 45 := fun v hv => by
  obtain ⟨q, hq, rfl⟩ := List.mem_map.mp hv
  have i1 := ix_lt (ho.mem hq).1
  have i2 := ix_lt (ho.mem hq).2
  have hr : (rs.map (·.2)).getD (ix b.pits q.1) [] ∈ rs.map (·.2) := by
    rw [List.getD_eq_getElem?_getD, List.getElem?_eq_getElem (by rw [List.length_map, h.l]; omega)]; exact List.getElem_mem _
  obtain ⟨r, hr, e⟩ := List.mem_map.mp hr
  unfold pv
  rw [← e]
  refine h.c r hr _ ?_
  have := h.w r hr
  rw [List.getD_eq_getElem?_getD, List.getElem?_eq_getElem (by omega)]; exact List.getElem_mem _
theorem unl_dq {due own : List Int} (hl : due.length ≤ 25) : ∃ lp, (∀ n S, dq (n + 1) S (unl due own) = some lp) ∧ Sh 9 lp := by
  rw [unl_eq]
  cases e : (fmU due own).head? with
  | none => exact ⟨.none, fun _ _ => rfl, Sh.non.up (by omega)⟩
  | some i =>
    refine ⟨.int i, fun _ _ => rfl, ?_⟩
    have hm := List.mem_of_mem_head? e
    obtain ⟨k, hk, ek⟩ := List.mem_filterMap.mp hm
    rw [List.mem_range] at hk
    unfold gU at ek
    by_cases h : due.getD k 0 ≠ own.getD k 0
    · rw [if_pos h] at ek
      rw [← Option.some.inj ek]
      exact Sh.int (by omega) (by omega)
    · rw [if_neg h] at ek; cases ek
theorem dq_tupI {n : Nat} {S : Store} {kk : TK} (xs : List Int) : dq (n + 2) S (.tup kk (xs.map .int)) = some (.tuple (xs.map .int)) := (Dat.ints xs).q S
theorem len_rol {S : Store} {Q : KD} {n : Nat} {xs : List D} (h : S[n]? = some (.rol xs)) (k : Q (.int (xs.length : Nat)) S) : biD .len [.loc n] S Q := by
  show (match (match S[n]? with | some (.lst xs) => some xs.length | some (.rol xs) => some xs.length | _ => none) with | some n => Q (.int n) S | none => False)
  rw [h]; exact k
abbrev plV (z : TK × List (TK × List Int)) : D := .tup z.1 (z.2.map rowD)
abbrev rdQ (due : List Int) (c : Bool) (lp : PyData) : PyData := .list [.tuple (due.map .int), .bool c, lp]
theorem rdQ_sh {due : List Int} {c : Bool} {lp : PyData} (hl : due.length ≤ 25) (hv : ∀ v ∈ due, 0 ≤ v ∧ v ≤ 45) (hlp : Sh 9 lp) : Sh 3000 (.list [rdQ due c lp, rdQ due c lp]) := by
  have h1 : Sh 250 (.tuple (due.map .int)) := (Sh.tuple (w := 9) fun p hp => by
    obtain ⟨v, hv1, rfl⟩ := List.mem_map.mp hp
    have := hv v hv1
    exact Sh.int this.1 (by omega)).up (by rw [List.length_map]; omega)
  have h2 : Sh 753 (rdQ due c lp) := (Sh.list (w := 250) (l := [.tuple (due.map .int), .bool c, lp]) fun p hp => by
    simp at hp
    rcases hp with e | e | e
    · rw [e]; exact h1
    · rw [e]; exact Sh.bl.up (by omega)
    · rw [e]; exact hlp.up (by omega)).up (by simp)
  exact (Sh.list (w := 753) fun p hp => by
    simp at hp
    rw [hp]; exact h2).up (by simp)

theorem cs_nes {S : Store} {R : Bool → Prop} {x : Str} (k : R false) : ∃ c, cmpD .NotEq S (.str x) (.str x) = some c ∧ R c := ⟨false, by show some (!decide (x = x)) = _; simp, k⟩
/-! ### k81's body -/
theorem dI_inj {xs ys : List Int} (h : dI xs = dI ys) : xs = ys := by
  have h1 := PyData.tuple.inj h
  have h2 : (xs.map PyData.int).map (fun p => match p with | .int i => i | _ => 0) = (ys.map PyData.int).map (fun p => match p with | .int i => i | _ => 0) := by rw [h1]
  rw [List.map_map, List.map_map] at h2
  have e : ∀ l : List Int, l.map ((fun p => match p with | PyData.int i => i | _ => 0) ∘ PyData.int) = l := fun l => List.map_id l
  rwa [e, e] at h2
theorem max_rows {S : Store} {Q : KD} {n : Nat} {kk : TK} {xs : List (List Int)} {own : List Int} (hn : S[n]? = some (.lst (xs.map fun x => .tup kk (x.map .int)))) (hm : own ∈ xs) (hl : ∀ y ∈ xs, y.length = own.length ∧ ltI own y = false) (k : Q (.tup kk (own.map .int)) S) : biD .max [.loc n] S Q := by
  cases xs with
  | nil => cases hm
  | cons x r =>
    have h1 : seqD S (.loc n) = some ((x :: r).map fun x => .tup kk (x.map .int)) := by simp only [seqD, hn]
    have h2 : (seqD S (.loc n)).bind intsD = none := by rw [h1]; rfl
    have h3 : dqs S ((x :: r).map fun x => .tup kk (x.map .int)) = some ((x :: r).map dI) := mapM_map (x :: r) fun a _ => (Dat.ints (n := 0) (k := kk) a).at16 S (by omega)
    rw [List.map_cons] at h1 h3
    unfold biD
    simp only [h2, h1, h3]
    rw [List.map_cons]
    refine ⟨fun a ha c hc => ?_, fun a ha => ?_, fun i d e1 e2 => ?_⟩
    · rw [← List.map_cons] at ha hc
      obtain ⟨y, _, rfl⟩ := List.mem_map.mp ha
      obtain ⟨z, _, rfl⟩ := List.mem_map.mp hc
      rw [PySem.W.alike]; exact alike_ints y z
    · rw [← List.map_cons] at ha
      obtain ⟨y, _, rfl⟩ := List.mem_map.mp ha
      have := (Dat.ints (n := 0) (k := kk) y).dep
      exact ⟨fun z => (by cases z), (by show (PyData.tuple (y.map .int)).depth ≤ 60; omega)⟩
    · have em : PySem.W.maxD (dI x) (r.map dI) = dI own := fold_max own r x (by
        rcases List.mem_cons.mp hm with z | z
        · exact .inl z.symm
        · exact .inr z) (hl x List.mem_cons_self).1 (hl x List.mem_cons_self).2 fun y hy => hl y (List.mem_cons_of_mem _ hy)
      rw [em, ← List.map_cons, List.getElem?_map] at e2
      rw [← List.map_cons (f := fun x : List Int => D.tup kk (x.map .int)), List.getElem?_map] at e1
      obtain ⟨z, hz, ez⟩ := Option.map_eq_some_iff.mp e2
      rw [hz] at e1
      have := dI_inj ez
      subst this
      rw [← Option.some.inj e1]; exact k
theorem cb_ne {S : Store} {R : Bool → Prop} {a c : Bool} (k : R (decide (a ≠ c))) : ∃ x, cmpD .NotEq S (.bl a) (.bl c) = some x ∧ R x := ⟨_, by show some (!decide (a = c)) = _; simp, k⟩
theorem rows_sh {b : Bd} (hb : BdOk b) {rs : List (TK × List Int)} (h : PlanOk b rs) : Sh 400 (.tuple ((rs.map (·.2)).map fun r => .tuple (r.map .int))) := by
  have h5 := hb.p5
  have g5 := hb.s5
  have hl := h.l
  refine (Sh.tuple (w := 60) fun p hp => ?_).up (by rw [List.length_map, List.length_map]; omega)
  obtain ⟨r, hr, rfl⟩ := List.mem_map.mp hp
  obtain ⟨q, hq, rfl⟩ := List.mem_map.mp hr
  have hw := h.w q hq
  refine (Sh.tuple (w := 9) fun p hp => ?_).up (by rw [List.length_map]; omega)
  obtain ⟨v, hv, rfl⟩ := List.mem_map.mp hp
  have := h.c q hq v hv
  exact Sh.int this.1 (by omega)
theorem sp_law_right (p : Nat) {S : Store} (hp : PailOk S p) : GivesAt fns 8 i_law_right [.loc p] S fun d S' => d = .bl true ∧ PK p S S' := GivesAt.of (T0 := t_law_right) rfl rfl fun n hn hc Q X k => by
  unfold t_law_right
  have hpl := hp.lt
  walk_at "en"
  walk_at "go"
  refine ⟨by unfold small62; omega, ?_⟩
  unfold rangeD
  refine for_map hc (fun i : Nat => D.int (0 + (i : Int))) _ (fun _ σ S' => (∃ t1 t2 t3 t4 t5 t6 t7 t8, σ = [some (.loc p), t1, t2, t3, t4, t5, t6, t7, t8]) ∧ PK p S S') ⟨⟨_, _, _, _, _, _, _, _, rfl⟩, .r, hp⟩ (fun _ _ _ _ => gd_nil) (fun pre x post σ S1 e ⟨⟨t1, t2, t3, t4, t5, t6, t7, t8, eσ⟩, k1, p1⟩ => ?_) fun σ S1 ⟨⟨t1, t2, t3, t4, t5, t6, t7, t8, eσ⟩, k1, p1⟩ => ?_
  · subst eσ
    walk_at "go"
    refine sp_law_board p 3 3 9 (by omega) (by omega) (by omega) p1 n (by omega) _ _ fun d S2 ⟨b, ed, hb, hbk, hbc, hP, hR, k2, p2⟩ => ?_
    subst ed
    walk_at "go"
    refine sp_law_order p b hb p2 n (by omega) _ _ fun d S3 ⟨o, ed, ho, k3, p3⟩ => ?_
    subst ed
    walk_at "go"
    refine sp_law_amounts p 5 b hb (by omega) p3 n (by omega) _ _ fun d S4 ⟨st, nd, ed, ha, k4, p4⟩ => ?_
    subst ed
    have hle := ha.le
    have heq := ha.eq
    have hst : ∀ v ∈ st, 0 ≤ v ∧ v ≤ 45 := fun v hv => ⟨ha.n1 v hv, by have := le_sum st ha.n1 v hv; omega⟩
    have hnd9 : ∀ v ∈ nd, 0 ≤ v ∧ v ≤ 9 := fun v hv => ⟨ha.n2 v hv, by have := le_sum nd ha.n2 v hv; omega⟩
    have hnd : ∀ v ∈ nd, 0 ≤ v ∧ v ≤ 45 := fun v hv => ⟨ha.n2 v hv, by have := hnd9 v hv; omega⟩
    walk_at "go"
    refine sp_law_plans .key .kn .kn st nd ha.n1 (by rw [ha.l1]; omega) (by rw [ha.l2]; omega) hnd9 (by omega) n (by omega) _ _ fun d S5 ⟨f, ed, hf, hfl, k5⟩ => ?_
    subst ed
    have hlen := plansP_len .kn (nd := nd) hnd9 (by rw [ha.l2]; omega) _ st rfl ha.n1
    have h8 : 8 ^ st.sum.toNat ≤ 2097152 := Nat.pow_le_pow_right (n := 8) (by omega) (show _ ≤ 7 by omega)
    have hpo := plans_ok ha (by omega) .kn
    have ow := own_ok hb ho ha
    have hown := ow.ok ha (by omega)
    obtain ⟨it0, hit0, eit0⟩ := plans_all ha (by omega) .kn ow
    walk_at "go"
    refine sp_law_fill b hb .kn .key .kn .kn o ho st nd ha.l1 ha.l2 n (by omega) _ _ _ fun S6 k6 => ?_
    walk_at "go"
    refine sp_filling b hb .kn .key .kn .kn o ho st nd ha.l1 ha.l2 hst hnd heq n (by omega) _ _ _ fun S7 k7 => ?_
    walk_at "go"
    refine repr_d ((dat_rows .kn (ownP b o st nd)).at16 S7 (by omega)) (rows_sh hb hown) (by omega) ?_
    walk_at "go"
    refine repr_d ((dat_rows .kn (ownP b o st nd)).at16 S7 (by omega)) (rows_sh hb hown) (by omega) ?_
    refine cs_nes ?_
    refine iff' ?_
    walk_at "go"
    have hf7 := k7.at (k6.at hf)
    refine src_lst hf7 ?_
    have k47 : Keep [p] S S7 := ((((k1.trans k2).trans k3).trans k4).trans (k5.any.trans k6.any)).trans k7.any
    have p7 : PailOk S7 p := ((p4.keep k5).keep k6).keep k7
    refine for_map hc (fun it : PI => D.tup it.1 (it.2.1.map rowD)) (plansP .kn st nd) (fun _ σ S' => (∃ t1 t3 t8, σ = [some (.loc p), t1, some b.d, t3, some (.tup .kn (o.map prD)), some (amtD st nd), some (.loc f), some (.tup .kn ((ownP b o st nd).map rowD)), t8]) ∧ Keep [] S7 S') ⟨⟨_, _, _, rfl⟩, .r⟩ (fun _ _ _ h => gd_one (h.2.at hf7)) (fun pre2 it post2 σ SA e2 ⟨⟨t1, t3, t8, eσ⟩, kA⟩ => ?_) fun σ SA ⟨⟨t1, t3, t8, eσ⟩, kA⟩ => ?_
    · subst eσ
      have hz := hpo it (by rw [e2]; simp)
      have hok := hz.ok ha (by omega)
      have g2 := sp_is_filling b hb .kn it.1 o ho it.2.1 hok
      rw [own_eq hz] at g2
      have g6 := fun SX : Store => sp_law_is_by_pairs b hb .kn it.1 o ho it.2.1 hz.l hz.w (S := SX)
      have hby := by_iff hb ho ha hz
      have hdd : decide ((ownP b o st nd).map (·.2) = it.2.1.map (·.2)) = decide (it.2.1.map (·.2) = (ownP b o st nd).map (·.2)) := decide_eq_decide.mpr eq_comm
      rw [hdd] at g2
      have hbb : byP o (usedL b (it.2.1.map (·.2))) = decide (it.2.1.map (·.2) = (ownP b o st nd).map (·.2)) := by
        rw [Bool.eq_iff_iff, hby, decide_eq_true_eq]
      rw [hbb] at g6
      walk_at "go"
      refine cd_eq (g := fun P : List (List Int) => .tuple (P.map fun r => .tuple (r.map .int))) (a := it.2.1.map (·.2)) (b := (ownP b o st nd).map (·.2)) (n := 3) (m := 3) (dat_rows _ _) (dat_rows _ _) (EqV.int.tuple.tuple) ?_
      generalize decide (it.2.1.map (·.2) = (ownP b o st nd).map (·.2)) = c at g2 g6 ⊢
      walk_at "go"
      refine g2 n (by omega) _ _ _ fun SB kB => ?_
      walk_at "go"
      refine repr_d (p := .bool c) rfl Sh.bl (by omega) ?_
      walk_at "go"
      refine repr_d (p := .bool c) rfl Sh.bl (by omega) ?_
      refine cs_nes ?_
      walk_at "go"
      refine g6 SB n (by omega) _ _ fun d SC ⟨ed, kC⟩ => ?_
      subst ed
      walk_at "go"
      refine cb_ne ?_
      rw [show decide (c ≠ c) = false by simp]
      walk_at "go"
      exact ⟨⟨_, _, _, rfl⟩, kA.trans (kB.trans kC)⟩
    · subst eσ
      walk_at "go"
      refine e_lcP hc ?_
      walk_at "go"
      refine src_lst (kA.at hf7) ?_
      refine ⟨_, fun it : PI => D.tup it.1 (it.2.1.map rowD), plansP .kn st nd, fun it => some (.tup .kn ((rowF b (it.2.1.map (·.2)) o).map .int)), rfl, gd_one (kA.at hf7), by rw [sizeLine_eq]; omega, fun it hit SB kB => ?_, fun SB kB hSB => ?_⟩
      · have hz := hpo it hit
        walk_at "go"
        exact sp_row_of b hb .kn it.1 o ho it.2.1 (hz.ok ha (by omega)) n (by omega) _ _ _ fun SC kC => ⟨rfl, kC⟩
      · walk_at "go"
        rw [List.filterMap_eq_map'] at hSB
        refine max_rows (xs := (plansP .kn st nd).map fun it => rowF b (it.2.1.map (·.2)) o) (own := rowF b ((ownP b o st nd).map (·.2)) o) (by rw [hSB, List.map_map]; rfl) (List.mem_map.mpr ⟨it0, hit0, by rw [eit0]⟩) (fun y hy => ?_) ?_
        · obtain ⟨it, hit, rfl⟩ := List.mem_map.mp hy
          exact ⟨by simp, own_most hb ho (hpo it hit)⟩
        · walk_at "go"
          refine sp_row_of b hb .kn .kn o ho (ownP b o st nd) hown n (by omega) _ _ _ fun SC kC => ?_
          refine cd_ne (g := fun r : List Int => .tuple (r.map .int)) (n := 2) (m := 2) (Dat.ints _) (Dat.ints _) (EqV.int.tuple) ?_
          rw [show ∀ z : List Int, decide (z ≠ z) = false by simp]
          walk_at "go"
          refine ⟨⟨_, _, _, _, _, _, _, _, rfl⟩, k47.trans ((kA.trans (kB.trans kC)).any), p7.keep (kA.trans (kB.trans kC))⟩
  · subst eσ
    walk_at "go"
    exact k _ _ ⟨rfl, k1, p1⟩
/-! ### the law -/
theorem sp_law_pail (q : Nat) (ns : List Int) (turn : Nat) (ht : turn ≤ 20) (hl : ns.length ≤ 63) {S : Store} (hq : S[q]? = some (.rol (ns.map .int))) : GivesAt fns 1 i_law_pail [.loc q, .int turn] S fun d S' => ∃ f, d = .loc f ∧ PailOk S' f ∧ S.length ≤ f ∧ Keep [] S S' := GivesAt.of (T0 := t_law_pail) rfl rfl fun n hn hc Q X k => by
  unfold t_law_pail
  walk_at "en"
  walk_at "go"
  refine b_mulI (a := 9011) (cml (by decide)) ?_
  walk_at "go"
  refine sl_rol hq ?_
  have ecut : cutD (ns.map D.int) none (some (12 : Int)) = (ns.take 12).map .int := by
    rw [show (12 : Int) = ((12 : Nat) : Int) from rfl, cut_to, List.map_take]
  rw [ecut]
  refine src_lst at_new ?_
  refine for_map hc D.int (ns.take 12) (fun _ σ S' => (∃ m c o, σ = [some (.loc q), some (.int turn), some (.int m), c, o]) ∧ S'[S.length]? = some (.lst ((ns.take 12).map .int)) ∧ Keep [] S S') ⟨⟨_, _, _, rfl⟩, at_new, .new _ _ _⟩ (fun _ _ _ h => gd_one h.2.1) (fun pre x post σ S1 e ⟨⟨m, c, o, eσ⟩, q1, k1⟩ => ?_) fun σ S1 ⟨⟨m, c, o, eσ⟩, q1, k1⟩ => ?_
  · subst eσ
    walk_at "go"
    refine b_mulI (b := 48017) (cmr (by decide)) ?_
    walk_at "go"
    refine b_modI (by decide) ?_
    walk_at "go"
    refine b_mulI (b := 13) (cmr (by decide)) ?_
    walk_at "go"
    refine b_modI (by decide) ?_
    walk_at "go"
    exact ⟨⟨_, _, _, rfl⟩, q1, k1⟩
  · subst eσ
    have hq1 := k1.at hq
    have key : ∀ (own : Int) (S2 : Store), Keep [] S S2 → (w (.cons (.asg (.var 2) (.bin .Mod (.bcall .int (.cons (.bin .Add (.bin .Add (.bin .Mult (.var 2) (.int 89)) (.bin .Mult (.bin .Mod (.var 4) (.int 2147483489)) (.int 58013))) (.int 11)) .nil)) (.int 2147483489))) (.cons (.ret (.lst (.cons (.ite (.or_ (.cmp .Lt (.var 4) (.int 0)) (.or_ (.cmp .GtE (.var 4) (.bin .Pow (.int 10) (.int 15))) .nil)) (.bcall .abs (.cons (.var 4) .nil)) (.int 0)) (.cons (.var 2) (.cons (.int 0) .nil))))) .nil)) ⟨callAt fns n, X⟩).s ⟨fun _ S' => Q .non S', Q, fun _ _ => False, fun _ _ => False⟩ [some (.loc q), some (.int turn), some (.int m), c, some (.int own)] S2 := by
      intro own S2 k2
      walk_at "go"
      refine b_mulI (b := 89) (cmr (by decide)) ?_
      walk_at "go"
      refine b_modI (by decide) ?_
      walk_at "go"
      refine b_mulI (b := 58013) (cmr (by decide)) ?_
      walk_at "go"
      refine b_modI (by decide) ?_
      walk_at "go"
      have fin : ∀ a m : Int, Q (.loc S2.length) (S2 ++ [.lst [.int a, .int m, .int 0]]) := fun a m => k _ _ ⟨_, rfl, ⟨_, _, _, at_new⟩, k2.n, k2.add _⟩
      refine ifd (fun h0 => ?_) fun h0 => ?_
      · walk_at "go"
        refine abs_int ?_
        walk_at "go"
        exact fin _ _
      · walk_at "go"
        refine b_powI ⟨by decide, by decide, by decide⟩ ?_
        walk_at "go"
        refine ifd (fun h1 => ?_) fun h1 => ?_
        · walk_at "go"
          refine abs_int ?_
          walk_at "go"
          exact fin _ _
        · walk_at "go"
          exact fin _ _
    refine s_cons' (s_asg' (e_ite' ?_))
    walk_at "go"
    refine len_rol hq1 ?_
    walk_at "go"
    refine ifd (fun h0 => ?_) fun h0 => ?_
    · walk_at "go"
      rw [List.length_map] at h0
      refine sub_rol hq1 (at_ints (by omega)) ?_
      refine a_nil' ?_
      refine int_int ?_
      refine g_var' ?_
      exact key _ _ k1
    · refine e_int' ?_
      refine g_var' ?_
      exact key _ _ k1
theorem all_lst {S : Store} {Q : KD} {n : Nat} {bs : List Bool} (h : S[n]? = some (.lst (bs.map .bl))) (k : Q (.bl (bs.all id)) S) : biD .all [.loc n] S Q := by
  have hb : ∀ bs : List Bool, bools (bs.map .bl) = some bs := fun bs => by
    induction bs with
    | nil => rfl
    | cons b r ih => simp [bools, ih]
  have h1 : (lstD S (.loc n)).bind bools = some bs := by simp only [lstD, seqD, h, Option.bind_some, hb]
  show (match (lstD S (.loc n)).bind bools with | some bs => Q (.bl (bs.all id)) S | none => False)
  rw [h1]; exact k
theorem sp_law (ns : List Int) (hl : ns.length ≤ 63) : GivesAt fns 9 i_law [.loc 0] [.rol (ns.map .int)] fun d _ => d = .bl true := GivesAt.of (T0 := t_law) rfl rfl fun n hn hc Q X k => by
  unfold t_law
  have hq : ([Cell.rol (ns.map .int)] : Store)[0]? = some (.rol (ns.map .int)) := rfl
  generalize ([Cell.rol (ns.map .int)] : Store) = S at hq ⊢
  walk_at "en"
  walk_at "go"
  refine e_lcP hc ?_
  walk_at "go"
  refine len_rol hq ?_
  walk_at "go"
  refine ⟨by unfold small62; rw [List.length_map]; omega, ?_⟩
  unfold rangeD
  refine ⟨_, fun i : Nat => D.int (0 + (i : Int)), _, fun _ => some (.bl true), rfl, gd_nil, by rw [List.length_range, List.length_map, sizeLine_eq]; omega, fun i hi S1 k1 => ?_, fun S1 k1 hS1 => ?_⟩
  · rw [List.mem_range, List.length_map] at hi
    walk_at "go"
    dsimp only
    rw [Int.zero_add]
    refine sp_law_pail 0 ns i (by omega) hl (k1.at hq) n (by omega) _ _ fun d S2 ⟨f, ed, hf, hfl, k2⟩ => ?_
    subst ed
    walk_at "go"
    refine sp_law_right f hf n hn _ _ fun d S3 ⟨ed, k3, p3⟩ => ?_
    subst ed
    exact ⟨rfl, k2.news k3 fun i hi => .inr (by rw [List.mem_singleton.mp hi]; exact hfl)⟩
  · walk_at "go"
    refine all_lst (bs := (List.range (max 2 (min (((ns.map D.int).length : Nat) : Int) 3) - 0).toNat).map fun _ => true) ?_ ?_
    · rw [hS1, List.filterMap_eq_map', List.map_map]; rfl
    · exact k _ _ (by simp)
theorem law_pure (ns : List Int) (hl : ns.length ≤ 63) (_hb : ∀ z ∈ ns, Builtin.Int.intBits z ≤ 1048576) : callAt fns 12 i_law [.loc 0] [.rol (ns.map D.int)] (fun d _ => d = .bl true) fun _ _ => False := sp_law ns hl 12 (by omega) _ _ fun _ _ h => h
end K81
namespace K81
open Pw PySem PySem.Spec PyProof.Rows L2
abbrev R : PySem.W.OpenRow := PySem.W.OpenLaw.row PySem.Challenge.rw_pitsites_k81_main_whole_fillings_by_pair
def ddIx0 : List Nat := [3, 4, 5, 6, 7, 11, 12, 13, 14, 15, 16, 17, 18, 19, 20, 28, 29, 30, 31, 32, 33, 35, 37, 38, 39]
def ddIx1 : List Nat := [40, 41, 43, 44, 46, 47, 48, 49, 50, 51, 52, 53, 54, 55, 56, 57, 58, 59, 60, 61]
def dd : List He.DefD := (ddIx0 ++ ddIx1).map (ddAt PySem.Challenge.pw_pitsites_k81_main_whole_fillings_by_pair)
set_option maxHeartbeats 0 in
theorem chk : defsB pd pd.defs fns dd = true := by decide +kernel
set_option maxHeartbeats 0 in
theorem binds : BindL pd.defs dd := ⟨(fun _ _ _ _ _ _ us hl => match us, hl with | [u0, u1, u2], _ => rfl), (fun _ _ _ _ _ _ us hl => match us, hl with | [u0], _ => rfl), (fun _ _ _ _ _ _ us hl => match us, hl with | [u0, u1, u2, u3], _ => rfl), (fun _ _ _ _ _ _ us hl => match us, hl with | [u0, u1, u2, u3, u4], _ => rfl), (fun _ _ _ _ _ _ us hl => match us, hl with | [u0, u1], _ => rfl), (fun _ _ _ _ _ _ us hl => match us, hl with | [u0], _ => rfl), (fun _ _ _ _ _ _ us hl => match us, hl with | [u0], _ => rfl), (fun _ _ _ _ _ _ us hl => match us, hl with | [u0, u1], _ => rfl), (fun _ _ _ _ _ _ us hl => match us, hl with | [u0], _ => rfl), (fun _ _ _ _ _ _ us hl => match us, hl with | [u0], _ => rfl), (fun _ _ _ _ _ _ us hl => match us, hl with | [u0, u1], _ => rfl), (fun _ _ _ _ _ _ us hl => match us, hl with | [u0, u1], _ => rfl), (fun _ _ _ _ _ _ us hl => match us, hl with | [u0, u1], _ => rfl), (fun _ _ _ _ _ _ us hl => match us, hl with | [u0, u1, u2], _ => rfl), (fun _ _ _ _ _ _ us hl => match us, hl with | [u0, u1, u2], _ => rfl), (fun _ _ _ _ _ _ us hl => match us, hl with | [u0], _ => rfl), (fun _ _ _ _ _ _ us hl => match us, hl with | [u0, u1, u2], _ => rfl), (fun _ _ _ _ _ _ us hl => match us, hl with | [u0, u1], _ => rfl), (fun _ _ _ _ _ _ us hl => match us, hl with | [u0, u1], _ => rfl), (fun _ _ _ _ _ _ us hl => match us, hl with | [u0, u1], _ => rfl), (fun _ _ _ _ _ _ us hl => match us, hl with | [u0, u1], _ => rfl), (fun _ _ _ _ _ _ us hl => match us, hl with | [u0, u1, u2, u3], _ => rfl), (fun _ _ _ _ _ _ us hl => match us, hl with | [u0, u1, u2], _ => rfl), (fun _ _ _ _ _ _ us hl => match us, hl with | [u0, u1, u2], _ => rfl), (fun _ _ _ _ _ _ us hl => match us, hl with | [u0, u1, u2], _ => rfl), (fun _ _ _ _ _ _ us hl => match us, hl with | [u0, u1, u2], _ => rfl), (fun _ _ _ _ _ _ us hl => match us, hl with | [u0, u1, u2], _ => rfl), (fun _ _ _ _ _ _ us hl => match us, hl with | [u0, u1, u2], _ => rfl), (fun _ _ _ _ _ _ us hl => match us, hl with | [u0, u1, u2], _ => rfl), (fun _ _ _ _ _ _ us hl => match us, hl with | [u0, u1], _ => rfl), (fun _ _ _ _ _ _ us hl => match us, hl with | [u0, u1], _ => rfl), (fun _ _ _ _ _ _ us hl => match us, hl with | [u0, u1], _ => rfl), (fun _ _ _ _ _ _ us hl => match us, hl with | [u0, u1], _ => rfl), (fun _ _ _ _ _ _ us hl => match us, hl with | [u0, u1], _ => rfl), (fun _ _ _ _ _ _ us hl => match us, hl with | [u0, u1, u2, u3], _ => rfl), (fun _ _ _ _ _ _ us hl => match us, hl with | [u0], _ => rfl), (fun _ _ _ _ _ _ us hl => match us, hl with | [u0, u1], _ => rfl), (fun _ _ _ _ _ _ us hl => match us, hl with | [u0, u1, u2], _ => rfl), (fun _ _ _ _ _ _ us hl => match us, hl with | [u0, u1, u2], _ => rfl), (fun _ _ _ _ _ _ us hl => match us, hl with | [u0, u1], _ => rfl), (fun _ _ _ _ _ _ us hl => match us, hl with | [u0], _ => rfl), (fun _ _ _ _ _ _ us hl => match us, hl with | [u0, u1], _ => rfl), (fun _ _ _ _ _ _ us hl => match us, hl with | [u0, u1, u2], _ => rfl), (fun _ _ _ _ _ _ us hl => match us, hl with | [u0], _ => rfl), (fun _ _ _ _ _ _ us hl => match us, hl with | [u0], _ => rfl), trivial⟩
set_option maxHeartbeats 0 in
theorem kwbinds : KwL pd dd pd.kws := trivial
abbrev hk : PySem.W.Hook := He.hookX 4 (faOf pd) dd [] (dd.map (·.at_)) (exOf pd)
def ob (s : PySem.W.SharedT) : He.AlX := He.obsX 4 (faOf pd) dd [] (dd.map (·.at_)) (exOf pd) (HandSHeadRun.getT s)
theorem ob_eq (s : PySem.W.SharedT) : ob s = hk.obs s.abs := He.obsX_eq (HandSHeadRun.getT_eq s)
def names0 : List Str := ["SMALL", "WORDS", "is_number", "is_name", "are_numbers", "are_rows", "are_names", "MOST", "DEAREST", "is_board_form", "all_pairs", "from_table", "columns_of", "sums_of", "is_plan_form", "is_order_form", "is_pair", "fill", "filled", "SiteError", "InvalidBoard", "InvalidAmounts", "InvalidPlan", "InvalidOrder", "need_board", "need_both", "need_amounts", "need_plan", "need_order", "first_wrong"]
def names1 : List Str := ["load_of", "need_ordered_plan", "row_by", "fills", "row_of", "is_filling", "need_filling", "filling", "_law_pail", "_law_deal", "_law_any", "_law_shuffled", "_law_names", "_law_board", "_law_pairs", "_law_order", "_law_fill", "_law_amounts", "_law_rows", "_law_plans", "_law_used", "_law_is_by_pairs", "_law_right"]
def names : List Str := names0 ++ names1
set_option maxHeartbeats 0 in
theorem run (w : World) : HandSHeadRun.RunEq R (PySem.W.view R.prog [61]) hk ob 3000 names w := by
  intro os
  kernel_rfl
end K81
open PySem PySem.W PySem.Calls PyProof.Rows
set_option maxRecDepth 100000 in
set_option maxHeartbeats 0 in
theorem PySem.Challenge.cw_pitsites_k81_main_whole_fillings_by_pair_holds : PySem.Challenge.rw_pitsites_k81_main_whole_fillings_by_pair.Holds := by
  w_on; o_law
  refine HandSHeadRun.head_any (r := OpenLaw.row PySem.Challenge.rw_pitsites_k81_main_whole_fillings_by_pair) (q := view (OpenLaw.row PySem.Challenge.rw_pitsites_k81_main_whole_fillings_by_pair).prog [61]) (H := K81.hk) (ob := K81.ob) (M := 3000) (loose := K81.names) (d := HandSHeadRun.topDef (OpenLaw.row PySem.Challenge.rw_pitsites_k81_main_whole_fillings_by_pair).prog 61) (kwd := []) K81.ob_eq
    (by kernel_rfl) (fun s => by kernel_rfl) K81.run (by kernel_rfl) (by kernel_rfl) (by kernel_rfl) (by rfl) (by first | assumption | decide +kernel) (by decide +kernel) ⟨rfl, rfl, rfl, rfl, rfl, by decide +kernel⟩ ?hw ?hc
  case hw => w_witness2
  case hc =>
    refine Pw.walk_pw (l := PySem.Challenge.rw_pitsites_k81_main_whole_fillings_by_pair) (n := 63) (k := 3 * 12) (x := "script") rfl (by decide) (by kernel_rfl) ⟨rfl, by decide, by decide⟩ ?F
    intro w mg fa h Y G hmg0
    have hmg : mg ("law" : PySem.Str) = some (.ref fa) := by
      have e : (HandSHeadRun.topDef (OpenLaw.row PySem.Challenge.rw_pitsites_k81_main_whole_fillings_by_pair).prog 61).name = ("law" : PySem.Str) := by kernel_rfl
      rw [← e]
      exact hmg0
    exact Pw.law_at (n := 12) (iL := 44) (nm := "law") (x := "script") K81.chk K81.binds K81.kwbinds (by decide +kernel) Y G hmg K81.law_pure
