import PyProof.Rows.All
import Wide.All
import OpenK.AllK
import Wide.FinOn
import Lean
import PySem.Challenge.RW_on0365_01
open PySem PySem.W PyProof.Rows PySem.Calls PySem.Spec
set_option linter.all false
set_option Elab.async false
set_option maxRecDepth 100000
set_option maxHeartbeats 8000000
namespace Mine
/-- a decoder that may hold a bytearray stands on the stack -/
noncomputable def decOn : Code → Bool
  | .builtin id _ => Builtin.Bytes.decodersThatHold.contains id
  | _ => false
noncomputable def Clean (l : List (Code × Pos)) : Prop := ∀ c ∈ l, decOn c.1 = false
/-- as wpAny, where nothing is raised and, if `cl`, the stack bears no decoder -/
noncomputable def wpC (cl : Bool) {α : Type} (M : Model) (A : Around) (t : Sem α) (Q : α → Shared → Prop) (s : Shared) : Prop :=
  ∀ Γ p, Γ.In A → (cl = true → decOn Γ.code = false ∧ Clean Γ.below) → Sem.wp M Γ t (fun a _ s' => Q a s') (fun _ _ _ => False) p s
noncomputable def codeC (cl : Bool) (M : Model) (A : Around) (c : Code) (R : Flow → Shared → Prop) (s : Shared) : Prop :=
  ∀ Γ p, Γ.code = c → Γ.Below A → (cl = true → Clean Γ.below) → wpCode M Γ (fun r s' => ∃ f, r = .ok f ∧ R f s') p s
section
variable {α β : Type} {M : Model} {A : Around} {s : Shared} {cl : Bool}
theorem xAny {t : Sem α} {Q : α → Shared → Prop} (h : wpAny M A t Q (fun _ _ => False) s) : wpC cl M A t Q s := fun Γ p hΓ _ => h Γ p hΓ
theorem xToAny {t : Sem α} {Q : α → Shared → Prop} (h : wpC false M A t Q s) : wpAny M A t Q (fun _ _ => False) s := fun Γ p hΓ => h Γ p hΓ (fun e => nomatch e)
theorem xMono {t : Sem α} {Q Q' : α → Shared → Prop} (h : wpC cl M A t Q s) (hQ : ∀ a s, Q a s → Q' a s) : wpC cl M A t Q' s :=
  fun Γ p hΓ h1 => Sem.wp_mono M Γ t (fun a _ s => hQ a s) (fun _ _ _ e => e) p s (h Γ p hΓ h1)
theorem xPure {a : α} {Q : α → Shared → Prop} (h : Q a s) : wpC cl M A (pure a) Q s := fun _ _ _ _ => h
theorem xBind {m : Sem α} {f : α → Sem β} {Q : β → Shared → Prop} (h : wpC cl M A m (fun a s' => wpC cl M A (f a) Q s') s) : wpC cl M A (m >>= f) Q s := fun Γ p hΓ h1 => by
  rw [Sem.wp_bind']
  exact Sem.wp_mono M Γ m (fun a p' s' h' => h' Γ p' hΓ h1) (fun _ _ _ h' => h') p s (h Γ p hΓ h1)
/-- the first part as the library has it, told by a contract -/
theorem xBindAny {m : Sem α} {f : α → Sem β} {Q : β → Shared → Prop} (h : wpAny M A m (fun a s' => wpC cl M A (f a) Q s') (fun _ _ => False) s) : wpC cl M A (m >>= f) Q s := xBind (xAny h)
theorem xEq {t t' : Sem α} {Q : α → Shared → Prop} (e : t = t') (h : wpC cl M A t' Q s) : wpC cl M A t Q s := e ▸ h
theorem xHolding {vs : List Value} {m : Sem α} {Q : α → Shared → Prop} (h : wpC cl M A m Q s) : wpC cl M A (holding vs m) Q s :=
  fun Γ p hΓ h1 => by rw [Sem.wp_holding]; exact h Γ p hΓ h1
theorem xOperate {vs : List Value} {m : Sem Value} {Q : Value → Shared → Prop} (h : wpC cl M A m Q s) : wpC cl M A (operate vs m) Q s :=
  fun Γ p hΓ h1 => by rw [Sem.wp_operate]; exact h Γ p hΓ h1
theorem xOnRaise {m : Sem α} {k : Value → Sem Unit} {Q : α → Shared → Prop} (h : wpC cl M A m Q s) : wpC cl M A (m.onRaise k) Q s := fun Γ p hΓ h1 => by
  rw [Sem.wp_onRaise]
  exact Sem.wp_mono M Γ m (fun _ _ _ h' => h') (fun _ _ _ h' => h'.elim) p s (h Γ p hΓ h1)
theorem xAttempt {m : Sem α} {Q : Except Value α → Shared → Prop} (h : wpC cl M A m (fun a => Q (.ok a)) s) : wpC cl M A m.attempt Q s := fun Γ p hΓ h1 => by
  rw [Sem.wp_attempt]
  exact Sem.wp_mono M Γ m (fun _ _ _ h' => h') (fun _ _ _ h' => h'.elim) p s (h Γ p hΓ h1)
theorem xIf {c : Bool} {a b : Sem α} {Q : α → Shared → Prop} (h : if c = true then wpC cl M A a Q s else wpC cl M A b Q s) : wpC cl M A (if c = true then a else b) Q s := by
  cases c <;> simpa using h
theorem xKeep {vs : List Value} {m : Sem α} {Q : α → Shared → Prop} (h : wpC cl M A m Q s) : wpC cl M A (m.keep vs) Q s :=
  fun Γ p hΓ h1 => by rw [Sem.wp_keep]; exact h Γ p hΓ h1
theorem xRun {c : Code} {Q : Flow → Shared → Prop} (hc : codeC cl M A c Q s) : wpC cl M A (run c) Q s := fun Γ p hΓ h1 => by
  rw [Sem.wp_run]
  have hm : A.mark none = A := rfl
  refine wpCode_mono (fun r s' h => ?_) (hc _ p rfl (hm ▸ hΓ.enter c none p (by intro x; cases x)) (fun e d hd => ?_))
  · obtain ⟨f, rfl, h⟩ := h
    exact h
  · rcases List.mem_cons.mp hd with rfl | hd
    · exact (h1 e).1
    · exact (h1 e).2 d hd
theorem xRunValue {c : Code} {Q : Value → Shared → Prop} (hc : codeC cl M A c (fun f s' => ∃ v, f = .ret v ∧ Q v s') s) : wpC cl M A (runValue c) Q s := by
  unfold runValue
  refine xBind (xMono (xRun hc) fun f s' h => ?_)
  obtain ⟨v, rfl, h⟩ := h
  exact xPure h
theorem xCall {f : Value} {pos : List Value} {kw : List (Str × Value)} {Q : Value → Shared → Prop} (hc : codeC cl M A (.call f ⟨pos, kw⟩) (fun f s' => ∃ v, f = .ret v ∧ Q v s') s) : wpC cl M A (call f pos kw) Q s := xRunValue hc
theorem codeC_of_any {c : Code} {R : Flow → Shared → Prop} (h : codeAny M A c (fun r s' => ∃ f, r = .ok f ∧ R f s') s) : codeC cl M A c R s := fun Γ p hc hΓ _ => h Γ p hc hΓ
theorem codeC_of_tree {c : Code} {R : Flow → Shared → Prop} (hd : decOn c = false)
    (h : wpC cl M (A.under c) (M.den c) (fun fin s' => match fin with | .done f => R f s' | .again c' => c'.quiet = true ∧ codeC cl M A c' R s') s) : codeC cl M A c R s := fun Γ p hc hΓ h2 => by
  rw [wpCode_iff_wp, hc]
  refine Sem.wp_mono M Γ _ (fun fin p' s' h' => ?_) (fun _ _ _ h' => h'.elim) p s (h Γ p (hc ▸ hΓ.in) (fun e => ⟨hc ▸ hd, h2 e⟩))
  cases fin with
  | done f => exact ⟨f, rfl, h'⟩
  | again c' => exact ⟨h'.1, h'.2 (Γ.goto c') p' rfl (hΓ.goto c') h2⟩
theorem codeC_loop {c : Code} {R : Flow → Shared → Prop} (hd : decOn c = false) (hq : c.quiet = true) (I : Nat → Shared → Prop)
    (turn : ∀ n s, I n s → wpC cl M (A.under c) (M.den c)
      (fun fin s' => match fin with | .done f => R f s' | .again c' => (c' = c ∧ ∃ m, m < n ∧ I m s') ∨ (c'.quiet = true ∧ codeC cl M A c' R s')) s)
    (n : Nat) (h : I n s) : codeC cl M A c R s := by
  induction n using Nat.strongRecOn generalizing s with
  | ind n ih =>
    refine codeC_of_tree hd (xMono (turn n s h) (fun fin s' hf => ?_))
    cases fin with
    | done f => exact hf
    | again c' =>
      rcases hf with ⟨rfl, m, hm, hI⟩ | hf
      · exact ⟨hq, ih m hm hI⟩
      · exact hf
/-- the look for one that holds it finds none -/
theorem xExported {a : Addr} {Q : Bool → Shared → Prop} (hg : A.guards = some []) (h : Q false s) : wpC true M A (Builtin.Bytes.exported (.ref a)) Q s := fun Γ p hΓ h1 => by
  obtain ⟨h1, h2⟩ := h1 rfl
  unfold Builtin.Bytes.exported
  rw [Sem.wp_bind']
  show Q (List.any ((Γ.code, p) :: Γ.below) _) s
  have hgu : guardsOf ((Γ.code, p) :: Γ.below) = [] := by rw [guardsOf_cons]; exact hΓ.2.2.2.1 _ hg
  have hno : ∀ c ∈ (Γ.code, p) :: Γ.below, c.1.isGuard = false ∧ decOn c.1 = false := fun c hc => by
    constructor
    · cases q : c.1.isGuard with
      | false => rfl
      | true =>
        have : c.1 ∈ guardsOf ((Γ.code, p) :: Γ.below) := List.mem_filter.mpr ⟨List.mem_map_of_mem hc, q⟩
        rw [hgu] at this
        cases this
    · rcases List.mem_cons.mp hc with rfl | hc
      · exact h1
      · exact h2 c hc
  have e : ∀ l : List (Code × Pos), (∀ c ∈ l, c.1.isGuard = false ∧ decOn c.1 = false) → ∀ f : Code × Pos → Bool, (∀ c, c.1.isGuard = false → decOn c.1 = false → f c = false) → l.any f = false := by
    intro l hl f hf
    rw [List.any_eq_false]
    intro c hc
    rw [hf c (hl c hc).1 (hl c hc).2]
    exact Bool.false_ne_true
  rw [e _ hno _ ?_]
  · exact h
  · rintro ⟨c, pos⟩ h3 h4
    cases c
    case builtin id args =>
      obtain ⟨pp, kw⟩ := args
      have hg : ∀ s : String, guardIds.contains s = true → id ≠ s := by
        rintro s hs rfl
        have h3 : guardIds.contains id = false := h3
        rw [hs] at h3; cases h3
      have h5 : Builtin.Bytes.decodersThatHold.contains id = false := h4
      delta Builtin.Bytes.exported.match_1
      refine (dif_neg (hg "bytearray.__contains__" (by decide +kernel))).trans ?_
      refine (dif_neg (hg "bytearray.__mod__" (by decide +kernel))).trans ?_
      refine (dif_neg (hg "bytearray.__rmod__" (by decide +kernel))).trans ?_
      refine (dif_neg (hg "_struct.pack_into.held" (by decide +kernel))).trans ?_
      refine (dif_neg (hg "bytearray.find.held" (by decide +kernel))).trans ?_
      cases pp with
      | nil => rfl
      | cons v r =>
        show (Builtin.Bytes.sameRef v (Value.ref a) && Builtin.Bytes.decodersThatHold.contains id) = false
        rw [h5, Bool.and_false]
    all_goals rfl
end

/-- the caller's stack is clean -/
theorem caller_clean : decOn (.builtin "claim.caller" {}) = false := by decide
section
open PySem.W
theorem xThread {prog : Program} {w : World} {t : Sem Fin} {s : Shared} {R : Result → Shared → Prop} (hreg : s.asleep)
    (h : wpC true (model prog w) callerA t (fun fin s' => ∃ f, fin = .done f ∧ (R (.ok f) s' ∧ leftWithCleanup s'.gens = false)) s) :
    ∃ n r s' s'', runN (denote table) prog w n s ⟨t, .builtin "claim.caller" {}, default, []⟩ = .halted (outcomeOf r) s' ∧
      schedN (denote table) prog w n (.single s ⟨t, .builtin "claim.caller" {}, default, []⟩) = .halted (outcomeOf r) s' ∧ s'.forget = s''.forget ∧ R r s'' := by
  have hw : Sem.wp (model prog w) ⟨.builtin "claim.caller" {}, none, none, [], none⟩ t (Sem.finPost (model prog w) ⟨.builtin "claim.caller" {}, none, none, [], none⟩ (fun r s' => R r s' ∧ leftWithCleanup s'.gens = false)) (fun e _ s' => R (.error e) s' ∧ leftWithCleanup s'.gens = false) default s := by
    refine Sem.wp_mono _ _ t (fun fin p' s' h' => ?_) (fun _ _ _ h' => h'.elim) default s (h _ default caller_in (fun _ => ⟨caller_clean, fun c hc => by cases hc⟩))
    obtain ⟨f, rfl, hf⟩ := h'
    exact hf
  obtain ⟨n, r, s₁, s₂, hs, hn, hfo, hR⟩ := wp_halts_full (M := model prog w) (R := R) hreg hw
  exact ⟨n, r, s₂, s₁, hn, hs, hfo, hR⟩
theorem xCallFrom {c : ClaimW} {tree : List Value → Sem Fin} {w : World} {s : Shared} {free : Addr → Prop} {gens : Prop} {kept : Heap → Prop} (hz : s.asleep) (hgens : s.gens = #[])
    (hspec : ∀ args, c.pre args = true → WData.layableAll args = true →
      ∀ ord : List DictEntry → List DictEntry, (∀ l, (ord l).Perm l) →
      ∃ vs s₁, layAllW c.records (classAt s.heap) w.params ord args s = some (vs, s₁) ∧
        wpC true (model c.prog w) callerA (tree vs) (fun fin s' => ∃ f, fin = .done f ∧ (c.Ends s args vs s₁ (.ok f) s' ∧ s'.os = s.os ∧ AllBare s'.gens ∧ kept s'.heap)) s₁) :
    c.CallFrom (fun vs => ⟨tree vs, .builtin "claim.caller" {}, default, []⟩) w free gens kept s := by
  intro args hpre hlay ord hord
  obtain ⟨vs, s₁, hlaid, hcode⟩ := hspec args hpre hlay ord hord
  have hal := layAllW_rest _ _ _ hlaid
  obtain ⟨k, r, s', s'', hrun, hsched, hfo, hcase, hos, hkp⟩ := xThread (prog := c.prog) (w := w) (t := tree vs) (s := s₁)
    (R := fun r s' => c.Ends s args vs s₁ r s' ∧ s'.os = s.os ∧ kept s'.heap) (Shared.asleep_of_life hal.2.2.2 hz)
    (xMono hcode fun fin s' ⟨f, e, h1, h2, h3, h4⟩ => ⟨f, e, ⟨h1, h2, h4⟩, leftWithCleanup_false_of_bare h3⟩)
  obtain ⟨eh, _, _, eo, _⟩ := Shared.forget_eq hfo
  have hcase := hcase.congr eh
  have hkp : kept s'.heap := by rw [eh]; exact hkp
  have hlife : s'.heap.life = s.heap.life := (runN_life _ _ _ hrun).trans hal.2.2.2
  refine ⟨vs, s₁, hlaid, k, _, s', hsched, ?_, (fun _ i x hx => by rw [hgens] at hx; simp at hx), hkp, by rw [hlife], Shared.rest_eq (eo.trans hos)⟩
  rcases hcase with ⟨v, rfl, d1, d2, d3, d4, d5⟩ | ⟨e, ob, cls, rfl, d1, d2, d3, d4, d5⟩
  · exact .inl ⟨v, rfl, d1, d2, d3, fun b o y _ => d4 b o y, d5⟩
  · exact .inr ⟨e, ob, cls, rfl, d1, d2, d3, d4, fun b o y _ => d5 b o y⟩
/-- the top's run on a tree of objects -/
noncomputable def runT (stp : SharedT → Thread → Option (SharedT × Thread)) (ok : Thread → Bool) : Nat → SharedT → Thread → Option SharedT
  | 0, _, _ => none
  | n + 1, s, t => match through t with
    | true => some s
    | false => match ok t with
      | false => none
      | true => match stp s t with
        | some (s', t') => runT stp ok n s' t'
        | none => none
theorem run_of {tb : String → Option Builtin} {p : Program} {w : World} {n₀ : Nat} {ann : Option Value} : ∀ {n : Nat} {s s' : SharedT} {t : Thread}, runT (stepT (denote tb) p w) (stepOk n₀ ann) n s t = some s' → topRun tb p w n₀ ann n s.abs t = some s'.abs
  | 0, _, _, _, h => by cases h
  | n + 1, s, s', t, h => by
    unfold runT at h
    unfold topRun
    cases he : through t with
    | true => rw [he] at h; cases h; rfl
    | false =>
      rw [he] at h
      cases hk : stepOk n₀ ann t with
      | false => rw [hk] at h; cases h
      | true =>
        rw [hk] at h
        cases hs : stepT (denote tb) p w s t with
        | none => rw [hs] at h; cases h
        | some r => obtain ⟨s₂, t₂⟩ := r; rw [hs] at h; rw [stepT_spec hs]; exact run_of h
/-- a tree over places -/
noncomputable def treeAt (g : Nat → Option Obj) : Nat → Nat → Nat → BT
  | 0, _, _ => .nil
  | f + 1, a, b => match g b with
    | some o => .node o (treeAt g f (2 * a) (a + b)) (treeAt g f (2 * a) (2 * a + b))
    | none => .nil
noncomputable def bootT (P : Params) : BT := treeAt (fun i => (boot_heap P).objs.toList[i]?) 5 1 0
noncomputable def bootS (w : World) (os : OsState) : SharedT := ⟨bootT w.params, 11, (boot_heap w.params).life, #[], boot_drawn, boot_toks, os⟩
theorem boot_abs : ∀ P, absHeap (bootT P) 11 (boot_heap P).life = boot_heap P := by intro P; kernel_rfl
theorem boot_size : ∀ P, ((boot_heap P).isNs mainGlobals, (boot_heap P).objs.size, (boot_heap P).nsMap mainGlobals "__annotations__") = (true, 11, some (.ref 6)) := by intro P; kernel_rfl
theorem left_of {p q : Program} {loose : List Str} {Xt : Shared → Bool} {α : Type} {Yf : Shared → α} {Ya : World → α} {N : Nat} {g0 : Bool}
    (e : opening p = plainProg p.main.scope.names) (hN : Nat.ble 600 N = true) (f : ∀ s, fenceModules? p s = some s)
    (run : ∀ w os, (runT (stepT (denote treeTable) p w) (stepOk 11 (some (.ref 6))) N (bootS w os) (topStub p)).map (fun s =>
        ((staticsOk (importedModules p.main.body) (boot_heap w.params) s.abs.heap && namesBound p s.abs.heap && gensDone s.abs && laidKept (boot_heap w.params) s.abs.heap),
          openSeen q loose (importedModules p.main.body) Xt g0 s.abs, Yf s.abs)) = some (true, openGood q loose, Ya w)) : LeftO p q loose Xt Yf Ya N g0 := fun w => by
  obtain ⟨⟨h, gs, d, k, os⟩, e1, e'⟩ := Option.map_eq_some_iff.mp (boot_open (N := N) e hN f w)
  obtain ⟨rfl, rfl, rfl, rfl⟩ : h = boot_heap w.params ∧ gs = #[] ∧ d = boot_drawn ∧ k = boot_toks := by simpa using e'
  obtain ⟨s, r, hs⟩ := Option.map_eq_some_iff.mp (run w os)
  obtain ⟨l1, l2⟩ := Prod.mk.inj hs
  obtain ⟨l2, l3⟩ := Prod.mk.inj l2
  have r := run_of r
  have hb : (bootS w os).abs = ⟨boot_heap w.params, #[], boot_drawn, boot_toks, os⟩ := by
    show Shared.mk (absHeap (bootT w.params) 11 (boot_heap w.params).life) _ _ _ _ = _
    rw [boot_abs]
    rfl
  rw [hb] at r
  have z := boot_size w.params
  obtain ⟨z1, z2⟩ := Prod.mk.inj z
  obtain ⟨z2, z3⟩ := Prod.mk.inj z2
  have t : topFrom treeTable p w N ⟨boot_heap w.params, #[], boot_drawn, boot_toks, os⟩ = some s.abs := by
    unfold topFrom
    dsimp only
    rw [z1, z2, z3, r]
    show (match staticsOk (importedModules p.main.body) (boot_heap w.params) s.abs.heap && namesBound p s.abs.heap && gensDone s.abs && laidKept (boot_heap w.params) s.abs.heap with | true => _ | false => _) = _
    rw [l1]
  unfold openEnds
  rw [e1]
  show (topFrom treeTable p w N _).map _ = _
  rw [t]
  exact congrArg some (Prod.ext l2 l3)
abbrev pw := PySem.Challenge.pw_on0365_01
abbrev row := PySem.Challenge.rw_on0365_01.row
/-- a def of the text, as the top leaves it -/
noncomputable def fnAt (i : Nat) (dV pm cd : Value) : FuncData := match pw.main.body[i]? with
  | some (.FunctionDef name args body _ _ _ scope _ _ _) => fnOf name name args body scope dV .none .none pm none cd .none
  | _ => default
/-- a class's first def -/
noncomputable def fnIn (i : Nat) (dV pm cd : Value) : FuncData := match pw.main.body[i]? with
  | some (.ClassDef cn _ _ (.FunctionDef name args body _ _ _ scope _ _ _ :: _) _ _ _ _ _ _ _) => fnOf name (cn ++ (Str.ofString "." ++ name)) args body scope dV .none .none pm none cd .none
  | _ => default
noncomputable def fragAs : List Addr := [2, 3, 22, 28, 29, 31, 32, 44, 45, 65, 66, 72, 73, 79, 80, 86, 87, 93, 94, 100, 101, 107, 108, 114, 115, 121, 122, 128, 129, 135, 136, 142, 143, 144, 150, 151, 157, 158, 164, 165, 171, 172, 178, 179, 185, 186, 190, 191, 197, 198, 204, 205, 206, 207, 211, 212, 218, 219, 225, 226, 232, 233, 239, 240, 246, 247, 253, 254, 260, 261, 267, 268, 274, 275, 279, 280]
noncomputable abbrev fo2 (P : Params) : Obj := ⟨.none, none, .dict #[⟨PyData.keyHash P (PySem.Str.ofString "type.__subclasses__.Exception.0"), .str (PySem.Str.ofString "type.__subclasses__.Exception.0") 226, .int 32 0⟩, ⟨PyData.keyHash P (PySem.Str.ofString "type.__subclasses__.Exception.n"), .str (PySem.Str.ofString "type.__subclasses__.Exception.n") 227, .int 1 0⟩] 2, #[]⟩
noncomputable abbrev fo3 (P : Params) : Obj := ⟨.type "dict", none, .dict #[⟨PyData.keyHash P (PySem.Str.ofString "__name__"), .str (PySem.Str.ofString "__name__") 165, .str (PySem.Str.ofString "law_on0365_01") 492⟩, ⟨PyData.keyHash P (PySem.Str.ofString "__doc__"), .str (PySem.Str.ofString "__doc__") 166, .none⟩, ⟨PyData.keyHash P (PySem.Str.ofString "__package__"), .str (PySem.Str.ofString "__package__") 167, .none⟩, ⟨PyData.keyHash P (PySem.Str.ofString "__loader__"), .str (PySem.Str.ofString "__loader__") 168, .builtin "__main__.__loader__#opaque"⟩, ⟨PyData.keyHash P (PySem.Str.ofString "__spec__"), .str (PySem.Str.ofString "__spec__") 169, .none⟩, ⟨PyData.keyHash P (PySem.Str.ofString "__annotations__"), .str (PySem.Str.ofString "__annotations__") 170, .ref 6⟩, ⟨PyData.keyHash P (PySem.Str.ofString "__builtins__"), .str (PySem.Str.ofString "__builtins__") 171, .ref 4⟩, ⟨PyData.keyHash P (PySem.Str.ofString "__file__"), .str (PySem.Str.ofString "__file__") 173, .str (PySem.Str.ofString "/claim/cut.py") 172⟩, ⟨PyData.keyHash P (PySem.Str.ofString "__cached__"), .str (PySem.Str.ofString "__cached__") 174, .none⟩, ⟨PyData.keyHash P (PySem.Str.ofString "MAX_CODE"), .str (PySem.Str.ofString "MAX_CODE") 190, .int 1114111 189⟩, ⟨PyData.keyHash P (PySem.Str.ofString "HIGH_FIRST"), .str (PySem.Str.ofString "HIGH_FIRST") 192, .int 55296 191⟩, ⟨PyData.keyHash P (PySem.Str.ofString "HIGH_LAST"), .str (PySem.Str.ofString "HIGH_LAST") 194, .int 56319 193⟩, ⟨PyData.keyHash P (PySem.Str.ofString "LOW_FIRST"), .str (PySem.Str.ofString "LOW_FIRST") 196, .int 56320 195⟩, ⟨PyData.keyHash P (PySem.Str.ofString "LOW_LAST"), .str (PySem.Str.ofString "LOW_LAST") 198, .int 57343 197⟩, ⟨PyData.keyHash P (PySem.Str.ofString "REPLACEMENT"), .str (PySem.Str.ofString "REPLACEMENT") 200, .int 65533 199⟩, ⟨PyData.keyHash P (PySem.Str.ofString "UniError"), .str (PySem.Str.ofString "UniError") 229, .ref 32⟩, ⟨PyData.keyHash P (PySem.Str.ofString "BadEncoding"), .str (PySem.Str.ofString "BadEncoding") 245, .ref 45⟩, ⟨PyData.keyHash P (PySem.Str.ofString "BadCode"), .str (PySem.Str.ofString "BadCode") 261, .ref 57⟩, ⟨PyData.keyHash P (PySem.Str.ofString "is_code"), .str (PySem.Str.ofString "is_code") 268, .ref 66⟩, ⟨PyData.keyHash P (PySem.Str.ofString "is_high"), .str (PySem.Str.ofString "is_high") 275, .ref 73⟩, ⟨PyData.keyHash P (PySem.Str.ofString "is_low"), .str (PySem.Str.ofString "is_low") 282, .ref 80⟩, ⟨PyData.keyHash P (PySem.Str.ofString "is_surrogate"), .str (PySem.Str.ofString "is_surrogate") 289, .ref 87⟩, ⟨PyData.keyHash P (PySem.Str.ofString "is_scalar"), .str (PySem.Str.ofString "is_scalar") 296, .ref 94⟩, ⟨PyData.keyHash P (PySem.Str.ofString "UTF7_PLUS"), .str (PySem.Str.ofString "UTF7_PLUS") 300, .int 43 299⟩, ⟨PyData.keyHash P (PySem.Str.ofString "UTF7_AND"), .str (PySem.Str.ofString "UTF7_AND") 302, .int 38 301⟩, ⟨PyData.keyHash P (PySem.Str.ofString "UTF7_MINUS"), .str (PySem.Str.ofString "UTF7_MINUS") 304, .int 45 303⟩, ⟨PyData.keyHash P (PySem.Str.ofString "UTF7_COMMA"), .str (PySem.Str.ofString "UTF7_COMMA") 306, .int 44 305⟩, ⟨PyData.keyHash P (PySem.Str.ofString "UTF7_SLASH"), .str (PySem.Str.ofString "UTF7_SLASH") 308, .int 47 307⟩, ⟨PyData.keyHash P (PySem.Str.ofString "UTF7_DIRECT"), .str (PySem.Str.ofString "UTF7_DIRECT") 310, .bytes #[39, 40, 41, 44, 45, 46, 47, 58, 63, 9, 10, 13, 32] 309⟩, ⟨PyData.keyHash P (PySem.Str.ofString "UTF7_OPTIONAL"), .str (PySem.Str.ofString "UTF7_OPTIONAL") 312, .bytes #[33, 34, 35, 36, 37, 38, 42, 59, 60, 61, 62, 64, 91, 93, 94, 95, 96, 123, 124, 125] 311⟩, ⟨PyData.keyHash P (PySem.Str.ofString "UTF7_SIX"), .str (PySem.Str.ofString "UTF7_SIX") 314, .int 6 313⟩, ⟨PyData.keyHash P (PySem.Str.ofString "UTF7_UNIT"), .str (PySem.Str.ofString "UTF7_UNIT") 316, .int 16 315⟩, ⟨PyData.keyHash P (PySem.Str.ofString "NOT_DIRECT"), .str (PySem.Str.ofString "NOT_DIRECT") 318, .str (PySem.Str.ofString "a sign that may not stand for itself") 317⟩, ⟨PyData.keyHash P (PySem.Str.ofString "EMPTY_RUN"), .str (PySem.Str.ofString "EMPTY_RUN") 320, .str (PySem.Str.ofString "a run without signs") 319⟩, ⟨PyData.keyHash P (PySem.Str.ofString "LEFT_OVER"), .str (PySem.Str.ofString "LEFT_OVER") 322, .str (PySem.Str.ofString "bits that are left over") 321⟩, ⟨PyData.keyHash P (PySem.Str.ofString "LONE_UNIT"), .str (PySem.Str.ofString "LONE_UNIT") 324, .str (PySem.Str.ofString "a surrogate without its other half") 323⟩, ⟨PyData.keyHash P (PySem.Str.ofString "NEEDLESS_RUN"), .str (PySem.Str.ofString "NEEDLESS_RUN") 326, .str (PySem.Str.ofString "a code in a run that stands for itself") 325⟩, ⟨PyData.keyHash P (PySem.Str.ofString "utf7_sign"), .str (PySem.Str.ofString "utf7_sign") 334, .ref 101⟩, ⟨PyData.keyHash P (PySem.Str.ofString "utf7_value"), .str (PySem.Str.ofString "utf7_value") 342, .ref 108⟩, ⟨PyData.keyHash P (PySem.Str.ofString "utf7_is_direct"), .str (PySem.Str.ofString "utf7_is_direct") 350, .ref 115⟩, ⟨PyData.keyHash P (PySem.Str.ofString "utf7_is_mail_direct"), .str (PySem.Str.ofString "utf7_is_mail_direct") 357, .ref 122⟩, ⟨PyData.keyHash P (PySem.Str.ofString "utf7_units"), .str (PySem.Str.ofString "utf7_units") 367, .ref 129⟩, ⟨PyData.keyHash P (PySem.Str.ofString "utf7_packed"), .str (PySem.Str.ofString "utf7_packed") 379, .ref 136⟩, ⟨PyData.keyHash P (PySem.Str.ofString "utf7_run_written"), .str (PySem.Str.ofString "utf7_run_written") 388, .ref 143⟩, ⟨PyData.keyHash P (PySem.Str.ofString "encode_utf7"), .str (PySem.Str.ofString "encode_utf7") 399, .ref 151⟩, ⟨PyData.keyHash P (PySem.Str.ofString "utf7_run_end"), .str (PySem.Str.ofString "utf7_run_end") 408, .ref 158⟩, ⟨PyData.keyHash P (PySem.Str.ofString "utf7_run_units"), .str (PySem.Str.ofString "utf7_run_units") 422, .ref 165⟩, ⟨PyData.keyHash P (PySem.Str.ofString "utf7_run_read"), .str (PySem.Str.ofString "utf7_run_read") 439, .ref 172⟩, ⟨PyData.keyHash P (PySem.Str.ofString "utf7_step"), .str (PySem.Str.ofString "utf7_step") 452, .ref 179⟩, ⟨PyData.keyHash P (PySem.Str.ofString "decode_utf7"), .str (PySem.Str.ofString "decode_utf7") 463, .ref 186⟩, ⟨PyData.keyHash P (PySem.Str.ofString "decode_utf7_replaced"), .str (PySem.Str.ofString "decode_utf7_replaced") 469, .ref 191⟩, ⟨PyData.keyHash P (PySem.Str.ofString "is_utf7"), .str (PySem.Str.ofString "is_utf7") 479, .ref 198⟩, ⟨PyData.keyHash P (PySem.Str.ofString "utf8_index"), .str (PySem.Str.ofString "utf8_index") 491, .ref 205⟩, ⟨PyData.keyHash P (PySem.Str.ofString "_law_lots"), .str (PySem.Str.ofString "_law_lots") 521, .ref 206⟩, ⟨PyData.keyHash P (PySem.Str.ofString "_law_some"), .str (PySem.Str.ofString "_law_some") 523, .bytes #[43, 45, 65, 66, 50, 68, 51, 103, 48, 89, 107, 47, 32, 126, 33, 195, 97, 57, 61] 522⟩, ⟨PyData.keyHash P (PySem.Str.ofString "_law_codes"), .str (PySem.Str.ofString "_law_codes") 538, .ref 207⟩, ⟨PyData.keyHash P (PySem.Str.ofString "_law_deck"), .str (PySem.Str.ofString "_law_deck") 544, .ref 212⟩, ⟨PyData.keyHash P (PySem.Str.ofString "_law_draw"), .str (PySem.Str.ofString "_law_draw") 552, .ref 219⟩, ⟨PyData.keyHash P (PySem.Str.ofString "_law_sixty"), .str (PySem.Str.ofString "_law_sixty") 558, .ref 226⟩, ⟨PyData.keyHash P (PySem.Str.ofString "_law_is_direct"), .str (PySem.Str.ofString "_law_is_direct") 565, .ref 233⟩, ⟨PyData.keyHash P (PySem.Str.ofString "_law_units"), .str (PySem.Str.ofString "_law_units") 576, .ref 240⟩, ⟨PyData.keyHash P (PySem.Str.ofString "_law_run"), .str (PySem.Str.ofString "_law_run") 592, .ref 247⟩, ⟨PyData.keyHash P (PySem.Str.ofString "_law_read"), .str (PySem.Str.ofString "_law_read") 608, .ref 254⟩, ⟨PyData.keyHash P (PySem.Str.ofString "_law_heard"), .str (PySem.Str.ofString "_law_heard") 616, .ref 261⟩, ⟨PyData.keyHash P (PySem.Str.ofString "_law_is_read"), .str (PySem.Str.ofString "_law_is_read") 625, .ref 268⟩, ⟨PyData.keyHash P (PySem.Str.ofString "_law_written"), .str (PySem.Str.ofString "_law_written") 635, .ref 275⟩, ⟨PyData.keyHash P (PySem.Str.ofString "law"), .str (PySem.Str.ofString "law") 641, .ref 280⟩] 67, #[]⟩
noncomputable abbrev fo22 (P : Params) : Obj := ⟨.type "tuple", none, .seq #[.none] 0, #[]⟩
noncomputable abbrev fo28 (P : Params) : Obj := ⟨.type "code", none, .fields #[.str (PySem.Str.ofString "__init__") 213, .str (PySem.Str.ofString "UniError.__init__") 214, .str (PySem.Str.ofString "/claim/cut.py") 215, .int 10 0, .int 2 0, .int 0 0, .int 0 0, .int 3 0, .ref 23, .bool true, .int 181 0, .ref 24, .none, .ref 25, .ref 26, .ref 27, .int 218 0, .int 10 0, .str (PySem.Str.ofString "/claim/cut.py") 219], #[]⟩
noncomputable abbrev fo29 (P : Params) : Obj := ⟨.type "function", none, .func (fnIn 7 (.ref 22) (.str (PySem.Str.ofString "unicore.base") 187) (.ref 28)), #[]⟩
noncomputable abbrev fo31 (P : Params) : Obj := ⟨.type "dict", none, .dict #[⟨PyData.keyHash P (PySem.Str.ofString "__module__"), .str (PySem.Str.ofString "__module__") 208, .str (PySem.Str.ofString "unicore.base") 187⟩, ⟨PyData.keyHash P (PySem.Str.ofString "__firstlineno__"), .str (PySem.Str.ofString "__firstlineno__") 212, .int 8 211⟩, ⟨PyData.keyHash P (PySem.Str.ofString "__init__"), .str (PySem.Str.ofString "__init__") 220, .ref 29⟩, ⟨PyData.keyHash P (PySem.Str.ofString "__static_attributes__"), .str (PySem.Str.ofString "__static_attributes__") 222, .ref 30⟩, ⟨PyData.keyHash P (PySem.Str.ofString "__weakref__"), .str (PySem.Str.ofString "__weakref__") 224, .ref 33⟩, ⟨PyData.keyHash P (PySem.Str.ofString "__doc__"), .str (PySem.Str.ofString "__doc__") 225, .none⟩] 3, #[]⟩
noncomputable abbrev fo32 (P : Params) : Obj := ⟨.type "type", none, .cls { name := (PySem.Str.ofString "UniError"), bases := [.type "Exception"], mro := [.ref 32, .type "Exception", .type "BaseException", .type "object"], ns := 31, qualname := (PySem.Str.ofString "UniError"), hasDict := true, slotNames := [], subclasses := [.ref 45, .ref 57], abstract := false, collection := none, hasDel := false }, #[some (.ref 15), none, some (.str (PySem.Str.ofString "UniError") 201), some (.str (PySem.Str.ofString "UniError") 209), some (.builtin "Exception.__new__"), some (.bool true)]⟩
noncomputable abbrev fo44 (P : Params) : Obj := ⟨.type "dict", none, .dict #[⟨PyData.keyHash P (PySem.Str.ofString "__module__"), .str (PySem.Str.ofString "__module__") 237, .str (PySem.Str.ofString "unicore.base") 187⟩, ⟨PyData.keyHash P (PySem.Str.ofString "__firstlineno__"), .str (PySem.Str.ofString "__firstlineno__") 241, .int 12 240⟩, ⟨PyData.keyHash P (PySem.Str.ofString "__static_attributes__"), .str (PySem.Str.ofString "__static_attributes__") 242, .ref 43⟩, ⟨PyData.keyHash P (PySem.Str.ofString "__doc__"), .str (PySem.Str.ofString "__doc__") 243, .none⟩] 2, #[]⟩
noncomputable abbrev fo45 (P : Params) : Obj := ⟨.type "type", none, .cls { name := (PySem.Str.ofString "BadEncoding"), bases := [.ref 32], mro := [.ref 45, .ref 32, .type "Exception", .type "BaseException", .type "object"], ns := 44, qualname := (PySem.Str.ofString "BadEncoding"), hasDict := true, slotNames := [], subclasses := [], abstract := false, collection := none, hasDel := false }, #[some (.ref 36), none, some (.str (PySem.Str.ofString "BadEncoding") 230), some (.str (PySem.Str.ofString "BadEncoding") 238), some (.builtin "Exception.__new__"), some (.bool true)]⟩
noncomputable abbrev fo65 (P : Params) : Obj := ⟨.type "code", none, .fields #[.str (PySem.Str.ofString "is_code") 262, .str (PySem.Str.ofString "is_code") 263, .str (PySem.Str.ofString "/claim/cut.py") 264, .int 16 0, .int 1 0, .int 0 0, .int 0 0, .int 3 0, .ref 60, .bool true, .int 181 0, .ref 61, .none, .ref 62, .ref 63, .ref 64, .int 266 0, .int 16 0, .str (PySem.Str.ofString "/claim/cut.py") 267], #[]⟩
noncomputable abbrev fo66 (P : Params) : Obj := ⟨.type "function", none, .func (fnAt 10 (.none) (.str (PySem.Str.ofString "unicore.base") 187) (.ref 65)), #[]⟩
noncomputable abbrev fo72 (P : Params) : Obj := ⟨.type "code", none, .fields #[.str (PySem.Str.ofString "is_high") 269, .str (PySem.Str.ofString "is_high") 270, .str (PySem.Str.ofString "/claim/cut.py") 271, .int 18 0, .int 1 0, .int 0 0, .int 0 0, .int 3 0, .ref 67, .bool true, .int 181 0, .ref 68, .none, .ref 69, .ref 70, .ref 71, .int 273 0, .int 18 0, .str (PySem.Str.ofString "/claim/cut.py") 274], #[]⟩
noncomputable abbrev fo73 (P : Params) : Obj := ⟨.type "function", none, .func (fnAt 11 (.none) (.str (PySem.Str.ofString "unicore.base") 187) (.ref 72)), #[]⟩
noncomputable abbrev fo79 (P : Params) : Obj := ⟨.type "code", none, .fields #[.str (PySem.Str.ofString "is_low") 276, .str (PySem.Str.ofString "is_low") 277, .str (PySem.Str.ofString "/claim/cut.py") 278, .int 20 0, .int 1 0, .int 0 0, .int 0 0, .int 3 0, .ref 74, .bool true, .int 181 0, .ref 75, .none, .ref 76, .ref 77, .ref 78, .int 280 0, .int 20 0, .str (PySem.Str.ofString "/claim/cut.py") 281], #[]⟩
noncomputable abbrev fo80 (P : Params) : Obj := ⟨.type "function", none, .func (fnAt 12 (.none) (.str (PySem.Str.ofString "unicore.base") 187) (.ref 79)), #[]⟩
noncomputable abbrev fo86 (P : Params) : Obj := ⟨.type "code", none, .fields #[.str (PySem.Str.ofString "is_surrogate") 283, .str (PySem.Str.ofString "is_surrogate") 284, .str (PySem.Str.ofString "/claim/cut.py") 285, .int 22 0, .int 1 0, .int 0 0, .int 0 0, .int 3 0, .ref 81, .bool true, .int 181 0, .ref 82, .none, .ref 83, .ref 84, .ref 85, .int 287 0, .int 22 0, .str (PySem.Str.ofString "/claim/cut.py") 288], #[]⟩
noncomputable abbrev fo87 (P : Params) : Obj := ⟨.type "function", none, .func (fnAt 13 (.none) (.str (PySem.Str.ofString "unicore.base") 187) (.ref 86)), #[]⟩
noncomputable abbrev fo93 (P : Params) : Obj := ⟨.type "code", none, .fields #[.str (PySem.Str.ofString "is_scalar") 290, .str (PySem.Str.ofString "is_scalar") 291, .str (PySem.Str.ofString "/claim/cut.py") 292, .int 24 0, .int 1 0, .int 0 0, .int 0 0, .int 3 0, .ref 88, .bool true, .int 181 0, .ref 89, .none, .ref 90, .ref 91, .ref 92, .int 294 0, .int 24 0, .str (PySem.Str.ofString "/claim/cut.py") 295], #[]⟩
noncomputable abbrev fo94 (P : Params) : Obj := ⟨.type "function", none, .func (fnAt 14 (.none) (.str (PySem.Str.ofString "unicore.base") 187) (.ref 93)), #[]⟩
noncomputable abbrev fo100 (P : Params) : Obj := ⟨.type "code", none, .fields #[.str (PySem.Str.ofString "utf7_sign") 327, .str (PySem.Str.ofString "utf7_sign") 328, .str (PySem.Str.ofString "/claim/cut.py") 329, .int 41 0, .int 2 0, .int 0 0, .int 0 0, .int 3 0, .ref 95, .bool true, .int 181 0, .ref 96, .none, .ref 97, .ref 98, .ref 99, .int 332 0, .int 41 0, .str (PySem.Str.ofString "/claim/cut.py") 333], #[]⟩
noncomputable abbrev fo101 (P : Params) : Obj := ⟨.type "function", none, .func (fnAt 30 (.none) (.str (PySem.Str.ofString "unicore.utf7") 297) (.ref 100)), #[]⟩
noncomputable abbrev fo107 (P : Params) : Obj := ⟨.type "code", none, .fields #[.str (PySem.Str.ofString "utf7_value") 335, .str (PySem.Str.ofString "utf7_value") 336, .str (PySem.Str.ofString "/claim/cut.py") 337, .int 51 0, .int 2 0, .int 0 0, .int 0 0, .int 3 0, .ref 102, .bool true, .int 181 0, .ref 103, .none, .ref 104, .ref 105, .ref 106, .int 340 0, .int 51 0, .str (PySem.Str.ofString "/claim/cut.py") 341], #[]⟩
noncomputable abbrev fo108 (P : Params) : Obj := ⟨.type "function", none, .func (fnAt 31 (.none) (.str (PySem.Str.ofString "unicore.utf7") 297) (.ref 107)), #[]⟩
noncomputable abbrev fo114 (P : Params) : Obj := ⟨.type "code", none, .fields #[.str (PySem.Str.ofString "utf7_is_direct") 343, .str (PySem.Str.ofString "utf7_is_direct") 344, .str (PySem.Str.ofString "/claim/cut.py") 345, .int 61 0, .int 2 0, .int 0 0, .int 0 0, .int 3 0, .ref 109, .bool true, .int 181 0, .ref 110, .none, .ref 111, .ref 112, .ref 113, .int 348 0, .int 61 0, .str (PySem.Str.ofString "/claim/cut.py") 349], #[]⟩
noncomputable abbrev fo115 (P : Params) : Obj := ⟨.type "function", none, .func (fnAt 32 (.none) (.str (PySem.Str.ofString "unicore.utf7") 297) (.ref 114)), #[]⟩
noncomputable abbrev fo121 (P : Params) : Obj := ⟨.type "code", none, .fields #[.str (PySem.Str.ofString "utf7_is_mail_direct") 351, .str (PySem.Str.ofString "utf7_is_mail_direct") 352, .str (PySem.Str.ofString "/claim/cut.py") 353, .int 67 0, .int 1 0, .int 0 0, .int 0 0, .int 3 0, .ref 116, .bool true, .int 181 0, .ref 117, .none, .ref 118, .ref 119, .ref 120, .int 355 0, .int 67 0, .str (PySem.Str.ofString "/claim/cut.py") 356], #[]⟩
noncomputable abbrev fo122 (P : Params) : Obj := ⟨.type "function", none, .func (fnAt 33 (.none) (.str (PySem.Str.ofString "unicore.utf7") 297) (.ref 121)), #[]⟩
noncomputable abbrev fo128 (P : Params) : Obj := ⟨.type "code", none, .fields #[.str (PySem.Str.ofString "utf7_units") 358, .str (PySem.Str.ofString "utf7_units") 359, .str (PySem.Str.ofString "/claim/cut.py") 360, .int 69 0, .int 1 0, .int 0 0, .int 0 0, .int 3 0, .ref 123, .bool true, .int 181 0, .ref 124, .none, .ref 125, .ref 126, .ref 127, .int 365 0, .int 69 0, .str (PySem.Str.ofString "/claim/cut.py") 366], #[]⟩
noncomputable abbrev fo129 (P : Params) : Obj := ⟨.type "function", none, .func (fnAt 34 (.none) (.str (PySem.Str.ofString "unicore.utf7") 297) (.ref 128)), #[]⟩
noncomputable abbrev fo135 (P : Params) : Obj := ⟨.type "code", none, .fields #[.str (PySem.Str.ofString "utf7_packed") 368, .str (PySem.Str.ofString "utf7_packed") 369, .str (PySem.Str.ofString "/claim/cut.py") 370, .int 79 0, .int 2 0, .int 0 0, .int 0 0, .int 3 0, .ref 130, .bool true, .int 181 0, .ref 131, .none, .ref 132, .ref 133, .ref 134, .int 377 0, .int 79 0, .str (PySem.Str.ofString "/claim/cut.py") 378], #[]⟩
noncomputable abbrev fo136 (P : Params) : Obj := ⟨.type "function", none, .func (fnAt 35 (.none) (.str (PySem.Str.ofString "unicore.utf7") 297) (.ref 135)), #[]⟩
noncomputable abbrev fo142 (P : Params) : Obj := ⟨.type "code", none, .fields #[.str (PySem.Str.ofString "utf7_run_written") 380, .str (PySem.Str.ofString "utf7_run_written") 381, .str (PySem.Str.ofString "/claim/cut.py") 382, .int 91 0, .int 2 0, .int 0 0, .int 0 0, .int 3 0, .ref 137, .bool true, .int 181 0, .ref 138, .none, .ref 139, .ref 140, .ref 141, .int 386 0, .int 91 0, .str (PySem.Str.ofString "/claim/cut.py") 387], #[]⟩
noncomputable abbrev fo143 (P : Params) : Obj := ⟨.type "function", none, .func (fnAt 36 (.none) (.str (PySem.Str.ofString "unicore.utf7") 297) (.ref 142)), #[]⟩
noncomputable abbrev fo144 (P : Params) : Obj := ⟨.type "tuple", none, .seq #[.bool true] 0, #[]⟩
noncomputable abbrev fo150 (P : Params) : Obj := ⟨.type "code", none, .fields #[.str (PySem.Str.ofString "encode_utf7") 389, .str (PySem.Str.ofString "encode_utf7") 390, .str (PySem.Str.ofString "/claim/cut.py") 391, .int 96 0, .int 2 0, .int 0 0, .int 0 0, .int 3 0, .ref 145, .bool true, .int 181 0, .ref 146, .none, .ref 147, .ref 148, .ref 149, .int 397 0, .int 96 0, .str (PySem.Str.ofString "/claim/cut.py") 398], #[]⟩
noncomputable abbrev fo151 (P : Params) : Obj := ⟨.type "function", none, .func (fnAt 37 (.ref 144) (.str (PySem.Str.ofString "unicore.utf7") 297) (.ref 150)), #[]⟩
noncomputable abbrev fo157 (P : Params) : Obj := ⟨.type "code", none, .fields #[.str (PySem.Str.ofString "utf7_run_end") 400, .str (PySem.Str.ofString "utf7_run_end") 401, .str (PySem.Str.ofString "/claim/cut.py") 402, .int 111 0, .int 3 0, .int 0 0, .int 0 0, .int 3 0, .ref 152, .bool true, .int 181 0, .ref 153, .none, .ref 154, .ref 155, .ref 156, .int 406 0, .int 111 0, .str (PySem.Str.ofString "/claim/cut.py") 407], #[]⟩
noncomputable abbrev fo158 (P : Params) : Obj := ⟨.type "function", none, .func (fnAt 38 (.none) (.str (PySem.Str.ofString "unicore.utf7") 297) (.ref 157)), #[]⟩
noncomputable abbrev fo164 (P : Params) : Obj := ⟨.type "code", none, .fields #[.str (PySem.Str.ofString "utf7_run_units") 409, .str (PySem.Str.ofString "utf7_run_units") 410, .str (PySem.Str.ofString "/claim/cut.py") 411, .int 115 0, .int 4 0, .int 0 0, .int 0 0, .int 3 0, .ref 159, .bool true, .int 181 0, .ref 160, .none, .ref 161, .ref 162, .ref 163, .int 420 0, .int 115 0, .str (PySem.Str.ofString "/claim/cut.py") 421], #[]⟩
noncomputable abbrev fo165 (P : Params) : Obj := ⟨.type "function", none, .func (fnAt 39 (.none) (.str (PySem.Str.ofString "unicore.utf7") 297) (.ref 164)), #[]⟩
noncomputable abbrev fo171 (P : Params) : Obj := ⟨.type "code", none, .fields #[.str (PySem.Str.ofString "utf7_run_read") 423, .str (PySem.Str.ofString "utf7_run_read") 424, .str (PySem.Str.ofString "/claim/cut.py") 425, .int 125 0, .int 4 0, .int 0 0, .int 0 0, .int 3 0, .ref 166, .bool true, .int 181 0, .ref 167, .none, .ref 168, .ref 169, .ref 170, .int 437 0, .int 125 0, .str (PySem.Str.ofString "/claim/cut.py") 438], #[]⟩
noncomputable abbrev fo172 (P : Params) : Obj := ⟨.type "function", none, .func (fnAt 40 (.none) (.str (PySem.Str.ofString "unicore.utf7") 297) (.ref 171)), #[]⟩
noncomputable abbrev fo178 (P : Params) : Obj := ⟨.type "code", none, .fields #[.str (PySem.Str.ofString "utf7_step") 440, .str (PySem.Str.ofString "utf7_step") 441, .str (PySem.Str.ofString "/claim/cut.py") 442, .int 146 0, .int 2 0, .int 0 0, .int 0 0, .int 3 0, .ref 173, .bool true, .int 181 0, .ref 174, .none, .ref 175, .ref 176, .ref 177, .int 450 0, .int 146 0, .str (PySem.Str.ofString "/claim/cut.py") 451], #[]⟩
noncomputable abbrev fo179 (P : Params) : Obj := ⟨.type "function", none, .func (fnAt 41 (.none) (.str (PySem.Str.ofString "unicore.utf7") 297) (.ref 178)), #[]⟩
noncomputable abbrev fo185 (P : Params) : Obj := ⟨.type "code", none, .fields #[.str (PySem.Str.ofString "decode_utf7") 453, .str (PySem.Str.ofString "decode_utf7") 454, .str (PySem.Str.ofString "/claim/cut.py") 455, .int 160 0, .int 1 0, .int 0 0, .int 0 0, .int 3 0, .ref 180, .bool true, .int 181 0, .ref 181, .none, .ref 182, .ref 183, .ref 184, .int 461 0, .int 160 0, .str (PySem.Str.ofString "/claim/cut.py") 462], #[]⟩
noncomputable abbrev fo186 (P : Params) : Obj := ⟨.type "function", none, .func (fnAt 42 (.none) (.str (PySem.Str.ofString "unicore.utf7") 297) (.ref 185)), #[]⟩
noncomputable abbrev fo190 (P : Params) : Obj := ⟨.type "code", none, .fields #[.str (PySem.Str.ofString "decode_utf7_replaced") 464, .str (PySem.Str.ofString "decode_utf7_replaced") 465, .str (PySem.Str.ofString "/claim/cut.py") 466, .int 168 0, .int 1 0, .int 0 0, .int 0 0, .int 3 0, .ref 187, .bool true, .int 181 0, .ref 188, .none, .none, .none, .ref 189, .int 467 0, .int 168 0, .str (PySem.Str.ofString "/claim/cut.py") 468], #[]⟩
noncomputable abbrev fo191 (P : Params) : Obj := ⟨.type "function", none, .func (fnAt 43 (.none) (.str (PySem.Str.ofString "unicore.utf7") 297) (.ref 190)), #[]⟩
noncomputable abbrev fo197 (P : Params) : Obj := ⟨.type "code", none, .fields #[.str (PySem.Str.ofString "is_utf7") 470, .str (PySem.Str.ofString "is_utf7") 471, .str (PySem.Str.ofString "/claim/cut.py") 472, .int 174 0, .int 1 0, .int 0 0, .int 0 0, .int 3 0, .ref 192, .bool true, .int 181 0, .ref 193, .none, .ref 194, .ref 195, .ref 196, .int 477 0, .int 174 0, .str (PySem.Str.ofString "/claim/cut.py") 478], #[]⟩
noncomputable abbrev fo198 (P : Params) : Obj := ⟨.type "function", none, .func (fnAt 44 (.none) (.str (PySem.Str.ofString "unicore.utf7") 297) (.ref 197)), #[]⟩
noncomputable abbrev fo204 (P : Params) : Obj := ⟨.type "code", none, .fields #[.str (PySem.Str.ofString "utf8_index") 482, .str (PySem.Str.ofString "utf8_index") 483, .str (PySem.Str.ofString "/claim/cut.py") 484, .int 182 0, .int 2 0, .int 0 0, .int 0 0, .int 3 0, .ref 199, .bool true, .int 181 0, .ref 200, .none, .ref 201, .ref 202, .ref 203, .int 489 0, .int 182 0, .str (PySem.Str.ofString "/claim/cut.py") 490], #[]⟩
noncomputable abbrev fo205 (P : Params) : Obj := ⟨.type "function", none, .func (fnAt 46 (.none) (.str (PySem.Str.ofString "unicore.utf8") 480) (.ref 204)), #[]⟩
noncomputable abbrev fo206 (P : Params) : Obj := ⟨.type "tuple", none, .seq #[.bytes #[43, 50, 68, 48, 65, 89, 81, 45] 494, .bytes #[97] 495, .bytes #[43, 45] 496, .bytes #[43, 65, 79, 107, 45] 497, .bytes #[43, 65, 79, 107] 498, .bytes #[43, 50, 68, 51, 101, 65, 65, 45] 499, .bytes #[43, 50, 68, 48, 45] 500, .bytes #[43, 51, 103, 65, 45] 501, .bytes #[43, 65, 45] 502, .bytes #[43, 65, 65] 503, .bytes #[43, 65, 79, 108, 45] 504, .bytes #[43] 505, .bytes #[45] 506, .bytes #[126] 507, .bytes #[92] 508, .bytes #[128] 509, .bytes #[0] 510, .bytes #[33] 511, .bytes #[123] 512, .bytes #[43, 47] 513, .bytes #[32] 514, .bytes #[43, 65, 71, 69, 65, 89, 103, 45] 515, .bytes #[255] 516, .bytes #[90] 517, .bytes #[43, 51, 103, 68, 89, 80, 81, 45] 518, .bytes #[43, 65, 79, 107, 65] 519, .bytes #[10] 520] 0, #[]⟩
noncomputable abbrev fo207 (P : Params) : Obj := ⟨.type "tuple", none, .seq #[.int 97 524, .int 43 525, .int 45 526, .int 126 527, .int 33 528, .int 233 529, .int 12354 530, .int 65535 531, .int 65536 532, .int 128512 533, .int 1114111 534, .int 0 535, .int 90 536, .int 92 537] 0, #[]⟩
noncomputable abbrev fo211 (P : Params) : Obj := ⟨.type "code", none, .fields #[.str (PySem.Str.ofString "_law_deck") 539, .str (PySem.Str.ofString "_law_deck") 540, .str (PySem.Str.ofString "/claim/cut.py") 541, .int 192 0, .int 1 0, .int 0 0, .int 0 0, .int 3 0, .ref 208, .bool true, .int 181 0, .ref 209, .none, .none, .none, .ref 210, .int 542 0, .int 192 0, .str (PySem.Str.ofString "/claim/cut.py") 543], #[]⟩
noncomputable abbrev fo212 (P : Params) : Obj := ⟨.type "function", none, .func (fnAt 51 (.none) (.str (PySem.Str.ofString "law_on0365_01") 492) (.ref 211)), #[]⟩
noncomputable abbrev fo218 (P : Params) : Obj := ⟨.type "code", none, .fields #[.str (PySem.Str.ofString "_law_draw") 545, .str (PySem.Str.ofString "_law_draw") 546, .str (PySem.Str.ofString "/claim/cut.py") 547, .int 197 0, .int 2 0, .int 0 0, .int 0 0, .int 3 0, .ref 213, .bool true, .int 181 0, .ref 214, .none, .ref 215, .ref 216, .ref 217, .int 550 0, .int 197 0, .str (PySem.Str.ofString "/claim/cut.py") 551], #[]⟩
noncomputable abbrev fo219 (P : Params) : Obj := ⟨.type "function", none, .func (fnAt 52 (.none) (.str (PySem.Str.ofString "law_on0365_01") 492) (.ref 218)), #[]⟩
noncomputable abbrev fo225 (P : Params) : Obj := ⟨.type "code", none, .fields #[.str (PySem.Str.ofString "_law_sixty") 553, .str (PySem.Str.ofString "_law_sixty") 554, .str (PySem.Str.ofString "/claim/cut.py") 555, .int 202 0, .int 0 0, .int 0 0, .int 0 0, .int 3 0, .ref 220, .bool true, .int 181 0, .ref 221, .none, .ref 222, .ref 223, .ref 224, .int 556 0, .int 202 0, .str (PySem.Str.ofString "/claim/cut.py") 557], #[]⟩
noncomputable abbrev fo226 (P : Params) : Obj := ⟨.type "function", none, .func (fnAt 53 (.none) (.str (PySem.Str.ofString "law_on0365_01") 492) (.ref 225)), #[]⟩
noncomputable abbrev fo232 (P : Params) : Obj := ⟨.type "code", none, .fields #[.str (PySem.Str.ofString "_law_is_direct") 559, .str (PySem.Str.ofString "_law_is_direct") 560, .str (PySem.Str.ofString "/claim/cut.py") 561, .int 204 0, .int 1 0, .int 0 0, .int 0 0, .int 3 0, .ref 227, .bool true, .int 181 0, .ref 228, .none, .ref 229, .ref 230, .ref 231, .int 563 0, .int 204 0, .str (PySem.Str.ofString "/claim/cut.py") 564], #[]⟩
noncomputable abbrev fo233 (P : Params) : Obj := ⟨.type "function", none, .func (fnAt 54 (.none) (.str (PySem.Str.ofString "law_on0365_01") 492) (.ref 232)), #[]⟩
noncomputable abbrev fo239 (P : Params) : Obj := ⟨.type "code", none, .fields #[.str (PySem.Str.ofString "_law_units") 566, .str (PySem.Str.ofString "_law_units") 567, .str (PySem.Str.ofString "/claim/cut.py") 568, .int 206 0, .int 2 0, .int 0 0, .int 0 0, .int 3 0, .ref 234, .bool true, .int 181 0, .ref 235, .none, .ref 236, .ref 237, .ref 238, .int 574 0, .int 206 0, .str (PySem.Str.ofString "/claim/cut.py") 575], #[]⟩
noncomputable abbrev fo240 (P : Params) : Obj := ⟨.type "function", none, .func (fnAt 55 (.none) (.str (PySem.Str.ofString "law_on0365_01") 492) (.ref 239)), #[]⟩
noncomputable abbrev fo246 (P : Params) : Obj := ⟨.type "code", none, .fields #[.str (PySem.Str.ofString "_law_run") 577, .str (PySem.Str.ofString "_law_run") 578, .str (PySem.Str.ofString "/claim/cut.py") 579, .int 211 0, .int 2 0, .int 0 0, .int 0 0, .int 3 0, .ref 241, .bool true, .int 181 0, .ref 242, .none, .ref 243, .ref 244, .ref 245, .int 590 0, .int 211 0, .str (PySem.Str.ofString "/claim/cut.py") 591], #[]⟩
noncomputable abbrev fo247 (P : Params) : Obj := ⟨.type "function", none, .func (fnAt 56 (.none) (.str (PySem.Str.ofString "law_on0365_01") 492) (.ref 246)), #[]⟩
noncomputable abbrev fo253 (P : Params) : Obj := ⟨.type "code", none, .fields #[.str (PySem.Str.ofString "_law_read") 593, .str (PySem.Str.ofString "_law_read") 594, .str (PySem.Str.ofString "/claim/cut.py") 595, .int 225 0, .int 1 0, .int 0 0, .int 0 0, .int 3 0, .ref 248, .bool true, .int 181 0, .ref 249, .none, .ref 250, .ref 251, .ref 252, .int 606 0, .int 225 0, .str (PySem.Str.ofString "/claim/cut.py") 607], #[]⟩
noncomputable abbrev fo254 (P : Params) : Obj := ⟨.type "function", none, .func (fnAt 57 (.none) (.str (PySem.Str.ofString "law_on0365_01") 492) (.ref 253)), #[]⟩
noncomputable abbrev fo260 (P : Params) : Obj := ⟨.type "code", none, .fields #[.str (PySem.Str.ofString "_law_heard") 609, .str (PySem.Str.ofString "_law_heard") 610, .str (PySem.Str.ofString "/claim/cut.py") 611, .int 244 0, .int 1 0, .int 0 0, .int 0 0, .int 3 0, .ref 255, .bool true, .int 181 0, .ref 256, .none, .ref 257, .ref 258, .ref 259, .int 614 0, .int 244 0, .str (PySem.Str.ofString "/claim/cut.py") 615], #[]⟩
noncomputable abbrev fo261 (P : Params) : Obj := ⟨.type "function", none, .func (fnAt 58 (.none) (.str (PySem.Str.ofString "law_on0365_01") 492) (.ref 260)), #[]⟩
noncomputable abbrev fo267 (P : Params) : Obj := ⟨.type "code", none, .fields #[.str (PySem.Str.ofString "_law_is_read") 617, .str (PySem.Str.ofString "_law_is_read") 618, .str (PySem.Str.ofString "/claim/cut.py") 619, .int 251 0, .int 1 0, .int 0 0, .int 0 0, .int 3 0, .ref 262, .bool true, .int 181 0, .ref 263, .none, .ref 264, .ref 265, .ref 266, .int 623 0, .int 251 0, .str (PySem.Str.ofString "/claim/cut.py") 624], #[]⟩
noncomputable abbrev fo268 (P : Params) : Obj := ⟨.type "function", none, .func (fnAt 59 (.none) (.str (PySem.Str.ofString "law_on0365_01") 492) (.ref 267)), #[]⟩
noncomputable abbrev fo274 (P : Params) : Obj := ⟨.type "code", none, .fields #[.str (PySem.Str.ofString "_law_written") 626, .str (PySem.Str.ofString "_law_written") 627, .str (PySem.Str.ofString "/claim/cut.py") 628, .int 256 0, .int 1 0, .int 0 0, .int 0 0, .int 3 0, .ref 269, .bool true, .int 181 0, .ref 270, .none, .ref 271, .ref 272, .ref 273, .int 633 0, .int 256 0, .str (PySem.Str.ofString "/claim/cut.py") 634], #[]⟩
noncomputable abbrev fo275 (P : Params) : Obj := ⟨.type "function", none, .func (fnAt 60 (.none) (.str (PySem.Str.ofString "law_on0365_01") 492) (.ref 274)), #[]⟩
noncomputable abbrev fo279 (P : Params) : Obj := ⟨.type "code", none, .fields #[.str (PySem.Str.ofString "law") 636, .str (PySem.Str.ofString "law") 637, .str (PySem.Str.ofString "/claim/cut.py") 638, .int 265 0, .int 1 0, .int 0 0, .int 0 0, .int 3 0, .ref 276, .bool true, .int 181 0, .ref 277, .none, .none, .none, .ref 278, .int 639 0, .int 265 0, .str (PySem.Str.ofString "/claim/cut.py") 640], #[]⟩
noncomputable abbrev fo280 (P : Params) : Obj := ⟨.type "function", none, .func (fnAt 61 (.none) (.str (PySem.Str.ofString "law_on0365_01") 492) (.ref 279)), #[]⟩
noncomputable def frag (P : Params) : Frag := [(2, fo2 P), (3, fo3 P), (22, fo22 P), (28, fo28 P), (29, fo29 P), (31, fo31 P), (32, fo32 P), (44, fo44 P), (45, fo45 P), (65, fo65 P), (66, fo66 P), (72, fo72 P), (73, fo73 P), (79, fo79 P), (80, fo80 P), (86, fo86 P), (87, fo87 P), (93, fo93 P), (94, fo94 P), (100, fo100 P), (101, fo101 P), (107, fo107 P), (108, fo108 P), (114, fo114 P), (115, fo115 P), (121, fo121 P), (122, fo122 P), (128, fo128 P), (129, fo129 P), (135, fo135 P), (136, fo136 P), (142, fo142 P), (143, fo143 P), (144, fo144 P), (150, fo150 P), (151, fo151 P), (157, fo157 P), (158, fo158 P), (164, fo164 P), (165, fo165 P), (171, fo171 P), (172, fo172 P), (178, fo178 P), (179, fo179 P), (185, fo185 P), (186, fo186 P), (190, fo190 P), (191, fo191 P), (197, fo197 P), (198, fo198 P), (204, fo204 P), (205, fo205 P), (206, fo206 P), (207, fo207 P), (211, fo211 P), (212, fo212 P), (218, fo218 P), (219, fo219 P), (225, fo225 P), (226, fo226 P), (232, fo232 P), (233, fo233 P), (239, fo239 P), (240, fo240 P), (246, fo246 P), (247, fo247 P), (253, fo253 P), (254, fo254 P), (260, fo260 P), (261, fo261 P), (267, fo267 P), (268, fo268 P), (274, fo274 P), (275, fo275 P), (279, fo279 P), (280, fo280 P)]

noncomputable abbrev hook : Hook := kHook frag fragAs (fun _ => rfl)
theorem runs : ∀ (w : World) (os : OsState), (runT (PySem.W.Fast.tw10156331382660048174 (PySem.W.Fast.tw11892475500146522536 PySem.W.Fast.tw14364793385576792824) pw w) (PySem.W.Fast.tw6613529449190102663 11 (some (.ref 6))) 4000 (bootS w os) (topStub pw)).map (fun s =>
        ((staticsOk (importedModules pw.main.body) (boot_heap w.params) s.abs.heap && namesBound pw s.abs.heap && gensDone s.abs && laidKept (boot_heap w.params) s.abs.heap),
          PySem.W.Fast.tw4187177175401517315 (view pw [61]) pw.boundNames (importedModules pw.main.body) (fun _ => true) true s.abs, fragAs.map s.abs.heap.get?)) = some (true, openGood (view pw [61]) pw.boundNames, (frag w.params).map fun p => some p.2) := by
  intro w os
  kernel_rfl
theorem left : LeftO pw (view pw [61]) pw.boundNames (fun _ => true) hook.obs hook.val 4000 := by
  refine left_of (by kernel_rfl) (by rfl) (fun s => by kernel_rfl) fun w os => ?_
  rw [PySem.W.Fast.te10156331382660048174, PySem.W.Fast.te11892475500146522536, PySem.W.Fast.te14364793385576792824, PySem.W.Fast.te6613529449190102663, PySem.W.Fast.te4187177175401517315]
  exact runs w os
theorem defOk : (defOf (view pw [61]) row.name).map (fun x => (x.1.params, x.1.body, x.1.scope)) = row.prog.theDef row.name := by kernel_rfl
theorem kwOk : (defOf (view pw [61]) row.name).map (fun x => kwWritten? x.1.params.kwonlyargs x.1.params.kw_defaults) = (defOf (view pw [61]) row.name).map (fun x => some x.2) := by kernel_rfl
theorem defIs : (defOf (view pw [61]) row.name).isSome = true := by kernel_rfl
theorem oks : (chainsOk (view pw [61]) && opensWell row.prog && (frees row.toRowW && row.within.isEmpty)) = true := by kernel_rfl
theorem lawIs : ∀ P, nsIn (frag P) mainGlobals row.name = some (some (.ref 280)) := by intro P; kernel_rfl
noncomputable abbrev GroundL (w : World) (s : Shared) (mg mb : Str → Option Value) (h : Heap) : Prop := Ground (view pw [61]) pw.boundNames row.records (fun _ _ => True) w s mg mb h
/-- each part of the look is one small check of its own -/
theorem said : PySem.Challenge.rw_on0365_01.wellSaid = true := by
  delta OpenLaw.wellSaid
  iterate 18 (with_reducible refine look_both ?_ (by decide +kernel))
  delta OpenRow.wellSaid
  iterate 2 (with_reducible refine look_both ?_ (by decide +kernel))
  delta OpenRow.partSaid
  iterate 13 (with_reducible refine look_both ?_ (by decide +kernel))
  delta looksOpen
  iterate 5 (with_reducible refine look_both ?_ (by decide +kernel))
  decide +kernel
/-- the head: what is left is the call, walked on a clean stack -/
theorem hd (call : ∀ (w : World) (s₀ s₁ : Shared) (mg mb : Str → Option Value), GroundL w s₀ mg mb s₁.heap → (frag w.params).In s₁.heap → s₁.gens = #[] →
    ∀ (args : List WData) (vals : List Value) (as : List Addr), row.claim.pre args = true → WData.layableAll args = true → ReadsAllW row.records (classAt s₀.heap) s₁.heap vals args as → WellAll w.params s₁.heap vals args → (∀ a ∈ as, (a == sysModules) = false) →
      wpC true (model pw w) callerA (PySem.call (.ref 280) vals) (fun v s' => GoodWG row.claim (classAt s₀.heap) (ExcName.means s₀.heap) args s₁ (.ok (.ret v)) s') s₁) : PySem.Challenge.rw_on0365_01.Holds := by
  w_on
  refine holds_law said fun k1 => ?_
  have hw : row.toRowW.promised := by w_witness2
  have hb : row.prog.bare := ⟨rfl, rfl, rfl, rfl, rfl, by decide +kernel⟩
  have hXk : ∀ (mg : Str → Option Value) (h h' : Heap), (fun (_ : Str → Option Value) (_ : Heap) => True) mg h → (∀ b o, h.get? b = some o → h'.get? b = some o) → (fun (_ : Str → Option Value) (_ : Heap) => True) mg h' := fun _ _ _ _ _ => trivial
  have hwr : (!row.writes || row.records.isEmpty) = true := by rfl
  obtain ⟨⟨d, kwd⟩, hdef⟩ := Option.isSome_iff_exists.mp defIs
  have hp : row.prog.theDef row.name = some (d.params, d.body, d.scope) := by
    have := defOk
    rw [hdef] at this
    exact this.symm
  have hk : kwWritten? d.params.kwonlyargs d.params.kw_defaults = some kwd := by
    have := kwOk
    rw [hdef] at this
    exact Option.some.inj (this : some (kwWritten? d.params.kwonlyargs d.params.kw_defaults) = some (some kwd))
  obtain ⟨ok, k5⟩ := Bool.and_eq_true_iff.mp oks
  obtain ⟨hch, o1⟩ := Bool.and_eq_true_iff.mp ok
  obtain ⟨k5, k6⟩ := Bool.and_eq_true_iff.mp k5
  obtain ⟨hsame, hu, ha, hap, hm⟩ := frees_parts k5
  have RF : ∀ h, RecFacts row.records h := fun h => recFacts_nil rfl
  refine ⟨k1, hw, ⟨hb, o1, by rfl⟩, hw.witness, fun w => ⟨(left.behind (XP := fun _ _ => True) (fun _ _ => trivial) hch w).1, fun s' hs' => ?_⟩⟩
  obtain ⟨s₀, hf, hg0, s, hT, hz, hgens, hg, G0, y⟩ := (left.behind (XP := fun _ _ => True) (fun _ _ => trivial) hch w).2 s' hs'
  have hT' := hT
  refine ⟨s₀, hf, hg0, s, hT, (fun n hn => ?_), (RF s.heap).1, (RF s.heap).2.1, ?_⟩
  · obtain rfl : n = row.name := by split at hn <;> simp_all
    exact pinned_of_view hg G0 hdef hp hk
  have hgens : s.gens = #[] := Array.eq_empty_of_size_eq_zero (beq_iff_eq.mp hgens)
  have G : GroundL w s _ _ s.heap := (RF s.heap).ground G0
  refine xCallFrom (c := row.toRowW.claim) (tree := fun vs => do match ← nsGet mainNs row.name with
      | some f => do ret (← PySem.call f vs)
      | none => unsupported "claim.caller:no-such-global") hz hgens fun args hpre hlay ord hord => ?_
  obtain ⟨⟨vs, s₁⟩, hlaid⟩ := Option.isSome_iff_exists.mp (layAllW_isSome (P := w.params) (ord := ord) G.has args row.args s (pre_splitW hpre).1)
  have keeps := layAllW_keeps _ _ _ hlaid
  have hal := layAllW_rest _ _ _ hlaid
  obtain ⟨as, hrd, hin, hold⟩ := reads_layAllW hord _ _ _ hlaid hlay s₁.heap (fun _ _ e => e)
  have L : Laid row.records w s s₁ args vs as := ⟨⟨ord, hord, hlaid⟩, hrd, hin, hold, keeps, hal.1.trans hgens, hal.2.2.1⟩
  have G₁ : GroundL w s _ _ s₁.heap := G.keeps hXk keeps
  have X₁ : (frag w.params).In s₁.heap := hook.keeps w _ _ (hook.of w s y) keeps
  have h := call w s s₁ _ _ G₁ X₁ L.gens args vs as hpre hlay L.reads L.well (L.low G.low)
  have hi := ident_freeW hu ha hap
  have hwi : row.claim.within = [] := List.isEmpty_iff.mp k6
  refine ⟨vs, s₁, hlaid, xBindAny (wpAny_nsGet G₁.T.g ?_)⟩
  rw [mg_of X₁ G₁.T.g (lawIs w.params)]
  refine xBind (xMono h fun v s' g => xPure ⟨_, rfl, ?_⟩)
  have z := g.laid (c := row.claim) hsame hwi hi L
  exact ⟨z.1, z.2.1, z.2.2, fun q => ⟨namesKept_of hT' hg _ keeps g.2.1.old, noTable hwr q⟩⟩
end

/-- built-ins that are called -/
inductive Bt where
  | len | range | int | list | bytearray | bytes
  deriving DecidableEq
/-- values without tokens -/
inductive PV where
  | none | bool (b : Bool) | int (i : Int) | byt (l : List Int) | str (x : Str) | ref (a : Addr) | bt (b : Bt) | junk
  deriving DecidableEq
noncomputable def er : Value → PV
  | .none => .none | .bool b => .bool b | .int i _ => .int i | .bytes b _ => .byt (KBw.bInts b) | .str x _ => .str x | .ref a => .ref a
  | .builtin n => if n = "len" then .bt .len else .junk
  | .type n => if n = "range" then .bt .range else if n = "int" then .bt .int else if n = "list" then .bt .list else if n = "bytearray" then .bt .bytearray else if n = "bytes" then .bt .bytes else .junk
  | _ => .junk
/-- objects without tokens -/
inductive AO where
  | list (vs : List PV) | tup (vs : List PV) | flist (vs : List PV) | ftup (vs : List PV) | ba (l : List Int) | dct (l : List (Nat × PV)) | idct (l : List (Int × PV)) | rng (n : Nat) | cel (v : Option PV)
noncomputable abbrev St := Addr → Option AO
noncomputable def upd (σ : St) (a : Addr) (o : AO) : St := fun b => if b = a then some o else σ b
noncomputable def horn : List Nat → Nat → Nat
  | [], a => a
  | c :: r, a => horn r (a * 128 + c)
noncomputable def plainC (c : Nat) : Bool := decide (0 < c) && decide (c < 128)
noncomputable def key (s : Str) : Nat := if s.cps.toList.all plainC then horn s.cps.toList 0 else 0
noncomputable def look {α : Type} : List (Nat × α) → Nat → Option α
  | [], _ => none
  | (k, v) :: r, x => if k = x then some v else look r x
/-- a part of what is bound -/
noncomputable def wk : List (Nat × PV) → List (Nat × PV) → Prop
  | [], _ => True
  | (k, v) :: r, e => look e k = some v ∧ wk r e
noncomputable def mem : List Nat → Nat → Bool
  | [], _ => false
  | k :: r, x => if k = x then true else mem r x
noncomputable def put : List (Nat × PV) → Nat → PV → List (Nat × PV)
  | [], k, v => [(k, v)]
  | (k', v') :: r, k, v => if k' = k then (k, v) :: r else (k', v') :: put r k v
noncomputable abbrev En := List (Nat × PV)
/-- a frame's names: its own, those of the module with what they mean, those in cells -/
structure Frm where
  loc : List Nat
  glo : List (Nat × PV)
  cel : List (Nat × Addr)
inductive Fl where
  | next | brk | cont | ret (v : PV)
structure Lvl where
  E : Frm → PySem.Expr → En → St → (PV → St → Prop) → Prop
  T : Frm → PySem.Expr → En → St → (Bool → St → Prop) → Prop
  S : Frm → Stmt → En → St → (Fl → En → St → Prop) → Prop
  C : Addr → List PV → St → (PV → St → Prop) → Prop
noncomputable def ifB (b : Bool) (P R : Prop) : Prop := (b = true → P) ∧ (b = false → R)
noncomputable def onB (v : PV) (Q : Bool → Prop) : Prop := match v with | .bool b => Q b | _ => False
noncomputable def onI (v : PV) (Q : Int → Prop) : Prop := match v with | .int i => Q i | _ => False
noncomputable def onY (v : PV) (Q : List Int → Prop) : Prop := match v with | .byt l => Q l | _ => False
noncomputable def onR (v : PV) (Q : Addr → Prop) : Prop := match v with | .ref a => Q a | _ => False
noncomputable def onS {α : Type} (v : Option α) (Q : α → Prop) : Prop := match v with | some x => Q x | none => False
noncomputable def toL (o : AO) (Q : List PV → Prop) : Prop := match o with | .list v => Q v | _ => False
noncomputable def toT (o : AO) (Q : List PV → Prop) : Prop := match o with | .tup v => Q v | _ => False
noncomputable def toD (o : AO) (Q : List (Nat × PV) → Prop) : Prop := match o with | .dct v => Q v | _ => False
noncomputable def onL (σ : St) (a : Addr) (Q : List PV → Prop) : Prop := onS (σ a) fun o => toL o Q
noncomputable def onT (σ : St) (a : Addr) (Q : List PV → Prop) : Prop := onS (σ a) fun o => toT o Q
noncomputable def onD (σ : St) (a : Addr) (Q : List (Nat × PV) → Prop) : Prop := onS (σ a) fun o => toD o Q
noncomputable def onC (σ : St) (a : Addr) (Q : Option PV → Prop) : Prop := onS (σ a) fun o => match o with | .cel v => Q v | _ => False
noncomputable def getN (fr : Frm) (k : Nat) (e : En) (σ : St) (Q : PV → Prop) : Prop :=
  if k = 0 then False else match look fr.cel k with
    | some c => onC σ c fun v => onS v Q
    | none => (match mem fr.loc k with
      | true => onS (look e k) Q
      | false => onS (look fr.glo k) Q)
noncomputable def setN (fr : Frm) (k : Nat) (v : PV) (e : En) (σ : St) (Q : En → St → Prop) : Prop :=
  if k = 0 then False else match look fr.cel k with
    | some c => onC σ c fun _ => Q e (upd σ c (.cel (some v)))
    | none => (match mem fr.loc k with | true => Q (put e k v) σ | false => False)
noncomputable def new (σ : St) (o : AO) (Q : PV → St → Prop) : Prop := ∀ a, σ a = none → Q (.ref a) (upd σ a o)
noncomputable def small (a : Int) : Prop := a.natAbs < 2 ^ 4096
noncomputable def binop (op : Operator) (a b : PV) (σ : St) (Q : PV → St → Prop) : Prop := match op with
  | .Add => (match a with
      | .int x => onI b fun y => Q (.int (x + y)) σ
      | .byt l => onY b fun r => l.length + r.length ≤ 65536 ∧ Q (.byt (l ++ r)) σ
      | .ref p => onR b fun q => onL σ p fun v => onL σ q fun w => v.length + w.length ≤ 65536 ∧ new σ (.list (v ++ w)) Q
      | _ => False)
  | .Sub => onI a fun x => onI b fun y => Q (.int (x - y)) σ
  | .Mult => onI a fun x => onI b fun y => small x ∧ small y ∧ Q (.int (x * y)) σ
  | .FloorDiv => onI a fun x => onI b fun y => 0 < y ∧ small x ∧ Q (.int (x / y)) σ
  | .Mod => onI a fun x => onI b fun y => 0 < y ∧ Q (.int (x % y)) σ
  | .Pow => onI a fun x => onI b fun y => x = 2 ∧ 0 ≤ y ∧ y < 4096 ∧ Q (.int (2 ^ y.toNat)) σ
  | .LShift => onI a fun x => onI b fun y => small x ∧ 0 ≤ y ∧ y < 4096 ∧ Q (.int (x * 2 ^ y.toNat)) σ
  | .RShift => onI a fun x => onI b fun y => 0 ≤ y ∧ Q (.int (x / 2 ^ y.toNat)) σ
  | .BitOr => onI a fun x => onI b fun y => Q (.int (Builtin.bitOr x y)) σ
  | .BitAnd => onI a fun x => onI b fun y => Q (.int (Builtin.bitAnd x y)) σ
  | _ => False
noncomputable def isI (v : PV) : Bool := match v with | .int _ => true | _ => false
/-- lists that may be compared -/
noncomputable def alike (v w : List PV) : Prop := v.length = w.length → v.all isI = true ∧ w.all isI = true
noncomputable def eqB (neg : Bool) (a b : PV) (σ : St) (Q : Bool → Prop) : Prop := match a with
  | .int x => onI b fun y => Q (neg ^^ decide (x = y))
  | .byt x => onY b fun y => neg = false ∧ Q (decide (x = y))
  | .bool x => onB b fun y => Q (neg ^^ decide (x = y))
  | .none => (match b with
      | .none => neg = false ∧ Q true
      | .ref q => neg = false ∧ onL σ q fun _ => Q false
      | _ => False)
  | .ref p => (match b with
      | .none => neg = false ∧ onL σ p fun _ => Q false
      | .ref q => onL σ p fun v => onL σ q fun w => alike v w ∧ Q (neg ^^ decide (v = w))
      | _ => False)
  | _ => False
noncomputable def isB (a b : PV) (Q : Bool → Prop) : Prop := match b with
  | .none => (match a with | .none => Q true | .int _ => Q false | _ => False)
  | _ => False
noncomputable def cmpB (op : CmpOp) (a b : PV) (σ : St) (Q : Bool → Prop) : Prop := match op with
  | .Lt => onI a fun x => onI b fun y => Q (decide (x < y))
  | .LtE => onI a fun x => onI b fun y => Q (decide (x ≤ y))
  | .Gt => onI a fun x => onI b fun y => Q (decide (y < x))
  | .GtE => onI a fun x => onI b fun y => Q (decide (y ≤ x))
  | .Eq => eqB false a b σ Q
  | .NotEq => eqB true a b σ Q
  | .Is => isB a b Q
  | .IsNot => isB a b fun c => Q (!c)
  | .In => onI a fun i => onY b fun l => 0 ≤ i ∧ i < 256 ∧ Q (l.contains i)
  | _ => False
/-- what may be cut -/
noncomputable def cutO (o : AO) (Q : List PV → Prop) : Prop := match o with | .list v => Q v | .flist v => Q v | _ => False
noncomputable def lookI : List (Int × PV) → Int → Option PV
  | [], _ => none
  | (k, v) :: r, x => if k = x then some v else lookI r x
noncomputable def atO (o : AO) (i : Int) (Q : PV → Prop) : Prop := match o with
  | .list vs => 0 ≤ i ∧ i < 65536 ∧ onS vs[i.toNat]? Q
  | .tup vs => 0 ≤ i ∧ i < 65536 ∧ onS vs[i.toNat]? Q
  | .ftup vs => 0 ≤ i ∧ i < 65536 ∧ onS vs[i.toNat]? Q
  | .idct l => onS (lookI l i) Q
  | _ => False
noncomputable def subs (o i : PV) (σ : St) (Q : PV → Prop) : Prop := match o with
  | .byt l => onI i fun i => 0 ≤ i ∧ l.length ≤ 65536 ∧ onS l[i.toNat]? fun k => Q (.int k)
  | .ref a => (match i with
      | .int i => onS (σ a) fun o => atO o i Q
      | .str x => onD σ a fun l => key x ≠ 0 ∧ onS (look l (key x)) Q
      | _ => False)
  | _ => False
/-- an end of a slice -/
noncomputable def partB (v : PV) (Q : Option Int → Prop) : Prop := match v with
  | .none => Q none
  | .int i => 0 ≤ i ∧ Q (some i)
  | _ => False
noncomputable def cut {α : Type} (l : List α) (lo hi : Option Int) : List α := (hi.elim l fun h => l.take h.toNat).drop (lo.elim 0 Int.toNat)
noncomputable def slic (v : PV) (lo hi : Option Int) (σ : St) (Q : PV → St → Prop) : Prop := match v with
  | .byt l => l.length ≤ 65536 ∧ Q (.byt (cut l lo hi)) σ
  | .ref a => onS (σ a) fun o => cutO o fun vs => vs.length ≤ 65536 ∧ new σ (.list (cut vs lo hi)) Q
  | _ => False
noncomputable def intOf (v : PV) : Option Int := match v with | .int i => some i | _ => none
noncomputable def bytOf (v : PV) : Option (List Int) := match v with | .byt i => some i | _ => none
noncomputable def allOf {α : Type} (f : PV → Option α) : List PV → Option (List α)
  | [] => some []
  | v :: r => (f v).bind fun i => (allOf f r).map (i :: ·)
noncomputable def bytesO (o : AO) (Q : List Int → Prop) : Prop := match o with
  | .ba l => l.length ≤ 65536 ∧ Q l
  | .list vs => onS (allOf intOf vs) fun l => l.length ≤ 65536 ∧ (∀ x ∈ l, 0 ≤ x ∧ x < 256) ∧ Q l
  | _ => False
noncomputable def on0 (l : List PV) (P : Prop) : Prop := match l with | [] => P | _ => False
noncomputable def on1 (l : List PV) (P : PV → Prop) : Prop := match l with | [] => False | v :: r => on0 r (P v)
/-- calls of built-ins -/
noncomputable def btV (cl : Bool) (b : Bt) (vs : List PV) (σ : St) (Q : PV → St → Prop) : Prop := match b with
  | .len => on1 vs fun v => (match v with
      | .byt l => l.length ≤ 65536 ∧ Q (.int l.length) σ
      | .ref a => onL σ a fun vs => vs.length ≤ 65536 ∧ Q (.int vs.length) σ
      | _ => False)
  | .range => on1 vs fun v => onI v fun n => 0 ≤ n ∧ n ≤ 65536 ∧ new σ (.rng n.toNat) Q
  | .int => on1 vs fun v => (match v with
      | .bool b => Q (.int (if b then 1 else 0)) σ
      | .int i => Q (.int i) σ
      | _ => False)
  | .list => on1 vs fun v => onR v fun a => onL σ a fun vs => vs.length ≤ 65536 ∧ new σ (.list vs) Q
  | .bytearray => on0 vs (cl = true ∧ new σ (.ba []) Q)
  | .bytes => on1 vs fun v => onR v fun a => onS (σ a) fun o => bytesO o fun l => Q (.byt l) σ
noncomputable def callV (cl : Bool) (C : Addr → List PV → St → (PV → St → Prop) → Prop) (f : PV) (vs : List PV) (σ : St) (Q : PV → St → Prop) : Prop := match f with
  | .ref a => C a vs σ Q
  | .bt b => btV cl b vs σ Q
  | _ => False
/-- methods that are called -/
inductive Mt where
  | lapp | lext | lpop | bapp | bext | join | index
/-- the method of a name, by what stands ahead of the dot -/
noncomputable def kindM (v : PV) (k : Nat) (σ : St) (P : Mt → Prop) : Prop := match v with
  | .byt _ => if k = 224130286 then P .join else if k = 28418061048 then P .index else False
  | .ref a => onS (σ a) fun o => match o with
    | .list _ => if k = 3363195942756 then P .lapp else if k = 3502790768484 then P .lext else if k = 1849328 then P .lpop else False
    | .ba _ => if k = 3363195942756 then P .bapp else if k = 3502790768484 then P .bext else False
    | _ => False
  | _ => False
noncomputable def onA (σ : St) (a : Addr) (Q : List Int → Prop) : Prop := onS (σ a) fun o => match o with | .ba l => Q l | _ => False
/-- calls of methods -/
noncomputable def methV (cl : Bool) (m : Mt) (v : PV) (vs : List PV) (σ : St) (Q : PV → St → Prop) : Prop := match m with
  | .lapp => onR v fun a => on1 vs fun w => onL σ a fun l => l.length ≤ 65536 ∧ Q .none (upd σ a (.list (l ++ [w])))
  | .lext => onR v fun a => on1 vs fun w => onR w fun b => a ≠ b ∧ onL σ a fun l => onL σ b fun r => l.length + r.length ≤ 65536 ∧ Q .none (upd σ a (.list (l ++ r)))
  | .lpop => onR v fun a => on0 vs (onL σ a fun l => l.length ≤ 65536 ∧ l.all isI = true ∧ onS l.getLast? fun w => Q w (upd σ a (.list l.dropLast)))
  | .bapp => onR v fun a => on1 vs fun w => onI w fun i => onA σ a fun l => cl = true ∧ 0 ≤ i ∧ i < 256 ∧ l.length ≤ 65536 ∧ Q .none (upd σ a (.ba (l ++ [i])))
  | .bext => onR v fun a => on1 vs fun w => onY w fun r => onA σ a fun l => cl = true ∧ l.length + r.length ≤ 65536 ∧ Q .none (upd σ a (.ba (l ++ r)))
  | .join => onY v fun l => on1 vs fun w => onR w fun a => onL σ a fun ws => l = [] ∧ ws.length ≤ 65536 ∧ onS (allOf bytOf ws) fun ls => ls.flatten.length ≤ 65536 ∧ Q (.byt ls.flatten) σ
  | .index => onY v fun l => on1 vs fun w => onI w fun i => 0 ≤ i ∧ i < 256 ∧ l.length ≤ 65536 ∧ l.contains i = true ∧ Q (.int (l.idxOf i)) σ
/-- what a for walks over -/
inductive Src where
  | byt (l : List Int) | list (a : Addr) | rng (n : Nat)
noncomputable def srcOf (v : PV) (σ : St) (Q : Src → Prop) : Prop := match v with
  | .byt l => Q (.byt l)
  | .ref a => onS (σ a) fun o => (match o with | .list _ => Q (.list a) | .rng n => n ≤ 65536 ∧ Q (.rng n) | _ => False)
  | _ => False
noncomputable def nextOf (s : Src) (i : Nat) (σ : St) (Q : Option PV → Prop) : Prop := match s with
  | .byt l => Q (l[i]?.map .int)
  | .list a => onL σ a fun vs => Q vs[i]?
  | .rng n => Q (if i < n then some (.int i) else none)
section
variable (cl : Bool) (L : Lvl) (fr : Frm)
noncomputable def nameK (x : PySem.Expr) (Q : Nat → Prop) : Prop := match x with | .Constant .. => False | .Name x _ => Q (key x) | _ => False
noncomputable def noStar (x : PySem.Expr) : Bool := !(Nat.beq x.ctorIdx 22)
noncomputable def evArgs : List PySem.Expr → En → St → (List PV → St → Prop) → Prop
  | [], _, σ, Q => Q [] σ
  | x :: r, e, σ, Q => if noStar x then L.E fr x e σ fun v σ => evArgs r e σ fun vs σ => Q (v :: vs) σ else False
noncomputable def atom (x : PySem.Expr) : Bool := Nat.beq x.ctorIdx 23 || Nat.beq x.ctorIdx 19
/-- a chain of comparisons: its first operand stands -/
noncomputable def chain : PV → List CmpOp → List PySem.Expr → En → St → (Bool → St → Prop) → Prop
  | _, [], _, _, _, _ => False
  | v, op :: ops, rs, e, σ, Q => match rs with
    | [] => False
    | r :: rs => match ops with
      | [] => (match rs with
        | [] => L.E fr r e σ fun w σ => cmpB op v w σ fun b => Q b σ
        | _ => False)
      | op' :: ops' => if rs.all atom then L.E fr r e σ fun w σ => cmpB op v w σ fun b => chain w (op' :: ops') rs e σ fun b' σ' => Q (b && b') σ'
          else L.E fr r e σ fun w σ => cmpB op v w σ fun b => ifB b (chain w (op' :: ops') rs e σ Q) (Q false σ)
noncomputable def boolE (op : BoolOp) : List PySem.Expr → En → St → (PV → St → Prop) → Prop
  | [], _, _, _ => False
  | x :: r, e, σ, Q => match r with
    | [] => L.E fr x e σ Q
    | _ => L.E fr x e σ fun v σ => onB v fun b => match op with
      | .And => ifB b (boolE op r e σ Q) (Q (.bool false) σ)
      | .Or => ifB b (Q (.bool true) σ) (boolE op r e σ Q)
noncomputable def boolT (op : BoolOp) : List PySem.Expr → En → St → (Bool → St → Prop) → Prop
  | [], _, σ, Q => Q (match op with | .And => true | .Or => false) σ
  | x :: r, e, σ, Q => L.T fr x e σ fun b σ => match op with
      | .And => ifB b (boolT op r e σ Q) (Q false σ)
      | .Or => ifB b (Q true σ) (boolT op r e σ Q)
noncomputable def optE (x : Option PySem.Expr) (e : En) (σ : St) (Q : PV → St → Prop) : Prop := match x with
  | none => Q .none σ
  | some x => L.E fr x e σ Q
noncomputable def constV (c : Const) (Q : PV → Prop) : Prop := match c with
  | .none => Q .none
  | .bool b => Q (.bool b)
  | .int i => Q (.int i)
  | .str x => Q (.str x)
  | .bytes b => Q (.byt (b.map fun c => (c.toNat : Int)))
  | _ => False
/-- the key of a dict's display -/
noncomputable def strK (x : Option PySem.Expr) (Q : Str → Prop) : Prop := match x with
  | none => False
  | some x => (match x with | .Constant c _ _ => (match c with | .str x => Q x | _ => False) | .Name .. => False | _ => False)
noncomputable def dictE : List (Option PySem.Expr) → List PySem.Expr → En → St → (List (Nat × PV) → St → Prop) → Prop
  | [], vs, _, σ, Q => (match vs with | [] => Q [] σ | _ => False)
  | k :: ks, vs, e, σ, Q => match vs with
    | [] => False
    | v :: vs => strK k fun x => if key x = 0 then False else L.E fr v e σ fun w σ => dictE ks vs e σ fun r σ => look r (key x) = none ∧ Q ((key x, w) :: r) σ
noncomputable def intK (x : Option PySem.Expr) : Option Int := match x with
  | none => none
  | some x => (match x with | .Constant c _ _ => (match c with | .int i => some i | _ => none) | .Name .. => none | _ => none)
noncomputable def idictE : List (Option PySem.Expr) → List PySem.Expr → En → St → (List (Int × PV) → St → Prop) → Prop
  | [], vs, _, σ, Q => (match vs with | [] => Q [] σ | _ => False)
  | k :: ks, vs, e, σ, Q => match vs with
    | [] => False
    | v :: vs => onS (intK k) fun i => L.E fr v e σ fun w σ => idictE ks vs e σ fun r σ => lookI r i = none ∧ Q ((i, w) :: r) σ
noncomputable def isNone {α : Type} (x : Option α) : Bool := match x with | none => true | some _ => false
/-- the step -1 -/
noncomputable def negOne (x : PySem.Expr) : Bool := match x with
  | .UnaryOp op y _ => (match op with | .USub => (match y with | .Constant c _ _ => (match c with | .int i => decide (i = 1) | _ => false) | .Name .. => false | _ => false) | _ => false)
  | .BoolOp .. => false | .IfExp .. => false | .Compare .. => false
  | _ => false
noncomputable def isSlice (i : PySem.Expr) : Bool := Nat.beq i.ctorIdx 26
noncomputable def isAttr (i : PySem.Expr) : Bool := Nat.beq i.ctorIdx 20
noncomputable def isTest (i : PySem.Expr) : Bool := match i with | .UnaryOp .. => true | .BoolOp .. => true | .IfExp .. => true | .Compare .. => true | _ => false
noncomputable def sliceE (o i : PySem.Expr) (e : En) (σ : St) (Q : PV → St → Prop) : Prop := match i with
  | .Attribute .. => False
  | .Subscript .. => False
  | .Name .. => False
  | .Tuple .. => False
  | .Slice lo hi st _ => (match st with
      | none => L.E fr o e σ fun v σ => optE L fr lo e σ fun l σ => optE L fr hi e σ fun h σ => partB l fun l => partB h fun h => slic v l h σ Q
      | some y => if isNone lo && isNone hi && negOne y then L.E fr o e σ fun v σ => onR v fun a => onL σ a fun vs => vs.length ≤ 65536 ∧ new σ (.list vs.reverse) Q else False)
  | _ => False
noncomputable def subE (o i : PySem.Expr) (e : En) (σ : St) (Q : PV → St → Prop) : Prop :=
  if isSlice i then sliceE L fr o i e σ Q else L.E fr o e σ fun v σ => L.E fr i e σ fun w σ => subs v w σ fun x => Q x σ
noncomputable def superOk (o : PySem.Expr) : Bool := match o with
  | .ListComp .. => true
  | .Call f _ _ _ => (match f with | .Constant .. => true | .Name x _ => decide (x ≠ ("super" : Str)) | _ => true)
  | _ => true
noncomputable def methE (f : PySem.Expr) (args : List PySem.Expr) (pos : Pos) (e : En) (σ : St) (Q : PV → St → Prop) : Prop := match f with
  | .Attribute o name apos => if superOk o && (apos.endLine == pos.line) && decide (args.length < 29) then L.E fr o e σ fun v σ => kindM v (key name) σ fun m => evArgs L fr args e σ fun vs σ => methV cl m v vs σ Q else False
  | .Subscript .. => False
  | .Name .. => False
  | .Tuple .. => False
  | .Slice .. => False
  | _ => False
noncomputable def callE (f : PySem.Expr) (args : List PySem.Expr) (pos : Pos) (e : En) (σ : St) (Q : PV → St → Prop) : Prop :=
  if args.all noStar then (if isAttr f then methE cl L fr f args pos e σ Q else L.E fr f e σ fun v σ => evArgs L fr args e σ fun vs σ => callV cl L.C v vs σ Q) else False
noncomputable def isSet (x : PySem.Expr) : Bool := Nat.beq x.ctorIdx 7
/-- globals that the comprehensions of the text read -/
noncomputable def allG : List (Nat × PV) := [(key "REPLACEMENT", .int 65533), (key "int", .bt .int), (key "_law_lots", .ref 206), (key "_law_draw", .ref 219), (key "_law_some", .byt [43, 45, 65, 66, 50, 68, 51, 103, 48, 89, 107, 47, 32, 126, 33, 195, 97, 57, 61]), (key "_law_codes", .ref 207), (key "_law_written", .ref 275)]
/-- the names of a comprehension's own frame -/
noncomputable def frC (names : List (Str × NameKind)) : Frm where
  loc := names.filterMap fun p => if p.2 = .local then some (key p.1) else none
  glo := allG.filter fun q => names.any (fun p => decide (p.2 = .globalImplicit) && decide (key p.1 = q.1))
  cel := names.filterMap fun p => if p.2 = .free then (look fr.cel (key p.1)).map fun c => (key p.1, c) else none
/-- the scope of a comprehension, that it is of the kind that is served -/
noncomputable def scopeOk (x : Nat) (scope : Scope) : Bool :=
  decide (scope.kind = .function) && !scope.isGenerator && !scope.isCoroutine &&
  scope.names.all (fun p => !(p.1 == ("__debug__" : Str)) && decide (p.2 ≠ .cell) && decide (key p.1 ≠ 0) && decide (scope.names.lookup p.1 = some p.2) && (decide (p.2 ≠ .free) || (look fr.cel (key p.1)).isSome)) && mem (frC fr scope.names).loc x
noncomputable def compW (fr' : Frm) (x : Nat) (elt : PySem.Expr) (ifs : List PySem.Expr) (s : Src) (σ : St) (Q : PV → St → Prop) : Prop :=
  ∃ (N : Nat) (I : Nat → List PV → St → Prop), I 0 [] σ ∧ ∀ i vs σ, I i vs σ → i ≤ N ∧ vs.length ≤ i ∧ N ≤ 65535 ∧ nextOf s i σ fun r => match r with
    | none => new σ (.list vs) Q
    | some v => setN fr' x v [] σ fun e' σ => match ifs with
      | [] => L.E fr' elt e' σ fun w σ => I (i + 1) (vs ++ [w]) σ
      | t :: ts => match ts with
        | [] => L.T fr' t e' σ fun b σ => ifB b (L.E fr' elt e' σ fun w σ => I (i + 1) (vs ++ [w]) σ) (I (i + 1) vs σ)
        | _ => False
noncomputable def compE (elt : PySem.Expr) (gens : List Comprehension) (scope : Scope) (e : En) (σ : St) (Q : PV → St → Prop) : Prop := match gens with
  | [] => False
  | g :: gs => match gs with
    | [] => if isSet g.iter then False else if g.is_async = 0 then nameK g.target fun k => if scopeOk fr k scope then L.E fr g.iter e σ fun v σ => srcOf v σ fun s => compW L (frC fr scope.names) k elt g.ifs s σ Q else False else False
    | _ => False
noncomputable def stepE (x : PySem.Expr) (e : En) (σ : St) (Q : PV → St → Prop) : Prop := match x with
  | .Constant c _ _ => constV c fun v => Q v σ
  | .Name x _ => getN fr (key x) e σ fun v => Q v σ
  | .BinOp l op r _ => L.E fr l e σ fun a σ => L.E fr r e σ fun b σ => binop op a b σ Q
  | .BoolOp op es _ => boolE L fr op es e σ Q
  | .UnaryOp op x _ => (match op with | .Not => L.E fr x e σ fun v σ => onB v fun b => Q (.bool !b) σ | _ => False)
  | .Compare l ops rs _ => if lastMarks ops rs || !(ops.length == rs.length) then False else L.E fr l e σ fun v σ => chain L fr v ops rs e σ fun b σ => Q (.bool b) σ
  | .IfExp t b o _ => L.T fr t e σ fun c σ => ifB c (L.E fr b e σ Q) (L.E fr o e σ Q)
  | .Call f args kws pos => (match kws with | [] => callE cl L fr f args pos e σ Q | _ => False)
  | .Subscript o i _ => subE L fr o i e σ Q
  | .List es _ => if es.all noStar then evArgs L fr es e σ fun vs σ => vs.length ≤ 65536 ∧ new σ (.list vs) Q else False
  | .Tuple es _ _ => if es.all noStar then evArgs L fr es e σ fun vs σ => vs.length ≤ 65536 ∧ new σ (.tup vs) Q else False
  | .ListComp elt gens scope _ => compE L fr elt gens scope e σ Q
  | .Dict ks vs _ => if !(ks.length == vs.length && ks.all (·.isSome) && !ks.isEmpty && decide (ks.length ≤ 15)) then False else if ks.all fun k => (intK k).isSome then idictE L fr ks vs e σ fun l σ => l.length ≤ 15 ∧ l ≠ [] ∧ new σ (.idct l) Q else dictE L fr ks vs e σ fun l σ => l.length ≤ 15 ∧ l ≠ [] ∧ new σ (.dct l) Q
  | _ => False
noncomputable def testE (x : PySem.Expr) (e : En) (σ : St) (Q : Bool → St → Prop) : Prop := match x with
  | .UnaryOp op x _ => (match op with | .Not => L.T fr x e σ fun b σ => Q (!b) σ | _ => False)
  | .BoolOp op es _ => boolT L fr op es e σ Q
  | .IfExp t b o _ => L.T fr t e σ fun c σ => ifB c (L.T fr b e σ Q) (L.T fr o e σ Q)
  | .Compare l ops rs _ => if lastMarks ops rs || !(ops.length == rs.length) then False else L.E fr l e σ fun v σ => chain L fr v ops rs e σ Q
  | _ => False
noncomputable def stepT (x : PySem.Expr) (e : En) (σ : St) (Q : Bool → St → Prop) : Prop :=
  if isTest x then testE L fr x e σ Q else L.E fr x e σ fun v σ => onB v fun b => Q b σ
noncomputable def thenF (f : Fl) (e : En) (σ : St) (P : Prop) (Q : Fl → En → St → Prop) : Prop := match f with | .next => P | f => Q f e σ
noncomputable def blk : List Stmt → En → St → (Fl → En → St → Prop) → Prop
  | [], e, σ, Q => Q .next e σ
  | st :: r, e, σ, Q => L.S fr st e σ fun f e σ => thenF f e σ (blk r e σ Q) Q
noncomputable def setAll : List PySem.Expr → List PV → En → St → (En → St → Prop) → Prop
  | [], vs, e, σ, Q => (match vs with | [] => Q e σ | _ => False)
  | t :: ts, vs, e, σ, Q => match vs with
    | [] => False
    | v :: vs => nameK t fun k => setN fr k v e σ fun e σ => setAll ts vs e σ Q
/-- no comprehension, at which a plain assignment goes another way -/
noncomputable def noComp (x : PySem.Expr) : Bool := !(Nat.ble 8 x.ctorIdx && Nat.ble x.ctorIdx 10)
noncomputable def turnF (f : Fl) (e : En) (σ : St) (I : Prop) (Q : Fl → En → St → Prop) : Prop := match f with
  | .next => I | .cont => I | .brk => Q .next e σ | .ret v => Q (.ret v) e σ
/-- a for -/
noncomputable def forW (x : Nat) (body : En → St → (Fl → En → St → Prop) → Prop) (s : Src) (e : En) (σ : St) (Q : Fl → En → St → Prop) : Prop :=
  ∃ (N : Nat) (I : Nat → En → St → Prop), (∃ e', wk e' e ∧ I 0 e' σ) ∧ ∀ i e σ, I i e σ → i ≤ N ∧ nextOf s i σ fun r => match r with
    | none => Q .next e σ
    | some v => setN fr x v e σ fun e σ => body e σ fun f e σ => turnF f e σ (∃ e', wk e' e ∧ I (i + 1) e' σ) Q
noncomputable def whileW (test : En → St → (Bool → St → Prop) → Prop) (body : En → St → (Fl → En → St → Prop) → Prop) (e : En) (σ : St) (Q : Fl → En → St → Prop) : Prop :=
  ∃ (I : Nat → En → St → Prop), (∃ n e', wk e' e ∧ I n e' σ) ∧ ∀ n e σ, I n e σ → test e σ fun b σ => ifB b
    (body e σ fun f e σ => turnF f e σ (∃ m e', m < n ∧ wk e' e ∧ I m e' σ) Q)
    (Q .next e σ)
noncomputable def augB (op : Operator) (a b : PV) (Q : PV → Prop) : Prop := match op with
  | .Add => onI a fun x => onI b fun y => Q (.int (x + y))
  | .Sub => onI a fun x => onI b fun y => Q (.int (x - y))
  | _ => False
noncomputable def lineOf (ts : List PySem.Expr) : Nat := (ts.head?.map (·.pos.line)).getD 0
noncomputable def isDisplay (v : PySem.Expr) : Bool := Nat.beq v.ctorIdx 25
/-- a name of the frame's own, upon the line -/
noncomputable def ownName (line : Nat) (x : PySem.Expr) : Bool := match x with
  | .Constant .. => false
  | .Name x p => decide (key x ≠ 0) && isNone (look fr.cel (key x)) && mem fr.loc (key x) && p.line == line
  | _ => false
noncomputable def keyOf (x : PySem.Expr) : Nat := match x with | .Constant .. => 0 | .Name x _ => key x | _ => 0
noncomputable def distinct : List Nat → Bool
  | [] => true
  | k :: r => !(mem r k) && distinct r
/-- a display whose stores are swapped -/
noncomputable def swapOk (ts vs : List PySem.Expr) : Bool :=
  (ts.length == 2 || ts.length == 3) && vs.length == ts.length && vs.all noStar && ts.all (ownName fr (lineOf ts)) && distinct (ts.map keyOf) && !(vs.all (foldedForSure 8)) && !(vs.all (constantsAlone 8))
noncomputable def tupleOk (ts : List PySem.Expr) (v : PySem.Expr) : Bool := match v with
  | .Attribute .. => true
  | .Subscript .. => true
  | .Name .. => true
  | .Tuple vs _ _ => swapOk fr ts vs
  | .Slice .. => true
  | _ => true
/-- a comprehension that a plain name takes at once -/
noncomputable def usedOk (x : Str) (p : Pos) (v : PySem.Expr) : Bool := match v with
  | .ListComp _ _ scope q => decide (key x ≠ 0) && isNone (look fr.cel (key x)) && mem fr.loc (key x) && p.line == q.line && !(scope.names.any fun n => n.1 == x && (n.2 == .local || n.2 == .cell))
  | .Call .. => false
  | _ => false
noncomputable def assignS (t v : PySem.Expr) (e : En) (σ : St) (Q : Fl → En → St → Prop) : Prop := match t with
  | .Attribute .. => False
  | .Subscript o i _ => L.E fr v e σ fun w σ => L.E fr o e σ fun a σ => L.E fr i e σ fun k σ => onR a fun a => (match k with
      | .str x => onD σ a fun l => l.length ≤ 65536 ∧ key x ≠ 0 ∧ (look l (key x)).isSome = true ∧ Q .next e (upd σ a (.dct (put l (key x) w)))
      | _ => False)
  | .Name x _ => L.E fr v e σ fun w σ => setN fr (key x) w e σ fun e σ => Q .next e σ
  | .Tuple ts _ _ => if tupleOk fr ts v then L.E fr v e σ fun w σ => onR w fun a => onT σ a fun ws => ts.length = ws.length ∧ setAll fr ts ws e σ fun e σ => Q .next e σ else False
  | .Slice .. => False
  | _ => False
noncomputable def usedS (t v : PySem.Expr) (e : En) (σ : St) (Q : Fl → En → St → Prop) : Prop := match t with
  | .Constant .. => False
  | .Name x p => if usedOk fr x p v then (match v with
      | .ListComp elt gens scope _ => compE L fr elt gens scope e σ fun w σ => setN fr (key x) w e σ fun e σ => Q .next e σ
      | .Call .. => False
      | _ => False) else False
  | _ => False
noncomputable def stepS (st : Stmt) (e : En) (σ : St) (Q : Fl → En → St → Prop) : Prop := match st with
  | .Expr x _ => if noComp x then L.E fr x e σ fun v σ => v = .none ∧ Q .next e σ else False
  | .Continue _ => Q .cont e σ
  | .Return x _ => (match x with | some x => L.E fr x e σ fun v σ => Q (.ret v) e σ | none => False)
  | .Assign ts v _ => if noComp v then (match ts with | [] => False | t :: r => (match r with | [] => assignS L fr t v e σ Q | _ => False)) else (match ts with | [] => False | t :: r => (match r with | [] => usedS L fr t v e σ Q | _ => False))
  | .AugAssign t op v _ => (match t with
      | .Name x _ => getN fr (key x) e σ fun old => L.E fr v e σ fun w σ => augB op old w fun n => setN fr (key x) n e σ fun e σ => Q .next e σ
      | _ => False)
  | .If t b o _ => L.T fr t e σ fun c σ => ifB c (blk L fr b e σ Q) (blk L fr o e σ Q)
  | .While t b o _ => (match o with | [] => whileW (L.T fr t) (blk L fr b) e σ Q | _ => False)
  | .For t it b o _ => (match o with | [] => if isSet it then False else nameK t fun k => L.E fr it e σ fun v σ => srcOf v σ fun s => forW fr k (blk L fr b) s e σ Q | _ => False)
  | _ => False
end

/-- where a frame stands -/
structure Gd where
  prog : Program
  w : World
  A : Around
  A₀ : Around
  base : Heap
  h₀ : Heap
  L : Addr
  env₀ : Env
  env : Env
  outer : List Env
  M : Str → Option Value
  R : Heap
noncomputable def tupOf (its : Array Value) : Obj := { cls := .type "tuple", data := .seq its }
noncomputable def isO (G : Gd) (o : AO) (O : Obj) : Prop := match o with
  | .list vs => ∃ (Vs : List Value) (n : Nat), O = W.listOf Vs.toArray n ∧ Vs.map er = vs
  | .flist vs => O.cls = .type "list" ∧ ∃ (Vs : List Value) (n : Nat), O.data = .seq Vs.toArray n ∧ Vs.map er = vs
  | .tup vs => ∃ (Vs : List Value), O = tupOf Vs.toArray ∧ Vs.map er = vs
  | .ftup vs => ∃ (Vs : List Value), O = tupOf Vs.toArray ∧ Vs.map er = vs
  | .ba l => ∃ b : Array UInt8, O = { cls := .type "bytearray", data := .bytearray b 0 } ∧ KBw.bInts b = l
  | .dct l => ∃ kvs : List (Str × Value), O.IsDictOf (PySem.strKind G.prog G.w) kvs ∧ (∀ p ∈ kvs, key p.1 ≠ 0) ∧ (kvs.map fun p => (key p.1, er p.2)) = l
  | .idct l => ∃ kvs : List (Int × Value), O.IsDictOf (PySem.intKind G.prog G.w) kvs ∧ (kvs.map fun p => (p.1, er p.2)) = l
  | .rng n => ∃ t u v : Tok, O = { cls := .type "range", data := .fields #[.int 0 t, .int n u, .int 1 v] }
  | .cel v => ∃ V : Option Value, O.data = .cell V ∧ V.map er = v
/-- the ground as it is now: the outer frames' slots may be others -/
structure Up (h₀ : Heap) (outer : List Env) (H : Heap) : Prop where
  sz : H.objs.size = h₀.objs.size
  same : ∀ b, b ∉ outer.filterMap (·.frame) → H.get? b = h₀.get? b
  slot : ∀ b o, h₀.get? b = some o → ∃ sl, H.get? b = some { o with slots := sl }
  none : ∀ b, h₀.get? b = none → H.get? b = none
theorem Up.refl {h₀ : Heap} {outer : List Env} : Up h₀ outer h₀ := ⟨rfl, fun _ _ => rfl, fun _ o q => ⟨o.slots, q⟩, fun _ q => q⟩
theorem Up.fresh {h₀ H : Heap} {outer : List Env} (u : Up h₀ outer H) {a : Addr} (h : H.get? a = .none) : h₀.get? a = .none := by
  cases q : h₀.get? a with
  | none => rfl
  | some o =>
    obtain ⟨sl, q'⟩ := u.slot _ _ q
    rw [h] at q'; cases q'
/-- objects of the ground, that none may turn -/
noncomputable def isF (o : AO) : Bool := match o with | .flist _ => true | .ftup _ => true | _ => false
noncomputable def good (G : Gd) (h : Heap) (a : Addr) (o : AO) : Prop := ∃ O, isO G o O ∧ ((isF o = true ∧ G.R.get? a = some O ∧ ∀ H, Up G.h₀ G.outer H → H.get? a = some O) ∨ (isF o = false ∧ h.get? a = some O ∧ a ≠ G.L ∧ a ≠ G.env.locals ∧ G.h₀.get? a = none))
theorem good.own {G : Gd} {h : Heap} {a : Addr} {o : AO} (g : good G h a o) (hf : isF o = false) : ∃ O, h.get? a = some O ∧ a ≠ G.L ∧ a ≠ G.env.locals ∧ G.h₀.get? a = none ∧ isO G o O := by
  obtain ⟨O, h1, ⟨h2, _⟩ | ⟨_, h3, h4, h5, h6⟩⟩ := g
  · rw [hf] at h2; cases h2
  · exact ⟨O, h3, h4, h5, h6, h1⟩
theorem good.turn {G : Gd} {h h' : Heap} {a : Addr} {o : AO} (g : good G h a o) (hk : ∀ O, h.get? a = some O → a ≠ G.L → a ≠ G.env.locals → G.h₀.get? a = none → h'.get? a = some O) : good G h' a o := by
  obtain ⟨O, h1, h2 | ⟨h2, h3, h4, h5, h6⟩⟩ := g
  · exact ⟨O, h1, .inl h2⟩
  · exact ⟨O, h1, .inr ⟨h2, hk O h3 h4 h5 h6, h4, h5, h6⟩⟩
structure Sim (G : Gd) (F : List (Addr × Obj)) (σ : St) (e : En) (h : Heap) : Prop where
  fr : ∃ m, (∃ H, Up G.h₀ G.outer H ∧ Fr H G.L h m) ∧ (G.env.locals ≠ G.L → m = G.M)
  ns : ∃ m, h.Ns G.env.locals m ∧ ∀ x v, key x ≠ 0 → look e (key x) = some v → ∃ V, m x = some V ∧ er V = v
  ap : G.env.locals ≠ G.L → G.h₀.get? G.env.locals = none
  ob : ∀ a o, σ a = some o → good G h a o
  fo : ∀ p ∈ F, h.get? p.1 = some p.2 ∧ p.1 ≠ G.L ∧ p.1 ≠ G.env.locals ∧ G.h₀.get? p.1 = none ∧ σ p.1 = none
/-- an expression's end -/
noncomputable def Pst (G : Gd) (F : List (Addr × Obj)) (e : En) (Q : PV → St → Prop) (s : Shared) (V : Value) (s' : Shared) : Prop :=
  ∃ h tk σ, s' = { s with heap := h, toks := tk } ∧ Sim G F σ e h ∧ Q (er V) σ
theorem Pst.here {G F e σ V} {Q : PV → St → Prop} {s : Shared} {h : Heap} {tk : Nat} (S : Sim G F σ e h) (q : Q (er V) σ) : Pst G F e Q s V { s with heap := h, toks := tk } := ⟨h, tk, σ, rfl, S, q⟩
theorem horn_le : ∀ (l : List Nat) (a : Nat), a ≤ horn l a
  | [], _ => Nat.le_refl _
  | c :: r, a => Nat.le_trans (by (first | exact Int.natCast_nonneg _ | lia | omega)) (horn_le r (a * 128 + c))
theorem horn_snoc : ∀ (l : List Nat) (c a : Nat), horn (l ++ [c]) a = horn l a * 128 + c
  | [], _, _ => rfl
  | _ :: r, c, _ => horn_snoc r c _
theorem horn_inj : ∀ (l l' : List Nat), l.all plainC = true → l'.all plainC = true → horn l.reverse 0 = horn l'.reverse 0 → l = l'
  | [], [], _, _, _ => rfl
  | c :: r, [], h, _, e => by
    rw [List.reverse_cons, horn_snoc] at e
    simp only [List.all_cons, plainC, Bool.and_eq_true, decide_eq_true_eq] at h
    simp only [List.reverse_nil, horn] at e
    (first | exact Int.natCast_nonneg _ | lia | omega)
  | [], c :: r, _, h, e => by
    rw [List.reverse_cons, horn_snoc] at e
    simp only [List.all_cons, plainC, Bool.and_eq_true, decide_eq_true_eq] at h
    simp only [List.reverse_nil, horn] at e
    (first | exact Int.natCast_nonneg _ | lia | omega)
  | c :: r, c' :: r', h, h', e => by
    rw [List.reverse_cons, List.reverse_cons, horn_snoc, horn_snoc] at e
    simp only [List.all_cons, Bool.and_eq_true] at h h'
    have hc := h.1
    have hc' := h'.1
    simp only [plainC, Bool.and_eq_true, decide_eq_true_eq] at hc hc'
    have e1 : c = c' := by (first | exact Int.natCast_nonneg _ | lia | omega)
    have e2 : horn r.reverse 0 = horn r'.reverse 0 := by (first | exact Int.natCast_nonneg _ | lia | omega)
    rw [e1, horn_inj r r' h.2 h'.2 e2]
theorem key_inj {x y : Str} (hx : key x ≠ 0) (e : key x = key y) : x = y := by
  have hy : key y ≠ 0 := e ▸ hx
  unfold key at hx hy e
  split at hx
  · rename_i h1
    split at hy
    · rename_i h2
      rw [if_pos h1, if_pos h2] at e
      have := horn_inj x.cps.toList.reverse y.cps.toList.reverse (by rw [List.all_reverse]; exact h1) (by rw [List.all_reverse]; exact h2) (by rw [List.reverse_reverse, List.reverse_reverse]; exact e)
      have := List.reverse_inj.mp this
      cases x; cases y
      exact congrArg _ (Array.toList_inj.mp this)
    · exact absurd rfl hy
  · exact absurd rfl hx
theorem look_put : ∀ (e : En) (k x : Nat) (v : PV), look (put e k v) x = if k = x then some v else look e x
  | [], _, _, _ => rfl
  | (k', v') :: r, k, x, v => by
    unfold put
    split
    · rename_i h
      simp only [look]
      split
      · rfl
      · rw [if_neg (by (first | exact Int.natCast_nonneg _ | lia | omega))]
    · rename_i h
      simp only [look]
      rw [look_put r]
      split
      · rw [if_neg (by (first | exact Int.natCast_nonneg _ | lia | omega))]
      · rfl
section
variable {G : Gd} {F : List (Addr × Obj)} {σ : St} {e : En} {h h' : Heap}
theorem Sim.at (S : Sim G F σ e h) {a o} (ha : σ a = some o) : ∃ O, h.get? a = some O ∧ isO G o O := by
  obtain ⟨m, ⟨H, uH, Fm⟩, _⟩ := S.fr
  obtain ⟨O, h1, ⟨_, _, h2⟩ | ⟨_, h2, _⟩⟩ := S.ob a o ha
  · exact ⟨O, Fm.keep _ _ (h2 H uH), h1⟩
  · exact ⟨O, h2, h1⟩
theorem Sim.lt (S : Sim G F σ e h) {a o} (ha : σ a = some o) : a < h.objs.size := by
  obtain ⟨O, hO, _⟩ := S.at ha
  exact Heap.lt_size hO
/-- nothing but the new is turned -/
theorem Sim.grow (S : Sim G F σ e h) (hk : ∀ b o, h.get? b = some o → h'.get? b = some o) : Sim G F σ e h' := by
  obtain ⟨m, ⟨H, uH, Fm⟩, hm⟩ := S.fr
  obtain ⟨mC, NC, hC⟩ := S.ns
  exact ⟨⟨m, ⟨H, uH, Fm.ns.at' (hk _), fun b o q => hk _ _ (Fm.keep b o q), Fm.above⟩, hm⟩, ⟨mC, NC.at' (hk _), hC⟩, S.ap,
    fun a o q => (S.ob a o q).turn fun O q _ _ _ => hk _ _ q, fun p hp => ⟨hk _ _ (S.fo p hp).1, (S.fo p hp).2⟩⟩
theorem Sim.unused (S : Sim G F σ e h) {a : Addr} (ha : h.objs.size ≤ a) : σ a = none := by
  cases q : σ a with
  | none => rfl
  | some o => exact absurd (Nat.lt_of_lt_of_le (S.lt q) ha) (Nat.lt_irrefl _)
/-- a new object -/
theorem Sim.lay' (S : Sim G F σ e h) {a : Addr} {o : AO} {O : Obj} (h1 : a ≠ G.env.locals) (h2 : ∀ p ∈ F, p.1 ≠ a) (n1 : h.get? a = some O) (n2 : a ≠ G.L) (n3 : G.h₀.get? a = none) (hO : isO G o O) (hf : isF o = false) : Sim G F (upd σ a o) e h := by
  refine ⟨S.fr, S.ns, S.ap, fun b o' q => ?_, fun p hp => ?_⟩
  · unfold upd at q
    split at q
    · rename_i hb
      cases q
      rw [hb]
      exact ⟨O, hO, .inr ⟨hf, n1, n2, h1, n3⟩⟩
    · exact S.ob b o' q
  · obtain ⟨k1, k2, k3, k4, k5⟩ := S.fo p hp
    exact ⟨k1, k2, k3, k4, by unfold upd; rw [if_neg (h2 p hp)]; exact k5⟩
theorem Sim.lay {h₁ : Heap} (S₁ : Sim G F σ e h₁) (S : Sim G F σ e h) {a : Addr} {o : AO} {O : Obj} (ha : h₁.objs.size ≤ a) (n1 : h.get? a = some O) (n2 : a ≠ G.L) (n3 : G.h₀.get? a = none) (hO : isO G o O) (hf : isF o = false) : σ a = none ∧ Sim G F (upd σ a o) e h := by
  obtain ⟨mC, NC, hC⟩ := S₁.ns
  exact ⟨S₁.unused ha, S.lay' (fun q => absurd (Nat.lt_of_lt_of_le NC.lt (q ▸ ha)) (Nat.lt_irrefl _)) (fun p hp q => absurd (Nat.lt_of_lt_of_le (Heap.lt_size (S₁.fo p hp).1) (q ▸ ha)) (Nat.lt_irrefl _)) n1 n2 n3 hO hf⟩
theorem Sim.new (S : Sim G F σ e h) {o : AO} {O : Obj} (hO : isO G o O) (hf : O.isFreed = false) (hF : isF o = false) : σ h.objs.size = none ∧ Sim G F (upd σ h.objs.size o) e (h.push O) := by
  obtain ⟨m, ⟨H, uH, Fm⟩, hm⟩ := S.fr
  exact S.lay (S.grow fun b o q => Heap.get?_push_of_some _ q) (Nat.le_refl _) (Heap.get?_push_size _ hf) (fun e => absurd Fm.ns.lt (e ▸ Nat.lt_irrefl _)) (uH.fresh (next_is_new Fm)) hO hF
/-- an object of the state is turned -/
theorem Sim.turn (S : Sim G F σ e h) {a : Addr} {o o' : AO} {O : Obj} (ha : σ a = some o) (hf : isF o = false) (hf' : isF o' = false) (hs : Heap.SameBut a h h') (hO : h'.get? a = some O) (hi : isO G o' O) : Sim G F (upd σ a o') e h' := by
  obtain ⟨m, ⟨H, uH, Fm⟩, hm⟩ := S.fr
  obtain ⟨mC, NC, hC⟩ := S.ns
  obtain ⟨O₀, g1, g2, g3, g4, g5⟩ := (S.ob a o ha).own hf
  refine ⟨⟨m, ⟨H, uH, Fm.ns.sameBut hs (Ne.symm g2), fun b ob q => (hs.2 b (fun q' => ?_)).trans (Fm.keep b ob q), Fm.above⟩, hm⟩, ⟨mC, NC.sameBut hs (Ne.symm g3), hC⟩, S.ap, fun b ob q => ?_, fun p hp => ?_⟩
  · rw [q', uH.none _ g4] at q; cases q
  · unfold upd at q
    split at q
    · rename_i hb
      cases q
      rw [hb]
      exact ⟨O, hi, .inr ⟨hf', hO, g2, g3, g4⟩⟩
    · rename_i hb
      exact (S.ob b ob q).turn fun O q _ _ _ => (hs.2 b hb).trans q
  · obtain ⟨h1, h2, h3, h4, h5⟩ := S.fo p hp
    have hne : p.1 ≠ a := fun q => by rw [q, ha] at h5; cases h5
    exact ⟨(hs.2 _ hne).trans h1, h2, h3, h4, by unfold upd; rw [if_neg hne]; exact h5⟩
/-- a name is bound -/
theorem Sim.set (S : Sim G F σ e h) {x : Str} {V : Value} (hx : key x ≠ 0)
    (hn : ∀ m, h.Ns G.env.locals m → h'.Ns G.env.locals (fun y => if y = x then some V else m y)) (hs : Heap.SameBut G.env.locals h h') : Sim G F σ (put e (key x) (er V)) h' := by
  obtain ⟨m, ⟨H, uH, Fm⟩, hm⟩ := S.fr
  obtain ⟨mC, NC, hC⟩ := S.ns
  have NC' := hn _ NC
  refine ⟨?_, ⟨_, NC', fun y v hy q => ?_⟩, S.ap, fun b ob q => ?_, fun p hp => ?_⟩
  · by_cases hl : G.env.locals = G.L
    · refine ⟨_, ⟨H, uH, hl ▸ hn _ (hl ▸ Fm.ns), fun b ob q => (hs.2 b (fun q' => ?_)).trans (Fm.keep b ob q), Fm.above⟩, fun q => absurd hl q⟩
      have h1 := Heap.lt_size q
      have h2 := Fm.above
      rw [q', hl] at h1
      exact absurd (Nat.lt_of_lt_of_le h1 h2) (Nat.lt_irrefl _)
    · refine ⟨m, ⟨H, uH, Fm.ns.sameBut hs (Ne.symm hl), fun b ob q => (hs.2 b (fun q' => ?_)).trans (Fm.keep b ob q), Fm.above⟩, hm⟩
      rw [q', uH.none _ (S.ap hl)] at q; cases q
  · rw [look_put] at q
    by_cases hxy : key x = key y
    · rw [if_pos hxy] at q
      cases q
      exact ⟨V, if_pos (key_inj hx hxy).symm, rfl⟩
    · rw [if_neg hxy] at q
      obtain ⟨W, w1, w2⟩ := hC y v hy q
      exact ⟨W, (if_neg fun q => hxy (congrArg key q.symm)).trans w1, w2⟩
  · exact (S.ob b ob q).turn fun O q _ k _ => (hs.2 b k).trans q
  · obtain ⟨h1, h2, h3, h4⟩ := S.fo p hp
    exact ⟨(hs.2 _ h3).trans h1, h2, h3, h4⟩
theorem wk_look : ∀ {e' e : En}, wk e' e → ∀ k v, look e' k = some v → look e k = some v
  | [], _, _, _, _, h => nomatch h
  | (k', v') :: r, e, hw, k, v, h => by
    obtain ⟨h1, h2⟩ : look e k' = some v' ∧ wk r e := hw
    simp only [look] at h
    split at h
    · rename_i q
      subst q
      cases h
      exact h1
    · exact wk_look h2 k v h
theorem Sim.weak {e' : En} (S : Sim G F σ e h) (hw : wk e' e) : Sim G F σ e' h := by
  obtain ⟨m, N, hm⟩ := S.ns
  exact ⟨S.fr, ⟨m, N, fun x v hx q => hm x v hx (wk_look hw _ _ q)⟩, S.ap, S.ob, S.fo⟩
end

/-- what stands about a frame; D levels of calls have room -/
structure Cfg where
  K : Frag
  q : Program
  loose : List Str
  mean : ExcName → Option Value
  mg : Str → Option Value
  mb : Str → Option Value
noncomputable def GlobOk (K : Frag) : Prop := ∀ x v, key x ≠ 0 → look allG (key x) = some v → (x == ("__debug__" : Str)) = false ∧
  ((∃ V, nsIn K mainGlobals x = some (some V) ∧ er V = v) ∨ (nsIn K mainGlobals x = some none ∧ x ≠ ("__name__" : Str) ∧ ∃ V, bootBuiltins x = some V ∧ er V = v))
structure Ok (c : Cfg) (D : Nat) (G : Gd) (fr : Frm) : Prop where
  B : Below G.A₀ G.base G.outer G.h₀
  X : c.K.In G.base
  T : Top c.q c.loose c.mean c.mg c.mb G.base
  hA : G.A.frames = some (G.env₀ :: G.outer)
  hf : G.env₀.frame = some G.L
  h0 : G.env₀.scope.kind = .function
  hh : G.A.handled = none
  hg : G.A.guards = some []
  hd : G.A.depth + D < recursionLimit
  hu : G.A.units + 8 * D + 64 < cLine
  kd : G.env.scope.kind = .function
  gl : G.env.globals = mainGlobals
  bu : G.env.builtins = builtinsNs
  lo : ∀ x, key x ≠ 0 → look fr.cel (key x) = none → mem fr.loc (key x) = true → G.env.kindOf x = some .local ∧ (x == ("__debug__" : Str)) = false
  gk : ∀ x v, key x ≠ 0 → look fr.cel (key x) = none → mem fr.loc (key x) = false → look fr.glo (key x) = some v → G.env.kindOf x = some .globalImplicit ∧ (x == ("__debug__" : Str)) = false ∧
    ((∃ V, nsIn c.K mainGlobals x = some (some V) ∧ er V = v) ∨ (nsIn c.K mainGlobals x = some none ∧ x ≠ ("__name__" : Str) ∧ ∃ V, bootBuiltins x = some V ∧ er V = v))
  ce : ∀ x c, key x ≠ 0 → look fr.cel (key x) = some c → G.env.kindOf x = some .cell ∧ G.env.cells.lookup x = some c ∧ (x == ("__debug__" : Str)) = false
  ro : ∀ b o, G.R.get? b = some o → G.base.get? b = some o
  al : GlobOk c.K
theorem Up.stays {h₀ H base : Heap} {A : Around} {outer : List Env} (u : Up h₀ outer H) (B : Below A base outer h₀) : base.StaysIn H := fun b o q => by
  rw [u.same b fun hb => by rw [(B.frames.mem hb).1] at q; cases q]
  exact B.stays b o q
theorem Up.below {h₀ H base : Heap} {A : Around} {outer : List Env} (u : Up h₀ outer H) (B : Below A base outer h₀) : Below A base outer H :=
  ⟨B.stack, u.stays B, B.frames.of_keeps fun b o q _ => let ⟨_, e⟩ := u.slot b o q; ⟨_, e, rfl⟩⟩
theorem Sim.bs {c : Cfg} {D : Nat} {G : Gd} {fr : Frm} {F : List (Addr × Obj)} {σ : St} {e : En} {h : Heap} (S : Sim G F σ e h) (ok : Ok c D G fr) : ∀ b o, G.base.get? b = some o → h.get? b = some o := by
  obtain ⟨m, ⟨H, uH, Fm⟩, _⟩ := S.fr
  exact fun b o q => Fm.keep b o (uH.stays ok.B b o q)
theorem onS_e {α : Type} {v : Option α} {P : α → Prop} (h : onS v P) : ∃ x, v = some x ∧ P x := by
  cases v with
  | none => exact h.elim
  | some x => exact ⟨x, rfl, h⟩
theorem onC_e {σ : St} {a : Addr} {P : Option PV → Prop} (h : onC σ a P) : ∃ v, σ a = some (.cel v) ∧ P v := by
  obtain ⟨o, ho, h⟩ := onS_e h
  cases o <;> first | exact (h : False).elim | exact ⟨_, ho, h⟩
theorem onL_e {σ : St} {a : Addr} {P : List PV → Prop} (h : onL σ a P) : ∃ v, σ a = some (.list v) ∧ P v := by
  obtain ⟨o, ho, h⟩ := onS_e h
  cases o <;> first | exact (h : False).elim | exact ⟨_, ho, h⟩
theorem onT_e {σ : St} {a : Addr} {P : List PV → Prop} (h : onT σ a P) : ∃ v, σ a = some (.tup v) ∧ P v := by
  obtain ⟨o, ho, h⟩ := onS_e h
  cases o <;> first | exact (h : False).elim | exact ⟨_, ho, h⟩
theorem onD_e {σ : St} {a : Addr} {P : List (Nat × PV) → Prop} (h : onD σ a P) : ∃ v, σ a = some (.dct v) ∧ P v := by
  obtain ⟨o, ho, h⟩ := onS_e h
  cases o <;> first | exact (h : False).elim | exact ⟨_, ho, h⟩
section
variable {prog : Program} {w : World} {cf : Cfg} {D : Nat} {G : Gd} {fr : Frm} {F : List (Addr × Obj)} {σ : St} {e : En} {s : Shared}
theorem sLoadA {A : Around} {x : Str} {Q : PV → Prop} {E : Value → Shared → Prop} (ok : Ok cf D G fr) (S : Sim G F σ e s.heap) (h : getN fr (key x) e σ Q) :
    (x == ("__debug__" : Str)) = false ∧ wpAny (model prog w) A (loadName G.env x) (fun V s' => s' = s ∧ Q (er V)) E s := by
  unfold getN at h
  by_cases hx : key x = 0
  · rw [if_pos hx] at h; exact h.elim
  rw [if_neg hx] at h
  obtain ⟨m, ⟨H, uH, Fm⟩, _⟩ := S.fr
  obtain ⟨mC, NC, hC⟩ := S.ns
  cases hc : look fr.cel (key x) with
  | some c =>
    rw [hc] at h
    obtain ⟨k1, k2, k3⟩ := ok.ce x c hx hc
    dsimp only at h
    obtain ⟨v, hv, h⟩ := onC_e h
    obtain ⟨v, rfl, h⟩ := onS_e h
    obtain ⟨O, o1, V, o2, o3⟩ := S.at hv
    cases V with
    | none => cases o3
    | some V =>
      cases o3
      exact ⟨k3, wpAny_loadName_cell ok.kd k1 k2 ⟨O, o1, o2⟩ ⟨rfl, h⟩⟩
  | none =>
    rw [hc] at h
    cases hl : mem fr.loc (key x) with
    | true =>
      rw [hl] at h
      obtain ⟨k1, k2⟩ := ok.lo x hx hc hl
      dsimp only at h
      obtain ⟨v, hv, h⟩ := onS_e h
      obtain ⟨V, v1, rfl⟩ := hC x v hx hv
      exact ⟨k2, wpAny_loadName_local ok.kd k1 NC v1 ⟨rfl, h⟩⟩
    | false =>
      rw [hl] at h
      dsimp only at h
      obtain ⟨v, hv, h⟩ := onS_e h
      obtain ⟨k1, k2, k3⟩ := ok.gk x v hx hc hl hv
      refine ⟨k2, ?_⟩
      rw [loadName_read ok.kd k1]
      have Tg := (ok.gl ▸ ok.T.g.keeps (S.bs ok) : s.heap.Ns G.env.globals cf.mg)
      rcases k3 with ⟨V, n1, rfl⟩ | ⟨n1, n2, V, n3, rfl⟩
      · exact loadGlobal_global Tg (mg_of ok.X ok.T.g n1) ⟨rfl, h⟩
      · exact loadGlobal_builtin Tg (mg_none_of ok.X ok.T.g n1) (ok.bu ▸ ok.T.b.keeps (S.bs ok) : s.heap.Ns G.env.builtins cf.mb) ((ok.T.builtins x n2).trans n3) ⟨rfl, h⟩
theorem sLoad {x : Str} {Q : PV → Prop} {E : Value → Shared → Prop} (ok : Ok cf D G fr) (S : Sim G F σ e s.heap) (h : getN fr (key x) e σ Q) :
    (x == ("__debug__" : Str)) = false ∧ wpAny (model prog w) G.A (loadName G.env x) (fun V s' => s' = s ∧ Q (er V)) E s := sLoadA ok S h
theorem sStoreA {A : Around} {x : Str} {V : Value} {Q : En → St → Prop} {E : Value → Shared → Prop} (ok : Ok cf D G fr) (S : Sim G F σ e s.heap) (h : setN fr (key x) (er V) e σ Q) :
    wpAny (model prog w) A (storeName G.env x V) (fun _ s' => ∃ h' tk e' σ', s' = { s with heap := h', toks := tk } ∧ Sim G F σ' e' h' ∧ Q e' σ') E s := by
  unfold setN at h
  by_cases hx : key x = 0
  · rw [if_pos hx] at h; exact h.elim
  rw [if_neg hx] at h
  obtain ⟨mC, NC, hC⟩ := S.ns
  cases hc : look fr.cel (key x) with
  | some c =>
    rw [hc] at h
    obtain ⟨k1, k2, k3⟩ := ok.ce x c hx hc
    dsimp only at h
    obtain ⟨v, hv, h⟩ := onC_e h
    obtain ⟨O, o1, V', o2, o3⟩ := S.at hv
    refine wpAny_storeName_cell ok.kd k1 k2 ⟨O, o1, o2⟩ fun h' hi hs => ?_
    obtain ⟨O', p1, p2⟩ := hi
    exact ⟨h', s.toks, e, _, rfl, S.turn (o' := .cel (some (er V))) hv rfl rfl hs p1 ⟨_, p2, rfl⟩, h⟩
  | none =>
    rw [hc] at h
    cases hl : mem fr.loc (key x) with
    | true =>
      rw [hl] at h
      obtain ⟨k1, k2⟩ := ok.lo x hx hc hl
      dsimp only at h
      refine wpAny_storeName_local k1 NC (fun h' hn hs => ⟨h', _, _, _, rfl, ?_, h⟩) (by rw [ok.kd]; rfl)
      refine S.set hx (fun m hm => ?_) hs
      have : m = mC := by
        obtain ⟨o, es, ep, a1, a2, a3, a4⟩ := hm
        obtain ⟨o', es', ep', b1, b2, b3, b4⟩ := NC
        rw [a1] at b1; cases b1
        rw [a2] at b2; cases b2
        funext y
        rw [← a4, b4]
      rw [this]; exact hn
    | false => rw [hl] at h; exact h.elim
theorem sStore {x : Str} {V : Value} {Q : En → St → Prop} {E : Value → Shared → Prop} (ok : Ok cf D G fr) (S : Sim G F σ e s.heap) (h : setN fr (key x) (er V) e σ Q) :
    wpAny (model prog w) G.A (storeName G.env x V) (fun _ s' => ∃ h' tk e' σ', s' = { s with heap := h', toks := tk } ∧ Sim G F σ' e' h' ∧ Q e' σ') E s := sStoreA ok S h
theorem sConst {c : Const} {n : Nat} {pos : Pos} {Q : PV → Prop} {E : Value → Shared → Prop} {env : Env} {A : Around} (h : constV c Q) :
    wpAny (model prog w) A (eval (.Constant c n pos) env) (fun V s' => ∃ tk, s' = { s with toks := tk } ∧ Q (er V)) E s := by
  cases c with
  | none => exact wpAny_Constant_none ⟨s.toks, rfl, h⟩
  | bool => exact Constant_bool ⟨s.toks, rfl, h⟩
  | int => exact wpAny_Constant_int ⟨_, rfl, h⟩
  | str => exact wpAny_Constant_str ⟨_, rfl, h⟩
  | bytes => exact Constant_bytes ⟨_, rfl, h⟩
  | _ => exact (h : False).elim
end

section
variable {G : Gd} {F : List (Addr × Obj)} {σ : St} {e : En} {h h' : Heap}
noncomputable def cov (G : Gd) (F : List (Addr × Obj)) (σ : St) (b : Addr) : Prop := (∃ o, σ b = some o ∧ isF o = false) ∨ (∃ p ∈ F, p.1 = b) ∨ (b = G.env.locals ∧ b ≠ G.L)
theorem Sim.back (S : Sim G F σ e h) {m : Str → Option Value} {σ' : St} {H : Heap} (uH : Up G.h₀ G.outer H) (Fm : Fr H G.L h m) (F' : Fr H G.L h' m) (W : Addr → Prop) (hk : ∀ b O, h.get? b = some O → cov G F σ b → ¬ W b → h'.get? b = some O)
    (hW : ∀ b, W b → ∃ o, σ b = some o ∧ isF o = false) (hσ : ∀ b, ¬ W b → σ' b = σ b) (hn : ∀ b o, W b → σ' b = some o → good G h' b o) : Sim G F σ' e h' := by
  obtain ⟨m', ⟨H', _, Fm'⟩, hm⟩ := S.fr
  obtain ⟨mC, NC, hC⟩ := S.ns
  have same : ∀ {h : Heap} {b : Addr} {m m' : Str → Option Value}, h.Ns b m → h.Ns b m' → m = m' := by
    rintro h b m m' ⟨o, es, ep, a1, a2, a3, a4⟩ ⟨o', es', ep', b1, b2, b3, b4⟩
    rw [a1] at b1; cases b1
    rw [a2] at b2; cases b2
    funext y
    rw [← a4, b4]
  have hC' : ¬ W G.env.locals := fun q => by
    obtain ⟨o, q1, q2⟩ := hW _ q
    exact ((S.ob _ o q1).own q2).choose_spec.2.2.1 rfl
  refine ⟨⟨m, ⟨H, uH, F'⟩, fun q => (same Fm.ns Fm'.ns).trans (hm q)⟩, ?_, S.ap, fun b o q => ?_, fun p hp => ?_⟩
  · by_cases hl : G.env.locals = G.L
    · exact ⟨m, hl ▸ F'.ns, same (hl ▸ NC) Fm.ns ▸ hC⟩
    · obtain ⟨o, es, ep, a1, a2⟩ := NC
      exact ⟨mC, ⟨o, es, ep, hk _ _ a1 (.inr (.inr ⟨rfl, hl⟩)) hC', a2⟩, hC⟩
  · by_cases hb : W b
    · exact hn b o hb q
    · rw [hσ b hb] at q
      cases hf : isF o with
      | true =>
        obtain ⟨O, h1, h2 | ⟨h2, _⟩⟩ := S.ob b o q
        · exact ⟨O, h1, .inl h2⟩
        · rw [hf] at h2; cases h2
      | false => exact (S.ob b o q).turn fun O k _ _ _ => hk _ _ k (.inl ⟨o, q, hf⟩) hb
  · obtain ⟨k1, k2, k3, k4, k5⟩ := S.fo p hp
    have hb : ¬ W p.1 := fun q => by
      obtain ⟨o, q1, q2⟩ := hW _ q
      rw [k5] at q1; cases q1
    exact ⟨hk _ _ k1 (.inr (.inl ⟨p, hp, rfl⟩)) hb, k2, k3, k4, (hσ _ hb).trans k5⟩
open Classical in
/-- the state as a ledger -/
theorem Sim.led0 (S : Sim G F σ e h) (a : Addr) : ∃ H, Up G.h₀ G.outer H ∧ ∃ m news, Fr H G.L h m ∧ News H G.L h news ∧ (∀ p ∈ news, p.1 ≠ a) ∧ ∀ b O, h.get? b = some O → cov G F σ b → b ≠ a → (b, O) ∈ news := by
  obtain ⟨m, ⟨H, uH, Fm⟩, hm⟩ := S.fr
  refine ⟨H, uH, m, (List.range h.objs.size).filterMap fun b => if cov G F σ b ∧ b ≠ a then (h.get? b).map (b, ·) else none, Fm, ?_, ?_, fun b O hO hc hb =>
    List.mem_filterMap.mpr ⟨b, List.mem_range.mpr (Heap.lt_size hO), by rw [if_pos ⟨hc, hb⟩, hO]; rfl⟩⟩
  all_goals
    intro p hp
    obtain ⟨b, _, hb⟩ := List.mem_filterMap.mp hp
    by_cases hc : cov G F σ b ∧ b ≠ a
    · rw [if_pos hc] at hb
      cases hg : h.get? b with
      | none => rw [hg] at hb; cases hb
      | some O =>
        rw [hg] at hb; cases hb
        first
        | exact hc.2
        | (refine ⟨hg, ?_⟩
           rcases hc.1 with ⟨o, ho, hf⟩ | ⟨p, h1, h2⟩ | ⟨h1, h2⟩
           · obtain ⟨O', k1, k2, k3, k4, k5⟩ := (S.ob b o ho).own hf
             exact ⟨k2, uH.none _ k4⟩
           · obtain ⟨k1, k2, k3, k4, k5⟩ := S.fo p h1
             exact ⟨h2 ▸ k2, uH.none _ (h2 ▸ k4)⟩
           · exact ⟨h2, uH.none _ (by rw [h1]; exact S.ap (h1 ▸ h2))⟩)
    · rw [if_neg hc] at hb; cases hb
theorem Sim.led (S : Sim G F σ e h) : ∃ H, Up G.h₀ G.outer H ∧ ∃ m news, Fr H G.L h m ∧ News H G.L h news ∧ (∀ b O, h.get? b = some O → cov G F σ b → (b, O) ∈ news) ∧
    ∀ h', Fr H G.L h' m → News H G.L h' news → Sim G F σ e h' := by
  obtain ⟨H, uH, m, news, Fm, N, _, hc⟩ := S.led0 h.objs.size
  have hc : ∀ b O, h.get? b = some O → cov G F σ b → (b, O) ∈ news := fun b O q c => hc b O q c (Nat.ne_of_lt (Heap.lt_size q))
  exact ⟨H, uH, m, news, Fm, N, hc,
    fun h' F' N' => S.back uH Fm F' (fun _ => False) (fun b O q c _ => (N' _ (hc b O q c)).1) (fun _ q => q.elim) (fun _ _ => rfl) (fun _ _ q => q.elim)⟩
theorem Sim.inN (S : Sim G F σ e h) {news : List (Addr × Obj)} (hc : ∀ b O, h.get? b = some O → cov G F σ b → (b, O) ∈ news) {b : Addr} {o : AO} (q : σ b = some o) (hf : isF o = false) : ∃ O, isO G o O ∧ (b, O) ∈ news := by
  obtain ⟨O, k1, _, _, _, k5⟩ := (S.ob b o q).own hf
  exact ⟨O, k5, hc _ _ k1 (.inl ⟨o, q, hf⟩)⟩
/-- an object of the state at the ledger's head -/
theorem Sim.ledAt (S : Sim G F σ e h) {a : Addr} {o : AO} (ha : σ a = some o) (hf : isF o = false) : ∃ H, Up G.h₀ G.outer H ∧ ∃ m O rest, Fr H G.L h m ∧ isO G o O ∧ News H G.L h ((a, O) :: rest) ∧ (∀ p ∈ rest, p.1 ≠ a) ∧
    (∀ b o', σ b = some o' → isF o' = false → b ≠ a → ∃ O', isO G o' O' ∧ (b, O') ∈ rest) ∧
    ∀ h' O' o', Fr H G.L h' m → News H G.L h' ((a, O') :: rest) → isO G o' O' → isF o' = false → Sim G F (upd σ a o') e h' := by
  obtain ⟨H, uH, m, rest, Fm, N, hr, hc⟩ := S.led0 a
  obtain ⟨O, g1, g2, g3, g4, g5⟩ := (S.ob a o ha).own hf
  refine ⟨H, uH, m, O, rest, Fm, g5, fun p hp => ?_, hr, fun b o' q hf' hb => ?_, fun h' O' o' F' N' i' f' => ?_⟩
  · rcases List.mem_cons.mp hp with rfl | hp
    · exact ⟨g1, g2, uH.none _ g4⟩
    · exact N p hp
  · obtain ⟨O, k1, _, _, _, k5⟩ := (S.ob b o' q).own hf'
    exact ⟨O, k5, hc _ _ k1 (.inl ⟨o', q, hf'⟩) hb⟩
  · refine S.back uH Fm F' (· = a) (fun b O q c hb => (N' _ (.tail _ (hc b O q c hb))).1) (fun b q => ⟨o, q ▸ ha, hf⟩) (fun b hb => if_neg hb) (fun b o'' hb q => ?_)
    subst hb
    have : o'' = o' := by unfold upd at q; rw [if_pos rfl] at q; cases q; rfl
    subst this
    exact ⟨O', i', .inr ⟨f', (N' _ (.head _)).1, g2, g3, g4⟩⟩
/-- a new object above a ledger -/
theorem Sim.addLt (S : Sim G F σ e h) {h₁ : Heap} (S₁ : Sim G F σ e h₁) {a : Addr} {o : AO} {O : Obj} {news : List (Addr × Obj)} {H : Heap} (uH : Up G.h₀ G.outer H) (hc : ∀ b O, h₁.get? b = some O → cov G F σ b → (b, O) ∈ news) (hlt : ∀ p ∈ news, p.1 < a) (N : News H G.L h ((a, O) :: news)) (hO : isO G o O) (hf : isF o = false) : σ a = none ∧ Sim G F (upd σ a o) e h := by
  obtain ⟨n1, n2, n3⟩ := N _ (.head _)
  have n3 := uH.fresh n3
  have ne : ∀ b O, h₁.get? b = some O → cov G F σ b → b ≠ a := fun b O q c => Nat.ne_of_lt (hlt _ (hc b O q c))
  refine ⟨?_, S.lay' (fun q => ?_) (fun p hp => ne _ _ (S₁.fo p hp).1 (.inr (.inl ⟨p, hp, rfl⟩))) n1 n2 n3 hO hf⟩
  · cases q : σ a with
    | none => rfl
    | some o' =>
      exfalso
      obtain ⟨O', i1, ⟨f1, _, f2⟩ | ⟨f1, f2, _⟩⟩ := S₁.ob a o' q
      · have f2 := f2 _ .refl
        rw [n3] at f2; cases f2
      · exact ne a O' f2 (.inl ⟨o', q, f1⟩) rfl
  · by_cases hl : G.env.locals = G.L
    · exact n2 (q.trans hl)
    · obtain ⟨mC, ⟨oC, es, ep, g, _⟩, hC⟩ := S₁.ns
      exact ne _ _ g (.inr (.inr ⟨rfl, hl⟩)) q.symm
/-- a new object of a ledger -/
theorem Sim.add {h₁ : Heap} (S₁ : Sim G F σ e h₁) (S : Sim G F σ e h) {a : Addr} {o : AO} {O : Obj} {news : List (Addr × Obj)} {H : Heap} (uH : Up G.h₀ G.outer H) (ha : h₁.objs.size ≤ a) (N : News H G.L h ((a, O) :: news)) (hO : isO G o O) (hf : isF o = false) : σ a = none ∧ Sim G F (upd σ a o) e h :=
  S₁.lay S ha (N _ (.head _)).1 (N _ (.head _)).2.1 (uH.fresh (N _ (.head _)).2.2) hO hf
end
/-- the value that a sign stands for -/
noncomputable def un (v : PV) (V : Value) : Prop := match v with
  | .none => V = .none | .bool b => V = .bool b | .int i => ∃ t, V = .int i t | .byt l => ∃ b t, V = .bytes b t ∧ KBw.bInts b = l | .str x => ∃ t, V = .str x t | .ref a => V = .ref a
  | .bt b => V = (match b with | .len => .builtin "len" | .range => .type "range" | .int => .type "int" | .list => .type "list" | .bytearray => .type "bytearray" | .bytes => .type "bytes")
  | .junk => True
theorem un_er (V : Value) : un (er V) V := by
  cases V with
  | builtin n => simp only [er]; split <;> simp_all [un]
  | type n => simp only [er]; repeat' split
              all_goals simp_all [un]
  | int i t => exact ⟨t, rfl⟩
  | str x t => exact ⟨t, rfl⟩
  | bytes b t => exact ⟨b, t, rfl, rfl⟩
  | _ => first | rfl | trivial
theorem un_of {V : Value} {v : PV} (h : er V = v) : un v V := h ▸ un_er V
theorem onI_er {V : Value} {P : Int → Prop} (h : onI (er V) P) : ∃ i t, V = .int i t ∧ P i := by
  have u := un_er V
  generalize er V = v at h u
  cases v <;> first | exact (h : False).elim | (obtain ⟨t, u⟩ := u; exact ⟨_, t, u, h⟩)
theorem onY_er {V : Value} {P : List Int → Prop} (h : onY (er V) P) : ∃ b t, V = .bytes b t ∧ P (KBw.bInts b) := by
  have u := un_er V
  generalize er V = v at h u
  cases v <;> first | exact (h : False).elim | (obtain ⟨b, t, u, rfl⟩ := u; exact ⟨b, t, u, h⟩)
theorem onR_er {V : Value} {P : Addr → Prop} (h : onR (er V) P) : ∃ a, V = .ref a ∧ P a := by
  have u := un_er V
  generalize er V = v at h u
  cases v <;> first | exact (h : False).elim | exact ⟨_, u, h⟩
theorem onB_er {V : Value} {P : Bool → Prop} (h : onB (er V) P) : ∃ b, V = .bool b ∧ P b := by
  have u := un_er V
  generalize er V = v at h u
  cases v <;> first | exact (h : False).elim | exact ⟨_, u, h⟩
theorem eqD (x y : Int) : (x == y) = decide (x = y) := by rw [Bool.eq_iff_iff, beq_iff_eq, decide_eq_true_eq]
theorem bits_small {a : Int} (h : small a) : Builtin.Int.intBits a ≤ 4096 := intBits_le_iff.mpr h
theorem noPylong {a b : Int} (h : small a) : Builtin.divisionGoesByPylong a b = false := by
  have h1 : a.natAbs.log2 < 4096 ∨ a = 0 := by
    by_cases h0 : a = 0
    · exact .inr h0
    · exact .inl ((Nat.log2_lt (by (first | exact Int.natCast_nonneg _ | lia | omega))).mpr h)
  unfold Builtin.divisionGoesByPylong
  rw [Bool.and_eq_false_iff]
  right
  rw [decide_eq_false_iff_not]
  rcases h1 with h1 | rfl
  · dsimp only
    (repeat' split) <;> (first | exact Int.natCast_nonneg _ | lia | omega)
  · simp
/-- an int among bytes -/
theorem gives_bytes_contains (b : Array UInt8) (i : Int) (t u : Tok) (h0 : 0 ≤ i) (h1 : i < 256) : Gives (Builtin.«bytes.__contains__» ⟨[.bytes b t, .int i u], []⟩) (.val (.bool (b.contains i.toNat.toUInt8))) := by
  refine .of_wp fun M A E s Q hq => ?_
  show wpAny M A (Builtin.Bytes.containsIn "bytes.__contains__" (.bytes b t) (.int i u) >>= fun r => _) _ E s
  refine wpAny_bind ?_
  unfold Builtin.Bytes.containsIn
  refine wpAny_bind (wpAny_of_eq (rfl : (asIndex (.int i u)).attempt = pure (.ok i)) ?_)
  refine wpAny_bind (wpAny_of_eq KBy.buffer_eq ?_)
  dsimp only
  rw [if_neg (by simp only [Bool.or_eq_true, decide_eq_true_eq]; (first | exact Int.natCast_nonneg _ | lia | omega))]
  exact wpAny_pure (wpAny_pure ⟨_, rfl, hq⟩)
theorem contains_ints {b : Array UInt8} {i : Int} (h0 : 0 ≤ i) (h1 : i < 256) : b.contains i.toNat.toUInt8 = (KBw.bInts b).contains i := by
  have e : ∀ l : List UInt8, l.contains i.toNat.toUInt8 = (l.map fun c => (c.toNat : Int)).contains i := by
    intro l
    induction l with
    | nil => rfl
    | cons c r ih =>
      simp only [List.map_cons, List.contains_cons, ih]
      congr 1
      rw [Bool.eq_iff_iff, beq_iff_eq, beq_iff_eq]
      constructor
      · intro q
        rw [← q]
        have : i.toNat.toUInt8.toNat = i.toNat := by show i.toNat % 256 = _; (first | exact Int.natCast_nonneg _ | lia | omega)
        (first | exact Int.natCast_nonneg _ | lia | omega)
      · intro q
        subst q
        apply UInt8.toNat.inj
        show (Int.toNat (c.toNat : Int)) % 256 = c.toNat
        have := c.toNat_lt
        (first | exact Int.natCast_nonneg _ | lia | omega)
  rw [← Array.contains_toList, e]
  rfl
theorem in_bytes {prog : Program} {w : World} {A : Around} {E : Value → Shared → Prop} {s : Shared} {b : Array UInt8} {t u : Tok} {i : Int} {o : List Int} {Q : Value → Shared → Prop} (hb : KBw.bInts b = o) (h0 : 0 ≤ i) (h1 : i < 256) (h : Q (.bool (o.contains i)) s) :
    wpAny (model prog w) A (compareOp .In (.int i u) (.bytes b t)) Q E s := by
  subst hb
  rw [← contains_ints h0 h1] at h
  exact in_gives (PySem.W.typeIs_bytes s b t) FB.slot_bytes_contains FB.entry_bytes_contains (FB.args_bytes_contains_2 _ _) (gives_bytes_contains b i t u h0 h1) h
theorem sz24 {n : Nat} (h : n ≤ 65536) : n ≤ sizeLine := Nat.le_trans h (Nat.le_of_ble_eq_true rfl)
theorem isL {h : Heap} {a : Addr} {its : Array Value} {n : Nat} (h1 : h.get? a = some (W.listOf its n)) : h.IsList a its := ⟨_, h1, rfl, n, rfl⟩
theorem intsAre : ∀ {Vs : List Value}, (Vs.map er).all isI = true → ∃ ns : List Int, IntsAre Vs ns ∧ Vs.map er = ns.map .int
  | [], _ => ⟨[], .nil, rfl⟩
  | V :: r, h => by
    simp only [List.map_cons, List.all_cons, Bool.and_eq_true] at h
    obtain ⟨ns, h1, h2⟩ := intsAre h.2
    cases q : er V with
    | int i =>
      obtain ⟨t, rfl⟩ := un_of q
      exact ⟨i :: ns, .cons _ _ h1, by rw [List.map_cons, List.map_cons, h2, q]⟩
    | _ => rw [q] at h; exact absurd h.1 Bool.false_ne_true
theorem map_int_inj {ns ms : List Int} (h : ns.map PV.int = ms.map PV.int) : ns = ms := (List.map_inj_right (f := PV.int) fun _ _ q => by injection q).mp h
theorem bInts_eq {b c : Array UInt8} : (b.toList == c.toList) = decide (KBw.bInts b = KBw.bInts c) := by
  rw [Bool.eq_iff_iff, beq_iff_eq, decide_eq_true_eq]
  exact ⟨fun h => congrArg (List.map fun x : UInt8 => (x.toNat : Int)) h, fun h => (List.map_inj_right (fun x y q => by
    have : x.toNat = y.toNat := by (first | exact Int.natCast_nonneg _ | lia | omega)
    exact UInt8.toNat.inj this)).mp h⟩
section
variable {prog : Program} {w : World} {A : Around} {G : Gd} {F : List (Addr × Obj)} {σ : St} {e : En} {s : Shared} {E : Value → Shared → Prop}
theorem sBin {op : Operator} {a b : Value} {Q : PV → St → Prop} (S : Sim G F σ e s.heap) (h : binop op (er a) (er b) σ Q) : wpAny (model prog w) A (binaryOp op a b) (Pst G F e Q s) E s := by
  cases op with
  | Add =>
    have u := un_er a
    unfold binop at h
    generalize er a = x at h u
    cases x with
    | int x =>
      obtain ⟨t, rfl⟩ := u; obtain ⟨y, v, rfl, h⟩ := onI_er h
      exact add_int (.here S h)
    | byt l =>
      obtain ⟨b', t, rfl, rfl⟩ := u; obtain ⟨c, v, rfl, k1, k2⟩ := onY_er h
      refine KBa.add_K rfl rfl (Nat.le_trans k1 (by decide)) fun t' k hk => .here S ?_
      rw [← hk] at k2
      exact k2
    | ref p =>
      cases u; obtain ⟨q, rfl, h⟩ := onR_er h
      obtain ⟨v, h1, h⟩ := onL_e h
      obtain ⟨w, h2, h⟩ := onL_e h
      obtain ⟨_, o1, Vs, n, rfl, rfl⟩ := S.at h1
      obtain ⟨_, p1, Ws, n', rfl, rfl⟩ := S.at h2
      obtain ⟨H, uH, m, news, Fm, N, _, re⟩ := S.led
      have hz : Vs.length + Ws.length ≤ sizeLine := by
        have := sz24 h.1
        rwa [List.length_map, List.length_map] at this
      refine add_lists (vs := Vs) (ws := Ws) (hsz := hz) Fm N (isL o1) (isL p1) fun h' F' N' => ?_
      have S' := re h' F' fun p hp => N' p (.tail _ hp)
      obtain ⟨k1, k2⟩ := S.add S' uH (o := .list (Vs.map er ++ Ws.map er)) (Nat.le_refl _) N' ⟨Vs ++ Ws, 0, rfl, List.map_append⟩ rfl
      exact .here k2 (h.2 _ k1)
    | _ => exact (h : False).elim
  | Sub =>
    obtain ⟨x, t, rfl, h⟩ := onI_er h; obtain ⟨y, u, rfl, h⟩ := onI_er h
    exact sub_int (.here S h)
  | Mult =>
    obtain ⟨x, t, rfl, h⟩ := onI_er h; obtain ⟨y, u, rfl, h⟩ := onI_er h
    exact mul_int (.here S h.2.2) (IntMulOk.of_le (bits_small h.1) (bits_small h.2.1) (by decide))
  | FloorDiv =>
    obtain ⟨x, t, rfl, h⟩ := onI_er h; obtain ⟨y, u, rfl, h⟩ := onI_er h
    exact floordiv_int (Int.ne_of_gt h.1) (.here S (by rw [Int.fdiv_eq_ediv_of_nonneg _ (Int.le_of_lt h.1)]; exact h.2.2)) (.inl (noPylong h.2.1))
  | Mod =>
    obtain ⟨x, t, rfl, h⟩ := onI_er h; obtain ⟨y, u, rfl, h⟩ := onI_er h
    exact mod_int (Int.ne_of_gt h.1) (.here S (by rw [Int.fmod_eq_emod_of_nonneg _ (Int.le_of_lt h.1)]; exact h.2))
  | Pow =>
    obtain ⟨x, t, rfl, h⟩ := onI_er h; obtain ⟨y, u, rfl, h⟩ := onI_er h
    obtain ⟨rfl, h1, h2, h3⟩ := h
    refine pow_int h1 ?_ (.here S h3)
    have : Builtin.Int.intBits 2 = 2 := by decide
    rw [this]
    (first | exact Int.natCast_nonneg _ | lia | omega)
  | LShift =>
    obtain ⟨x, t, rfl, h⟩ := onI_er h; obtain ⟨y, u, rfl, h⟩ := onI_er h
    obtain ⟨h0, h1, h2, h3⟩ := h
    have := bits_small h0
    exact lshift_int h1 (by (first | exact Int.natCast_nonneg _ | lia | omega)) (.here S h3)
  | RShift =>
    obtain ⟨x, t, rfl, h⟩ := onI_er h; obtain ⟨y, u, rfl, h⟩ := onI_er h
    refine rshift_int h.1 (.here S ?_)
    rw [Int.fdiv_eq_ediv_of_nonneg _ (Int.le_of_lt (Int.pow_pos (by decide)))]
    exact h.2
  | BitOr =>
    obtain ⟨x, t, rfl, h⟩ := onI_er h; obtain ⟨y, u, rfl, h⟩ := onI_er h
    exact or_int (.here S h)
  | BitAnd =>
    obtain ⟨x, t, rfl, h⟩ := onI_er h; obtain ⟨y, u, rfl, h⟩ := onI_er h
    exact and_int (.here S h)
  | _ => exact (h : False).elim
/-- two lists of the state -/
theorem sEqL {neg : Bool} {p q : Addr} {Q : Bool → Prop} (hu : A.units + 64 < cLine) (S : Sim G F σ e s.heap) (h : onL σ p fun v => onL σ q fun w => alike v w ∧ Q (neg ^^ decide (v = w))) :
    wpAny (model prog w) A (compareOp (if neg then .NotEq else .Eq) (.ref p) (.ref q)) (fun V s' => ∃ c, V = .bool c ∧ s' = s ∧ Q c) E s := by
  obtain ⟨v, h1, h⟩ := onL_e h
  obtain ⟨w, h2, h⟩ := onL_e h
  obtain ⟨_, o1, Vs, n, rfl, rfl⟩ := S.at h1
  obtain ⟨_, p1, Ws, n', rfl, rfl⟩ := S.at h2
  by_cases hl : (Vs.map er).length = (Ws.map er).length
  · obtain ⟨ns, i1, i2⟩ := intsAre (h.1 hl).1
    obtain ⟨ms, j1, j2⟩ := intsAre (h.1 hl).2
    have := h.2
    rw [i2, j2, show decide (ns.map PV.int = ms.map PV.int) = decide (ns = ms) from decide_eq_decide.mpr ⟨map_int_inj, fun q => q ▸ rfl⟩] at this
    cases neg with
    | false => exact eq_intsK (isL o1) i1 (isL p1) j1 hu ⟨_, rfl, rfl, by simpa using this⟩
    | true => exact ne_intsK (isL o1) i1 (isL p1) j1 hu ⟨_, rfl, rfl, by simpa using this⟩
  · have := h.2
    rw [decide_eq_false (fun q => hl (congrArg _ q))] at this
    have hs : (Vs.toArray.size != Ws.toArray.size) = true := by
      rw [List.size_toArray, List.size_toArray]
      simpa using hl
    cases neg with
    | false => exact EqBoolInt.of_rc (SeqAt.RcAt.lists_lengths (isL o1) (isL p1) hs (by (first | exact Int.natCast_nonneg _ | lia | omega))) ⟨_, rfl, rfl, this⟩
    | true => exact EqBoolInt.of_rcne (SeqAt.RcNeAt.lists_lengths (isL o1) (isL p1) hs (by (first | exact Int.natCast_nonneg _ | lia | omega))) ⟨_, rfl, rfl, this⟩
theorem sEq {neg : Bool} {a b : Value} {Q : Bool → Prop} (hu : A.units + 64 < cLine) (S : Sim G F σ e s.heap) (h : eqB neg (er a) (er b) σ Q) :
    wpAny (model prog w) A (compareOp (if neg then .NotEq else .Eq) a b) (fun V s' => ∃ c, V = .bool c ∧ s' = s ∧ Q c) E s := by
  have u := un_er a
  unfold eqB at h
  generalize er a = x at h u
  cases x with
  | int x =>
    obtain ⟨t, rfl⟩ := u; obtain ⟨y, v, rfl, k⟩ := onI_er h
    cases neg with
    | false => exact eq_int ⟨_, rfl, rfl, by rw [eqD]; simpa using k⟩
    | true => exact ne_int ⟨_, rfl, rfl, by unfold bne; rw [eqD]; simpa using k⟩
  | byt l =>
    obtain ⟨b', t, rfl, rfl⟩ := u; obtain ⟨c, v, rfl, rfl, k⟩ := onY_er h
    exact eq_bytes ⟨_, rfl, rfl, by rw [bInts_eq]; exact k⟩
  | bool x =>
    cases u; obtain ⟨y, rfl, h⟩ := onB_er h
    cases neg with
    | false => exact eq_bool ⟨_, rfl, rfl, by cases x <;> cases y <;> exact h⟩
    | true => exact ne_bool ⟨_, rfl, rfl, by cases x <;> cases y <;> exact h⟩
  | none =>
    cases u
    have v := un_er b
    dsimp only at h
    generalize er b = y at h v
    cases y with
    | none =>
      cases v
      obtain ⟨rfl, h⟩ := h
      exact EqNone.eq_none_none ⟨_, rfl, rfl, h⟩
    | ref q =>
      cases v
      obtain ⟨rfl, h⟩ := h
      obtain ⟨v, h1, h⟩ := onL_e h
      obtain ⟨_, o1, Vs, n, rfl, rfl⟩ := S.at h1
      exact EqBoolInt.of_rc (SeqAt.RcAt.none_list (isL o1) (by (first | exact Int.natCast_nonneg _ | lia | omega))) ⟨_, rfl, rfl, h⟩
    | _ => exact (h : False).elim
  | ref p =>
    cases u
    have v := un_er b
    dsimp only at h
    generalize er b = y at h v
    cases y with
    | none =>
      cases v
      obtain ⟨rfl, h⟩ := h
      obtain ⟨v, h1, h⟩ := onL_e h
      obtain ⟨_, o1, Vs, n, rfl, rfl⟩ := S.at h1
      exact EqBoolInt.of_rc (SeqAt.RcAt.list_none (isL o1) (by (first | exact Int.natCast_nonneg _ | lia | omega))) ⟨_, rfl, rfl, h⟩
    | ref q => cases v; exact sEqL hu S h
    | _ => exact (h : False).elim
  | _ => exact (h : False).elim
theorem sIs {neg : Bool} {a b : Value} {Q : Bool → Prop} (h : isB (er a) (er b) fun c => Q (neg ^^ c)) : wpAny (model prog w) A (compareOp (if neg then .IsNot else .Is) a b) (fun V s' => ∃ c, V = .bool c ∧ s' = s ∧ Q c) E s := by
  have v := un_er b
  unfold isB at h
  generalize er b = y at h v
  cases y with
  | none =>
    cases v
    have u := un_er a
    dsimp only at h
    generalize er a = x at h u
    cases x with
    | none =>
      cases u
      cases neg with
      | false => exact is_none_none ⟨_, rfl, rfl, h⟩
      | true => exact isnot_none_none ⟨_, rfl, rfl, h⟩
    | int i =>
      obtain ⟨t, rfl⟩ := u
      cases neg with
      | false => exact is_int_none ⟨_, rfl, rfl, h⟩
      | true => exact isnot_int_none ⟨_, rfl, rfl, h⟩
    | _ => exact (h : False).elim
  | _ => exact (h : False).elim
theorem sCmp {op : CmpOp} {a b : Value} {Q : Bool → Prop} (hu : A.units + 64 < cLine) (S : Sim G F σ e s.heap) (h : cmpB op (er a) (er b) σ Q) : wpAny (model prog w) A (compareOp op a b) (fun V s' => ∃ c, V = .bool c ∧ s' = s ∧ Q c) E s := by
  cases op with
  | Lt =>
    obtain ⟨x, t, rfl, h⟩ := onI_er h; obtain ⟨y, u, rfl, h⟩ := onI_er h
    exact lt_int ⟨_, rfl, rfl, h⟩
  | LtE =>
    obtain ⟨x, t, rfl, h⟩ := onI_er h; obtain ⟨y, u, rfl, h⟩ := onI_er h
    exact le_int ⟨_, rfl, rfl, h⟩
  | Gt =>
    obtain ⟨x, t, rfl, h⟩ := onI_er h; obtain ⟨y, u, rfl, h⟩ := onI_er h
    exact gt_int ⟨_, rfl, rfl, h⟩
  | GtE =>
    obtain ⟨x, t, rfl, h⟩ := onI_er h; obtain ⟨y, u, rfl, h⟩ := onI_er h
    exact ge_int ⟨_, rfl, rfl, h⟩
  | Eq => exact sEq (neg := false) hu S h
  | NotEq => exact sEq (neg := true) hu S h
  | Is => exact sIs (neg := false) (by simp only [Bool.false_bne]; exact h)
  | IsNot => exact sIs (neg := true) (by simp only [Bool.true_bne]; exact h)
  | In =>
    obtain ⟨x, t, rfl, h⟩ := onI_er h; obtain ⟨c, u, rfl, h⟩ := onY_er h
    exact in_bytes rfl h.1 h.2.1 ⟨_, rfl, rfl, h.2.2⟩
  | _ => exact (h : False).elim
end

theorem plain_sub {i : PySem.Expr} (h : isSlice i = false) (o v : Value) : subscripted i false o v = operate [o, v] (getItem o v) := by
  cases i <;> first | rfl | cases h
theorem map_er_get {Vs : List Value} {k : Nat} {v : PV} (h : (Vs.map er)[k]? = some v) : ∃ V, Vs[k]? = some V ∧ er V = v := by
  rw [List.getElem?_map] at h
  cases q : Vs[k]? with
  | none => rw [q] at h; cases h
  | some V => rw [q] at h; cases h; exact ⟨V, rfl, rfl⟩
theorem look_kvs {kvs : List (Str × Value)} {x : Str} (hk : ∀ p ∈ kvs, key p.1 ≠ 0) : look (kvs.map fun p => (key p.1, er p.2)) (key x) = (valueAt kvs x).map er := by
  induction kvs with
  | nil => rfl
  | cons p r ih =>
    unfold valueAt at ih ⊢
    rw [List.find?_cons, List.map_cons]
    simp only [look]
    by_cases q : p.1 = x
    · rw [if_pos (congrArg key q), decide_eq_true q]; rfl
    · rw [if_neg (fun e => q (key_inj (hk p (.head _)) e)), decide_eq_false q]
      exact ih fun p hp => hk p (.tail _ hp)
section
variable {w : World} {A : Around} {G : Gd} {F : List (Addr × Obj)} {σ : St} {e : En} {s : Shared} {E : Value → Shared → Prop}
theorem go_bytes (value : PySem.Expr) (b : Array UInt8) (t : Tok) (r : Value) : letTemporaryGo value (.bytes b t) r = pure () := by
  cases value <;> rfl
/-- a reading by a road of the built-ins, whatever is read from -/
theorem tailR {value slice : PySem.Expr} {o i : Value} {ops : List Value} {T id : String} {Q : Value → Shared → Prop} (hT : s.TypeIs o T)
    (hl : typeLookup (.type T) "__getitem__" = pure (some (.builtin id))) (h : wpAny (model G.prog G.w) A (getItem o i) Q E s)
    (hs : subscripted slice false o i = operate ops (getItem o i)) : wpAny (model G.prog G.w) A (subscriptTail value slice o i) Q E s := by
  unfold subscriptTail
  refine wpAny_bind ?_
  rw [getitemInPython_of_ne hT.not_modules]
  refine wpAny_bind (wpAny_specialOf hT hl ?_)
  have fin : wpAny (model G.prog G.w) A (subscripted slice false o i) (fun r s₃ => wpAny (model G.prog G.w) A (letTemporaryGo value o r >>= fun _ => pure r) Q E s₃) E s := by
    rw [hs]
    exact wpAny_operating (wpAny_mono h (fun r s₃ h₃ => wpAny_bind (wpAny_letTemporaryGo (wpAny_pure h₃))) fun _ _ x => x)
  exact wpAny_pure (wpAny_bind fin)
theorem lookI_kvs {kvs : List (Int × Value)} {x : Int} : lookI (kvs.map fun p => (p.1, er p.2)) x = (valueAt kvs x).map er := by
  induction kvs with
  | nil => rfl
  | cons p r ih =>
    unfold valueAt at ih ⊢
    rw [List.find?_cons, List.map_cons]
    simp only [lookI]
    by_cases q : p.1 = x
    · rw [if_pos q, decide_eq_true q]; rfl
    · rw [if_neg q, decide_eq_false q]
      exact ih
theorem seqIdx {i : Int} {n : Nat} (h0 : 0 ≤ i) (h1 : i.toNat < n) : seqIndex? i n = some i.toNat := by
  have h2 : i < n := by (first | exact Int.natCast_nonneg _ | lia | omega)
  simp [seqIndex?, h0, h2]
  (first | exact Int.natCast_nonneg _ | lia | omega)
theorem onS_map {v : Option Value} {Q : PV → Prop} (h : onS (v.map er) Q) : ∃ V, v = some V ∧ Q (er V) := by
  cases v with
  | none => exact h.elim
  | some V => exact ⟨V, rfl, h⟩
theorem onS_get {Vs : List Value} {k : Nat} {Q : PV → Prop} (h : onS (Vs.map er)[k]? Q) : ∃ V, Vs[k]? = some V ∧ Q (er V) := by
  rw [List.getElem?_map] at h
  exact onS_map h
theorem sSubs {value slice : PySem.Expr} {o i : Value} {Q : PV → Prop} (hp : isSlice slice = false) (S : Sim G F σ e s.heap) (h : subs (er o) (er i) σ Q) :
    wpAny (model G.prog G.w) A (subscriptTail value slice o i) (fun V s' => ∃ tk, s' = { s with toks := tk } ∧ Q (er V)) E s := by
  have u := un_er o
  unfold subs at h
  generalize er o = x at h u
  cases x with
  | byt l =>
    obtain ⟨b, t, rfl, rfl⟩ := u
    obtain ⟨i, ti, rfl, h0, h1, h2⟩ := onI_er h
    obtain ⟨k, hk, q⟩ := onS_e h2
    have hl : i.toNat < (KBw.bInts b).length := (List.getElem?_eq_some_iff.mp hk).1
    refine KBw.item_K rfl (Nat.le_trans h1 (by decide)) h0 (by (first | exact Int.natCast_nonneg _ | lia | omega)) (fun t' k' _ _ => ⟨k', rfl, ?_⟩) (plain_sub hp _ _) (go_bytes value b t)
    rw [List.getD_eq_getElem?_getD, hk]
    exact q
  | ref a =>
    cases u
    have v := un_er i
    dsimp only at h
    generalize er i = y at h v
    cases y with
    | int i =>
      obtain ⟨t, rfl⟩ := v
      obtain ⟨o, ho, h⟩ := onS_e h
      obtain ⟨O, hO, io⟩ := S.at ho
      cases o with
      | list vs =>
        obtain ⟨Vs, n, rfl, rfl⟩ := io
        obtain ⟨V, hV, q⟩ := onS_get h.2.2
        exact item_litK (isL hO) h.1 (Int.lt_trans h.2.1 (by decide)) hV ⟨s.toks, rfl, q⟩ (plain_sub hp _ _)
      | tup vs =>
        obtain ⟨Vs, rfl, rfl⟩ := io
        obtain ⟨V, hV, q⟩ := onS_get h.2.2
        have hl : i.toNat < Vs.length := (List.getElem?_eq_some_iff.mp hV).1
        exact item_tupleT ⟨_, hO, rfl, _, rfl⟩ (Int.le_trans (by decide) h.1) (Int.lt_trans h.2.1 (by decide)) (seqIdx h.1 hl) hV ⟨s.toks, rfl, q⟩ (plain_sub hp _ _)
      | ftup vs =>
        obtain ⟨Vs, rfl, rfl⟩ := io
        obtain ⟨V, hV, q⟩ := onS_get h.2.2
        have hl : i.toNat < Vs.length := (List.getElem?_eq_some_iff.mp hV).1
        exact item_tupleT ⟨_, hO, rfl, _, rfl⟩ (Int.le_trans (by decide) h.1) (Int.lt_trans h.2.1 (by decide)) (seqIdx h.1 hl) hV ⟨s.toks, rfl, q⟩ (plain_sub hp _ _)
      | idct l =>
        obtain ⟨kvs, hd, rfl⟩ := io
        have h : onS (lookI (kvs.map fun p => (p.1, er p.2)) i) Q := h
        rw [lookI_kvs] at h
        obtain ⟨V, hV, q⟩ := onS_map h
        have hD := Heap.dictOf_iff.mpr ⟨O, hO, hd⟩
        exact tailR hD.typeIs slot_dict_getitem.lookup (wpAny_getItem_of (intKind_is _ _ _ _) hD.mapOf hV ⟨_, rfl, q⟩) (plain_sub hp _ _)
      | _ => exact (h : False).elim
    | str x =>
      obtain ⟨t, rfl⟩ := v
      obtain ⟨l, ho, h0, h⟩ := onD_e h
      obtain ⟨O, hO, kvs, hd, hk, rfl⟩ := S.at ho
      rw [look_kvs hk] at h
      obtain ⟨V, hV, q⟩ := onS_map h
      have hD := Heap.dictOf_iff.mpr ⟨O, hO, hd⟩
      exact tailR hD.typeIs slot_dict_getitem.lookup (wpAny_getItem_of (strKind_is _ _ _ _) hD.mapOf hV ⟨_, rfl, q⟩) (plain_sub hp _ _)
    | _ => exact (h : False).elim
  | _ => exact (h : False).elim
end

theorem part_of {V : Value} {P : Option Int → Prop} (h : partB (er V) P) : ∃ o, IsPart V o ∧ (∀ i, o = some i → 0 ≤ i) ∧ P o := by
  have u := un_er V
  unfold partB at h
  generalize er V = v at h u
  cases v with
  | none => cases u; exact ⟨_, .none, (fun _ q => nomatch q), h⟩
  | int i => obtain ⟨t, rfl⟩ := u; exact ⟨_, .int i t, (fun _ q => by cases q; exact h.1), h.2⟩
  | _ => exact (h : False).elim
noncomputable def loC (lo : Option Int) (n : Nat) : Nat := lo.elim 0 fun i => min i.toNat n
noncomputable def hiC (hi : Option Int) (n : Nat) : Nat := hi.elim n fun i => min i.toNat n
theorem cut_eq {α : Type} (l : List α) (lo hi : Option Int) {a b : Nat} (ha : a = loC lo l.length) (hb : b = hiC hi l.length) : (l.drop a).take (b - a) = cut l lo hi := by
  subst ha hb
  unfold cut
  rw [← List.drop_take]
  have e1 : l.take (hiC hi l.length) = hi.elim l fun h => l.take h.toNat := by
    cases hi with
    | none => exact List.take_length
    | some i => show l.take (min _ _) = _; rw [← List.take_take, List.take_length]; rfl
  rw [e1]
  cases lo with
  | none => rfl
  | some i =>
    show List.drop (min _ _) _ = List.drop i.toNat _
    by_cases q : i.toNat ≤ l.length
    · rw [Nat.min_eq_left q]
    · have hl : (hi.elim l fun h => l.take h.toNat).length ≤ l.length := by
        cases hi with
        | none => exact Nat.le_refl _
        | some j => exact List.length_take_le' _ _
      rw [List.drop_of_length_le (by (first | exact Int.natCast_nonneg _ | lia | omega)), List.drop_of_length_le (by (first | exact Int.natCast_nonneg _ | lia | omega))]
theorem cut_map {α β : Type} (f : α → β) (l : List α) (lo hi : Option Int) : (cut l lo hi).map f = cut (l.map f) lo hi := by
  unfold cut
  rw [List.map_drop]
  cases hi with
  | none => rfl
  | some i => show List.drop _ (List.map f (List.take _ _)) = _; rw [List.map_take]; rfl
section
variable {w : World} {A : Around} {G : Gd} {F : List (Addr × Obj)} {σ : St} {e : En} {s : Shared} {E : Value → Shared → Prop}
theorem sliceO (l u st : Value) : ({ cls := .type "slice", data := .fields #[l, u, st] } : Obj).isFreed = false := rfl
theorem sSlice {value : PySem.Expr} {lo hi : Option PySem.Expr} {pos : Pos} {o l u : Value} {Q : PV → St → Prop} (S : Sim G F σ e s.heap) (h : partB (er l) fun a => partB (er u) fun b => slic (er o) a b σ Q) :
    wpAny (model G.prog G.w) A (subscriptTail value (.Slice lo hi none pos) o (.ref s.heap.objs.size)) (Pst G F e Q s) E { s with heap := s.heap.push { cls := .type "slice", data := .fields #[l, u, .none] } } := by
  obtain ⟨a, pa, ha, h1⟩ := part_of h
  obtain ⟨b, pb, hb, h2⟩ := part_of h1
  clear h h1
  rename slic _ _ _ _ _ => h
  have x := un_er o
  unfold slic at h
  generalize er o = v at h x
  cases v with
  | byt ks =>
    obtain ⟨bs, t, rfl, rfl⟩ := x
    obtain ⟨H, uH, m, news, Fm, N, _, re⟩ := S.led
    refine KBc.slice_K Fm N rfl pa pb (Nat.le_trans h.1 (by decide)) (fun h' t' k F' N' e' => ⟨h', k, σ, rfl, re h' F' N', ?_⟩) rfl (go_bytes value bs t)
    have q := h.2
    show Q (.byt _) σ
    rw [e', cut_eq _ a b]
    · exact q
    · cases a with
      | none => rfl
      | some i => have := ha i rfl; simp only [Option.elim_some, clipAt, loC]; rw [if_neg (by (first | exact Int.natCast_nonneg _ | lia | omega))]; (first | exact Int.natCast_nonneg _ | lia | omega)
    · cases b with
      | none => rfl
      | some i => have := hb i rfl; simp only [Option.elim_some, clipAt, hiC]; rw [if_neg (by (first | exact Int.natCast_nonneg _ | lia | omega))]; (first | exact Int.natCast_nonneg _ | lia | omega)
  | ref p =>
    cases x
    obtain ⟨o, ho, h⟩ := onS_e h
    obtain ⟨O, hO, io⟩ := S.at ho
    have go : ∀ {Vs : List Value}, s.heap.IsList p Vs.toArray → Vs.length ≤ 65536 → new σ (.list (cut (Vs.map er) a b)) Q →
        wpAny (model G.prog G.w) A (subscriptTail value (.Slice lo hi none pos) (.ref p) (.ref s.heap.objs.size)) (Pst G F e Q s) E { s with heap := s.heap.push { cls := .type "slice", data := .fields #[l, u, .none] } } := fun {Vs} hl hz hq => by
      have hl' : (s.heap.push { cls := .type "slice", data := .fields #[l, u, .none] }).IsList p Vs.toArray := hl.at fun o q => Heap.get?_push_of_some _ q
      refine tailR hl'.typeIs slot_list_getitem.lookup (wpAny_getItem_list_slice (st := none) hl' (Heap.IsSliceOf.new _ _ _ _) pa pb .none (by decide) ?_ (sz24 (by rw [List.size_toArray]; exact hz))) rfl
      have S1 := S.grow (h' := s.heap.push { cls := .type "slice", data := .fields #[l, u, .none] }) fun b o q => Heap.get?_push_of_some _ q
      have he : slicePick Vs.toArray a b none = (cut Vs a b).toArray := by
        rw [kms_pick_eq]
        unfold kms_pick
        rw [cut_eq _ a b]
        · cases a with
          | none => rfl
          | some i => have := ha i rfl; simp only [kms_lo]; rw [if_neg (by (first | exact Int.natCast_nonneg _ | lia | omega))]; rfl
        · cases b with
          | none => rfl
          | some i => have := hb i rfl; simp only [kms_hi]; rw [if_neg (by (first | exact Int.natCast_nonneg _ | lia | omega))]; rfl
      obtain ⟨k1, k2⟩ := S1.new (o := .list (cut (Vs.map er) a b)) (O := W.listOf (slicePick Vs.toArray a b none) 0) ⟨cut Vs a b, 0, by rw [he], cut_map _ _ _ _⟩ rfl rfl
      exact ⟨_, s.toks, _, rfl, k2, hq _ k1⟩
    cases o with
    | list vs =>
      obtain ⟨Vs, n, rfl, rfl⟩ := io
      exact go (isL hO) (by have := h.1; rwa [List.length_map] at this) h.2
    | flist vs =>
      obtain ⟨h1, Vs, n, h2, rfl⟩ := io
      exact go ⟨O, hO, h1, n, h2⟩ (by have := h.1; rwa [List.length_map] at this) h.2
    | _ => exact (h : False).elim
  | _ => exact (h : False).elim
/-- the list turned about -/
theorem sRev {value : PySem.Expr} {lo hi : Option PySem.Expr} {y : PySem.Expr} {pos : Pos} {o st : Value} {Q : PV → St → Prop} (S : Sim G F σ e s.heap) (hst : IsPart st (some (-1))) (h : onR (er o) fun a => onL σ a fun vs => vs.length ≤ 65536 ∧ new σ (.list vs.reverse) Q) :
    wpAny (model G.prog G.w) A (subscriptTail value (.Slice lo hi (some y) pos) o (.ref s.heap.objs.size)) (Pst G F e Q s) E { s with heap := s.heap.push { cls := .type "slice", data := .fields #[.none, .none, st] } } := by
  obtain ⟨p, rfl, h⟩ := onR_er h
  obtain ⟨vs, ho, hz, hq⟩ := onL_e h
  obtain ⟨_, hO, Vs, n, rfl, rfl⟩ := S.at ho
  have hl' : (s.heap.push { cls := .type "slice", data := .fields #[.none, .none, st] }).IsList p Vs.toArray := (isL hO).at fun o q => Heap.get?_push_of_some _ q
  refine tailR hl'.typeIs slot_list_getitem.lookup (wpAny_getItem_list_slice (st := some (-1)) hl' (Heap.IsSliceOf.new _ _ _ _) .none .none hst (by decide) ?_ (sz24 (by rw [List.size_toArray]; rwa [List.length_map] at hz))) rfl
  have S1 := S.grow (h' := s.heap.push { cls := .type "slice", data := .fields #[.none, .none, st] }) fun b o q => Heap.get?_push_of_some _ q
  obtain ⟨k1, k2⟩ := S1.new (o := .list (Vs.map er).reverse) (O := W.listOf (slicePick Vs.toArray none none (some (-1))) 0) ⟨Vs.reverse, 0, by rw [krv_pick], List.map_reverse⟩ rfl rfl
  exact ⟨_, s.toks, _, rfl, k2, hq _ k1⟩
end

theorem on0_e {vs : List Value} {P : Prop} (h : on0 (vs.map er) P) : vs = [] ∧ P := by
  cases vs with
  | nil => exact ⟨rfl, h⟩
  | cons v r => exact (h : False).elim
theorem on1_e {vs : List Value} {P : PV → Prop} (h : on1 (vs.map er) P) : ∃ V, vs = [V] ∧ P (er V) := by
  cases vs with
  | nil => exact (h : False).elim
  | cons v r =>
    obtain ⟨rfl, q⟩ := on0_e (vs := r) h
    exact ⟨v, rfl, q⟩
theorem onA_e {σ : St} {a : Addr} {P : List Int → Prop} (h : onA σ a P) : ∃ l, σ a = some (.ba l) ∧ P l := by
  obtain ⟨o, ho, h⟩ := onS_e h
  cases o <;> first | exact (h : False).elim | exact ⟨_, ho, h⟩
theorem allInts : ∀ {Vs : List Value} {l : List Int}, allOf intOf (Vs.map er) = some l → IntsAre Vs l
  | [], l, h => by cases h; exact .nil
  | V :: r, l, h => by
    simp only [List.map_cons, allOf] at h
    have u := un_er V
    generalize er V = v at h u
    cases v with
    | int i =>
      obtain ⟨t, rfl⟩ := u
      simp only [intOf, Option.bind_some] at h
      cases q : allOf intOf (r.map er) with
      | none => rw [q] at h; cases h
      | some l' => rw [q] at h; cases h; exact .cons _ _ (allInts q)
    | _ => exact absurd h (by intro q; cases q)
section
variable {w : World} {A : Around} {G : Gd} {F : List (Addr × Obj)} {σ : St} {e : En} {s : Shared} {E : Value → Shared → Prop}
theorem sLen {V : Value} {Q : PV → St → Prop} (S : Sim G F σ e s.heap) (h : btV true .len [er V] σ Q) : wpAny (model G.prog G.w) A (call (.builtin "len") [V]) (Pst G F e Q s) E s := by
  have u := un_er V
  unfold btV on1 on0 at h
  dsimp only at h
  generalize er V = v at h u
  cases v with
  | byt l =>
    obtain ⟨b, t, rfl, rfl⟩ := u
    exact KBw.len_K rfl (Nat.le_trans h.1 (by decide)) (.here S h.2)
  | ref a =>
    cases u
    obtain ⟨l, ho, hz, q⟩ := onL_e h
    obtain ⟨_, hO, Vs, n, rfl, rfl⟩ := S.at ho
    rw [List.length_map] at q hz
    refine len_list (isL hO) (by rw [List.size_toArray]; omega) (.here S ?_)
    rw [List.size_toArray]
    exact q
  | _ => exact (h : False).elim
theorem sRange {V : Value} {Q : PV → St → Prop} (S : Sim G F σ e s.heap) (h : onI (er V) fun n => 0 ≤ n ∧ n ≤ 65536 ∧ new σ (.rng n.toNat) Q) : wpAny (model G.prog G.w) A (call (.type "range") [V]) (Pst G F e Q s) E s := by
  obtain ⟨n, t, rfl, h0, h1, q⟩ := onI_er h
  refine call_range_1 ?_
  obtain ⟨k1, k2⟩ := S.new (o := .rng n.toNat) (O := { cls := .type "range", data := .fields #[.int 0 s.toks, .int n t, .int 1 (s.toks + 1)] }) ⟨_, t, _, by rw [Int.toNat_of_nonneg h0]⟩ rfl rfl
  exact .here k2 (q _ k1)
theorem sInt {V : Value} {Q : PV → St → Prop} (S : Sim G F σ e s.heap) (h : btV true .int [er V] σ Q) : wpAny (model G.prog G.w) A (call (.type "int") [V]) (Pst G F e Q s) E s := by
  have u := un_er V
  unfold btV on1 on0 at h
  dsimp only at h
  generalize er V = v at h u
  cases v with
  | bool b => cases u; exact call_int_bool (.here S h)
  | int i => obtain ⟨t, rfl⟩ := u; exact call_int_int (.here (tk := s.toks) S h)
  | _ => exact (h : False).elim
theorem sList {V : Value} {Q : PV → St → Prop} (S : Sim G F σ e s.heap) (h : onR (er V) fun a => onL σ a fun vs => vs.length ≤ 65536 ∧ new σ (.list vs) Q) : wpAny (model G.prog G.w) A (call (.type "list") [V]) (Pst G F e Q s) E s := by
  obtain ⟨a, rfl, h⟩ := onR_er h
  obtain ⟨l, ho, hz, q⟩ := onL_e h
  obtain ⟨H, uH, m, news, Fm, N, hin, re⟩ := S.led
  obtain ⟨_, ⟨Vs, n, rfl, rfl⟩, hm⟩ := S.inN hin ho rfl
  refine kup_listOf Fm N hm rfl (fun D c h' F' N' hd => ?_) (sz24 (by rwa [List.length_map] at hz))
  have S' := re h' F' fun p hp => N' p (.tail _ hp)
  obtain ⟨k1, k2⟩ := S'.addLt S uH (o := .list (Vs.map er)) hin hd N' ⟨Vs, c, rfl, rfl⟩ rfl
  exact .here k2 (q _ k1)
theorem sBytesL {V : Value} {a : Addr} {vs : List PV} {Q : PV → St → Prop} (hh : A.handled = none) (S : Sim G F σ e s.heap) (ho : σ a = some (.list vs)) (h : onS (allOf intOf vs) fun l => l.length ≤ 65536 ∧ (∀ x ∈ l, 0 ≤ x ∧ x < 256) ∧ Q (.byt l) σ) :
    wpAny (model G.prog G.w) A (call (.type "bytes") [.ref a]) (Pst G F e Q s) E s := by
  obtain ⟨H, uH, m, news, Fm, N, hin, re⟩ := S.led
  obtain ⟨_, hO, Vs, n, rfl, rfl⟩ := S.at ho
  obtain ⟨l, hl, h1, h2, q⟩ := onS_e h
  have hi := allInts hl
  refine KBa.make_K Fm N hh (isL hO) hi (fun x hx => h2 x hx) (Nat.le_trans h1 (by decide)) fun h' t' k F' N' hin => ⟨h', k, σ, rfl, re h' F' N', ?_⟩
  show Q (.byt (KBw.bInts (byteArr l))) σ
  rw [KBa.ints_make hin]
  exact q
end

noncomputable def idM (k : Mt) : String := match k with
  | .lapp => "list.append" | .lext => "list.extend" | .lpop => "list.pop" | .bapp => "bytearray.append" | .bext => "bytearray.extend" | .join => "bytes.join" | .index => "bytes.index"
theorem plainAttrs_bytearray : PlainAttrs "bytearray" :=
  ⟨⟨"bytearray.__getattribute__", by rw [typeLookup_type, builtinLookup_eq_fast]; kernel_rfl, by decide +kernel⟩, by rw [typeLookup_type, builtinLookup_eq_fast]; kernel_rfl⟩
theorem slot_bapp : Slot "bytearray" "append" "bytearray.append" :=
  .of (owner := "bytearray") (n := "append") (by rw [typeLookup_type, builtinLookup_eq_fast]; kernel_rfl) (by decide +kernel) (by decide +kernel) (by decide +kernel)
    (by first | exact .inl (by decide +kernel) | exact .inr (by decide +kernel)) (by rw [isSubtype_type]; kernel_rfl)
theorem slot_bext : Slot "bytearray" "extend" "bytearray.extend" :=
  .of (owner := "bytearray") (n := "extend") (by rw [typeLookup_type, builtinLookup_eq_fast]; kernel_rfl) (by decide +kernel) (by decide +kernel) (by decide +kernel)
    (by first | exact .inl (by decide +kernel) | exact .inr (by decide +kernel)) (by rw [isSubtype_type]; kernel_rfl)
theorem slot_join : Slot "bytes" "join" "bytes.join" :=
  .of (owner := "bytes") (n := "join") (by rw [typeLookup_type, builtinLookup_eq_fast]; kernel_rfl) (by decide +kernel) (by decide +kernel) (by decide +kernel)
    (by first | exact .inl (by decide +kernel) | exact .inr (by decide +kernel)) (by rw [isSubtype_type]; kernel_rfl)
theorem slot_index : Slot "bytes" "index" "bytes.index" :=
  .of (owner := "bytes") (n := "index") (by rw [typeLookup_type, builtinLookup_eq_fast]; kernel_rfl) (by decide +kernel) (by decide +kernel) (by decide +kernel)
    (by first | exact .inl (by decide +kernel) | exact .inr (by decide +kernel)) (by rw [isSubtype_type]; kernel_rfl)
theorem type_bapp : typeOf (.builtin "bytearray.append") = pure (.type "method_descriptor") := by show builtinType _ = _; rw [builtinType_eq_fast]; kernel_rfl
theorem type_bext : typeOf (.builtin "bytearray.extend") = pure (.type "method_descriptor") := by show builtinType _ = _; rw [builtinType_eq_fast]; kernel_rfl
theorem type_join : typeOf (.builtin "bytes.join") = pure (.type "method_descriptor") := by show builtinType _ = _; rw [builtinType_eq_fast]; kernel_rfl
theorem type_index : typeOf (.builtin "bytes.index") = pure (.type "method_descriptor") := by show builtinType _ = _; rw [builtinType_eq_fast]; kernel_rfl
theorem key_is {x : Str} {n : Str} {k : Nat} (h : key x = k) (hk : key n = k) (h0 : k ≠ 0) : x = n := key_inj (by rw [h]; exact h0) (h.trans hk.symm)
section
variable {w : World} {A : Around} {G : Gd} {F : List (Addr × Obj)} {σ : St} {e : En} {s : Shared} {E : Value → Shared → Prop}
theorem sGet {V : Value} {name : Str} {pl : Sem Bool} {P : Mt → Prop} (S : Sim G F σ e s.heap) (h : kindM (er V) (key name) σ P) :
    wpAny (model G.prog G.w) A (getMethod V name pl) (fun fx s' => s' = s ∧ ∃ k, fx = (.builtin (idM k), [V]) ∧ P k) E s := by
  have u := un_er V
  unfold kindM at h
  generalize hk : key name = k at h
  generalize er V = v at h u
  cases v with
  | byt l =>
    obtain ⟨b, t, rfl, rfl⟩ := u
    dsimp only at h
    split at h
    · rename_i q
      cases key_is (n := "join") (hk.trans q) (by decide +kernel) (by decide)
      exact getMethod_builtin (typeIs_bytes s b t) FB.plainAttrs_bytes slot_join type_join (fun _ q => nomatch q) ⟨rfl, _, rfl, h⟩
    · split at h
      · rename_i q
        cases key_is (n := "index") (hk.trans q) (by decide +kernel) (by decide)
        exact getMethod_builtin (typeIs_bytes s b t) FB.plainAttrs_bytes slot_index type_index (fun _ q => nomatch q) ⟨rfl, _, rfl, h⟩
      · exact h.elim
  | ref a =>
    cases u
    replace h := onS_e h
    obtain ⟨o, ho, h⟩ := h
    obtain ⟨O, hO, io⟩ := S.at ho
    cases o with
    | list vs =>
      obtain ⟨Vs, n, rfl, rfl⟩ := io
      have hd : ∀ b, Value.ref a = .ref b → ∃ o, s.heap.get? b = some o ∧ o.dict = none := fun b q => by cases q; exact ⟨_, hO, rfl⟩
      dsimp only at h
      split at h
      · rename_i q
        cases key_is (n := "append") (hk.trans q) (by decide +kernel) (by decide)
        exact getMethod_builtin (isL hO).typeIs PySem.F.plainAttrs_list PySem.F.slot_list_append PySem.F.type_list_append hd ⟨rfl, _, rfl, h⟩
      · split at h
        · rename_i q
          cases key_is (n := "extend") (hk.trans q) (by decide +kernel) (by decide)
          exact getMethod_builtin (isL hO).typeIs PySem.F.plainAttrs_list PySem.F.slot_list_extend PySem.F.type_list_extend hd ⟨rfl, _, rfl, h⟩
        · split at h
          · rename_i q
            cases key_is (n := "pop") (hk.trans q) (by decide +kernel) (by decide)
            exact getMethod_builtin (isL hO).typeIs PySem.F.plainAttrs_list PySem.F.slot_list_pop PySem.F.type_list_pop hd ⟨rfl, _, rfl, h⟩
          · exact h.elim
    | ba l =>
      obtain ⟨b, rfl, rfl⟩ := io
      have hd : ∀ b, Value.ref a = .ref b → ∃ o, s.heap.get? b = some o ∧ o.dict = none := fun b q => by cases q; exact ⟨_, hO, rfl⟩
      have hT : s.TypeIs (.ref a) "bytearray" := ⟨_, hO, rfl⟩
      dsimp only at h
      split at h
      · rename_i q
        cases key_is (n := "append") (hk.trans q) (by decide +kernel) (by decide)
        exact getMethod_builtin hT plainAttrs_bytearray slot_bapp type_bapp hd ⟨rfl, _, rfl, h⟩
      · split at h
        · rename_i q
          cases key_is (n := "extend") (hk.trans q) (by decide +kernel) (by decide)
          exact getMethod_builtin hT plainAttrs_bytearray slot_bext type_bext hd ⟨rfl, _, rfl, h⟩
        · exact h.elim
    | _ => exact (h : False).elim
  | _ => exact (h : False).elim
theorem sLapp {V : Value} {vs : List Value} {cl : Bool} {Q : PV → St → Prop} (S : Sim G F σ e s.heap) (h : methV cl .lapp (er V) (vs.map er) σ Q) : wpAny (model G.prog G.w) A (call (.builtin "list.append") (V :: vs)) (Pst G F e Q s) E s := by
  obtain ⟨a, rfl, h⟩ := onR_er h
  obtain ⟨W, rfl, h⟩ := on1_e h
  obtain ⟨l, ho, hz, q⟩ := onL_e h
  obtain ⟨H, uH, m, O, rest, Fm, ⟨Vs, n, rfl, rfl⟩, N, ne, _, re⟩ := S.ledAt ho rfl
  refine append_K Fm N (.head ne) (fun h' F' N' => ?_) (by rw [List.size_toArray]; exact sz24 (by rwa [List.length_map] at hz))
  exact ⟨h', s.toks, _, rfl, re h' _ (.list (Vs.map er ++ [er W])) F' N' ⟨Vs ++ [W], n + 1, by rw [List.push_toArray], by rw [List.map_append]; rfl⟩ rfl, q⟩
theorem sLext {V : Value} {vs : List Value} {cl : Bool} {Q : PV → St → Prop} (S : Sim G F σ e s.heap) (h : methV cl .lext (er V) (vs.map er) σ Q) : wpAny (model G.prog G.w) A (call (.builtin "list.extend") (V :: vs)) (Pst G F e Q s) E s := by
  obtain ⟨a, rfl, h⟩ := onR_er h
  obtain ⟨W, rfl, h⟩ := on1_e h
  obtain ⟨b, rfl, hab, h⟩ := onR_er h
  obtain ⟨l, ho, h⟩ := onL_e h
  obtain ⟨r, ho', hz, q⟩ := onL_e h
  obtain ⟨H, uH, m, O, rest, Fm, ⟨Vs, n, rfl, rfl⟩, N, ne, hin, re⟩ := S.ledAt ho rfl
  obtain ⟨O', ⟨Ws, n', rfl, rfl⟩, hm⟩ := hin b _ ho' rfl (Ne.symm hab)
  rw [List.length_map, List.length_map] at hz
  have d : ¬(!Vs.toArray.isEmpty && Builtin.List.listTooLong (Vs.toArray.size + Ws.toArray.size)) = true := by
    rw [List.size_toArray, List.size_toArray]
    intro q
    have := (Bool.and_eq_true_iff.mp q).2
    revert this
    have hz' := sz24 hz
    unfold Builtin.List.listTooLong
    simp only [decide_eq_true_eq]
    (first | exact Int.natCast_nonneg _ | lia | omega)
  have z1 := sz24 (n := Vs.length) (by (first | exact Int.natCast_nonneg _ | lia | omega))
  have z2 := sz24 hz
  by_cases h0 : Ws = []
  · subst h0
    refine kxn_extend Fm N (.tail _ hm) rfl (.head ne) d z1 (by rw [List.size_toArray, List.size_toArray]; exact Nat.le_succ_of_le z2) (fun h' F' N' => ?_)
    exact ⟨h', s.toks, _, rfl, re h' _ (.list (Vs.map er ++ List.map er [])) F' N' ⟨Vs, n, rfl, by rw [List.map_nil, List.append_nil]⟩ rfl, q⟩
  · refine kl_extend Fm N (.tail _ hm) rfl (fun q => h0 (List.length_eq_zero_iff.mp q)) (.head ne) d z1 (by rw [List.size_toArray, List.size_toArray]; exact Nat.le_succ_of_le z2) (fun h' F' N' => ?_)
    exact ⟨h', s.toks, _, rfl, re h' _ (.list (Vs.map er ++ Ws.map er)) F' N' ⟨Vs ++ Ws, n + 1, rfl, List.map_append⟩ rfl, q⟩
theorem sLpop {V : Value} {vs : List Value} {cl : Bool} {Q : PV → St → Prop} (S : Sim G F σ e s.heap) (h : methV cl .lpop (er V) (vs.map er) σ Q) : wpAny (model G.prog G.w) A (call (.builtin "list.pop") (V :: vs)) (Pst G F e Q s) E s := by
  obtain ⟨a, rfl, h⟩ := onR_er h
  obtain ⟨rfl, h⟩ := on0_e h
  obtain ⟨l, ho, hz, hi, h⟩ := onL_e h
  obtain ⟨x, hx, q⟩ := onS_e h
  obtain ⟨H, uH, m, O, rest, Fm, ⟨Vs, n, rfl, rfl⟩, N, ne, _, re⟩ := S.ledAt ho rfl
  obtain ⟨ns, i1, i2⟩ := intsAre hi
  rw [List.length_map] at hz
  have hne : ns ≠ [] := fun q => by rw [i2, q] at hx; cases hx
  refine kpa_pop Fm N (.head ne) i1 (by rw [i1.length]; exact List.length_pos_iff.mpr hne) (sz24 hz) (fun h' t F' N' _ => ?_)
  refine ⟨h', s.toks, _, rfl, re h' _ (.list (Vs.map er).dropLast) F' N' ⟨Vs.dropLast, n + 1, rfl, List.map_dropLast⟩ rfl, ?_⟩
  have : x = er (.int (ns.getLastD 0) t) := by
    rw [i2, List.getLast?_map, List.getLast?_eq_some_getLast hne] at hx
    cases hx
    show _ = PV.int _
    rw [List.getLastD_eq_getLast?, List.getLast?_eq_some_getLast hne]
    rfl
  rw [← this]
  exact q
end

section
open PySem.Builtin PySem.Builtin.Bytes
theorem entry_ba_new : entryFor table "bytearray.__new__" = some Builtin.«list.__new__» := entryFor_alias (id' := "list.__new__") (by rw [fastTable_eq_tree]; kernel_rfl) rfl (by decide +kernel) (by rw [fastTable_eq_tree]; kernel_rfl)
theorem entry_ba_init : entryFor table "bytearray.__init__" = some Builtin.«bytearray.__init__» := entryFor_of_tree (by kernel_rfl)
theorem entry_ba_app : entryFor table "bytearray.append" = some Builtin.«bytearray.append» := entryFor_of_tree (by kernel_rfl)
theorem entry_ba_ext : entryFor table "bytearray.extend" = some Builtin.«bytearray.extend» := entryFor_of_tree (by kernel_rfl)
theorem plain_ba_new : plainId "bytearray.__new__" = true := by decide +kernel
theorem plain_ba_init : plainId "bytearray.__init__" = true := by decide +kernel
theorem newCall_ba : checkBuiltinCall "bytearray.__new__" ⟨[.type "bytearray"], []⟩ = pure () := by kernel_rfl
theorem typeCall_ba : checkTypeCall "bytearray" ⟨[], []⟩ = pure () := by kernel_rfl
theorem args_ba_init (v : Value) : argsOk "bytearray.__init__" ⟨[v], []⟩ := by unfold argsOk; kernel_rfl
theorem args_ba_app (v x : Value) : argsOk "bytearray.append" ⟨[v, x], []⟩ := by unfold argsOk; kernel_rfl
theorem args_ba_ext (v x : Value) : argsOk "bytearray.extend" ⟨[v, x], []⟩ := by unfold argsOk; kernel_rfl
theorem slot_ba_init : Slot "bytearray" "__init__" "bytearray.__init__" :=
  .of (owner := "bytearray") (n := "__init__") (by rw [typeLookup_type, builtinLookup_eq_fast]; kernel_rfl) (by decide +kernel) (by decide +kernel) (by decide +kernel)
    (by first | exact .inl (by decide +kernel) | exact .inr (by decide +kernel)) (by rw [isSubtype_type]; kernel_rfl)
theorem mro_ba : mroOf (.type "bytearray") = pure [.type "bytearray", .type "object"] := by rw [mroOf_type]; kernel_rfl
theorem lookup_ba_new : typeLookup (.type "bytearray") "__new__" = pure (some (.builtin "bytearray.__new__")) := by rw [typeLookup_type, builtinLookup_eq_fast]; kernel_rfl
theorem made_ba : Bind.madeBy (.type "bytearray") = pure (some "bytearray.__new__") := madeBy_type mro_ba lookup_ba_new (by decide +kernel)
theorem sub_ba : isSubtype (.type "bytearray") (.type "bytearray") = pure true := by rw [isSubtype_type]; kernel_rfl
set_option maxRecDepth 1000000 in
theorem owner_ba : ("bytearray.__new__".splitOn ".__new__").headD "" = "bytearray" := by simp +decide [String.splitOn, String.splitOnAux]
theorem tcall_ba : Builtin.«type.__call__» ⟨[.type "bytearray"], []⟩ = (do
  let obj ← holding [.builtin "bytearray.__new__"] (call (.builtin "bytearray.__new__") [.type "bytearray"] [])
  if !(← isInstance obj (.type "bytearray")) then rule "type.call.new-gave-other-type"; return ← ret obj
  match ← holding [obj] (callSpecial? obj "__init__" [] []) with
  | none => ret obj
  | some r =>
    if r != .none then
      rule "type.call.init-returned-value"
      raiseError "TypeError" s!"__init__() should return None, not '{← typeNameOf r}'"
    ret obj) := by
  unfold Builtin.«type.__call__»
  dsimp only
  rw [mro_ba, made_ba]
  kernel_rfl
theorem look_ba_rel : typeLookup (.type "bytearray") "__release_buffer__" = pure (some (.builtin "bytearray.__release_buffer__")) := by rw [typeLookup_type, builtinLookup_eq_fast]; kernel_rfl
theorem tail_ba_rel : (!("bytearray.__release_buffer__".endsWith ("." ++ "__release_buffer__"))) = false := by decide +kernel
theorem drop_ba_rel : "bytearray.__release_buffer__".dropRight ("__release_buffer__".length + 1) = "bytearray" := by decide +kernel
theorem init_ba (v : Value) : Builtin.«bytearray.__init__» ⟨[v], []⟩ = (do
  if ← ownRelease v then unsupported "bytearray.__init__:own-__release_buffer__-on-a-subclass"
  if ← exported v <||> (do return (← exportsOf v) > 0) then
    if !(← payload v).isEmpty then checkResize v
    unsupported "bytearray.__init__:exported"
  write v fun _ => #[]
  ret .none) := by
  unfold Builtin.«bytearray.__init__»
  kernel_rfl
theorem app_ba (v x : Value) : Builtin.«bytearray.append» ⟨[v, x], []⟩ = (do
  let c ← byteValue x
  checkResize v
  write v (·.push c)
  ret .none) := by
  unfold Builtin.«bytearray.append»
  kernel_rfl
theorem byteV {i : Int} {t : Tok} (h0 : 0 ≤ i) (h1 : i < 256) : byteValue (.int i t) = pure i.toNat.toUInt8 := by
  unfold byteValue
  show (if (decide (i < 0) || decide (i ≥ 256)) = true then _ else _) = _
  rw [if_neg (by simp only [Bool.or_eq_true, decide_eq_true_eq]; (first | exact Int.natCast_nonneg _ | lia | omega))]
noncomputable def baO (b : Array UInt8) : Obj := { cls := .type "bytearray", data := .bytearray b 0 }
section
variable {prog : Program} {w : World} {A : Around} {E : Value → Shared → Prop} {s : Shared}
theorem wOwnRel {a : Addr} {b : Array UInt8} {Q : Bool → Shared → Prop} (ho : s.heap.get? a = some (baO b)) (h : Q false s) : wpAny (model prog w) A (ownRelease (.ref a)) Q E s := by
  have hT : s.TypeIs (.ref a) "bytearray" := ⟨_, ho, rfl⟩
  unfold ownRelease slotIsOwn
  refine wpAny_bind (wpAny_bind (wpAny_specialOf hT look_ba_rel ?_))
  dsimp only
  rw [tail_ba_rel, drop_ba_rel]
  exact wpAny_isInstance hT sub_ba (wpAny_pure h)
theorem wExports {a : Addr} {b : Array UInt8} {Q : Nat → Shared → Prop} (ho : s.heap.get? a = some (baO b)) (h : Q 0 s) : wpAny (model prog w) A (exportsOf (.ref a)) Q E s := by
  unfold exportsOf
  exact wpAny_bind (wpAny_load ho (wpAny_pure h))
theorem wWrite {a : Addr} {b : Array UInt8} {f : Array UInt8 → Array UInt8} {Q : Unit → Shared → Prop} (ho : s.heap.get? a = some (baO b)) (hz : (f b).size ≤ sizeLine)
    (h : ∀ h', Heap.SameBut a s.heap h' → h'.get? a = some (baO (f b)) → Q () { s with heap := h' }) : wpAny (model prog w) A (write (.ref a) f) Q E s := by
  show wpAny _ _ (updateBytearray a f) _ _ _
  unfold updateBytearray
  refine wpAny_bind (wpAny_load ho ?_)
  show wpAny _ _ (update a (Obj.mapBytearray f) >>= fun _ => lookBehind a) _ _ _
  refine wpAny_bind (wpAny_update ho ?_)
  have hS₂ : (s.heap.update a (Obj.mapBytearray f)).get? a = some (baO (f b)) := Heap.get?_update_self (Obj.mapBytearray f) ho rfl
  refine wpAny_lookBehind hS₂ ?_ (h _ (Heap.SameBut.update ..) hS₂)
  show (if (f b).size > sizeLine then some "bytearray:memory" else none) = none
  rw [if_neg]
  (first | exact Int.natCast_nonneg _ | lia | omega)
theorem xResize {a : Addr} {b : Array UInt8} {Q : Unit → Shared → Prop} (hg : A.guards = some []) (ho : s.heap.get? a = some (baO b)) (h : Q () s) : wpC true (model prog w) A (checkResize (.ref a)) Q s := by
  unfold checkResize
  refine xBind (m := exported (.ref a) <||> _) ?_
  refine xBind (m := exported (.ref a)) (xExported hg ?_)
  refine xBind (xAny (wExports ho (xPure ?_)))
  exact xPure h
theorem xInit {a : Addr} {b : Array UInt8} {Q : Fin → Shared → Prop} (hg : A.guards = some []) (ho : s.heap.get? a = some (baO b))
    (h : ∀ h', Heap.SameBut a s.heap h' → h'.get? a = some (baO #[]) → Q (.done (.ret .none)) { s with heap := h' }) : wpC true (model prog w) A (Builtin.«bytearray.__init__» ⟨[.ref a], []⟩) Q s := by
  rw [init_ba]
  refine xBindAny (wOwnRel ho ?_)
  refine xBind (m := exported (.ref a) <||> _) ?_
  refine xBind (m := exported (.ref a)) (xExported hg ?_)
  refine xBind (xAny (wExports ho (xPure ?_)))
  refine xBindAny (wWrite ho (Nat.zero_le _) fun h' h1 h2 => xPure (h h' h1 h2))
theorem xCallB {cl : Bool} {id : String} {args : List Value} {b : Builtin} {Q : Value → Shared → Prop} (hq : plainId id = true) (hd : decOn (.builtin id ⟨args, []⟩) = false) (hb : entryFor table id = some b)
    (h : wpAny (model prog w) A.in1 (checkBuiltinCall id ⟨args, []⟩) (fun _ s₁ => wpC cl (model prog w) A.in1 (b ⟨args, []⟩) (fun fin s' => ∃ v, fin = .done (.ret v) ∧ Q v s') s₁) (fun _ _ => False) s) : wpC cl (model prog w) A (call (.builtin id) args) Q s := by
  refine xCall (codeC_of_tree rfl ?_)
  show wpC _ _ A.in1 (do checkBuiltinCall id ⟨args, []⟩; again (.builtin id ⟨args, []⟩)) _ s
  refine xBindAny (wpAny_mono h (fun _ s₁ h₁ => xPure (And.intro (plainId_quiet hq _) (codeC_of_tree hd ?_))) fun _ _ e => e)
  show wpC _ _ _ (match entryFor table id with | some b => b ⟨args, []⟩ | none => unsupported ((withoutEnding? id "#data").getD id)) _ s₁
  rw [hb, Around.under_plainId hq _]
  refine xMono h₁ fun fin s' h' => ?_
  obtain ⟨v, rfl, hv⟩ := h'
  exact ⟨v, rfl, hv⟩
theorem xSlotCall {cl : Bool} {T : String} {name : Str} {id : String} {self : Value} {rest : List Value} {b : Builtin} {Q : Value → Shared → Prop} (sl : Slot T name id) (hT : s.TypeIs self T) (ha : argsOk id ⟨self :: rest, []⟩) (hd : decOn (.builtin id ⟨self :: rest, []⟩) = false) (hb : entryFor table id = some b)
    (h : wpC cl (model prog w) A.in1 (b ⟨self :: rest, []⟩) (fun fin s' => ∃ v, fin = .done (.ret v) ∧ Q v s') s) : wpC cl (model prog w) A (call (.builtin id) (self :: rest)) Q s :=
  xCallB sl.plain hd hb (sl.check _ _ _ _ _ _ _ _ hT ha h)
theorem codeC_builtin {cl : Bool} {id : String} {args : Args} {b : Builtin} {R : Flow → Shared → Prop} (hd : decOn (.builtin id args) = false) (hb : entryFor table id = some b)
    (h : wpC cl (model prog w) (A.under (.builtin id args)) (b args) (fun fin s' => match fin with | .done f => R f s' | .again c' => c'.quiet = true ∧ codeC cl (model prog w) A c' R s') s) : codeC cl (model prog w) A (.builtin id args) R s := by
  refine codeC_of_tree hd ?_
  show wpC _ _ _ (match entryFor table id with | some b => b args | none => unsupported ((withoutEnding? id "#data").getD id)) _ s
  rw [hb]
  exact h
/-- a new one, made by its type -/
theorem wNewBA {Q : Value → Shared → Prop} (h : Q (.ref s.heap.objs.size) { s with heap := s.heap.push (baO #[]) }) : wpAny (model prog w) A (call (.builtin "bytearray.__new__") [.type "bytearray"]) Q E s := by
  refine wpAny_call (codeAny_of_tree ?_)
  show wpAny _ A.in1 (do checkBuiltinCall "bytearray.__new__" ⟨[.type "bytearray"], []⟩; again (.builtin "bytearray.__new__" ⟨[.type "bytearray"], []⟩)) _ _ s
  refine wpAny_bind (wpAny_of_eq newCall_ba (wpAny_pure ⟨plainId_quiet plain_ba_new _, codeAny_builtin_stack entry_ba_new rfl fun p st => ?_⟩))
  rw [Around.under_plainId plain_ba_new _]
  have hsub := sub_ba
  have hown := owner_ba
  obtain ⟨hp, g, d, tk, os⟩ := s
  simp only [hown]
  wp_walk
  exact h
theorem in_handled (A : Around) : A.in1.handled = A.handled := rfl
theorem decB {id : String} {args : Args} (h : decodersThatHold.contains id = false) : decOn (.builtin id args) = false := h
theorem xCallSpecial {cl : Bool} {T : String} {name : Str} {id : String} {a : Addr} {b : Builtin} {Q : Option Value → Shared → Prop} (sl : Slot T name id) (hT : s.TypeIs (.ref a) T) (ha : argsOk id ⟨[.ref a], []⟩) (hd : decodersThatHold.contains id = false) (hb : entryFor table id = some b)
    (h : wpC cl (model prog w) A.in1 (b ⟨[.ref a], []⟩) (fun fin s' => ∃ v, fin = .done (.ret v) ∧ Q (some v) s') s) : wpC cl (model prog w) A (callSpecial? (.ref a) name [] []) Q s := by
  unfold callSpecial?
  refine xBindAny (wpAny_specialOf hT sl.lookup ?_)
  dsimp only
  rw [sl.bind]
  show wpC _ _ _ (Sem.keep [.ref a] _) _ _
  refine xKeep (xBind (xPure ?_))
  refine xBind (xSlotCall sl hT ha (decB hd) hb ?_)
  refine xMono h fun fin s' h' => ?_
  obtain ⟨v, rfl, hv⟩ := h'
  exact ⟨v, rfl, xPure hv⟩
theorem xCallBA {Q : Value → Shared → Prop} (hg : A.guards = some []) (h : ∀ h', (∀ b o, s.heap.get? b = some o → h'.get? b = some o) → h'.get? s.heap.objs.size = some (baO #[]) → Q (.ref s.heap.objs.size) { s with heap := h' }) :
    wpC true (model prog w) A (call (.type "bytearray") []) Q s := by
  refine xCall (codeC_of_tree rfl ?_)
  show wpC _ _ _ (callAny (.type "bytearray") _) _ _
  refine xPure ⟨Code.quiet_builtin _ (by decide +kernel), codeC_builtin (decB (by decide +kernel)) F.entry_type_call ?_⟩
  rw [Around.under_plain (weight_type_call_type "bytearray" [] []) rfl, tcall_ba]
  refine xBindAny (wpAny_holding (wNewBA ?_))
  have ho : (s.heap.push (baO #[])).get? s.heap.objs.size = some (baO #[]) := Heap.get?_push_size _ rfl
  have hT : ({ s with heap := s.heap.push (baO #[]) } : Shared).TypeIs (.ref s.heap.objs.size) "bytearray" := ⟨_, ho, rfl⟩
  refine xBindAny (wpAny_isInstance hT sub_ba ?_)
  refine xBind (xHolding (xCallSpecial slot_ba_init hT (args_ba_init _) (by decide +kernel) entry_ba_init (xInit hg ho fun h' hs h1 => ?_)))
  refine ⟨.none, rfl, ?_⟩
  exact xPure ⟨_, rfl, h h' (fun b o e => hs.extBut b o (Nat.ne_of_lt (Heap.lt_size e)) (Heap.get?_push_of_some _ e)) h1⟩
theorem xAppendBA {a : Addr} {b : Array UInt8} {i : Int} {t : Tok} {Q : Value → Shared → Prop} (hg : A.guards = some []) (ho : s.heap.get? a = some (baO b)) (h0 : 0 ≤ i) (h1 : i < 256) (hz : b.size < sizeLine)
    (h : ∀ h', Heap.SameBut a s.heap h' → h'.get? a = some (baO (b.push i.toNat.toUInt8)) → Q .none { s with heap := h' }) : wpC true (model prog w) A (call (.builtin "bytearray.append") [.ref a, .int i t]) Q s := by
  refine xSlotCall slot_bapp (⟨_, ho, rfl⟩ : s.TypeIs (.ref a) "bytearray") (args_ba_app _ _) (decB (by decide +kernel)) entry_ba_app ?_
  rw [app_ba, byteV h0 h1]
  refine xBind (xPure (xBind (xResize hg ho (xBindAny (wWrite ho (by rw [Array.size_push]; (first | exact Int.natCast_nonneg _ | lia | omega)) fun h' hs h2 => ?_)))))
  exact xPure ⟨_, rfl, h h' hs h2⟩
end
end

section
open PySem.Builtin PySem.Builtin.Bytes
theorem look_ba_buf : typeLookup (.type "bytearray") "__buffer__" = pure (some (.builtin "bytearray.__buffer__")) := by rw [typeLookup_type, builtinLookup_eq_fast]; kernel_rfl
theorem look_ba_bytes : typeLookup (.type "bytearray") "__bytes__" = pure none := by rw [typeLookup_type, builtinLookup_eq_fast]; kernel_rfl
theorem look_ba_index : typeLookup (.type "bytearray") "__index__" = pure none := by rw [typeLookup_type, builtinLookup_eq_fast]; kernel_rfl
theorem tail_ba_buf : (!("bytearray.__buffer__".endsWith ("." ++ "__buffer__"))) = false := by decide +kernel
theorem drop_ba_buf : "bytearray.__buffer__".dropRight ("__buffer__".length + 1) = "bytearray" := by decide +kernel
theorem take_bytes {b : Array UInt8} {t : Tok} : takeBufferQuiet? "bytearray.extend" (.bytes b t) 0 = pure (some (b, none)) := by
  unfold takeBufferQuiet? takeBuffer?
  rw [KBy.special_eq KBy.look_buffer, KBy.own_buffer]
  rw [show ((0 : Int) == fullReadOnly) = false from by decide]
  rw [KBy.buffer_eq]
  kernel_rfl
theorem ext_ba (v : Value) (c : Array UInt8) (t : Tok) : Builtin.«bytearray.extend» ⟨[v, .bytes c t], []⟩ = (do
  rule "bytearray.extend.bytes-like"
  let _ ← payload v
  if !c.isEmpty then checkResize v
  write v (· ++ c)
  ret .none) := by
  unfold Builtin.«bytearray.extend»
  rw [show selfAndOne "bytearray.extend" ⟨[v, .bytes c t], []⟩ = pure (v, .bytes c t) from rfl, pure_bind]
  dsimp only
  rw [KBy.special_eq KBy.look_buffer, take_bytes]
  kernel_rfl
section
variable {prog : Program} {w : World} {A : Around} {E : Value → Shared → Prop} {s : Shared}
theorem wPayload {a : Addr} {b : Array UInt8} {Q : Array UInt8 → Shared → Prop} (ho : s.heap.get? a = some (baO b)) (h : Q b s) : wpAny (model prog w) A (payload (.ref a)) Q E s := by
  unfold payload payload?
  exact wpAny_bind (wpAny_bind (wpAny_load ho (wpAny_pure (wpAny_pure h))))
theorem xExtendBA {a : Addr} {b c : Array UInt8} {t : Tok} {Q : Value → Shared → Prop} (hg : A.guards = some []) (ho : s.heap.get? a = some (baO b)) (hz : (b ++ c).size ≤ sizeLine)
    (h : ∀ h', Heap.SameBut a s.heap h' → h'.get? a = some (baO (b ++ c)) → Q .none { s with heap := h' }) : wpC true (model prog w) A (call (.builtin "bytearray.extend") [.ref a, .bytes c t]) Q s := by
  refine xSlotCall slot_bext (⟨_, ho, rfl⟩ : s.TypeIs (.ref a) "bytearray") (args_ba_ext _ _) (decB (by decide +kernel)) entry_ba_ext ?_
  rw [ext_ba]
  refine xBindAny (wpAny_rule ?_)
  refine xBindAny (wPayload ho ?_)
  have fin : wpC true (model prog w) A.in1 (write (.ref a) (· ++ c) >>= fun _ => ret .none) (fun fin s' => ∃ v, fin = .done (.ret v) ∧ Q v s') s :=
    xBindAny (wWrite ho hz fun h' hs h2 => xPure ⟨_, rfl, h h' hs h2⟩)
  cases hc : c.isEmpty with
  | true =>
    exact fin
  | false =>
    exact xBind (xResize hg ho fin)
theorem wOwnBuf {a : Addr} {b : Array UInt8} {Q : Bool → Shared → Prop} (ho : s.heap.get? a = some (baO b)) (h : Q true s) : wpAny (model prog w) A (slotIsOwn (.ref a) "__buffer__") Q E s := by
  have hT : s.TypeIs (.ref a) "bytearray" := ⟨_, ho, rfl⟩
  unfold slotIsOwn
  refine wpAny_bind (wpAny_specialOf hT look_ba_buf ?_)
  dsimp only
  rw [tail_ba_buf, drop_ba_buf]
  exact wpAny_isInstance hT sub_ba h
theorem wBuffer {id : String} {f : Bool} {a : Addr} {b : Array UInt8} {Q : Option (Array UInt8) → Shared → Prop} (ho : s.heap.get? a = some (baO b)) (h : Q (some b) s) : wpAny (model prog w) A (buffer? id (.ref a) f) Q E s := by
  have hT : s.TypeIs (.ref a) "bytearray" := ⟨_, ho, rfl⟩
  unfold buffer?
  refine wpAny_bind (wpAny_specialOf hT look_ba_buf ?_)
  refine wpAny_bind (wOwnBuf ho ?_)
  refine wpAny_bind (wpAny_specialOf hT look_ba_buf ?_)
  refine wpAny_bind (wOwnRel ho ?_)
  exact wpAny_bind (wPayload ho (wpAny_pure h))
theorem code_bytes_ba {a : Addr} {b : Array UInt8} {Q : Value → Shared → Prop} (ho : s.heap.get? a = some (baO b)) (hz : b.size ≤ sizeLine)
    (hQ : ∀ t k, Q (.bytes b t) { s with toks := k }) : codeAny (model prog w) A (.call (.builtin "bytes.__new__") ⟨[.type "bytes", .ref a], []⟩) (wants Q E) s := by
  refine codeAny_of_tree ?_
  show wpAny _ A.in1 (do checkBuiltinCall "bytes.__new__" ⟨[.type "bytes", .ref a], []⟩; again (.builtin "bytes.__new__" ⟨[.type "bytes", .ref a], []⟩)) _ _ s
  refine wpAny_bind (wpAny_of_eq (F.bm_newCall _) (wpAny_pure ⟨plainId_quiet F.bm_plain _, codeAny_builtin F.bm_entry ?_⟩))
  rw [Around.under_plainId F.bm_plain _]
  have hT : s.TypeIs (.ref a) "bytearray" := ⟨_, ho, rfl⟩
  unfold Builtin.«bytes.__new__»
  refine wpAny_bind (wpAny_of_eq (a := true) rfl ?_)
  refine bm_if_false rfl ?_
  refine wpAny_bind (wpAny_of_eq F.bm_sub ?_)
  refine bm_if_false rfl ?_
  refine wpAny_bind (wpAny_of_eq (F.bm_bind _) ?_)
  refine wpAny_bind (wpAny_of_eq (a := ()) rfl ?_)
  refine wpAny_bind (wpAny_of_eq (a := ()) rfl ?_)
  refine bm_if_false rfl ?_
  refine wpAny_bind (wpAny_specialOf hT look_ba_bytes ?_)
  refine wpAny_bind (wpAny_bind ?_)
  show wpAny _ _ (load a >>= _) _ _ _
  refine wpAny_bind (wpAny_load ho ?_)
  refine wpAny_pure (wpAny_pure ?_)
  refine bm_if_false rfl ?_
  refine wpAny_bind (wpAny_specialOf hT look_ba_index ?_)
  refine bm_if_true rfl ?_
  first
    | show wpAny _ _ (buffer? "bytes.__new__" (.ref a) true >>= _) _ _ _
    | (refine wpAny_bind ?_; show wpAny _ _ (buffer? "bytes.__new__" (.ref a) true >>= _) _ _ _)
  refine wpAny_bind (wBuffer ho ?_)
  refine wpAny_bind (wpAny_rule ?_)
  refine wpAny_bind (wpAny_mkBytes ?_ hz)
  show wpAny _ _ (if (Value.type "bytes" == Value.type "bytes") = true then _ else _) _ _ _
  refine bm_if_true (by decide) ?_
  first
    | exact wpAny_pure (hQ _ _)
    | exact wpAny_bind (wpAny_pure (wpAny_pure (hQ _ _)))
    | exact wpAny_pure (wpAny_pure (hQ _ _))
theorem call_bytes_ba {a : Addr} {b : Array UInt8} {Q : Value → Shared → Prop} (ho : s.heap.get? a = some (baO b)) (hz : b.size ≤ sizeLine)
    (hQ : ∀ t k, Q (.bytes b t) { s with toks := k }) : wpAny (model prog w) A (call (.type "bytes") [.ref a]) Q E s := by
  refine callType_codes (Q₁ := fun obj s₁ => s₁.TypeIs obj "bytes" ∧ Q obj s₁) F.bm_called (F.bm_typeCall _) F.entry_object_init
    (code_bytes_ba ho hz fun t k => ⟨PySem.W.typeIs_bytes _ _ _, hQ t k⟩) fun obj s₁ h₁ => ?_
  exact ⟨h₁.1, F.args_object_init_2 obj _, object_init_meets F.bm_called.init.lookup F.bm_called.made (by decide) prog w A.in1 _ s₁ ⟨h₁.1, rfl, h₁.2⟩⟩
end
end

section
open PySem.Builtin PySem.Builtin.Bytes
theorem entry_join : entryFor table "bytes.join" = some Builtin.«bytes.join» := entryFor_of_tree (by kernel_rfl)
theorem args_join (v x : Value) : argsOk "bytes.join" ⟨[v, x], []⟩ := by unfold argsOk; kernel_rfl
theorem take_join {b : Array UInt8} {t : Tok} {id : String} : takeBufferQuiet? id (.bytes b t) 0 = pure (some (b, none)) := by
  unfold takeBufferQuiet? takeBuffer?
  rw [KBy.special_eq KBy.look_buffer, KBy.own_buffer]
  rw [show ((0 : Int) == fullReadOnly) = false from by decide]
  rw [KBy.buffer_eq]
  rfl
noncomputable abbrev byv (p : Array UInt8 × Tok) : Value := .bytes p.1 p.2
theorem allByts : ∀ {Vs : List Value} {ls : List (List Int)}, allOf bytOf (Vs.map er) = some ls → ∃ bs : List (Array UInt8 × Tok), Vs = bs.map byv ∧ ls = bs.map fun p => KBw.bInts p.1
  | [], l, h => by cases h; exact ⟨[], rfl, rfl⟩
  | V :: r, l, h => by
    simp only [List.map_cons, allOf] at h
    have u := un_er V
    generalize er V = v at h u
    cases v with
    | byt i =>
      obtain ⟨b, t, rfl, rfl⟩ := u
      simp only [bytOf, Option.bind_some] at h
      cases q : allOf bytOf (r.map er) with
      | none => rw [q] at h; cases h
      | some l' =>
        rw [q] at h; cases h
        obtain ⟨bs, rfl, rfl⟩ := allByts q
        exact ⟨(b, t) :: bs, rfl, rfl⟩
    | _ => exact absurd h (by intro q; cases q)
theorem joined_nil : ∀ (l : List (Array UInt8)) (k : Nat) (o : Array UInt8), (l.zipIdx k).foldl (fun (out : Array UInt8) (x : Array UInt8 × Nat) => (if x.2 > 0 then out ++ (#[] : Array UInt8) else out) ++ x.1) o = o ++ (l.map Array.toList).flatten.toArray
  | [], _, o => by simp
  | b :: r, k, o => by
    rw [List.zipIdx_cons, List.foldl_cons, joined_nil r]
    apply Array.ext'
    simp
theorem joined_ints (l : List (Array UInt8)) : KBw.bInts (joined #[] l) = (l.map KBw.bInts).flatten := by
  unfold joined
  rw [show (fun (out : Array UInt8) (x : Array UInt8 × Nat) => match x with | (p, i) => (if i > 0 then out ++ (#[] : Array UInt8) else out) ++ p) = (fun (out : Array UInt8) (x : Array UInt8 × Nat) => (if x.2 > 0 then out ++ (#[] : Array UInt8) else out) ++ x.1) from rfl]
  rw [joined_nil]
  unfold KBw.bInts
  simp only [Array.empty_append, List.map_flatten, List.map_map]
  rfl
theorem sizes_foldl : ∀ (l : List (Array UInt8)) (n : Nat), l.foldl (fun (n : Nat) (b : Array UInt8) => n + b.size) n = n + (l.map KBw.bInts).flatten.length
  | [], n => rfl
  | b :: r, n => by
    rw [List.foldl_cons, sizes_foldl r, List.map_cons, List.flatten_cons, List.length_append, KBw.ints_length]
    (first | exact Int.natCast_nonneg _ | lia | omega)
section
variable {prog : Program} {w : World} {A : Around} {E : Value → Shared → Prop} {s : Shared}
theorem wJoinLetGo {keep : List Value} : ∀ (taken : List (Value × Option Value)) {Q : Unit → Shared → Prop}, (∀ p ∈ taken, p.2 = none) → Q () s → wpAny (model prog w) A (joinLetGo taken keep) Q E s
  | [], _, _, h => wpAny_pure h
  | (x, w') :: rest, Q, hn, h => by
    obtain rfl : w' = none := hn _ (.head _)
    unfold joinLetGo
    exact wpAny_bind (wpAny_letGo (wJoinLetGo rest (fun p hp => hn p (.tail _ hp)) h))
theorem wSeqItems {a : Addr} {its : Array Value} {Q : Option (Array Value) → Shared → Prop} (hl : s.heap.IsList a its) (h : Q (some its) s) : wpAny (model prog w) A (seqItems? (.ref a)) Q E s := by
  obtain ⟨o, ho, hc, n, hd⟩ := hl
  unfold seqItems?
  refine wpAny_bind (wpAny_load ho ?_)
  rw [hd]
  exact wpAny_pure h
/-- a loop over the places of a list -/
theorem wRangeLoop {β : Type} {n : Nat} {st : Nat → β} {f : Nat → β → Sem (ForInStep β)} {k : β → Sem PySem.Fin} {Q : PySem.Fin → Shared → Prop}
    (hf : ∀ i, i < n → wpAny (model prog w) A (f i (st i)) (fun r s' => s' = s ∧ r = .yield (st (i + 1))) E s) (hk : wpAny (model prog w) A (k (st n)) Q E s) : wpAny (model prog w) A (forIn [:n] (st 0) f >>= k) Q E s := by
  rw [Std.Legacy.Range.forIn_eq_forIn_range']
  refine wpAny_bind (wpAny_forIn_list _ (fun l b s' => s' = s ∧ ∃ i, l = List.range' i (n - i) ∧ i ≤ n ∧ b = st i) _ ?_ ?_ _ _ ?_)
  · rintro x rest b s' ⟨rfl, i, hl', hi, rfl⟩
    have hlt : i < n := by
      rcases Nat.lt_or_ge i n with q | q
      · exact q
      · rw [Nat.sub_eq_zero_of_le q] at hl'; cases hl'
    rw [show n - i = n - (i + 1) + 1 by (first | exact Int.natCast_nonneg _ | lia | omega), List.range'_succ] at hl'
    obtain ⟨rfl, rfl⟩ := List.cons.inj hl'
    refine wpAny_mono (hf x hlt) (fun r s₂ h₂ => ?_) fun _ _ e => e
    obtain ⟨rfl, rfl⟩ := h₂
    exact ⟨rfl, x + 1, rfl, hlt, rfl⟩
  · rintro b s' ⟨rfl, i, hl', hi, rfl⟩
    have hi' : i = n := by
      rcases Nat.lt_or_ge i n with q | q
      · rw [show n - i = n - (i + 1) + 1 by (first | exact Int.natCast_nonneg _ | lia | omega), List.range'_succ] at hl'; cases hl'
      · (first | exact Int.natCast_nonneg _ | lia | omega)
    subst hi'
    exact hk
  · exact ⟨rfl, 0, by simp, Nat.zero_le _, rfl⟩
theorem wJoin {a : Addr} {t : Tok} {bs : List (Array UInt8 × Tok)} {Q : Value → Shared → Prop} (hl : s.heap.IsList a (bs.map byv).toArray) (hz : (bs.map fun p => KBw.bInts p.1).flatten.length ≤ 65536)
    (h : ∀ b t k, KBw.bInts b = (bs.map fun p => KBw.bInts p.1).flatten → Q (.bytes b t) { s with toks := k }) : wpAny (model prog w) A (call (.builtin "bytes.join") [.bytes #[] t, .ref a]) Q E s := by
  refine wpAny_call_entry_kw slot_join (PySem.W.typeIs_bytes s #[] t) entry_join ?_ (args_join _ _)
  show wpAny _ _ (joinM .bytes ⟨[.bytes #[] t, .ref a], []⟩) _ _ _
  unfold joinM
  refine wpAny_bind (wpAny_of_eq (rfl : selfAndOne _ ⟨[.bytes #[] t, .ref a], []⟩ = pure (.bytes #[] t, .ref a)) ?_)
  dsimp only
  refine wpAny_bind ?_
  show wpAny _ _ (joinItems (.ref a)) _ _ _
  unfold joinItems
  refine wpAny_bind (wpAny_typeOf hl.typeIs (wpAny_pure ?_))
  refine wpAny_bind (wSeqItems hl ?_)
  dsimp only
  refine bm_if_true (by decide) ?_
  have hn : ∀ l : List (Array UInt8 × Tok), (l.map fun p => ((byv p, none) : Value × Option Value)).any (fun x => x.1.onHeap) = false := fun l => by
    rw [List.any_eq_false]
    intro x hx
    obtain ⟨p, _, rfl⟩ := List.mem_map.mp hx
    exact Bool.false_ne_true
  have hf : ((bs.map (·.1)).map KBw.bInts).flatten = (bs.map fun p => KBw.bInts p.1).flatten := by rw [List.map_map]; rfl
  have hsz : (bs.map (·.1)).toArray.foldl (fun x1 x2 => x1 + x2.size) ((#[] : Array UInt8).size * ((bs.map (·.1)).toArray.size - 1)) = (bs.map fun p => KBw.bInts p.1).flatten.length := by
    rw [List.foldl_toArray, sizes_foldl, hf]
    simp
  have hj : KBw.bInts (joined #[] (bs.map (·.1))) = (bs.map fun p => KBw.bInts p.1).flatten := by rw [joined_ints, hf]
  have hg : ∀ x (hlt : x < bs.length), (bs.map byv).toArray.getD x .none = byv bs[x] := fun x hlt => by
    simp [Array.getD, hlt]
  match hb : bs with
  | [p] =>
    refine wpAny_bind (wpAny_typeOf (PySem.W.typeIs_bytes s p.1 p.2) ?_)
    refine bm_if_true (by decide) (wpAny_bind (wpAny_rule (wpAny_pure ⟨_, rfl, h p.1 p.2 s.toks ?_⟩)))
    subst hb
    exact (List.append_nil _).symm
  | [] =>
    subst hb
    refine wRangeLoop (n := (([] : List (Array UInt8 × Tok)).map byv).toArray.size) (st := fun i => (((([] : List (Array UInt8 × Tok)).take i).map (·.1)).toArray, (([] : List (Array UInt8 × Tok)).take i).map fun p => (byv p, none))) (fun x hlt => ?_) ?_
    · replace hlt : x < ([] : List (Array UInt8 × Tok)).length := by simpa using hlt
      refine wpAny_bind (wSeqItems hl ?_)
      dsimp only
      rw [hn, hg x hlt]
      refine bm_if_false rfl ?_
      refine wpAny_bind (wpAny_holding (wpAny_of_eq take_join ?_))
      dsimp only
      refine wpAny_bind (wSeqItems hl ?_)
      dsimp only
      refine bm_if_false (by simp) (wpAny_pure ⟨rfl, ?_⟩)
      rw [List.take_succ_eq_append_getElem hlt]
      simp only [List.map_append, List.map_cons, List.map_nil, List.push_toArray]
    · replace hn := hn
      rw [List.take_of_length_le (Nat.le_of_eq (by simp))]
      refine wpAny_bind (wpAny_of_eq (rfl : payload (.bytes #[] t) = pure #[]) ?_)
      dsimp only
      rw [hsz]
      refine bm_if_false (KBy.tooLong_not (by (first | exact Int.natCast_nonneg _ | lia | omega))) ?_
      refine wpAny_bind (wpAny_mkBytes ?_ (by rw [← KBw.ints_length]; exact sz24 (by rw [hj]; exact hz)))
      refine wpAny_bind (wpAny_holding (wpAny_point ?_))
      refine wpAny_bind (wJoinLetGo _ (fun p hp => ?_) ?_)
      · obtain ⟨q, _, rfl⟩ := List.mem_map.mp hp
        rfl
      · exact wpAny_pure ⟨_, rfl, h _ _ _ hj⟩
  | p :: q :: r =>
    subst hb
    refine wRangeLoop (n := ((p :: q :: r).map byv).toArray.size) (st := fun i => ((((p :: q :: r).take i).map (·.1)).toArray, ((p :: q :: r).take i).map fun p => (byv p, none))) (fun x hlt => ?_) ?_
    · replace hlt : x < (p :: q :: r).length := by simpa using hlt
      refine wpAny_bind (wSeqItems hl ?_)
      dsimp only
      rw [hn, hg x hlt]
      refine bm_if_false rfl ?_
      refine wpAny_bind (wpAny_holding (wpAny_of_eq take_join ?_))
      dsimp only
      refine wpAny_bind (wSeqItems hl ?_)
      dsimp only
      refine bm_if_false (by simp) (wpAny_pure ⟨rfl, ?_⟩)
      rw [List.take_succ_eq_append_getElem hlt]
      simp only [List.map_append, List.map_cons, List.map_nil, List.push_toArray]
    · replace hn := hn
      rw [List.take_of_length_le (Nat.le_of_eq (by simp))]
      refine wpAny_bind (wpAny_of_eq (rfl : payload (.bytes #[] t) = pure #[]) ?_)
      dsimp only
      rw [hsz]
      refine bm_if_false (KBy.tooLong_not (by (first | exact Int.natCast_nonneg _ | lia | omega))) ?_
      refine wpAny_bind (wpAny_mkBytes ?_ (by rw [← KBw.ints_length]; exact sz24 (by rw [hj]; exact hz)))
      refine wpAny_bind (wpAny_holding (wpAny_point ?_))
      refine wpAny_bind (wJoinLetGo _ (fun p hp => ?_) ?_)
      · obtain ⟨q, _, rfl⟩ := List.mem_map.mp hp
        rfl
      · exact wpAny_pure ⟨_, rfl, h _ _ _ hj⟩
end
end

section
open PySem.Builtin PySem.Builtin.Bytes
theorem entry_index : entryFor table "bytes.index" = some Builtin.«bytes.index» := entryFor_of_tree (by kernel_rfl)
theorem args_index (v x : Value) : argsOk "bytes.index" ⟨[v, x], []⟩ := by unfold argsOk; kernel_rfl
theorem look_int_buf : typeLookup (.type "int") "__buffer__" = pure none := by rw [typeLookup_type, builtinLookup_eq_fast]; kernel_rfl
theorem look_int_index : typeLookup (.type "int") "__index__" = pure (some (.builtin "int.__index__")) := by rw [typeLookup_type, builtinLookup_eq_fast]; kernel_rfl
theorem spec_int {i : Int} {t : Tok} {name : Str} {r : Option Value} (h : typeLookup (.type "int") name = pure r) : specialOf (.int i t) name = pure r := by
  have e : specialOf (.int i t) name = typeLookup (.type "int") name := rfl
  rw [e, h]
theorem buf_int {i : Int} {t : Tok} {id : String} : buffer? id (.int i t) = pure none := by
  unfold buffer?
  rw [spec_int look_int_buf]
  rfl
theorem find_one (l : List UInt8) (c : UInt8) (h : c ∈ l) : find? l.toArray #[c] 0 l.length = some (l.idxOf c) := by
  unfold find?
  have hs : (#[c] : Array UInt8).size = 1 := rfl
  rw [hs]
  have e : ((List.range (l.length + 1 - (0 + 1))).map (· + 0)) = List.range l.length := by
    simp
  rw [e, List.find?_range_eq_some]
  have hlt : l.idxOf c < l.length := List.idxOf_lt_length_iff.mpr h
  have ext : ∀ i (hi : i < l.length), (l.toArray.extract i (i + 1) == #[c]) = (l[i] == c) := fun i hi => by
    have : l.toArray.extract i (i + 1) = #[l[i]] := by
      apply Array.ext'
      simp [List.take_one, List.head?_drop, hi]
    rw [this]
    rw [Bool.eq_iff_iff, beq_iff_eq, beq_iff_eq]
    constructor
    · intro q
      have := congrArg Array.toList q
      simpa using this
    · intro q
      rw [q]
  refine ⟨?_, List.mem_range.mpr hlt, fun j hj => ?_⟩
  · rw [ext _ hlt]
    simp
  · rw [ext _ (Nat.lt_trans hj hlt)]
    have := List.not_of_lt_findIdx (p := (· == c)) (xs := l) hj
    simpa using this
section
variable {prog : Program} {w : World} {A : Around} {E : Value → Shared → Prop} {s : Shared}
theorem wIndex {b : Array UInt8} {i : Int} {t u : Tok} {Q : Value → Shared → Prop} (h0 : 0 ≤ i) (h1 : i < 256) (hm : i.toNat.toUInt8 ∈ b.toList)
    (h : Q (.int (b.toList.idxOf i.toNat.toUInt8 : Nat) s.toks) { s with toks := s.toks + 1 }) : wpAny (model prog w) A (call (.builtin "bytes.index") [.bytes b t, .int i u]) Q E s := by
  refine wpAny_call_entry_kw slot_index (PySem.W.typeIs_bytes s b t) entry_index ?_ (args_index _ _)
  show wpAny _ _ (searchM .bytes "index" false true ⟨[.bytes b t, .int i u], []⟩) _ _ _
  unfold searchM
  refine wpAny_bind ?_
  unfold searchArgs
  refine wpAny_bind (wpAny_of_eq (rfl : selfAndSome _ "index" 1 3 ⟨[.bytes b t, .int i u], []⟩ = pure (.bytes b t, [.int i u])) ?_)
  dsimp only
  refine wpAny_bind (wpAny_of_eq (rfl : bound? ([.int i u] : List Value)[1]? = pure none) ?_)
  refine wpAny_bind (wpAny_of_eq (rfl : bound? ([.int i u] : List Value)[2]? = pure none) ?_)
  refine wpAny_bind (wpAny_of_eq buf_int ?_)
  dsimp only
  refine wpAny_bind (wpAny_of_eq (spec_int look_int_index) ?_)
  refine bm_if_false rfl ?_
  refine wpAny_bind (wpAny_of_eq (rfl : indexHeld [.bytes b t] (.int i u) = pure i) ?_)
  refine bm_if_false (by simp only [Bool.or_eq_false_iff, decide_eq_false_iff_not]; (first | exact Int.natCast_nonneg _ | lia | omega)) (wpAny_pure ?_)
  have hpos : 0 < b.size := by
    have := List.length_pos_of_mem hm
    simpa using this
  have hw : window b.size none none = (0, (b.size : Int)) := by
    unfold window
    simp only [Option.getD_none]
    rw [if_neg (by (first | exact Int.natCast_nonneg _ | lia | omega)), if_neg (by (first | exact Int.natCast_nonneg _ | lia | omega)), Int.min_eq_left (Int.le_refl _)]
  rw [hw]
  dsimp only
  rw [if_neg (by simp only [List.size_toArray, List.length_cons, List.length_nil]; (first | exact Int.natCast_nonneg _ | lia | omega))]
  have hf := find_one b.toList i.toNat.toUInt8 hm
  rw [show b.toList.toArray = b from rfl, Array.length_toList] at hf
  simp only [Option.bind_some, Int.toNat_natCast, Int.toNat_zero, Bool.false_eq_true, if_false]
  rw [hf]
  dsimp only
  exact wpAny_bind (wpAny_mkInt (wpAny_pure ⟨_, rfl, h⟩))
end
end

theorem bInts_push (b : Array UInt8) {i : Int} (h0 : 0 ≤ i) (h1 : i < 256) : KBw.bInts (b.push i.toNat.toUInt8) = KBw.bInts b ++ [i] := by
  unfold KBw.bInts
  rw [Array.toList_push, List.map_append]
  congr 1
  show [((i.toNat.toUInt8).toNat : Int)] = [i]
  have : i.toNat.toUInt8.toNat = i.toNat := by show i.toNat % 256 = _; (first | exact Int.natCast_nonneg _ | lia | omega)
  rw [this, Int.toNat_of_nonneg h0]
theorem mem_ints {b : Array UInt8} {i : Int} (h0 : 0 ≤ i) (h1 : i < 256) (h : (KBw.bInts b).contains i = true) : i.toNat.toUInt8 ∈ b.toList := by
  rw [← contains_ints h0 h1] at h
  rw [← Array.contains_toList] at h
  exact List.contains_iff_mem.mp h
theorem idx_ints {i : Int} (h0 : 0 ≤ i) (h1 : i < 256) : ∀ l : List UInt8, l.idxOf i.toNat.toUInt8 = (l.map fun c => (c.toNat : Int)).idxOf i
  | [] => rfl
  | c :: r => by
    rw [List.map_cons, List.idxOf_cons, List.idxOf_cons, idx_ints h0 h1 r]
    have : (c == i.toNat.toUInt8) = ((c.toNat : Int) == i) := by
      rw [Bool.eq_iff_iff, beq_iff_eq, beq_iff_eq]
      constructor
      · intro q
        rw [q]
        have : i.toNat.toUInt8.toNat = i.toNat := by show i.toNat % 256 = _; (first | exact Int.natCast_nonneg _ | lia | omega)
        (first | exact Int.natCast_nonneg _ | lia | omega)
      · intro q
        subst q
        apply UInt8.toNat.inj
        show c.toNat = (Int.toNat (c.toNat : Int)) % 256
        have := c.toNat_lt
        (first | exact Int.natCast_nonneg _ | lia | omega)
    rw [this]
section
variable {w : World} {A : Around} {G : Gd} {F : List (Addr × Obj)} {σ : St} {e : En} {s : Shared} {E : Value → Shared → Prop} {cl : Bool}
theorem sNewBA {Q : PV → St → Prop} (hg : A.guards = some []) (S : Sim G F σ e s.heap) (h : new σ (.ba []) Q) : wpC true (model G.prog G.w) A (call (.type "bytearray") []) (Pst G F e Q s) s := by
  refine xCallBA hg fun h' hk ho => ?_
  obtain ⟨m, ⟨H, uH, Fm⟩, hm⟩ := S.fr
  obtain ⟨k1, k2⟩ := S.lay (S.grow hk) (o := .ba []) (Nat.le_refl _) ho (fun e => absurd Fm.ns.lt (e ▸ Nat.lt_irrefl _)) (uH.fresh (next_is_new Fm)) ⟨#[], rfl, rfl⟩ rfl
  exact ⟨h', s.toks, _, rfl, k2, h _ k1⟩
theorem sBapp {V : Value} {vs : List Value} {Q : PV → St → Prop} (hg : A.guards = some []) (S : Sim G F σ e s.heap) (h : methV cl .bapp (er V) (vs.map er) σ Q) : wpC cl (model G.prog G.w) A (call (.builtin "bytearray.append") (V :: vs)) (Pst G F e Q s) s := by
  obtain ⟨a, rfl, h⟩ := onR_er h
  obtain ⟨W, rfl, h⟩ := on1_e h
  obtain ⟨i, t, rfl, h⟩ := onI_er h
  obtain ⟨l, ho, hc, h0, h1, hz, q⟩ := onA_e h
  subst hc
  obtain ⟨O, hO, b, rfl, rfl⟩ := S.at ho
  rw [KBw.ints_length] at hz
  refine xAppendBA hg hO h0 h1 (Nat.lt_of_le_of_lt hz (by decide)) fun h' hs hO' => ?_
  exact ⟨h', s.toks, _, rfl, S.turn (o' := .ba (KBw.bInts b ++ [i])) ho rfl rfl hs hO' ⟨_, rfl, bInts_push b h0 h1⟩, q⟩
theorem sBext {V : Value} {vs : List Value} {Q : PV → St → Prop} (hg : A.guards = some []) (S : Sim G F σ e s.heap) (h : methV cl .bext (er V) (vs.map er) σ Q) : wpC cl (model G.prog G.w) A (call (.builtin "bytearray.extend") (V :: vs)) (Pst G F e Q s) s := by
  obtain ⟨a, rfl, h⟩ := onR_er h
  obtain ⟨W, rfl, h⟩ := on1_e h
  obtain ⟨c, t, rfl, h⟩ := onY_er h
  obtain ⟨l, ho, hc, hz, q⟩ := onA_e h
  subst hc
  obtain ⟨O, hO, b, rfl, rfl⟩ := S.at ho
  rw [KBw.ints_length, KBw.ints_length] at hz
  refine xExtendBA hg hO (by rw [Array.size_append]; exact sz24 hz) fun h' hs hO' => ?_
  exact ⟨h', s.toks, _, rfl, S.turn (o' := .ba (KBw.bInts b ++ KBw.bInts c)) ho rfl rfl hs hO' ⟨_, rfl, KBw.ints_app rfl rfl⟩, q⟩
theorem sJoin {V : Value} {vs : List Value} {Q : PV → St → Prop} (S : Sim G F σ e s.heap) (h : methV cl .join (er V) (vs.map er) σ Q) : wpAny (model G.prog G.w) A (call (.builtin "bytes.join") (V :: vs)) (Pst G F e Q s) E s := by
  obtain ⟨b, t, rfl, h⟩ := onY_er h
  obtain ⟨W, rfl, h⟩ := on1_e h
  obtain ⟨a, rfl, h⟩ := onR_er h
  obtain ⟨ws, ho, hb, hz, h⟩ := onL_e h
  obtain ⟨ls, hls, hz', q⟩ := onS_e h
  obtain ⟨_, hO, Vs, n, rfl, rfl⟩ := S.at ho
  obtain ⟨bs, rfl, rfl⟩ := allByts hls
  obtain rfl : b = #[] := by
    have := congrArg List.length hb
    rw [KBw.ints_length] at this
    exact Array.eq_empty_of_size_eq_zero this
  refine wJoin (isL hO) hz' fun b t k hb => .here S ?_
  show Q (.byt (KBw.bInts b)) σ
  rw [hb]
  exact q
theorem sIndex {V : Value} {vs : List Value} {Q : PV → St → Prop} (S : Sim G F σ e s.heap) (h : methV cl .index (er V) (vs.map er) σ Q) : wpAny (model G.prog G.w) A (call (.builtin "bytes.index") (V :: vs)) (Pst G F e Q s) E s := by
  obtain ⟨b, t, rfl, h⟩ := onY_er h
  obtain ⟨W, rfl, h⟩ := on1_e h
  obtain ⟨i, u, rfl, h0, h1, hz, hc, q⟩ := onI_er h
  refine wIndex h0 h1 (mem_ints h0 h1 hc) (.here S ?_)
  rw [idx_ints h0 h1]
  exact q
theorem sBytesB {V : Value} {Q : PV → St → Prop} (hh : A.handled = none) (S : Sim G F σ e s.heap) (h : onR (er V) fun a => onS (σ a) fun o => bytesO o fun l => Q (.byt l) σ) : wpAny (model G.prog G.w) A (call (.type "bytes") [V]) (Pst G F e Q s) E s := by
  obtain ⟨a, rfl, h⟩ := onR_er h
  obtain ⟨o, ho, h⟩ := onS_e h
  cases o with
  | ba l =>
    obtain ⟨O, hO, b, rfl, rfl⟩ := S.at ho
    have h : (KBw.bInts b).length ≤ 65536 ∧ Q (.byt (KBw.bInts b)) σ := h
    rw [KBw.ints_length] at h
    exact call_bytes_ba hO (sz24 h.1) fun t k => .here S h.2
  | list vs => exact sBytesL (V := .none) hh S ho h
  | _ => exact (h : False).elim
/-- a call of a built-in -/
theorem sBt {b : Bt} {V : Value} {vs : List Value} {Q : PV → St → Prop} (hh : A.handled = none) (hg : A.guards = some []) (hV : er V = .bt b) (S : Sim G F σ e s.heap) (h : btV cl b (vs.map er) σ Q) : wpC cl (model G.prog G.w) A (call V vs) (Pst G F e Q s) s := by
  have u : un (.bt b) V := un_of hV
  cases b with
  | len => cases u; obtain ⟨W, rfl, h'⟩ := on1_e h; exact xAny (sLen S h)
  | range => cases u; obtain ⟨W, rfl, h'⟩ := on1_e h; exact xAny (sRange S h')
  | int => cases u; obtain ⟨W, rfl, h'⟩ := on1_e h; exact xAny (sInt S h)
  | list => cases u; obtain ⟨W, rfl, h'⟩ := on1_e h; exact xAny (sList S h')
  | bytearray => cases u; obtain ⟨rfl, rfl, h'⟩ := on0_e h; exact sNewBA hg S h'
  | bytes => cases u; obtain ⟨W, rfl, h'⟩ := on1_e h; exact xAny (sBytesB hh S h')
/-- a call of a method -/
theorem sMt {k : Mt} {V : Value} {vs : List Value} {Q : PV → St → Prop} (hg : A.guards = some []) (S : Sim G F σ e s.heap) (h : methV cl k (er V) (vs.map er) σ Q) : wpC cl (model G.prog G.w) A (call (.builtin (idM k)) (V :: vs)) (Pst G F e Q s) s := by
  cases k with
  | lapp => exact xAny (sLapp S h)
  | lext => exact xAny (sLext S h)
  | lpop => exact xAny (sLpop S h)
  | bapp => exact sBapp hg S h
  | bext => exact sBext hg S h
  | join => exact xAny (sJoin S h)
  | index => exact xAny (sIndex S h)
end

section
variable {cl : Bool} {M : Model} {A : Around} {s : Shared} {env : Env}
theorem xStandAt {α : Type} {pos : Pos} {f : Unit → Sem α} {Q : α → Shared → Prop} (h : wpC cl M A (f ()) Q s) : wpC cl M A (standAt pos >>= f) Q s := xBindAny (wpAny_standAt h)
theorem xExecs {st rest} {Q : Flow → Shared → Prop} (h : wpC cl M A (exec st env) (fun f s' => match f with | .next => wpC cl M A (execs rest env) Q s' | f => Q f s') s) : wpC cl M A (execs (st :: rest) env) Q s := by
  rw [execs_cons]
  refine xBind (xMono h fun f s' h' => ?_)
  cases f <;> first | exact h' | exact xPure h'
theorem xExecsNil {Q : Flow → Shared → Prop} (h : Q .next s) : wpC cl M A (execs [] env) Q s := fun _ _ _ _ => h
theorem xExpr {e pos} {Q : Flow → Shared → Prop} (h : wpC cl M A (eval e env) (fun v s' => v = .none ∧ Q .next s') s) (hi : interactive env = false) (hs : swapsWith e none pos.line env = pure false) :
    wpC cl M A (exec (.Expr e pos) env) Q s := by
  rw [exec_Expr env e pos hi hs]
  refine xStandAt (xBind (xMono h fun v s' h' => ?_))
  obtain ⟨rfl, h'⟩ := h'
  rw [dropValue_plain (fun a e => by cases e)]
  exact xPure h'
theorem xContinue {pos} {Q : Flow → Shared → Prop} (h : Q .cont s) : wpC cl M A (exec (.Continue pos) env) Q s := by
  show wpC cl M A (do standAt pos; pure Flow.cont) Q s
  exact xStandAt (xPure h)
theorem xAssign {x pos' value pos} {Q : Flow → Shared → Prop} (h : wpC cl M A (eval value env) (fun v s₁ => wpAny M A (storeName env x v) (fun _ => Q .next) (fun _ _ => False) s₁) s)
    (hs : swapsWith value (some (.Name x pos')) pos.line env = pure false) : wpC cl M A (exec (.Assign [.Name x pos'] value pos) env) Q s := by
  rw [exec_Assign_Name env x pos' value pos hs]
  refine xStandAt (xBind (xMono h fun v s' h' => xStandAt (xBindAny (wpAny_bindName (wpAny_mono h' (fun _ _ x => xPure x) fun _ _ e => e)))))
theorem xAssignTuple {elts k tpos value pos} {Q : Flow → Shared → Prop} (h : wpC cl M A (eval value env) (fun v s₁ => wpAny M A (assign (.Tuple elts k tpos) env v) (fun _ => Q .next) (fun _ _ => False) s₁) s)
    (hs : swapsWith value (some (.Tuple elts k tpos)) pos.line env = pure false) (hw : swappedStores [.Tuple elts k tpos] value env = pure none) :
    wpC cl M A (exec (.Assign [.Tuple elts k tpos] value pos) env) Q s := by
  rw [exec_Assign]
  refine xStandAt ?_
  show wpC _ _ _ (swapsWith value (some (.Tuple elts k tpos)) pos.line env >>= _) _ _
  rw [hs]
  refine xBind (xPure ?_)
  rw [if_neg (by decide)]
  refine xBind (xMono h fun v s₁ h₁ => ?_)
  rw [hw]
  refine xBind (xPure ?_)
  show wpC cl M A (do assignAll v [assign (.Tuple elts k tpos) env]; pure .next) Q s₁
  exact xBindAny (wpAny_mono h₁ (fun _ _ x => xPure x) fun _ _ x => x)
theorem xAssignSwapped {elts k tpos value pos} {names : List Str} {Q : Flow → Shared → Prop} (h : wpC cl M A (eval value env) (fun v s₁ => wpAny M A (unpackItems v names.length none) (fun items s₂ =>
      wpAny M A (assignInOrder (names.reverse.map fun n => bindName env n) items.reverse) (fun _ => Q .next) (fun _ _ => False) s₂) (fun _ _ => False) s₁) s)
    (hs : swapsWith value (some (.Tuple elts k tpos)) pos.line env = pure false) (hw : swappedStores [.Tuple elts k tpos] value env = pure (some names)) :
    wpC cl M A (exec (.Assign [.Tuple elts k tpos] value pos) env) Q s := by
  rw [exec_Assign]
  refine xStandAt ?_
  show wpC _ _ _ (swapsWith value (some (.Tuple elts k tpos)) pos.line env >>= _) _ _
  rw [hs]
  refine xBind (xPure ?_)
  rw [if_neg (by decide)]
  refine xBind (xMono h fun v s₁ h₁ => ?_)
  rw [hw]
  refine xBind (xPure ?_)
  show wpC cl M A (do rule "assign.swapped-stores"; let items ← unpackItems v names.length none; assignInOrder (names.reverse.map fun n => bindName env n) items.reverse; pure .next) Q s₁
  exact xBindAny (wpAny_rule (xBindAny (wpAny_mono h₁ (fun items s₂ h₂ => xBindAny (wpAny_mono h₂ (fun _ _ x => xPure x) fun _ _ x => x)) fun _ _ x => x)))
theorem xIfStmt {test body orelse pos} {Q : Flow → Shared → Prop}
    (h : wpC cl M A (isTrue test env (eval test env)) (fun b s₂ => if b = true then wpC cl M A (execs body env) Q s₂ else wpC cl M A (execs orelse env) Q s₂) s) :
    wpC cl M A (exec (.If test body orelse pos) env) Q s := by
  rw [exec_If]
  exact xStandAt (xBind (xMono h fun b s₂ h₂ => xIf h₂))
theorem xReturn {e pos} {Q : Flow → Shared → Prop} (h : wpC cl M A (eval e env) (fun v => Q (.ret v)) s) : wpC cl M A (exec (.Return (some e) pos) env) Q s := by
  rw [exec_Return_some]
  exact xStandAt (xBind (xMono h fun v s' h' => xPure h'))
theorem xAugName {x pos' op value pos} {Q : Flow → Shared → Prop}
    (h : wpAny M A (loadName env x) (fun old s₁ => wpC cl M A (eval value env) (fun v s₂ => wpAny M A (inplaceOp op old v) (fun r s₃ => wpAny M A (storeName env x r) (fun _ => Q .next) (fun _ _ => False) s₃) (fun _ _ => False) s₂) s₁) (fun _ _ => False) s) :
    wpC cl M A (exec (.AugAssign (.Name x pos') op value pos) env) Q s := by
  rw [exec_AugAssign_Name]
  refine xStandAt (xBindAny (wpAny_mono h (fun old s₁ h₁ => xBind (xHolding (xMono h₁ fun v s₂ h₂ => xStandAt (xBind (xOperate (xAny (wpAny_mono h₂ (fun r s₃ h₃ => ?_) fun _ _ e => e)))))) ) fun _ _ e => e))
  exact xStandAt (xBindAny (wpAny_bindName (wpAny_mono h₃ (fun _ _ x => xPure x) fun _ _ e => e)))
theorem xBinOp {l op r pos} {Q : Value → Shared → Prop} (h : wpC cl M A (eval l env) (fun a s₁ => wpC cl M A (eval r env) (fun b s₂ => wpAny M A (binaryOp op a b) Q (fun _ _ => False) s₂) s₁) s) : wpC cl M A (eval (.BinOp l op r pos) env) Q s := by
  rw [eval_BinOp]
  exact xBind (xMono h fun a s₁ h₁ => xBind (xHolding (xMono h₁ fun b s₂ h₂ => xStandAt (xOperate (xAny h₂)))))
theorem xNot {x pos} {Q : Value → Shared → Prop} (h : wpC cl M A (eval x env) (fun v s₁ => wpAny M A (truthy v) (fun c s' => Q (.bool (!c)) s') (fun _ _ => False) s₁) s) :
    wpC cl M A (eval (.UnaryOp .Not x pos) env) Q s := by
  rw [eval_UnaryOp]
  exact xBind (xMono h fun v s₁ h₁ => xStandAt (xHolding (xAny (not_of h₁))))
theorem xIfExp {test body orelse pos} {Q : Value → Shared → Prop}
    (h : wpC cl M A (isTrue test env (eval test env)) (fun c s₂ => if c = true then wpC cl M A (eval body env) Q s₂ else wpC cl M A (eval orelse env) Q s₂) s) :
    wpC cl M A (eval (.IfExp test body orelse pos) env) Q s := by
  rw [eval_IfExp]
  exact xBind (xMono h fun c s₂ h₂ => xIf h₂)
theorem xBoolOne {op e pos} {Q : Value → Shared → Prop} (h : wpC cl M A (eval e env) Q s) : wpC cl M A (eval (.BoolOp op [e] pos) env) Q s := h
theorem xBoolAnd {e₁ e₂ rest pos} {Q : Value → Shared → Prop}
    (h : wpC cl M A (eval e₁ env) (fun v s₁ => wpAny M A (truthy v) (fun c s₂ => if c then wpC cl M A (eval (.BoolOp .And (e₂ :: rest) pos) env) Q s₂ else Q v s₂) (fun _ _ => False) s₁) s) :
    wpC cl M A (eval (.BoolOp .And (e₁ :: e₂ :: rest) pos) env) Q s := by
  show wpC cl M A (do
    let v ← eval e₁ env
    standAt pos
    let c ← holding [v] (truthy v)
    match BoolOp.And, c with
    | .And, false | .Or, true => pure v
    | _, _ => boolOp pos .And (eval e₂ env :: evalEach rest env)) Q s
  refine xBind (xMono h fun v s₁ h₁ => xStandAt (xBindAny (wpAny_holding (wpAny_mono h₁ (fun c s₂ h₂ => ?_) fun _ _ x => x))))
  cases c with
  | false => exact xPure h₂
  | true => exact h₂
theorem xBoolOr {e₁ e₂ rest pos} {Q : Value → Shared → Prop}
    (h : wpC cl M A (eval e₁ env) (fun v s₁ => wpAny M A (truthy v) (fun c s₂ => if c then Q v s₂ else wpC cl M A (eval (.BoolOp .Or (e₂ :: rest) pos) env) Q s₂) (fun _ _ => False) s₁) s) :
    wpC cl M A (eval (.BoolOp .Or (e₁ :: e₂ :: rest) pos) env) Q s := by
  show wpC cl M A (do
    let v ← eval e₁ env
    standAt pos
    let c ← holding [v] (truthy v)
    match BoolOp.Or, c with
    | .And, false | .Or, true => pure v
    | _, _ => boolOp pos .Or (eval e₂ env :: evalEach rest env)) Q s
  refine xBind (xMono h fun v s₁ h₁ => xStandAt (xBindAny (wpAny_holding (wpAny_mono h₁ (fun c s₂ h₂ => ?_) fun _ _ x => x))))
  cases c with
  | false => exact h₂
  | true => exact xPure h₂
theorem xTrueNot {x pos whole} {Q : Bool → Shared → Prop} (h : wpC cl M A (isTrue x env (eval x env)) (fun c s' => Q (!c) s') s) : wpC cl M A (isTrue (.UnaryOp .Not x pos) env whole) Q s := by
  show wpC cl M A (do return !(← isTrue x env (eval x env))) Q s
  exact xBind (xMono h fun c s' h' => xPure h')
theorem xTrueAnd {x rest pos whole} {Q : Bool → Shared → Prop}
    (h : wpC cl M A (isTrue x env (eval x env)) (fun c s' => if c then wpC cl M A (isTrue (.BoolOp .And rest pos) env whole) Q s' else Q false s') s) : wpC cl M A (isTrue (.BoolOp .And (x :: rest) pos) env whole) Q s := by
  show wpC cl M A (do
    match BoolOp.And, ← isTrue x env (eval x env) with
    | .And, false => pure false
    | .Or, true => pure true
    | _, _ => allTrue .And rest env) Q s
  refine xBind (xMono h fun c s' h' => ?_)
  cases c with
  | false => exact xPure h'
  | true => exact h'
theorem xTrueOr {x rest pos whole} {Q : Bool → Shared → Prop}
    (h : wpC cl M A (isTrue x env (eval x env)) (fun c s' => if c then Q true s' else wpC cl M A (isTrue (.BoolOp .Or rest pos) env whole) Q s') s) : wpC cl M A (isTrue (.BoolOp .Or (x :: rest) pos) env whole) Q s := by
  show wpC cl M A (do
    match BoolOp.Or, ← isTrue x env (eval x env) with
    | .And, false => pure false
    | .Or, true => pure true
    | _, _ => allTrue .Or rest env) Q s
  refine xBind (xMono h fun c s' h' => ?_)
  cases c with
  | false => exact h'
  | true => exact xPure h'
theorem xTrueNil {op pos whole} {Q : Bool → Shared → Prop} (h : Q (match op with | BoolOp.And => true | .Or => false) s) : wpC cl M A (isTrue (.BoolOp op [] pos) env whole) Q s := by
  cases op <;> exact xPure h
theorem xTrueIfExp {test body orelse pos whole} {Q : Bool → Shared → Prop}
    (h : wpC cl M A (isTrue test env (eval test env)) (fun c s₂ => if c = true then wpC cl M A (isTrue body env (eval body env)) Q s₂ else wpC cl M A (isTrue orelse env (eval orelse env)) Q s₂) s) :
    wpC cl M A (isTrue (.IfExp test body orelse pos) env whole) Q s := by
  show wpC cl M A (do if ← isTrue test env (eval test env) then isTrue body env (eval body env) else isTrue orelse env (eval orelse env)) Q s
  exact xBind (xMono h fun c s₂ h₂ => xIf h₂)
theorem xTruePlain {e : PySem.Expr} {whole : Sem Value} {Q : Bool → Shared → Prop} (h : wpC cl M A whole (fun v s₁ => wpAny M A (truthy v) Q (fun _ _ => False) s₁) s)
    (he : isTrue e env whole = (do let v ← whole; standAt e.pos; holding [v] (truthy v))) : wpC cl M A (isTrue e env whole) Q s := by
  rw [he]
  exact xBind (xMono h fun v s₁ h₁ => xStandAt (xHolding (xAny h₁)))
theorem xCompare {l ops rs pos} {Q : Value → Shared → Prop} (h : wpC cl M A (eval l env) (fun a s₁ => wpC cl M A (compareChain pos a ops (evalEach rs env)) Q s₁) s) (hm : lastMarks ops rs = false) :
    wpC cl M A (eval (.Compare l ops rs pos) env) Q s := by
  show wpC cl M A (do compareChain pos (← eval l env) ops (markedEach ops rs (evalEach rs env))) Q s
  rw [markedEach_of_false _ _ _ hm]
  exact xBind h
theorem xTrueCompare {l ops rs pos whole} {Q : Bool → Shared → Prop} (h : wpC cl M A (eval l env) (fun a s₁ => wpC cl M A (testChain pos a ops (evalEach rs env)) Q s₁) s) (hm : lastMarks ops rs = false) :
    wpC cl M A (isTrue (.Compare l ops rs pos) env whole) Q s := by
  show wpC cl M A (do testChain pos (← eval l env) ops (markedEach ops rs (evalEach rs env))) Q s
  rw [markedEach_of_false _ _ _ hm]
  exact xBind h
theorem xLink {pos : Pos} {a : Value} {op op' : CmpOp} {ops : List CmpOp} {r r' : Sem Value} {rs : List (Sem Value)} {Q : Value → Shared → Prop}
    (h : wpC cl M A r (fun b s₁ => wpAny M A (compareOp op a b) (fun c s₂ => ∃ t, c = .bool t ∧ (if t = true then wpC cl M A (compareChain pos b (op' :: ops) (r' :: rs)) Q s₂ else Q (.bool false) s₂)) (fun _ _ => False) s₁) s) :
    wpC cl M A (compareChain pos a (op :: op' :: ops) (r :: r' :: rs)) Q s := by
  show wpC cl M A (do
    let rv ← holding [a] r
    standAt pos
    let c ← holding [a, rv] (compareOp op a rv)
    release [a, rv] [c]
    if ← holding [c, rv] (truthy c) then compareChain pos rv (op' :: ops) (r' :: rs) else pure c) Q s
  refine xBind (xHolding (xMono h fun b s₁ h₁ => xStandAt (xBindAny (wpAny_holding (wpAny_mono h₁ (fun c s₂ h₂ => ?_) fun _ _ x => x)))))
  obtain ⟨t, rfl, h₂⟩ := h₂
  refine xBindAny (wpAny_release' ?_)
  refine xBindAny (wpAny_holding (wpAny_truthy_bool ?_))
  cases t with
  | false => exact xPure h₂
  | true => exact h₂
theorem xLast {pos : Pos} {a : Value} {op : CmpOp} {r : Sem Value} {Q : Value → Shared → Prop}
    (h : wpC cl M A r (fun b s₁ => wpAny M A (compareOp op a b) Q (fun _ _ => False) s₁) s) : wpC cl M A (compareChain pos a [op] [r]) Q s := by
  show wpC cl M A (do
    let rv ← holding [a] r
    standAt pos
    operate [a, rv] (compareOp op a rv)) Q s
  exact xBind (xHolding (xMono h fun b s₁ h₁ => xStandAt (xOperate (xAny h₁))))
theorem xTrueLink {pos : Pos} {a : Value} {op op' : CmpOp} {ops : List CmpOp} {r r' : Sem Value} {rs : List (Sem Value)} {Q : Bool → Shared → Prop}
    (h : wpC cl M A r (fun b s₁ => wpAny M A (compareOp op a b) (fun c s₂ => ∃ t, c = .bool t ∧ (if t = true then wpC cl M A (testChain pos b (op' :: ops) (r' :: rs)) Q s₂ else Q false s₂)) (fun _ _ => False) s₁) s) :
    wpC cl M A (testChain pos a (op :: op' :: ops) (r :: r' :: rs)) Q s := by
  show wpC cl M A (do
    let rv ← holding [a] r
    standAt pos
    let c ← holding [a, rv] (compareOp op a rv)
    release [a, rv] [c]
    if ← holding [c, rv] (truthy c) then testChain pos rv (op' :: ops) (r' :: rs) else pure false) Q s
  refine xBind (xHolding (xMono h fun b s₁ h₁ => xStandAt (xBindAny (wpAny_holding (wpAny_mono h₁ (fun c s₂ h₂ => ?_) fun _ _ x => x)))))
  obtain ⟨t, rfl, h₂⟩ := h₂
  refine xBindAny (wpAny_release' ?_)
  refine xBindAny (wpAny_holding (wpAny_truthy_bool ?_))
  cases t with
  | false => exact xPure h₂
  | true => exact h₂
theorem xTrueLast {pos : Pos} {a : Value} {op : CmpOp} {r : Sem Value} {Q : Bool → Shared → Prop}
    (h : wpC cl M A r (fun b s₁ => wpAny M A (compareOp op a b) (fun c s₂ => ∃ t, c = .bool t ∧ Q t s₂) (fun _ _ => False) s₁) s) : wpC cl M A (testChain pos a [op] [r]) Q s := by
  show wpC cl M A (do
    let rv ← holding [a] r
    standAt pos
    let c ← operate [a, rv] (compareOp op a rv)
    holding [c] (truthy c)) Q s
  refine xBind (xHolding (xMono h fun b s₁ h₁ => xStandAt (xBind (xOperate (xMono (xAny h₁) fun c s₂ h₂ => ?_)))))
  obtain ⟨t, rfl, h₂⟩ := h₂
  exact xHolding (xAny (wpAny_truthy_bool h₂))
theorem xSubscript {value slice pos} {Q : Value → Shared → Prop}
    (h : wpC cl M A (eval value env) (fun o s₁ => wpC cl M A (eval slice env) (fun i s₂ => wpAny M A (subscriptTail value slice o i) Q (fun _ _ => False) s₂) s₁) s) : wpC cl M A (eval (.Subscript value slice pos) env) Q s := by
  rw [eval_Subscript]
  exact xBind (xMono h fun o s₁ h₁ => xBind (xHolding (xMono h₁ fun i s₂ h₂ => xStandAt (xAny h₂))))
end

section
variable {cl : Bool} {M : Model} {A : Around} {s : Shared} {env : Env}
theorem starEach_cons {x : PySem.Expr} {r : List PySem.Expr} (h : noStar x = true) : starEach (x :: r) env = (false, eval x env) :: starEach r env := by
  cases x <;> first | rfl | cases h
theorem starEach_plain : ∀ (r : List PySem.Expr), r.all noStar = true → (starEach r env).any (·.1) = false
  | [], _ => rfl
  | x :: r, h => by
    obtain ⟨h1, h2⟩ := Bool.and_eq_true_iff.mp (show (noStar x && r.all noStar) = true from h)
    rw [starEach_cons h1]
    show (false || (starEach r env).any (·.1)) = false
    rw [starEach_plain r h2]; rfl
theorem backTo_any {pos : Pos} (l : List (Bool × Sem Value)) : (backTo pos l).any (·.1) = l.any (·.1) := by
  unfold backTo
  rw [List.any_map]
  rfl
theorem xSplicedCons {x : Sem Value} {rest : List (Bool × Sem Value)} {Q : List Value → Shared → Prop}
    (h : wpC cl M A x (fun v s₁ => wpC cl M A (spliced rest) (fun vs s₂ => Q (v :: vs) s₂) s₁) s) : wpC cl M A (spliced ((false, x) :: rest)) Q s := by
  rw [spliced]
  refine xBind (xMono h fun v s₁ h₁ => ?_)
  simp only [Bool.false_eq_true, if_false]
  exact xBind (xPure (xBind (xHolding (xMono h₁ fun vs s₂ h₂ => xPure h₂))))
theorem xEvalArgs {f : Value} {ts : List (Bool × Sem Value)} {Q : Args → Shared → Prop} (hp : ts.any (·.1) = false)
    (h : wpC cl M A (spliced ts) (fun vs s' => Q ⟨vs, []⟩ s') s) : wpC cl M A (evalArgs f true ts []) Q s := by
  unfold evalArgs
  cases ts with
  | nil =>
    show wpC cl M A (spliced [] >>= _) Q s
    refine xBind (xMono h fun vs s₁ h₁ => xBind (xPure (xHolding ?_)))
    exact xBind (xPure (xBind (xPure (xPure h₁))))
  | cons t r =>
    obtain ⟨b, x⟩ := t
    have hb : b = false := by
      cases b with
      | false => rfl
      | true => cases hp
    subst hb
    show wpC cl M A (spliced ((false, x) :: r) >>= _) Q s
    refine xBind (xMono h fun vs s₁ h₁ => xBind (xPure (xHolding ?_)))
    exact xBind (xPure (xBind (xPure (xPure h₁))))
/-- the arguments, then the call -/
theorem xCallWith {pos : Pos} {f : Value} {first : List Value} {args : List PySem.Expr} {Q : Value → Shared → Prop} (hn : args.all noStar = true)
    (h : wpC cl M A (spliced (backTo pos (starEach args env))) (fun vs s₁ => (∃ k, (k = Keeper.frame ∨ k = Keeper.machine) ∧ Looks M s₁.heap (keeperOf f) k) ∧ wpC cl M A (call f (first ++ vs) []) Q s₁) s) : wpC cl M A (callWith pos f first (backTo pos (starEach args env)) []) Q s := by
  have hp : (backTo pos (starEach args env)).any (·.1) = false := by rw [backTo_any]; exact starEach_plain args hn
  have h' : wpC cl M A (evalArgs f true (backTo pos (starEach args env)) []) (fun a s₁ => (∃ k, (k = Keeper.frame ∨ k = Keeper.machine) ∧ Looks M s₁.heap (keeperOf f) k) ∧ wpC cl M A (call f (first ++ a.pos) a.kw) Q s₁) s := xEvalArgs hp h
  unfold callWith
  refine xBind (xHolding (xMono h' fun a s₁ h₁ => xStandAt ?_))
  obtain ⟨⟨k, hk', L⟩, h₁⟩ := h₁
  have hq : ((backTo pos (starEach args env)).any (·.1) || ([] : List (Option Str × Sem Value)).any (·.1.isNone)) = false := by
    rw [hp]; rfl
  simp only [hq]
  refine xBindAny (L.here ?_)
  have tail : ∀ {t : Sem Value}, wpC cl M A t Q s₁ → wpC cl M A (t >>= fun r => holding [r] point >>= fun _ => pure r) Q s₁ :=
    fun ht => xBind (xMono ht fun r s₂ hr => xBindAny (wpAny_holding (wpAny_point (xPure hr))))
  have marked (mk : Value) : wpC cl M A (callMarked mk f (first ++ a.pos) a.kw) Q s₁ := by unfold callMarked; exact xKeep h₁
  rcases hk' with rfl | rfl <;> dsimp only <;> first | exact tail h₁ | (split <;> first | exact tail h₁ | exact tail (marked _))
theorem xCallExpr {func : PySem.Expr} {args : List PySem.Expr} {pos : Pos} {Q : Value → Shared → Prop} (hf : isAttr func = false)
    (h : wpC cl M A (eval func env) (fun f s₁ => wpC cl M A (callWith pos f [] (backTo pos (starEach args env)) []) Q s₁) s) : wpC cl M A (eval (.Call func args [] pos) env) Q s := by
  have he : eval (.Call func args [] pos) env = (do callWith pos (← eval func env) [] (backTo pos (starEach args env)) (backToKw pos (keywordEach [] env))) := by
    cases func <;> first | rfl | cases hf
  rw [he]; exact xBind h
theorem xAttrBase {o : PySem.Expr} {name : Str} {whole : Sem Value} {Q : Value → Shared → Prop} (ho : superOk o = true) (h : wpC cl M A whole Q s) : wpC cl M A (attributeBase o name env whole) Q s := by
  unfold attributeBase
  cases o
  case Call f args kws pos =>
    cases f
    case Name id p =>
      have hid : (id != ("super" : Str)) = true := by
        have : decide (id ≠ ("super" : Str)) = true := ho
        simpa using this
      cases args
      case nil =>
        cases kws
        case nil =>
          dsimp only
          rw [hid]
          simp only [Bool.true_or, if_true]
          exact h
        all_goals exact h
      all_goals exact h
    all_goals exact h
  all_goals exact h
theorem xMethodExpr {o : PySem.Expr} {name : Str} {args : List PySem.Expr} {apos pos : Pos} {Q : Value → Shared → Prop} (ho : superOk o = true) (hl : (apos.endLine == pos.line) = true) (hn : args.all noStar = true) (hlen : args.length < 29)
    (h : wpC cl M A (eval o env) (fun ov s₁ => ∀ pl, wpAny M A (getMethod ov name pl) (fun fx s₂ => wpC cl M A (callWith pos fx.1 fx.2 (backTo pos (starEach args env)) []) Q s₂) (fun _ _ => False) s₁) s) :
    wpC cl M A (eval (.Call (.Attribute o name apos) args [] pos) env) Q s := by
  rw [arm_eval_Call]
  refine xBind (xMono (xAttrBase ho h) fun ov s₁ h₁ => xStandAt ?_)
  have hform : methodCallForm (args.length + ([] : List Keyword).length) (backTo pos (starEach args env)) (backToKw pos (keywordEach [] env)) = true := by
    unfold methodCallForm
    have : (backTo pos (starEach args env)).all (fun x => !x.1) = true := by
      have hp : (backTo pos (starEach args env)).any (·.1) = false := by rw [backTo_any]; exact starEach_plain args hn
      rw [List.any_eq_false] at hp
      rw [List.all_eq_true]
      intro x hx
      simpa using hp x hx
    rw [this]
    have : decide (args.length + 0 + 0 < 30) = true := decide_eq_true (by (first | exact Int.natCast_nonneg _ | lia | omega))
    exact this
  have hpos : methodCallPos true o env apos pos = pure pos := by unfold methodCallPos; simp [hl]
  unfold methodCall
  rw [hform]
  refine xBindAny (wpAny_holding (wpAny_mono (h₁ _) (fun fx s₂ h₂ => ?_) fun _ _ e => e))
  rw [hpos]
  exact xBind (xPure h₂)
end
section
variable {cl : Bool} {prog : Program} {w : World} {A : Around} {s : Shared} {env : Env}
/-- a def's body -/
theorem codeC_func {body : List Stmt} {env : Env} {R : Flow → Shared → Prop} (h : wpC cl (model prog w) (A.deeper env) (execs body env) (fun f s' => R (.ret (match f with | .ret v => v | _ => .none)) s') s) : codeC cl (model prog w) A (.func body env) R s := by
  refine codeC_of_tree rfl ?_
  show wpC _ _ (A.deeper env) (do point; match ← (execs body env).onRaise (leaving env) with | .ret v => ret v | _ => ret .none) _ s
  refine xBindAny (wpAny_point (xBind (xOnRaise (xMono h fun f s' h' => ?_))))
  cases f <;> exact xPure h'
theorem codeC_call_function {a : Addr} {args : Args} {o : Obj} {fd : FuncData} {body : List Stmt} {R : Flow → Shared → Prop} (hroom : A.depth < recursionLimit) (ho : s.heap.get? a = some o)
    (hd' : o.data = .func fd) (hco : fd.scope.isCoroutine = false) (hgen : fd.scope.isGenerator = false) (hbody : fd.body = .stmts body) (hcd : s.heap.CodeRec fd.code fd.qualname)
    (h : wpAny (model prog w) A.in1 (bindArgs fd args) (fun binds s₁ =>
      wpAny (model prog w) A.in1 (newFunctionEnv fd.scope fd.globals fd.closure binds (fd.qualname ++ ".<locals>.") (some a) fd.code none fd.builtins)
        (fun env s₂ => s₂.heap.NoLimit ∧ codeC cl (model prog w) A (.func body env) R s₂) (fun _ _ => False) s₁) (fun _ _ => False) s) :
    codeC cl (model prog w) A (.call (.ref a) args) R s := by
  refine codeC_of_tree rfl ?_
  show wpC _ _ A.in1 (callAny (.ref a) args) _ s
  simp only [callAny]
  refine xBindAny (wpAny_load ho ?_)
  obtain ⟨c, oc, vs, tq, hc, hoc, hdc, hq⟩ := hcd
  simp only [hd', callFunction, hco, hgen, hbody, hc]
  rw [hc] at h
  refine xBindAny (m := field (.ref c) 1) (wpAny_field hoc hdc hq (xBind (xPure ?_)))
  exact xBindAny (wpAny_mono h (fun binds s₁ h₁ => xBindAny (wpAny_mono h₁ (fun env s₂ h₂ => xBindAny (wpAny_enterFrame h₂.1 hroom
    (xPure (And.intro rfl h₂.2)))) fun _ _ h' => h')) fun _ _ h' => h')
end

/-- what is known of a def's call -/
noncomputable def Con (cf : Cfg) (cl : Bool) (D : Nat) (a : Addr) (vs : List PV) (σ : St) (Q : PV → St → Prop) : Prop :=
  PySem.W.fnIn cf.K a = true ∧ ∀ (G : Gd) (fr : Frm) (F : List (Addr × Obj)) (e : En) (s : Shared) (Vs : List Value), Ok cf D G fr → Vs.map er = vs → Sim G F σ e s.heap → wpC cl (model G.prog G.w) G.A (call (.ref a) Vs) (Pst G F e Q s) s
noncomputable def Tst (G : Gd) (F : List (Addr × Obj)) (e : En) (Q : Bool → St → Prop) (s : Shared) (b : Bool) (s' : Shared) : Prop :=
  ∃ h tk σ, s' = { s with heap := h, toks := tk } ∧ Sim G F σ e h ∧ Q b σ
noncomputable def erF : Flow → Fl
  | .next => .next | .brk => .brk | .cont => .cont | .ret v => .ret (er v)
noncomputable def Sst (G : Gd) (F : List (Addr × Obj)) (Q : Fl → En → St → Prop) (s : Shared) (f : Flow) (s' : Shared) : Prop :=
  ∃ h tk e σ, s' = { s with heap := h, toks := tk } ∧ Sim G F σ e h ∧ Q (erF f) e σ
structure Snd (cf : Cfg) (cl : Bool) (D : Nat) (L : Lvl) : Prop where
  E : ∀ {G fr F e σ s x Q}, Ok cf D G fr → Sim G F σ e s.heap → L.E fr x e σ Q → wpC cl (model G.prog G.w) G.A (eval x G.env) (Pst G F e Q s) s
  T : ∀ {G fr F e σ s x Q}, Ok cf D G fr → Sim G F σ e s.heap → L.T fr x e σ Q → wpC cl (model G.prog G.w) G.A (isTrue x G.env (eval x G.env)) (Tst G F e Q s) s
  S : ∀ {G fr F e σ s x Q}, Ok cf D G fr → Sim G F σ e s.heap → L.S fr x e σ Q → wpC cl (model G.prog G.w) G.A (exec x G.env) (Sst G F Q s) s
  C : L.C = Con cf cl D
  A : ∀ {fr e σ x Q}, atom x = true → L.E fr x e σ Q → ∃ v, Q v σ
theorem ifB_if {b : Bool} {P R : Prop} (h : ifB b P R) : if b = true then P else R := by
  cases b with
  | true => exact h.1 rfl
  | false => exact h.2 rfl
theorem onI_x {v : PV} {P : Int → Prop} (h : onI v P) : ∃ i, P i := by
  cases v <;> first | exact ⟨_, h⟩ | exact (h : False).elim
theorem onY_x {v : PV} {P : List Int → Prop} (h : onY v P) : ∃ i, P i := by
  cases v <;> first | exact ⟨_, h⟩ | exact (h : False).elim
theorem onB_x {v : PV} {P : Bool → Prop} (h : onB v P) : ∃ i, P i := by
  cases v <;> first | exact ⟨_, h⟩ | exact (h : False).elim
theorem cmpB_x {op : CmpOp} {a b : PV} {σ : St} {P : Bool → Prop} (h : cmpB op a b σ P) : ∃ c, P c := by
  have eq : ∀ neg, eqB neg a b σ P → ∃ c, P c := fun neg h => by
    unfold eqB at h
    cases a with
    | int => obtain ⟨_, h⟩ := onI_x h; exact ⟨_, h⟩
    | byt => obtain ⟨_, h⟩ := onY_x h; exact ⟨_, h.2⟩
    | bool => obtain ⟨_, h⟩ := onB_x h; exact ⟨_, h⟩
    | none => cases b <;> first | exact (h : False).elim | exact ⟨_, h.2⟩ | (obtain ⟨_, _, h⟩ := onL_e h.2; exact ⟨_, h⟩)
    | ref => cases b <;> first | exact (h : False).elim | (obtain ⟨_, _, h⟩ := onL_e h; obtain ⟨_, _, h⟩ := onL_e h; exact ⟨_, h.2⟩) | (obtain ⟨_, _, h⟩ := onL_e h.2; exact ⟨_, h⟩)
    | _ => exact (h : False).elim
  have is_ : ∀ {P : Bool → Prop}, isB a b P → ∃ c, P c := fun h => by
    unfold isB at h
    cases b <;> first | exact (h : False).elim | (cases a <;> first | exact (h : False).elim | exact ⟨_, h⟩)
  cases op with
  | Eq => exact eq _ h
  | NotEq => exact eq _ h
  | Is => exact is_ h
  | IsNot => obtain ⟨c, h⟩ := is_ (P := fun c => P (!c)) h; exact ⟨_, h⟩
  | In =>
    obtain ⟨_, h⟩ := onI_x h
    obtain ⟨_, h⟩ := onY_x h
    exact ⟨_, h.2.2⟩
  | NotIn => exact (h : False).elim
  | _ => obtain ⟨_, h⟩ := onI_x h; obtain ⟨_, h⟩ := onI_x h; exact ⟨_, h⟩
section
variable {cf : Cfg} {cl : Bool} {D : Nat} {L : Lvl} {G : Gd} {fr : Frm} {F : List (Addr × Obj)} {e : En} {σ : St} {s : Shared}
theorem sArgs (H : Snd cf cl D L) (ok : Ok cf D G fr) {pos : Pos} : ∀ {args : List PySem.Expr} {σ : St} {s : Shared} {Q : List PV → St → Prop}, args.all noStar = true → Sim G F σ e s.heap → evArgs L fr args e σ Q →
    wpC cl (model G.prog G.w) G.A (spliced (backTo pos (starEach args G.env))) (fun Vs s' => ∃ h tk σ', s' = { s with heap := h, toks := tk } ∧ Sim G F σ' e h ∧ Q (Vs.map er) σ') s
  | [], σ, s, Q, _, S, h => xPure ⟨s.heap, s.toks, σ, rfl, S, h⟩
  | x :: r, σ, s, Q, hn, S, h => by
    obtain ⟨h1, h2⟩ := Bool.and_eq_true_iff.mp (show (noStar x && r.all noStar) = true from hn)
    rw [starEach_cons h1]
    unfold evArgs at h
    rw [if_pos h1] at h
    refine xSplicedCons (xMono (H.E ok S h) fun V s₁ h₁ => ?_)
    obtain ⟨h', tk, σ₁, rfl, S₁, q⟩ := h₁
    exact sArgs H ok (s := { s with heap := h', toks := tk }) h2 S₁ q
theorem sTruthy {V : Value} {Q : Bool → Prop} (h : onB (er V) Q) : wpAny (model G.prog G.w) G.A (truthy V) (fun b s' => s' = s ∧ Q b) (fun _ _ => False) s := by
  obtain ⟨b, rfl, q⟩ := onB_er h
  exact wpAny_truthy_bool ⟨rfl, q⟩
/-- a chain of atoms asks nothing of the state -/
theorem chain_c (H : Snd cf cl D L) : ∀ {ops : List CmpOp} {rs : List PySem.Expr} {v : PV} {P : St → Prop}, rs.all atom = true → chain L fr v ops rs e σ (fun _ σ' => P σ') → P σ
  | [], _, _, _, _, h => h.elim
  | op :: ops, [], _, _, _, h => h.elim
  | [op], [r], v, P, ha, h => by
    obtain ⟨h1, _⟩ := Bool.and_eq_true_iff.mp (show (atom r && true) = true from ha)
    obtain ⟨w, q⟩ := H.A h1 h
    exact (cmpB_x q).choose_spec
  | [op], r :: r' :: rs, v, P, ha, h => (h : False).elim
  | op :: op' :: ops, r :: rs, v, P, ha, h => by
    obtain ⟨h1, h2⟩ := Bool.and_eq_true_iff.mp (show (atom r && rs.all atom) = true from ha)
    unfold chain at h
    dsimp only at h
    rw [if_pos h2] at h
    obtain ⟨w, q⟩ := H.A h1 h
    obtain ⟨c, q⟩ := cmpB_x q
    exact chain_c H h2 q
theorem sChain (H : Snd cf cl D L) (ok : Ok cf D G fr) (hu : G.A.units + 64 < cLine) {pos : Pos} : ∀ {ops : List CmpOp} {rs : List PySem.Expr} {V : Value} {σ : St} {s : Shared} {Q : Bool → St → Prop}, ops.length = rs.length → Sim G F σ e s.heap → chain L fr (er V) ops rs e σ Q →
    wpC cl (model G.prog G.w) G.A (compareChain pos V ops (evalEach rs G.env)) (fun W s' => ∃ b, W = .bool b ∧ Tst G F e Q s b s') s ∧
    wpC cl (model G.prog G.w) G.A (testChain pos V ops (evalEach rs G.env)) (Tst G F e Q s) s
  | [], _, _, _, _, _, _, _, h => h.elim
  | op :: ops, [], _, _, _, _, hl, _, _ => by cases hl
  | [op], r :: r' :: rs, _, _, _, _, hl, _, _ => by cases hl
  | [op], [r], V, σ, s, Q, _, S, h => by
    have h : L.E fr r e σ fun w σ => cmpB op (er V) w σ fun b => Q b σ := h
    have last : wpC cl (model G.prog G.w) G.A (eval r G.env) (fun W s₁ => wpAny (model G.prog G.w) G.A (compareOp op V W) (fun c s₂ => ∃ t, c = .bool t ∧ Tst G F e Q s t s₂) (fun _ _ => False) s₁) s := by
      refine xMono (H.E ok S h) fun W s₁ h₁ => ?_
      obtain ⟨h', tk, σ₁, rfl, S₁, q⟩ := h₁
      refine wpAny_mono (sCmp hu S₁ q) (fun c s₂ h₂ => ?_) fun _ _ e => e
      obtain ⟨t, rfl, rfl, q⟩ := h₂
      exact ⟨t, rfl, h', tk, σ₁, rfl, S₁, q⟩
    exact ⟨xLast last, xTrueLast last⟩
  | op :: op' :: ops, [r], _, _, _, _, hl, _, _ => by cases hl
  | op :: op' :: ops, r :: r' :: rs, V, σ, s, Q, hl, S, h => by
    have two : wpC cl (model G.prog G.w) G.A (eval r G.env) (fun W s₁ => wpAny (model G.prog G.w) G.A (compareOp op V W) (fun c s₂ => ∃ t, c = .bool t ∧ ∃ h tk σ', s₂ = { s with heap := h, toks := tk } ∧ Sim G F σ' e h ∧
        (if t = true then chain L fr (er W) (op' :: ops) (r' :: rs) e σ' Q else Q false σ')) (fun _ _ => False) s₁) s := by
      unfold chain at h
      dsimp only at h
      obtain ⟨X, h, hX⟩ : ∃ X : PV → Bool → St → Prop, (L.E fr r e σ fun w σ => cmpB op (er V) w σ fun b => X w b σ) ∧ ∀ w b σ, X w b σ → if b = true then chain L fr w (op' :: ops) (r' :: rs) e σ Q else Q false σ := by
        by_cases ha : (r' :: rs).all atom = true
        · rw [if_pos ha] at h
          refine ⟨_, h, fun w b σ q => ?_⟩
          cases b with
          | true => simpa using q
          | false =>
            simp only [Bool.false_and] at q
            exact chain_c H ha q
        · rw [if_neg ha] at h
          exact ⟨_, h, fun w b σ q => ifB_if q⟩
      refine xMono (H.E ok S h) fun W s₁ h₁ => ?_
      obtain ⟨h', tk, σ₁, rfl, S₁, q⟩ := h₁
      refine wpAny_mono (sCmp hu S₁ q) (fun c s₂ h₂ => ?_) fun _ _ e => e
      obtain ⟨t, rfl, rfl, q⟩ := h₂
      exact ⟨t, rfl, h', tk, σ₁, rfl, S₁, hX _ _ _ q⟩
    have hl' : (op' :: ops).length = (r' :: rs).length := Nat.succ.inj hl
    constructor
    · refine xLink (xMono two fun W s₁ h₁ => wpAny_mono h₁ (fun c s₂ h₂ => ?_) fun _ _ e => e)
      obtain ⟨t, rfl, h', tk, σ', rfl, S', q⟩ := h₂
      refine ⟨t, rfl, ?_⟩
      cases t with
      | true => exact (sChain H ok hu (s := { s with heap := h', toks := tk }) hl' S' (by simpa using q)).1
      | false => exact ⟨false, rfl, h', tk, σ', rfl, S', by simpa using q⟩
    · refine xTrueLink (xMono two fun W s₁ h₁ => wpAny_mono h₁ (fun c s₂ h₂ => ?_) fun _ _ e => e)
      obtain ⟨t, rfl, h', tk, σ', rfl, S', q⟩ := h₂
      refine ⟨t, rfl, ?_⟩
      cases t with
      | true => exact (sChain H ok hu (s := { s with heap := h', toks := tk }) hl' S' (by simpa using q)).2
      | false => exact ⟨h', tk, σ', rfl, S', by simpa using q⟩
end

section
variable {cf : Cfg} {cl : Bool} {D : Nat} {L : Lvl} {G : Gd} {fr : Frm} {F : List (Addr × Obj)} {e : En} {σ : St} {s : Shared}
theorem eName {x : Str} {pos : Pos} {Q : PV → St → Prop} (ok : Ok cf D G fr) (S : Sim G F σ e s.heap) (h : getN fr (key x) e σ fun v => Q v σ) : wpC cl (model G.prog G.w) G.A (eval (.Name x pos) G.env) (Pst G F e Q s) s := by
  obtain ⟨hd, h⟩ := sLoad (prog := G.prog) (w := G.w) (E := fun _ _ => False) ok S h
  rw [eval_Name _ _ _ hd]
  refine xStandAt (xAny (wpAny_mono h (fun V s' h' => ?_) fun _ _ e => e))
  obtain ⟨rfl, q⟩ := h'
  exact ⟨_, _, σ, rfl, S, q⟩
theorem eConst {c : Const} {n : Nat} {pos : Pos} {Q : PV → St → Prop} (S : Sim G F σ e s.heap) (h : constV c fun v => Q v σ) : wpC cl (model G.prog G.w) G.A (eval (.Constant c n pos) G.env) (Pst G F e Q s) s := by
  refine xAny (wpAny_mono (sConst h) (fun V s' h' => ?_) fun _ _ e => e)
  obtain ⟨tk, rfl, q⟩ := h'
  exact .here S q
theorem eBin (H : Snd cf cl D L) (ok : Ok cf D G fr) {op : Operator} {l r : PySem.Expr} {pos : Pos} {Q : PV → St → Prop} (S : Sim G F σ e s.heap) (h : L.E fr l e σ fun a σ => L.E fr r e σ fun b σ => binop op a b σ Q) :
    wpC cl (model G.prog G.w) G.A (eval (.BinOp l op r pos) G.env) (Pst G F e Q s) s := by
  refine xBinOp (xMono (H.E ok S h) fun V s₁ h₁ => ?_)
  obtain ⟨h', tk, σ₁, rfl, S₁, q⟩ := h₁
  refine xMono (H.E ok (s := { s with heap := h', toks := tk }) S₁ q) fun W s₂ h₂ => ?_
  obtain ⟨h'', tk', σ₂, rfl, S₂, q⟩ := h₂
  exact sBin (s := { s with heap := h'', toks := tk' }) S₂ q
theorem eNot (H : Snd cf cl D L) (ok : Ok cf D G fr) {x : PySem.Expr} {pos : Pos} {Q : PV → St → Prop} (S : Sim G F σ e s.heap) (h : L.E fr x e σ fun v σ => onB v fun b => Q (.bool !b) σ) :
    wpC cl (model G.prog G.w) G.A (eval (.UnaryOp .Not x pos) G.env) (Pst G F e Q s) s := by
  refine xNot (xMono (H.E ok S h) fun V s₁ h₁ => ?_)
  obtain ⟨h', tk, σ₁, rfl, S₁, q⟩ := h₁
  refine wpAny_mono (sTruthy q) (fun b s₂ h₂ => ?_) fun _ _ e => e
  obtain ⟨rfl, q⟩ := h₂
  exact ⟨h', tk, σ₁, rfl, S₁, q⟩
theorem eBool (H : Snd cf cl D L) (ok : Ok cf D G fr) {op : BoolOp} {pos : Pos} {Q : PV → St → Prop} : ∀ {es : List PySem.Expr} {σ : St} {s : Shared}, Sim G F σ e s.heap → boolE L fr op es e σ Q →
    wpC cl (model G.prog G.w) G.A (eval (.BoolOp op es pos) G.env) (Pst G F e Q s) s
  | [], _, _, _, h => h.elim
  | [x], σ, s, S, h => xBoolOne (H.E ok S h)
  | x :: y :: r, σ, s, S, h => by
    cases op with
    | And =>
      have h : L.E fr x e σ fun v σ => onB v fun b => ifB b (boolE L fr .And (y :: r) e σ Q) (Q (.bool false) σ) := h
      refine xBoolAnd (xMono (H.E ok S h) fun V s₁ h₁ => ?_)
      obtain ⟨h', tk, σ₁, rfl, S₁, q⟩ := h₁
      obtain ⟨b, rfl, q⟩ := onB_er q
      refine wpAny_truthy_bool ?_
      cases b with
      | true => exact eBool H ok (s := { s with heap := h', toks := tk }) S₁ (q.1 rfl)
      | false => exact ⟨h', tk, σ₁, rfl, S₁, q.2 rfl⟩
    | Or =>
      have h : L.E fr x e σ fun v σ => onB v fun b => ifB b (Q (.bool true) σ) (boolE L fr .Or (y :: r) e σ Q) := h
      refine xBoolOr (xMono (H.E ok S h) fun V s₁ h₁ => ?_)
      obtain ⟨h', tk, σ₁, rfl, S₁, q⟩ := h₁
      obtain ⟨b, rfl, q⟩ := onB_er q
      refine wpAny_truthy_bool ?_
      cases b with
      | true => exact ⟨h', tk, σ₁, rfl, S₁, q.1 rfl⟩
      | false => exact eBool H ok (s := { s with heap := h', toks := tk }) S₁ (q.2 rfl)
theorem eIf (H : Snd cf cl D L) (ok : Ok cf D G fr) {t b o : PySem.Expr} {pos : Pos} {Q : PV → St → Prop} (S : Sim G F σ e s.heap) (h : L.T fr t e σ fun c σ => ifB c (L.E fr b e σ Q) (L.E fr o e σ Q)) :
    wpC cl (model G.prog G.w) G.A (eval (.IfExp t b o pos) G.env) (Pst G F e Q s) s := by
  refine xIfExp (xMono (H.T ok S h) fun c s₁ h₁ => ?_)
  obtain ⟨h', tk, σ₁, rfl, S₁, q⟩ := h₁
  cases c with
  | true => exact H.E ok (s := { s with heap := h', toks := tk }) S₁ (q.1 rfl)
  | false => exact H.E ok (s := { s with heap := h', toks := tk }) S₁ (q.2 rfl)
theorem Ok.units (ok : Ok cf D G fr) : G.A.units + 64 < cLine := by have := ok.hu; (first | exact Int.natCast_nonneg _ | lia | omega)
theorem cmp_side {ops : List CmpOp} {rs : List PySem.Expr} {P : Prop} (h : if (lastMarks ops rs || !(ops.length == rs.length)) = true then False else P) : lastMarks ops rs = false ∧ ops.length = rs.length ∧ P := by
  split at h
  · exact h.elim
  · rename_i hn
    simp only [Bool.or_eq_true, not_or, Bool.not_eq_true, Bool.not_eq_false', beq_iff_eq] at hn
    exact ⟨hn.1, hn.2, h⟩
theorem eCmp (H : Snd cf cl D L) (ok : Ok cf D G fr) {l : PySem.Expr} {ops : List CmpOp} {rs : List PySem.Expr} {pos : Pos} {Q : PV → St → Prop} (S : Sim G F σ e s.heap)
    (h : if (lastMarks ops rs || !(ops.length == rs.length)) = true then False else L.E fr l e σ fun v σ => chain L fr v ops rs e σ fun b σ => Q (.bool b) σ) :
    wpC cl (model G.prog G.w) G.A (eval (.Compare l ops rs pos) G.env) (Pst G F e Q s) s := by
  obtain ⟨hm, hl, h⟩ := cmp_side h
  refine xCompare (xMono (H.E ok S h) fun V s₁ h₁ => ?_) hm
  obtain ⟨h', tk, σ₁, rfl, S₁, q⟩ := h₁
  refine xMono (sChain H ok ok.units (s := { s with heap := h', toks := tk }) hl S₁ q).1 fun W s₂ h₂ => ?_
  obtain ⟨b, rfl, h'', tk', σ₂, rfl, S₂, q⟩ := h₂
  exact ⟨h'', tk', σ₂, rfl, S₂, q⟩
theorem tCmp (H : Snd cf cl D L) (ok : Ok cf D G fr) {l : PySem.Expr} {ops : List CmpOp} {rs : List PySem.Expr} {pos : Pos} {whole : Sem Value} {Q : Bool → St → Prop} (S : Sim G F σ e s.heap)
    (h : if (lastMarks ops rs || !(ops.length == rs.length)) = true then False else L.E fr l e σ fun v σ => chain L fr v ops rs e σ Q) :
    wpC cl (model G.prog G.w) G.A (isTrue (.Compare l ops rs pos) G.env whole) (Tst G F e Q s) s := by
  obtain ⟨hm, hl, h⟩ := cmp_side h
  refine xTrueCompare (xMono (H.E ok S h) fun V s₁ h₁ => ?_) hm
  obtain ⟨h', tk, σ₁, rfl, S₁, q⟩ := h₁
  exact (sChain H ok ok.units (s := { s with heap := h', toks := tk }) hl S₁ q).2
theorem tBool (H : Snd cf cl D L) (ok : Ok cf D G fr) {op : BoolOp} {pos : Pos} {whole : Sem Value} {Q : Bool → St → Prop} : ∀ {es : List PySem.Expr} {σ : St} {s : Shared}, Sim G F σ e s.heap → boolT L fr op es e σ Q →
    wpC cl (model G.prog G.w) G.A (isTrue (.BoolOp op es pos) G.env whole) (Tst G F e Q s) s
  | [], σ, s, S, h => xTrueNil ⟨s.heap, s.toks, σ, rfl, S, h⟩
  | x :: r, σ, s, S, h => by
    cases op with
    | And =>
      have h : L.T fr x e σ fun b σ => ifB b (boolT L fr .And r e σ Q) (Q false σ) := h
      refine xTrueAnd (xMono (H.T ok S h) fun b s₁ h₁ => ?_)
      obtain ⟨h', tk, σ₁, rfl, S₁, q⟩ := h₁
      cases b with
      | true => exact tBool H ok (s := { s with heap := h', toks := tk }) S₁ (q.1 rfl)
      | false => exact ⟨h', tk, σ₁, rfl, S₁, q.2 rfl⟩
    | Or =>
      have h : L.T fr x e σ fun b σ => ifB b (Q true σ) (boolT L fr .Or r e σ Q) := h
      refine xTrueOr (xMono (H.T ok S h) fun b s₁ h₁ => ?_)
      obtain ⟨h', tk, σ₁, rfl, S₁, q⟩ := h₁
      cases b with
      | true => exact ⟨h', tk, σ₁, rfl, S₁, q.1 rfl⟩
      | false => exact tBool H ok (s := { s with heap := h', toks := tk }) S₁ (q.2 rfl)
/-- tests -/
theorem tTest (H : Snd cf cl D L) (ok : Ok cf D G fr) {x : PySem.Expr} {whole : Sem Value} {Q : Bool → St → Prop} (hx : isTest x = true) (S : Sim G F σ e s.heap) (h : testE L fr x e σ Q) :
    wpC cl (model G.prog G.w) G.A (isTrue x G.env whole) (Tst G F e Q s) s := by
  cases x with
  | UnaryOp op y pos =>
    cases op with
    | Not =>
      have h : L.T fr y e σ fun b σ => Q (!b) σ := h
      exact xTrueNot (xMono (H.T ok S h) fun b s₁ h₁ => h₁)
    | _ => exact (h : False).elim
  | BoolOp op es pos => exact tBool H ok S h
  | IfExp t b o pos =>
    have h : L.T fr t e σ fun c σ => ifB c (L.T fr b e σ Q) (L.T fr o e σ Q) := h
    refine xTrueIfExp (xMono (H.T ok S h) fun c s₁ h₁ => ?_)
    obtain ⟨h', tk, σ₁, rfl, S₁, q⟩ := h₁
    cases c with
    | true => exact H.T ok (s := { s with heap := h', toks := tk }) S₁ (q.1 rfl)
    | false => exact H.T ok (s := { s with heap := h', toks := tk }) S₁ (q.2 rfl)
  | Compare l ops rs pos => exact tCmp H ok S h
  | _ => exact (h : False).elim
theorem tStep (H : Snd cf cl D L) (ok : Ok cf D G fr) {x : PySem.Expr} {Q : Bool → St → Prop} (S : Sim G F σ e s.heap) (h : stepT L fr x e σ Q) :
    wpC cl (model G.prog G.w) G.A (isTrue x G.env (eval x G.env)) (Tst G F e Q s) s := by
  unfold stepT at h
  by_cases hx : isTest x = true
  · rw [if_pos hx] at h
    exact tTest H ok hx S h
  · rw [if_neg hx] at h
    refine xTruePlain (xMono (H.E ok S h) fun V s₁ h₁ => ?_) ?_
    · obtain ⟨h', tk, σ₁, rfl, S₁, q⟩ := h₁
      refine wpAny_mono (sTruthy q) (fun b s₂ h₂ => ?_) fun _ _ e => e
      obtain ⟨rfl, q⟩ := h₂
      exact ⟨h', tk, σ₁, rfl, S₁, q⟩
    · cases x <;> first | rfl | exact absurd rfl hx
end

section
variable {cf : Cfg} {cl : Bool} {D : Nat} {L : Lvl} {G : Gd} {fr : Frm} {F : List (Addr × Obj)} {e : En} {σ : St} {s : Shared}
theorem looks_machine {M : Model} {h : Heap} {f : Value} (hf : ∀ a, f ≠ .ref a) : Looks M h (keeperOf f) .machine := by
  cases f <;> first | exact Looks.of_pure rfl | exact absurd rfl (hf _)
theorem looks_frame {M : Model} {K : Frag} {h : Heap} {a : Addr} (X : K.In h) (hf : PySem.W.fnIn K a = true) : Looks M h (keeperOf (.ref a)) .frame := by
  intro A Q E s hk q
  unfold PySem.W.fnIn at hf
  split at hf
  · rename_i c d fd sl ho
    unfold keeperOf
    refine wpAny_bind (wpAny_load (hk _ _ (X _ _ ho)) ?_)
    exact wpAny_pure q
  · cases hf
theorem eCall (H : Snd cf cl D L) (ok : Ok cf D G fr) {f : PySem.Expr} {args : List PySem.Expr} {pos : Pos} {Q : PV → St → Prop} (S : Sim G F σ e s.heap) (h : callE cl L fr f args pos e σ Q) :
    wpC cl (model G.prog G.w) G.A (eval (.Call f args [] pos) G.env) (Pst G F e Q s) s := by
  unfold callE at h
  have hn : args.all noStar = true := by
    by_cases hn : args.all noStar = true
    · exact hn
    · rw [if_neg hn] at h; exact h.elim
  rw [if_pos hn] at h
  by_cases hf : isAttr f = true
  · rw [if_pos hf] at h
    cases f with
    | Attribute o name apos =>
      have h : if (superOk o && (apos.endLine == pos.line) && decide (args.length < 29)) = true then L.E fr o e σ fun v σ => kindM v (key name) σ fun m => evArgs L fr args e σ fun vs σ => methV cl m v vs σ Q else False := h
      have hc : (superOk o && (apos.endLine == pos.line) && decide (args.length < 29)) = true := by
        by_cases hc : (superOk o && (apos.endLine == pos.line) && decide (args.length < 29)) = true
        · exact hc
        · rw [if_neg hc] at h; exact h.elim
      rw [if_pos hc] at h
      obtain ⟨hc, h3⟩ := Bool.and_eq_true_iff.mp hc
      obtain ⟨h1, h2⟩ := Bool.and_eq_true_iff.mp hc
      refine xMethodExpr h1 h2 hn (of_decide_eq_true h3) (xMono (H.E ok S h) fun V s₁ h₁ pl => ?_)
      obtain ⟨h', tk, σ₁, rfl, S₁, q⟩ := h₁
      refine wpAny_mono (sGet (s := { s with heap := h', toks := tk }) S₁ q) (fun fx s₂ h₂ => ?_) fun _ _ e => e
      obtain ⟨rfl, m, rfl, q⟩ := h₂
      refine xCallWith hn (xMono (sArgs H ok hn (s := { s with heap := h', toks := tk }) S₁ q) fun Vs s₃ h₃ => ?_)
      obtain ⟨h'', tk', σ₂, rfl, S₂, q⟩ := h₃
      refine ⟨⟨.machine, .inr rfl, looks_machine fun a e => nomatch e⟩, ?_⟩
      exact sMt ok.hg (s := { s with heap := h'', toks := tk' }) S₂ q
    | _ => exact absurd hf Bool.false_ne_true
  · rw [if_neg hf] at h
    refine xCallExpr (by simpa using hf) (xMono (H.E ok S h) fun V s₁ h₁ => ?_)
    obtain ⟨h', tk, σ₁, rfl, S₁, q⟩ := h₁
    refine xCallWith hn (xMono (sArgs H ok hn (s := { s with heap := h', toks := tk }) S₁ q) fun Vs s₃ h₃ => ?_)
    obtain ⟨h'', tk', σ₂, rfl, S₂, q2⟩ := h₃
    have u := un_er V
    cases hv : er V with
    | ref a =>
      rw [hv] at q2 u
      have q2 : L.C a (Vs.map er) σ₂ Q := q2
      have u : V = .ref a := u
      rw [H.C] at q2
      rw [u]
      refine ⟨⟨.frame, .inl rfl, looks_frame (ok.X.keeps (S₂.bs ok)) q2.1⟩, ?_⟩
      exact q2.2 G fr F e { s with heap := h'', toks := tk' } Vs ok rfl S₂
    | bt b =>
      rw [hv] at q2
      have hm : ∀ a, V ≠ .ref a := fun a ha => by rw [ha] at hv; cases hv
      refine ⟨⟨.machine, .inr rfl, looks_machine hm⟩, ?_⟩
      exact sBt ok.hh ok.hg hv (s := { s with heap := h'', toks := tk' }) S₂ q2
    | _ => rw [hv] at q2; exact (q2 : False).elim
theorem eList (H : Snd cf cl D L) (ok : Ok cf D G fr) {es : List PySem.Expr} {pos : Pos} {Q : PV → St → Prop} (S : Sim G F σ e s.heap) (hn : es.all noStar = true) (h : evArgs L fr es e σ fun vs σ => vs.length ≤ 65536 ∧ new σ (.list vs) Q) :
    wpC cl (model G.prog G.w) G.A (eval (.List es pos) G.env) (Pst G F e Q s) s := by
  rw [arm_eval_List]
  refine xStandAt (xBind (xMono (sArgs H ok hn S h) fun Vs s₁ h₁ => ?_))
  obtain ⟨h', tk, σ₁, rfl, S₁, hz, q⟩ := h₁
  rw [List.length_map] at hz
  refine xAny (wpAny_newObj_type ?_ (sz24 hz))
  obtain ⟨k1, k2⟩ := S₁.new (o := .list (Vs.map er)) (O := W.listOf Vs.toArray 0) ⟨Vs, 0, rfl, rfl⟩ rfl rfl
  exact ⟨_, tk, _, rfl, k2, q _ k1⟩
theorem eTuple (H : Snd cf cl D L) (ok : Ok cf D G fr) {es : List PySem.Expr} {k : Nat} {pos : Pos} {Q : PV → St → Prop} (S : Sim G F σ e s.heap) (hn : es.all noStar = true) (h : evArgs L fr es e σ fun vs σ => vs.length ≤ 65536 ∧ new σ (.tup vs) Q) :
    wpC cl (model G.prog G.w) G.A (eval (.Tuple es k pos) G.env) (Pst G F e Q s) s := by
  rw [arm_eval_Tuple]
  refine xStandAt (xBind (xMono (sArgs H ok hn S h) fun Vs s₁ h₁ => ?_))
  obtain ⟨h', tk, σ₁, rfl, S₁, hz, q⟩ := h₁
  rw [List.length_map] at hz
  refine xAny (wpAny_newObj_type ?_ (sz24 hz))
  obtain ⟨k1, k2⟩ := S₁.new (o := .tup (Vs.map er)) (O := tupOf Vs.toArray) ⟨Vs, rfl, rfl⟩ rfl rfl
  exact ⟨_, tk, _, rfl, k2, q _ k1⟩
theorem eOpt (H : Snd cf cl D L) (ok : Ok cf D G fr) {x : Option PySem.Expr} {Q : PV → St → Prop} (S : Sim G F σ e s.heap) (h : optE L fr x e σ Q) :
    wpC cl (model G.prog G.w) G.A (valueOrNone (evalOpt x G.env)) (Pst G F e Q s) s := by
  cases x with
  | none => exact xPure ⟨s.heap, s.toks, σ, rfl, S, h⟩
  | some x => exact H.E ok S h
theorem negOne_is {x : PySem.Expr} (h : negOne x = true) : ∃ k p1 p2, x = .UnaryOp .USub (.Constant (.int 1) k p1) p2 := by
  cases x with
  | UnaryOp op y p =>
    cases op with
    | USub =>
      cases y with
      | Constant c k p1 =>
        cases c with
        | int i =>
          have h : decide (i = 1) = true := h
          exact ⟨k, p1, p, by rw [of_decide_eq_true h]⟩
        | _ => exact absurd (show false = true from h) Bool.false_ne_true
      | _ => exact absurd (show false = true from h) Bool.false_ne_true
    | _ => exact absurd (show false = true from h) Bool.false_ne_true
  | _ => exact absurd (show false = true from h) Bool.false_ne_true
theorem eSub (H : Snd cf cl D L) (ok : Ok cf D G fr) {o i : PySem.Expr} {pos : Pos} {Q : PV → St → Prop} (S : Sim G F σ e s.heap) (h : subE L fr o i e σ Q) :
    wpC cl (model G.prog G.w) G.A (eval (.Subscript o i pos) G.env) (Pst G F e Q s) s := by
  unfold subE at h
  by_cases hi : isSlice i = true
  · rw [if_pos hi] at h
    cases i with
    | Slice lo hi' st p =>
      cases st with
      | none =>
        have h : L.E fr o e σ fun v σ => optE L fr lo e σ fun l σ => optE L fr hi' e σ fun h σ => partB l fun l => partB h fun h => slic v l h σ Q := h
        refine xSubscript (xMono (H.E ok S h) fun V s₁ h₁ => ?_)
        obtain ⟨h', tk, σ₁, rfl, S₁, q⟩ := h₁
        rw [arm_eval_Slice]
        refine xBind (xMono (eOpt H ok (s := { s with heap := h', toks := tk }) S₁ q) fun l s₂ h₂ => ?_)
        obtain ⟨h', tk, σ₂, rfl, S₂, q⟩ := h₂
        refine xBind (xHolding (xMono (eOpt H ok (s := { s with heap := h', toks := tk }) S₂ q) fun u s₂ h₂ => ?_))
        obtain ⟨h', tk, σ₃, rfl, S₃, q⟩ := h₂
        refine xBind (xHolding (xPure ?_))
        refine xAny (wpAny_newObj_type ?_ (show (3 : Nat) ≤ sizeLine + 2 by decide))
        exact sSlice (s := { s with heap := h', toks := tk }) S₃ q
      | some y =>
        have h : if (isNone lo && isNone hi' && negOne y) = true then L.E fr o e σ fun v σ => onR v fun a => onL σ a fun vs => vs.length ≤ 65536 ∧ new σ (.list vs.reverse) Q else False := h
        have hc : (isNone lo && isNone hi' && negOne y) = true := by
          by_cases hc : (isNone lo && isNone hi' && negOne y) = true
          · exact hc
          · rw [if_neg hc] at h; exact h.elim
        rw [if_pos hc] at h
        obtain ⟨hc, h3⟩ := Bool.and_eq_true_iff.mp hc
        obtain ⟨h1, h2⟩ := Bool.and_eq_true_iff.mp hc
        obtain rfl : lo = none := by cases lo <;> first | rfl | cases h1
        obtain rfl : hi' = none := by cases hi' <;> first | rfl | cases h2
        obtain ⟨k, p1, p2, rfl⟩ := negOne_is h3
        refine xSubscript (xMono (H.E ok S h) fun V s₁ h₁ => ?_)
        obtain ⟨h', tk, σ₁, rfl, S₁, q⟩ := h₁
        rw [arm_eval_Slice]
        refine xBind (xPure (xBind (xHolding (xPure (xBind (xHolding ?_))))))
        show wpC _ _ _ (eval (.UnaryOp .USub (.Constant (.int 1) k p1) p2) G.env) _ _
        rw [eval_UnaryOp]
        refine xBindAny (wpAny_Constant_int (xStandAt (xHolding (xAny (PyProof.Rows.neg_int ?_)))))
        refine xAny (wpAny_newObj_type ?_ (show (3 : Nat) ≤ sizeLine + 2 by decide))
        exact sRev (s := { s with heap := h', toks := _ }) S₁ (.int _ _) q
    | _ => exact absurd hi Bool.false_ne_true
  · rw [if_neg hi] at h
    refine xSubscript (xMono (H.E ok S h) fun V s₁ h₁ => ?_)
    obtain ⟨h', tk, σ₁, rfl, S₁, q⟩ := h₁
    refine xMono (H.E ok (s := { s with heap := h', toks := tk }) S₁ q) fun W s₂ h₂ => ?_
    obtain ⟨h', tk, σ₂, rfl, S₂, q⟩ := h₂
    refine wpAny_mono (sSubs (s := { s with heap := h', toks := tk }) (by simpa using hi) S₂ q) (fun X s₃ h₃ => ?_) fun _ _ e => e
    obtain ⟨tk', rfl, q⟩ := h₃
    exact ⟨h', tk', σ₂, rfl, S₂, q⟩
end

section
variable {G : Gd} {F : List (Addr × Obj)} {σ : St} {e : En} {h h' : Heap}
/-- a new object that none may turn -/
theorem Sim.hold (S : Sim G F σ e h) {O : Obj} (hf : O.isFreed = false) : Sim G ((h.objs.size, O) :: F) σ e (h.push O) ∧ ∀ p ∈ F, p.1 ≠ h.objs.size := by
  obtain ⟨m, ⟨H, uH, Fm⟩, hm⟩ := S.fr
  obtain ⟨mC, NC, hC⟩ := S.ns
  have S' := S.grow (h' := h.push O) fun b o q => Heap.get?_push_of_some _ q
  refine ⟨⟨S'.fr, S'.ns, S'.ap, S'.ob, fun p hp => ?_⟩, fun p hp => Nat.ne_of_lt (Heap.lt_size (S.fo p hp).1)⟩
  rcases List.mem_cons.mp hp with rfl | hp
  · exact ⟨Heap.get?_push_size _ hf, fun e => absurd Fm.ns.lt (e ▸ Nat.lt_irrefl _), fun e => absurd NC.lt (e ▸ Nat.lt_irrefl _), uH.fresh (next_is_new Fm), S.unused (Nat.le_refl _)⟩
  · exact S'.fo p hp
theorem Sim.drop {p : Addr × Obj} (S : Sim G (p :: F) σ e h) : Sim G F σ e h := ⟨S.fr, S.ns, S.ap, S.ob, fun q hq => S.fo q (.tail _ hq)⟩
/-- what is held is turned -/
theorem Sim.turnF {a : Addr} {O O' : Obj} (S : Sim G ((a, O) :: F) σ e h) (hF : ∀ p ∈ F, p.1 ≠ a) (hs : Heap.SameBut a h h') (hO : h'.get? a = some O') : Sim G ((a, O') :: F) σ e h' := by
  obtain ⟨m, ⟨H, uH, Fm⟩, hm⟩ := S.fr
  obtain ⟨mC, NC, hC⟩ := S.ns
  obtain ⟨g1, g2, g3, g4, g5⟩ := S.fo _ (.head _)
  refine ⟨⟨m, ⟨H, uH, Fm.ns.sameBut hs (Ne.symm g2), fun b ob q => (hs.2 b (fun q' => ?_)).trans (Fm.keep b ob q), Fm.above⟩, hm⟩, ⟨mC, NC.sameBut hs (Ne.symm g3), hC⟩, S.ap, fun b ob q => ?_, fun p hp => ?_⟩
  · have g4 : G.h₀.get? a = none := g4
    rw [q', uH.none _ g4] at q; cases q
  · have hb : b ≠ a := fun hb => by
      have g5 : σ a = none := g5
      rw [hb, g5] at q; cases q
    exact (S.ob b ob q).turn fun O q _ _ _ => (hs.2 b hb).trans q
  · rcases List.mem_cons.mp hp with rfl | hp
    · exact ⟨hO, g2, g3, g4, g5⟩
    · obtain ⟨h1, h2, h3, h4, h5⟩ := S.fo p (.tail _ hp)
      exact ⟨(hs.2 _ (hF p hp)).trans h1, h2, h3, h4, h5⟩
/-- what is held goes into the state -/
theorem Sim.give {a : Addr} {O : Obj} {o : AO} (S : Sim G ((a, O) :: F) σ e h) (hF : ∀ p ∈ F, p.1 ≠ a) (hO : isO G o O) (hf : isF o = false) : σ a = none ∧ Sim G F (upd σ a o) e h := by
  obtain ⟨g1, g2, g3, g4, g5⟩ := S.fo _ (.head _)
  exact ⟨g5, S.drop.lay' g3 hF g1 g2 g4 hO hf⟩
end
theorem merged_nodup {K : Type} [DecidableEq K] : ∀ (kvs acc : List (K × Value)), ((acc ++ kvs).map (·.1)).Nodup → merged acc kvs = acc ++ kvs
  | [], acc, _ => (List.append_nil acc).symm
  | (k, v) :: r, acc, hn => by
    have h1 : ∀ p ∈ acc, p.1 ≠ k := by
      rw [List.map_append, List.nodup_append] at hn
      exact fun p hp q => hn.2.2 p.1 (List.mem_map_of_mem hp) k (by simp) q
    have hs : stored acc k v = acc ++ [(k, v)] := by
      unfold stored
      rw [if_neg]
      rw [List.any_eq_true]
      rintro ⟨p, hp, q⟩
      exact h1 p hp (of_decide_eq_true q)
    show merged (stored acc k v) r = _
    rw [hs, merged_nodup r _ (by simpa using hn)]
    simp

section
variable {cl : Bool} {M : Model} {A : Around} {s : Shared}
theorem xPairsCons {k v : Sem Value} {rest : List (Sem Value × Sem Value)} {Q : List (Value × Value) → Shared → Prop}
    (h : wpC cl M A k (fun kv s₁ => wpC cl M A v (fun vv s₂ => wpC cl M A (evalPairs rest) (fun vs s₃ => Q ((kv, vv) :: vs) s₃) s₂) s₁) s) : wpC cl M A (evalPairs ((k, v) :: rest)) Q s := by
  rw [evalPairs]
  exact xBind (xMono h fun kv s₁ h₁ => xBind (xHolding (xMono h₁ fun vv s₂ h₂ => xBind (xHolding (xMono h₂ fun vs s₃ h₃ => xPure h₃)))))
end
section
variable {cl : Bool} {prog : Program} {w : World} {A : Around} {s : Shared} {env : Env}
theorem xDict {K : Type} [DecidableEq K] {knd : KeyKind prog w K} {keys : List (Option PySem.Expr)} {values : List PySem.Expr} {pos : Pos} {Q : Value → Shared → Prop}
    (hall : keys.all (·.isSome) = true) (hl : keys.length = values.length) (h0 : keys ≠ []) (hlen : keys.length ≤ 15)
    (h : wpC cl (model prog w) A (evalPairs (pairTrees keys values env pos)) (fun vs s₁ => ∃ kvs : List (K × Value), Carries knd vs kvs ∧ (kvs.map (·.1)).Nodup ∧ kvs.length ≤ 15 ∧ s₁.heap.DictOf knd s.heap.objs.size [] ∧
      ∀ h', h'.DictOf knd s.heap.objs.size kvs → Heap.SameBut s.heap.objs.size s₁.heap h' → ∀ tk, Q (.ref s.heap.objs.size) { s₁ with heap := h', toks := tk })
      { s with heap := s.heap.push { cls := .type "dict", data := .dict #[] } }) :
    wpC cl (model prog w) A (eval (.Dict keys values pos) env) Q s := by
  have hn := pairTrees_length keys values env pos hall hl
  have hp0 : pairTrees keys values env pos ≠ [] := by
    intro he
    rw [he] at hn
    exact h0 (List.length_eq_zero_iff.mp hn.symm)
  rw [arm_eval_Dict, zip_pairTrees keys values env pos hall hl, dictDisplay_pairs _ hp0 (by rw [hn]; (first | exact Int.natCast_nonneg _ | lia | omega))]
  refine xStandAt (xBind ?_)
  unfold subDict
  refine xBindAny (wpAny_alloc ?_)
  refine xBind (xHolding ?_)
  rw [if_pos (by rw [hn]; exact hlen)]
  refine xBind (xMono h fun vs s₁ h₁ => ?_)
  obtain ⟨kvs, hc, hnd, hk, hm, hQ⟩ := h₁
  refine xHolding (xBindAny (wpAny_storeAll (knd := knd) vs kvs [] s₁ _ hc hm (by rw [sizeLine_eq, List.length_nil]; (first | exact Int.natCast_nonneg _ | lia | omega)) fun h' hm' hs' => xPure (xPure (xPure ?_))))
  rw [merged_nodup kvs [] (by simpa using hnd), List.nil_append] at hm'
  exact hQ h' hm' hs' _
end
theorem strK_e {x : Option PySem.Expr} {P : Str → Prop} (h : strK x P) : ∃ n k p, x = some (.Constant (.str n) k p) ∧ P n := by
  cases x with
  | none => exact h.elim
  | some x =>
    cases x with
    | Constant c k p =>
      cases c with
      | str n => exact ⟨n, k, p, rfl, h⟩
      | _ => exact (h : False).elim
    | _ => exact (h : False).elim
theorem none_some {i : Int} (h : (none : Option Int) = some i) : False := by cases h
theorem intK_e {x : Option PySem.Expr} {i : Int} (h : intK x = some i) : ∃ k p, x = some (.Constant (.int i) k p) := by
  cases x with
  | none => cases h
  | some x =>
    cases x with
    | Constant c k p =>
      cases c with
      | int n =>
        have h : some n = some i := h
        cases h
        exact ⟨k, p, rfl⟩
      | _ => exact (none_some (i := i) h).elim
    | _ => exact (none_some (i := i) h).elim
theorem look_none {kvs : List (Str × Value)} {n : Str} (h : look (kvs.map fun p => (key p.1, er p.2)) (key n) = none) : n ∉ kvs.map (·.1) := fun hm => by
  induction kvs with
  | nil => cases hm
  | cons p r ih =>
    rw [List.map_cons] at h hm
    simp only [look] at h
    split at h
    · cases h
    · rename_i hne
      rcases List.mem_cons.mp hm with q | q
      · exact hne (by rw [q])
      · exact ih h q
theorem lookI_none {kvs : List (Int × Value)} {n : Int} (h : lookI (kvs.map fun p => (p.1, er p.2)) n = none) : n ∉ kvs.map (·.1) := fun hm => by
  induction kvs with
  | nil => cases hm
  | cons p r ih =>
    rw [List.map_cons] at h hm
    simp only [lookI] at h
    split at h
    · cases h
    · rename_i hne
      rcases List.mem_cons.mp hm with q | q
      · exact hne (by rw [q])
      · exact ih h q
section
variable {cf : Cfg} {cl : Bool} {D : Nat} {L : Lvl} {G : Gd} {fr : Frm} {F : List (Addr × Obj)} {e : En} {σ : St} {s : Shared}
theorem sPairs (H : Snd cf cl D L) (ok : Ok cf D G fr) {pos : Pos} : ∀ {ks : List (Option PySem.Expr)} {vs : List PySem.Expr} {σ : St} {s : Shared} {Q : List (Nat × PV) → St → Prop}, ks.length = vs.length → ks.all (·.isSome) = true → Sim G F σ e s.heap → dictE L fr ks vs e σ Q →
    wpC cl (model G.prog G.w) G.A (evalPairs (pairTrees ks vs G.env pos)) (fun ps s' => ∃ h tk σ' kvs, s' = { s with heap := h, toks := tk } ∧ Sim G F σ' e h ∧ Carries (PySem.strKind G.prog G.w) ps kvs ∧ (kvs.map (·.1)).Nodup ∧ (∀ p ∈ kvs, key p.1 ≠ 0) ∧ Q (kvs.map fun p => (key p.1, er p.2)) σ') s
  | [], [], σ, s, Q, _, _, S, h => xPure ⟨s.heap, s.toks, σ, [], rfl, S, trivial, List.nodup_nil, (fun _ hp => nomatch hp), h⟩
  | [], _ :: _, _, _, _, hl, _, _, _ => nomatch hl
  | _ :: _, [], _, _, _, hl, _, _, _ => nomatch hl
  | k :: ks, v :: vs, σ, s, Q, hl, ha, S, h => by
    obtain ⟨n, kk, p, rfl, h2⟩ := strK_e (show strK k _ from h)
    have hn : key n ≠ 0 := fun hn => by rw [if_pos hn] at h2; exact h2
    rw [if_neg hn] at h2
    show wpC _ _ _ (evalPairs ((eval (.Constant (.str n) kk p) G.env, do let x ← eval v G.env; standAt pos; pure x) :: pairTrees ks vs G.env pos)) _ _
    refine xPairsCons (xAny (wpAny_Constant_str (xBind (xMono (H.E ok (s := { s with toks := s.toks + 1 }) S h2) fun V s₁ h₁ => ?_))))
    obtain ⟨h', tk, σ₁, rfl, S₁, q⟩ := h₁
    refine xStandAt (xPure (xMono (sPairs H ok (s := { s with heap := h', toks := tk }) (Nat.succ.inj hl) ha S₁ q) fun ps s₂ h₂ => ?_))
    obtain ⟨h'', tk', σ₂, kvs, rfl, S₂, c, nd, k0, q1, q2⟩ := h₂
    refine ⟨h'', tk', σ₂, (n, V) :: kvs, rfl, S₂, ⟨?_, rfl, c⟩, List.nodup_cons.mpr ⟨look_none q1, nd⟩, fun p hp => ?_, q2⟩
    · exact strKind_is _ _ _ _
    · rcases List.mem_cons.mp hp with rfl | hp
      · exact hn
      · exact k0 p hp
theorem sPairsI (H : Snd cf cl D L) (ok : Ok cf D G fr) {pos : Pos} : ∀ {ks : List (Option PySem.Expr)} {vs : List PySem.Expr} {σ : St} {s : Shared} {Q : List (Int × PV) → St → Prop}, ks.length = vs.length → ks.all (·.isSome) = true → Sim G F σ e s.heap → idictE L fr ks vs e σ Q →
    wpC cl (model G.prog G.w) G.A (evalPairs (pairTrees ks vs G.env pos)) (fun ps s' => ∃ h tk σ' kvs, s' = { s with heap := h, toks := tk } ∧ Sim G F σ' e h ∧ Carries (PySem.intKind G.prog G.w) ps kvs ∧ (kvs.map (·.1)).Nodup ∧ Q (kvs.map fun p => (p.1, er p.2)) σ') s
  | [], [], σ, s, Q, _, _, S, h => xPure ⟨s.heap, s.toks, σ, [], rfl, S, trivial, List.nodup_nil, h⟩
  | [], _ :: _, _, _, _, hl, _, _, _ => nomatch hl
  | _ :: _, [], _, _, _, hl, _, _, _ => nomatch hl
  | k :: ks, v :: vs, σ, s, Q, hl, ha, S, h => by
    obtain ⟨i, hi, h2⟩ := onS_e (show onS (intK k) _ from h)
    obtain ⟨kk, p, rfl⟩ := intK_e hi
    show wpC _ _ _ (evalPairs ((eval (.Constant (.int i) kk p) G.env, do let x ← eval v G.env; standAt pos; pure x) :: pairTrees ks vs G.env pos)) _ _
    refine xPairsCons (xAny (wpAny_Constant_int (xBind (xMono (H.E ok (s := { s with toks := s.toks + 1 }) S h2) fun V s₁ h₁ => ?_))))
    obtain ⟨h', tk, σ₁, rfl, S₁, q⟩ := h₁
    refine xStandAt (xPure (xMono (sPairsI H ok (s := { s with heap := h', toks := tk }) (Nat.succ.inj hl) ha S₁ q) fun ps s₂ h₂ => ?_))
    obtain ⟨h'', tk', σ₂, kvs, rfl, S₂, c, nd, q1, q2⟩ := h₂
    exact ⟨h'', tk', σ₂, (i, V) :: kvs, rfl, S₂, ⟨intKind_is _ _ _ _, rfl, c⟩, List.nodup_cons.mpr ⟨lookI_none q1, nd⟩, q2⟩
theorem eDict (H : Snd cf cl D L) (ok : Ok cf D G fr) {ks : List (Option PySem.Expr)} {vs : List PySem.Expr} {pos : Pos} {Q : PV → St → Prop} (hl : ks.length = vs.length) (ha : ks.all (·.isSome) = true) (h0 : ks ≠ []) (hlen : ks.length ≤ 15) (S : Sim G F σ e s.heap)
    (h : if ks.all (fun k => (intK k).isSome) = true then idictE L fr ks vs e σ fun l σ => l.length ≤ 15 ∧ l ≠ [] ∧ new σ (.idct l) Q else dictE L fr ks vs e σ fun l σ => l.length ≤ 15 ∧ l ≠ [] ∧ new σ (.dct l) Q) :
    wpC cl (model G.prog G.w) G.A (eval (.Dict ks vs pos) G.env) (Pst G F e Q s) s := by
  obtain ⟨S₀, hF⟩ := S.hold (O := { cls := .type "dict", data := .dict #[] }) rfl
  by_cases hc : ks.all (fun k => (intK k).isSome) = true
  · rw [if_pos hc] at h
    refine xDict (knd := PySem.intKind G.prog G.w) ha hl h0 hlen (xMono (sPairsI H ok (s := { s with heap := s.heap.push { cls := .type "dict", data := .dict #[] } }) hl ha S₀ h) fun ps s₁ h₁ => ?_)
    obtain ⟨h', tk, σ₁, kvs, rfl, S₁, c, nd, hk, _, q⟩ := h₁
    rw [List.length_map] at hk
    refine ⟨kvs, c, nd, hk, ?_, fun h'' hD hs tk' => ?_⟩
    · obtain ⟨o, ho, hd⟩ := Heap.dictOf_iff.mp (Heap.DictOf.new (knd := PySem.intKind G.prog G.w) s.heap)
      rw [Heap.get?_push_size _ rfl] at ho
      exact Heap.dictOf_iff.mpr ⟨o, by rw [← Option.some.inj ho]; exact (S₁.fo _ (.head _)).1, hd⟩
    · obtain ⟨o, ho, hd⟩ := Heap.dictOf_iff.mp hD
      obtain ⟨k1, k2⟩ := (S₁.turnF hF hs ho).give hF (o := .idct (kvs.map fun p => (p.1, er p.2))) ⟨kvs, hd, rfl⟩ rfl
      exact ⟨h'', tk', _, rfl, k2, q _ k1⟩
  · rw [if_neg hc] at h
    refine xDict (knd := PySem.strKind G.prog G.w) ha hl h0 hlen (xMono (sPairs H ok (s := { s with heap := s.heap.push { cls := .type "dict", data := .dict #[] } }) hl ha S₀ h) fun ps s₁ h₁ => ?_)
    obtain ⟨h', tk, σ₁, kvs, rfl, S₁, c, nd, k0, hk, _, q⟩ := h₁
    rw [List.length_map] at hk
    refine ⟨kvs, c, nd, hk, ?_, fun h'' hD hs tk' => ?_⟩
    · obtain ⟨o, ho, hd⟩ := Heap.dictOf_iff.mp (Heap.DictOf.new (knd := PySem.strKind G.prog G.w) s.heap)
      rw [Heap.get?_push_size _ rfl] at ho
      exact Heap.dictOf_iff.mpr ⟨o, by rw [← Option.some.inj ho]; exact (S₁.fo _ (.head _)).1, hd⟩
    · obtain ⟨o, ho, hd⟩ := Heap.dictOf_iff.mp hD
      obtain ⟨k1, k2⟩ := (S₁.turnF hF hs ho).give hF (o := .dct (kvs.map fun p => (key p.1, er p.2))) ⟨kvs, hd, k0, rfl⟩ rfl
      exact ⟨h'', tk', _, rfl, k2, q _ k1⟩
end

theorem stored_put {x : Str} {V : Value} : ∀ {kvs : List (Str × Value)}, (kvs.map (·.1)).Nodup → (∀ p ∈ kvs, key p.1 ≠ 0) → (look (kvs.map fun p => (key p.1, er p.2)) (key x)).isSome = true →
    (stored kvs x V).map (fun p => (key p.1, er p.2)) = put (kvs.map fun p => (key p.1, er p.2)) (key x) (er V) ∧ ∀ p ∈ stored kvs x V, key p.1 ≠ 0
  | [], _, _, h => by cases h
  | (k, v) :: r, hn, hk, h => by
    have hk0 : key k ≠ 0 := hk _ (.head _)
    have hn' := List.nodup_cons.mp (show (k :: r.map (·.1)).Nodup from hn)
    by_cases q : k = x
    · subst q
      have hs : stored ((k, v) :: r) k V = (k, V) :: r := by
        unfold stored
        rw [if_pos (by simp)]
        rw [List.map_cons, if_pos rfl]
        congr 1
        refine (List.map_congr_left fun p hp => ?_).trans (List.map_id r)
        rw [if_neg]
        · rfl
        · rintro rfl
          exact hn'.1 (List.mem_map_of_mem hp)
      rw [hs]
      constructor
      · rw [List.map_cons, List.map_cons]
        unfold put
        rw [if_pos rfl]
      · intro p hp
        rcases List.mem_cons.mp hp with rfl | hp
        · exact hk0
        · exact hk p (.tail _ hp)
    · have hne : key k ≠ key x := fun e => q (key_inj hk0 e)
      have h' : (look (r.map fun p => (key p.1, er p.2)) (key x)).isSome = true := by
        rw [List.map_cons] at h
        simp only [look] at h
        rwa [if_neg hne] at h
      obtain ⟨i1, i2⟩ := stored_put (V := V) hn'.2 (fun p hp => hk p (.tail _ hp)) h'
      have hs : stored ((k, v) :: r) x V = (k, v) :: stored r x V := by
        unfold stored
        rw [List.any_cons, decide_eq_false q, Bool.false_or]
        split
        · rw [List.map_cons, if_neg q]
        · rfl
      rw [hs]
      constructor
      · rw [List.map_cons, List.map_cons, i1]
        show _ = put ((key k, er v) :: _) _ _
        rw [put, if_neg hne]
      · intro p hp
        rcases List.mem_cons.mp hp with rfl | hp
        · exact hk0
        · exact i2 p hp
section
variable {cf : Cfg} {cl : Bool} {D : Nat} {L : Lvl} {G : Gd} {fr : Frm} {F : List (Addr × Obj)} {e : En} {σ : St} {s : Shared} {h' : Heap}
theorem ok_blk (ok : Ok cf D G fr) : G.env.blockKind = .function := by
  unfold Env.blockKind
  rw [ok.kd]
  rfl
theorem ok_inter (ok : Ok cf D G fr) : interactive G.env = false := by
  unfold interactive
  rw [ok.kd]
  rfl
theorem swap_none {v : PySem.Expr} {t : Option PySem.Expr} {n : Nat} {env : Env} (h : noComp v = true) : swapsWith v t n env = pure false := by
  cases v <;> first | rfl | cases h
/-- a name is bound, as a statement's end -/
theorem bindK (ok : Ok cf D G fr) {x : Str} {V : Value} {Q : Fl → En → St → Prop} {s₁ : Shared} {h' : Heap} {tk : Nat} (hs : s₁ = { s with heap := h', toks := tk }) (S : Sim G F σ e h') (h : setN fr (key x) (er V) e σ fun e σ => Q .next e σ) :
    wpAny (model G.prog G.w) G.A (storeName G.env x V) (fun _ s' => Sst G F Q s .next s') (fun _ _ => False) s₁ := by
  subst hs
  refine wpAny_mono (sStore (s := { s with heap := h', toks := tk }) ok S h) (fun _ s' h₁ => ?_) fun _ _ e => e
  obtain ⟨h₂, tk₂, e₂, σ₂, rfl, S₂, q⟩ := h₁
  exact ⟨h₂, tk₂, e₂, σ₂, rfl, S₂, q⟩
theorem nameK_e {x : PySem.Expr} {P : Nat → Prop} (h : nameK x P) : ∃ n p, x = .Name n p ∧ P (key n) := by
  cases x <;> first | exact (h : False).elim | exact ⟨_, _, rfl, h⟩
theorem Sim.ext (S : Sim G F σ e s.heap) {h' : Heap} (he : Heap.ExtBut s.heap.objs.size s.heap h') : Sim G F σ e h' := S.grow fun b o q => he b o (Nat.ne_of_lt (Heap.lt_size q)) q
theorem assignEach_names : ∀ {ts : List PySem.Expr} {env : Env}, (∀ t ∈ ts, ∃ n p, t = .Name n p) → (assignEach ts env).length = ts.length ∧ (assignEach ts env).findIdx? (·.1) = none
  | [], _, _ => ⟨rfl, rfl⟩
  | t :: r, env, h => by
    obtain ⟨n, p, rfl⟩ := h t (.head _)
    obtain ⟨h1, h2⟩ := assignEach_names (env := env) fun t ht => h t (.tail _ ht)
    show ((false, assign (.Name n p) env) :: assignEach r env).length = _ ∧ _
    refine ⟨by rw [List.length_cons, List.length_cons, h1], ?_⟩
    show List.findIdx? (·.1) ((false, assign (.Name n p) env) :: assignEach r env) = none
    rw [List.findIdx?_cons, h2]
    rfl
theorem setN_x {k : Nat} {v : PV} {e : En} {σ : St} {Q : En → St → Prop} (h : setN fr k v e σ Q) : ∃ e' σ', Q e' σ' := by
  unfold setN at h
  by_cases hk : k = 0
  · rw [if_pos hk] at h; exact h.elim
  rw [if_neg hk] at h
  cases hc : look fr.cel k with
  | some c =>
    rw [hc] at h
    dsimp only at h
    obtain ⟨v, hv, h⟩ := onC_e h
    exact ⟨_, _, h⟩
  | none =>
    rw [hc] at h
    dsimp only at h
    cases hl : mem fr.loc k with
    | true => rw [hl] at h; exact ⟨_, _, h⟩
    | false => rw [hl] at h; exact h.elim
theorem setAll_names : ∀ {ts : List PySem.Expr} {vs : List PV} {e : En} {σ : St} {Q : En → St → Prop}, setAll fr ts vs e σ Q → ∀ t ∈ ts, ∃ n p, t = .Name n p
  | [], _, _, _, _, _ => fun _ h => nomatch h
  | t :: ts, [], _, _, _, h => (h : False).elim
  | t :: ts, v :: vs, e, σ, Q, h => by
    obtain ⟨n, p, rfl, h2⟩ := nameK_e (P := fun k => setN fr k v e σ fun e σ => setAll fr ts vs e σ Q) h
    obtain ⟨e', σ', h3⟩ := setN_x h2
    intro t ht
    rcases List.mem_cons.mp ht with rfl | ht
    · exact ⟨n, p, rfl⟩
    · exact setAll_names h3 t ht
theorem sSetAll (ok : Ok cf D G fr) : ∀ {ts : List PySem.Expr} {Vs : List Value} {e : En} {σ : St} {s₁ : Shared} {h' : Heap} {tk : Nat} {Q : En → St → Prop}, s₁ = { s with heap := h', toks := tk } → Sim G F σ e h' → setAll fr ts (Vs.map er) e σ Q →
    wpAny (model G.prog G.w) G.A (assignInOrder ((assignEach ts G.env).map (·.2)) Vs) (fun _ s' => ∃ h tk e σ, s' = { s with heap := h, toks := tk } ∧ Sim G F σ e h ∧ Q e σ) (fun _ _ => False) s₁
  | [], [], e, σ, s₁, h', tk, Q, hs, S, h => wpAny_pure ⟨h', tk, e, σ, hs, S, h⟩
  | [], _ :: _, _, _, _, _, _, _, _, _, h => (h : False).elim
  | t :: ts, [], _, _, _, _, _, _, _, _, h => (h : False).elim
  | t :: ts, V :: Vs, e, σ, s₁, h', tk, Q, hs, S, h => by
    obtain ⟨n, p, rfl, h2⟩ := nameK_e (P := fun k => setN fr k (er V) e σ fun e σ => setAll fr ts (Vs.map er) e σ Q) h
    show wpAny _ _ (do holding Vs (assign (.Name n p) G.env V); assignInOrder ((assignEach ts G.env).map (·.2)) Vs) _ _ _
    refine wpAny_bind (wpAny_holding (assign_Name ?_))
    subst hs
    refine wpAny_mono (sStore (s := { s with heap := h', toks := tk }) ok S h2) (fun _ s' h₁ => ?_) fun _ _ e => e
    obtain ⟨h₂, tk₂, e₂, σ₂, rfl, S₂, q⟩ := h₁
    exact sSetAll ok rfl S₂ q
/-- the names of a display, of the frame's own -/
theorem ownName_e {ln : Nat} {t : PySem.Expr} (h : ownName fr ln t = true) : ∃ n p, t = .Name n p ∧ key n ≠ 0 ∧ look fr.cel (key n) = none ∧ mem fr.loc (key n) = true ∧ (p.line == ln) = true := by
  cases t with
  | Name n p =>
    have h : (decide (key n ≠ 0) && isNone (look fr.cel (key n)) && mem fr.loc (key n) && p.line == ln) = true := h
    simp only [Bool.and_eq_true, decide_eq_true_eq] at h
    obtain ⟨⟨⟨h1, h2⟩, h3⟩, h4⟩ := h
    have hn : look fr.cel (key n) = none := by
      cases q : look fr.cel (key n) with
      | none => rfl
      | some _ => rw [q] at h2; cases h2
    exact ⟨n, p, rfl, h1, hn, h3, h4⟩
  | _ => cases h
theorem isDisplay_e {v : PySem.Expr} (h : isDisplay v = true) : ∃ vs k p, v = .Tuple vs k p := by
  cases v <;> first | exact ⟨_, _, _, rfl⟩ | cases h
noncomputable def nameOf (x : PySem.Expr) : Str := match x with | .Constant .. => "" | .Name n _ => n | _ => ""
theorem eraseDups_nodup : ∀ l : List Str, l.Nodup → l.eraseDups = l
  | [], _ => rfl
  | a :: r, h => by
    obtain ⟨h1, h2⟩ := List.nodup_cons.mp h
    rw [List.eraseDups_cons]
    have : r.filter (fun b => !b == a) = r := List.filter_eq_self.mpr fun b hb => by
      have : b ≠ a := fun q => h1 (q ▸ hb)
      simpa using this
    rw [this, eraseDups_nodup r h2]
theorem swapped_is (ok : Ok cf D G fr) {ts vs : List PySem.Expr} {k k' : Nat} {p p' : Pos} (h : swapOk fr ts vs = true) : swappedStores [.Tuple ts k p] (.Tuple vs k' p') G.env = pure (some (ts.map nameOf)) := by
  unfold swapOk at h
  simp only [Bool.and_eq_true] at h
  obtain ⟨⟨⟨⟨⟨⟨h1, h2⟩, h3⟩, h4⟩, h5⟩, h6⟩, h7⟩ := h
  rw [List.all_eq_true] at h4
  have hb : (G.env.blockKind != .function) = false := by rw [ok_blk ok]; rfl
  have h2' : (vs.length != ts.length) = false := by simpa using h2
  have hst : (vs.any fun x => match x with | .Starred .. => true | _ => false) = false := by
    rw [List.any_eq_false]
    intro x hx
    have := List.all_eq_true.mp h3 x hx
    cases x <;> first | exact Bool.false_ne_true | cases this
  have hnames : (ts.filterMap fun x => match x with
      | .Name id pos => if G.env.kindOf id == some .local && pos.line == lineOf ts then some id else none
      | _ => none) = ts.map nameOf := by
    have : ∀ l : List PySem.Expr, (∀ t ∈ l, ownName fr (lineOf ts) t = true) → (l.filterMap fun x => match x with
      | .Name id pos => if G.env.kindOf id == some .local && pos.line == lineOf ts then some id else none
      | _ => none) = l.map nameOf := by
      intro l
      induction l with
      | nil => intro _; rfl
      | cons t r ih =>
        intro hl
        obtain ⟨n, q, rfl, k0, k1, k2, k3⟩ := ownName_e (hl t (.head _))
        have hk : G.env.kindOf n = some .local := (ok.lo n k0 k1 k2).1
        rw [List.filterMap_cons, List.map_cons, ← ih fun t ht => hl t (.tail _ ht)]
        dsimp only
        rw [hk, k3]
        rfl
    exact this ts h4
  have hdis : ∀ l : List PySem.Expr, (∀ t ∈ l, ownName fr (lineOf ts) t = true) → distinct (l.map keyOf) = true → (l.map nameOf).Nodup := by
    intro l
    induction l with
    | nil => intro _ _; exact List.nodup_nil
    | cons t r ih =>
      intro hl hd
      obtain ⟨d1, d2⟩ := Bool.and_eq_true_iff.mp (show (!(mem (r.map keyOf) (keyOf t)) && distinct (r.map keyOf)) = true from hd)
      refine List.nodup_cons.mpr ⟨fun hm => ?_, ih (fun t ht => hl t (.tail _ ht)) d2⟩
      obtain ⟨u, hu, e⟩ := List.mem_map.mp hm
      obtain ⟨n, q, rfl, k0, _⟩ := ownName_e (hl t (.head _))
      obtain ⟨n', q', rfl, k0', _⟩ := ownName_e (hl u (.tail _ hu))
      have e : n' = n := e
      have mm : ∀ (l : List Nat) (x : Nat), x ∈ l → mem l x = true := by
        intro l x
        induction l with
        | nil => intro h; cases h
        | cons y r ih =>
          intro h
          unfold mem
          split
          · rfl
          · rcases List.mem_cons.mp h with q | q
            · exact absurd q.symm ‹_›
            · exact ih q
      have : mem (r.map keyOf) (key n) = true := mm _ _ (List.mem_map.mpr ⟨_, hu, congrArg key e⟩)
      have d1 : (!(mem (r.map keyOf) (key n))) = true := d1
      rw [this] at d1
      cases d1
  have hnd : (ts.map nameOf).eraseDups = ts.map nameOf := eraseDups_nodup _ (hdis ts h4 h5)
  unfold swappedStores
  dsimp only
  rw [h1, h2', hb]
  show (if (vs.any fun x => match x with | .Starred .. => true | _ => false) = true then _ else _) = _
  rw [hst]
  have h6' : vs.all (foldedForSure 8) = false := by simpa using h6
  have h7' : vs.all (constantsAlone 8) = false := by simpa using h7
  have fin : ∀ N : List Str, N = ts.map nameOf → (if false = true then (pure none : Sem (Option (List Str))) else
      if (N.length != ts.length || N.eraseDups.length != N.length) = true then pure none
      else if vs.all (foldedForSure 8) = true then pure none
        else if vs.all (constantsAlone 8) = true then (do
            let _ ← (unsupported "assign.tuple-of-constant-expressions:order-of-the-stores" : Sem Unit)
            pure (some N))
          else pure (some N)) = pure (some (ts.map nameOf)) := by
    rintro N rfl
    rw [hnd, h6', h7']
    simp
  exact fin _ hnames
/-- bound one by one, without the state -/
theorem look_congr {e e' : En} (S : Sim G F σ e h') (h : ∀ k, look e k = look e' k) : Sim G F σ e' h' := by
  obtain ⟨mC, NC, hC⟩ := S.ns
  exact ⟨S.fr, ⟨mC, NC, fun x v hx q => hC x v hx ((h _).trans q)⟩, S.ap, S.ob, S.fo⟩
noncomputable def puts : List PySem.Expr → List PV → En → En
  | t :: ts, v :: vs, e => puts ts vs (put e (keyOf t) v)
  | _, _, e => e
theorem setAll_puts : ∀ {ts : List PySem.Expr} {vs : List PV} {e : En} {σ : St} {Q : En → St → Prop}, (∀ t ∈ ts, ∃ ln, ownName fr ln t = true) → setAll fr ts vs e σ Q → ts.length = vs.length ∧ Q (puts ts vs e) σ
  | [], [], _, _, _, _, h => ⟨rfl, h⟩
  | [], _ :: _, _, _, _, _, h => (h : False).elim
  | t :: ts, [], _, _, _, _, h => (h : False).elim
  | t :: ts, v :: vs, e, σ, Q, ho, h => by
    obtain ⟨ln, hln⟩ := ho t (.head _)
    obtain ⟨n, p, rfl, k0, k1, k2, _⟩ := ownName_e hln
    have h : setN fr (key n) v e σ fun e σ => setAll fr ts vs e σ Q := h
    unfold setN at h
    rw [if_neg k0, k1] at h
    dsimp only at h
    rw [k2] at h
    obtain ⟨h1, h2⟩ := setAll_puts (fun t ht => ho t (.tail _ ht)) h
    exact ⟨by rw [List.length_cons, List.length_cons, h1], h2⟩
noncomputable def putL : List (Nat × PV) → En → En
  | [], e => e
  | p :: r, e => putL r (put e p.1 p.2)
theorem look_app : ∀ (l : List (Nat × PV)) (l' : List (Nat × PV)) (k : Nat), look (l ++ l') k = match look l k with | some v => some v | none => look l' k
  | [], _, _ => rfl
  | (k', v) :: r, l', k => by
    rw [List.cons_append]
    simp only [look]
    split
    · rfl
    · exact look_app r l' k
theorem look_putL : ∀ (l : List (Nat × PV)) (e : En) (k : Nat), look (putL l e) k = match look l.reverse k with | some v => some v | none => look e k
  | [], _, _ => rfl
  | p :: r, e, k => by
    show look (putL r (put e p.1 p.2)) k = _
    rw [look_putL r, List.reverse_cons, look_app, look_put]
    cases look r.reverse k with
    | some v => rfl
    | none =>
      obtain ⟨a, b⟩ := p
      simp only [look]
      split <;> rfl
theorem look_of_mem : ∀ {l : List (Nat × PV)} {k : Nat} {v : PV}, (l.map (·.1)).Nodup → (k, v) ∈ l → look l k = some v
  | [], _, _, _, h => by cases h
  | (k', v') :: r, k, v, hn, h => by
    have hn' := List.nodup_cons.mp (show (k' :: r.map (·.1)).Nodup from hn)
    simp only [look]
    rcases List.mem_cons.mp h with q | q
    · cases q; rw [if_pos rfl]
    · rw [if_neg fun e => hn'.1 (by rw [e]; exact List.mem_map_of_mem (f := Prod.fst) q)]
      exact look_of_mem hn'.2 q
theorem mem_of_look : ∀ {l : List (Nat × PV)} {k : Nat} {v : PV}, look l k = some v → (k, v) ∈ l
  | [], _, _, h => by cases h
  | (k', v') :: r, k, v, h => by
    simp only [look] at h
    split at h
    · rename_i q
      cases h
      rw [q]
      exact .head _
    · exact .tail _ (mem_of_look h)
theorem look_rev {l : List (Nat × PV)} {k : Nat} (hn : (l.map (·.1)).Nodup) : look l.reverse k = look l k := by
  have hr : (l.reverse.map (·.1)).Nodup := by rw [List.map_reverse]; exact List.pairwise_reverse.mpr (hn.imp fun h e => h e.symm)
  cases q : look l k with
  | some v => exact look_of_mem hr (List.mem_reverse.mpr (mem_of_look q))
  | none =>
    cases q' : look l.reverse k with
    | none => rfl
    | some v => rw [look_of_mem hn (List.mem_reverse.mp (mem_of_look q'))] at q; cases q
theorem mem_iff : ∀ {l : List Nat} {x : Nat}, x ∈ l → mem l x = true
  | y :: r, x, h => by
    unfold mem
    split
    · rfl
    · rcases List.mem_cons.mp h with q | q
      · exact absurd q.symm ‹_›
      · exact mem_iff q
theorem distinct_nodup : ∀ {l : List Nat}, distinct l = true → l.Nodup
  | [], _ => List.nodup_nil
  | k :: r, h => by
    obtain ⟨d1, d2⟩ := Bool.and_eq_true_iff.mp (show (!(mem r k) && distinct r) = true from h)
    refine List.nodup_cons.mpr ⟨fun hm => ?_, distinct_nodup d2⟩
    rw [mem_iff hm] at d1
    cases d1
theorem zip_keys {α : Type} {f : PySem.Expr → α} : ∀ {ts : List PySem.Expr} {items : List Value}, ts.length = items.length → (ts.zip items).map (fun p => f p.1) = ts.map f
  | [], [], _ => rfl
  | [], _ :: _, h => by cases h
  | _ :: _, [], h => by cases h
  | t :: ts, v :: vs, h => congrArg (f t :: ·) (zip_keys (Nat.succ.inj h))
theorem zip_own : ∀ {ts : List PySem.Expr} {items : List Value}, ts.length = items.length → (ts.zip items).map (fun p => nameOf p.1) = ts.map nameOf ∧ (ts.zip items).map (fun p => p.2) = items
  | [], [], _ => ⟨rfl, rfl⟩
  | [], _ :: _, h => by cases h
  | _ :: _, [], h => by cases h
  | t :: ts, v :: vs, h => ⟨congrArg (nameOf t :: ·) (zip_own (Nat.succ.inj h)).1, congrArg (v :: ·) (zip_own (Nat.succ.inj h)).2⟩
theorem puts_zip : ∀ {ts : List PySem.Expr} {items : List Value} {e : En}, ts.length = items.length → (∀ t ∈ ts, ∃ ln, ownName fr ln t = true) → puts ts (items.map er) e = putL ((ts.zip items).map fun p => (keyOf p.1, er p.2)) e
  | [], [], _, _, _ => rfl
  | [], _ :: _, _, h, _ => by cases h
  | _ :: _, [], _, h, _ => by cases h
  | t :: ts, v :: vs, e, h, ho => puts_zip (e := put e (keyOf t) (er v)) (Nat.succ.inj h) fun t ht => ho t (.tail _ ht)
theorem sPuts (ok : Ok cf D G fr) : ∀ (ps : List (Str × Value)) {e : En} {h' : Heap} {s₁ : Shared} {tk : Nat}, (∀ p ∈ ps, key p.1 ≠ 0 ∧ look fr.cel (key p.1) = none ∧ mem fr.loc (key p.1) = true) → s₁ = { s with heap := h', toks := tk } → Sim G F σ e h' →
    wpAny (model G.prog G.w) G.A (assignInOrder (ps.map fun p => bindName G.env p.1) (ps.map (·.2))) (fun _ s' => ∃ h tk, s' = { s with heap := h, toks := tk } ∧ Sim G F σ (putL (ps.map fun p => (key p.1, er p.2)) e) h) (fun _ _ => False) s₁
  | [], e, h', s₁, tk, _, hs, S => wpAny_pure ⟨h', tk, hs, S⟩
  | (n, V) :: r, e, h', s₁, tk, ho, hs, S => by
    obtain ⟨k0, k1, k2⟩ := ho _ (.head _)
    show wpAny _ _ (do holding (r.map (·.2)) (bindName G.env n V); assignInOrder (r.map fun p => bindName G.env p.1) (r.map (·.2))) _ _ _
    refine wpAny_bind (wpAny_holding (wpAny_bindName ?_))
    subst hs
    have hset : setN fr (key n) (er V) e σ fun e' σ' => e' = put e (key n) (er V) ∧ σ' = σ := by
      unfold setN
      rw [if_neg k0, k1]
      dsimp only
      rw [k2]
      exact ⟨rfl, rfl⟩
    refine wpAny_mono (sStore (s := { s with heap := h', toks := tk }) ok S hset) (fun _ s' h₁ => ?_) fun _ _ e => e
    obtain ⟨h₂, tk₂, e₂, σ₂, rfl, S₂, he, hσ⟩ := h₁
    rw [he, hσ] at S₂
    exact sPuts ok r (fun p hp => ho p (.tail _ hp)) rfl S₂
theorem sSwapped (ok : Ok cf D G fr) {ts vs : List PySem.Expr} {items : List Value} {s₁ : Shared} {tk : Nat} {Q : Fl → En → St → Prop} (hsw : swapOk fr ts vs = true) (hs : s₁ = { s with heap := h', toks := tk }) (S : Sim G F σ e h') (h : setAll fr ts (items.map er) e σ fun e σ => Q .next e σ) :
    wpAny (model G.prog G.w) G.A (assignInOrder ((ts.map nameOf).reverse.map fun n => bindName G.env n) items.reverse) (fun _ s' => Sst G F Q s .next s') (fun _ _ => False) s₁ := by
  unfold swapOk at hsw
  simp only [Bool.and_eq_true] at hsw
  obtain ⟨⟨⟨⟨⟨⟨_, _⟩, _⟩, h4⟩, h5⟩, _⟩, _⟩ := hsw
  rw [List.all_eq_true] at h4
  obtain ⟨hl, hq⟩ := setAll_puts (fun t ht => ⟨_, h4 t ht⟩) h
  rw [List.length_map] at hl
  have hz := zip_own (ts := ts) (items := items) hl
  have e1 : (ts.map nameOf).reverse.map (fun n => bindName G.env n) = ((ts.zip items).map fun p => (nameOf p.1, p.2)).reverse.map (fun p => bindName G.env p.1) := by
    rw [← hz.1, List.map_reverse, List.map_reverse, List.map_map, List.map_map]
    rfl
  have e2 : items.reverse = ((ts.zip items).map fun p => (nameOf p.1, p.2)).reverse.map (·.2) := by
    rw [List.map_reverse, List.map_map]
    exact congrArg List.reverse hz.2.symm
  rw [e1, e2]
  refine wpAny_mono (sPuts (s := s) ok _ (fun p hp => ?_) hs S) (fun _ s' h₁ => ?_) fun _ _ e => e
  · obtain ⟨q, hq', rfl⟩ := List.mem_map.mp (List.mem_reverse.mp hp)
    obtain ⟨n, pp, hn, k0, k1, k2, _⟩ := ownName_e (h4 q.1 (List.of_mem_zip hq').1)
    have : nameOf q.1 = n := by rw [hn]; rfl
    rw [this]
    exact ⟨k0, k1, k2⟩
  · obtain ⟨h₂, tk₂, rfl, S₂⟩ := h₁
    refine ⟨h₂, tk₂, _, σ, rfl, look_congr S₂ fun k => ?_, hq⟩
    rw [puts_zip hl (fun t ht => ⟨_, h4 t ht⟩)]
    rw [List.map_reverse, look_putL, look_putL, List.reverse_reverse, List.map_map]
    have hd : ((ts.zip items).map ((fun p : Str × Value => (key p.1, er p.2)) ∘ fun p => (nameOf p.1, p.2))) = (ts.zip items).map fun p => (keyOf p.1, er p.2) := by
      refine List.map_congr_left fun p hp => ?_
      obtain ⟨n, pp, hn, _⟩ := ownName_e (h4 p.1 (List.of_mem_zip hp).1)
      show (key (nameOf p.1), er p.2) = (keyOf p.1, er p.2)
      rw [hn]
      rfl
    rw [hd]
    have hk : (((ts.zip items).map fun p => (keyOf p.1, er p.2)).map (·.1)).Nodup := by
      rw [List.map_map]
      have : (ts.zip items).map ((fun x : Nat × PV => x.1) ∘ fun p => (keyOf p.1, er p.2)) = ts.map keyOf := by
        have := zip_keys (f := keyOf) (ts := ts) (items := items) hl
        exact this
      rw [this]
      exact distinct_nodup h5
    rw [look_rev hk]
theorem tupMain {ts : List PySem.Expr} {Q : Fl → En → St → Prop} {V : Value} {s₁ : Shared} (h : Pst G F e (fun w σ => onR w fun a => onT σ a fun ws => ts.length = ws.length ∧ setAll fr ts ws e σ fun e σ => Q .next e σ) s V s₁) :
    ∃ (a : Addr) (items : List Value) (h' : Heap) (tk : Nat) (σ₁ : St), V = .ref a ∧ s₁ = { s with heap := h', toks := tk } ∧ Sim G F σ₁ e h' ∧ s₁.heap.IsTuple a items.toArray ∧ ts.length = items.length ∧ setAll fr ts (items.map er) e σ₁ fun e σ => Q .next e σ := by
  obtain ⟨h', tk, σ₁, rfl, S₁, q⟩ := h
  obtain ⟨a, rfl, q⟩ := onR_er q
  obtain ⟨ws, ho, hl, q⟩ := onT_e q
  obtain ⟨O, hO, Vs, rfl, rfl⟩ := S₁.at ho
  exact ⟨a, Vs, h', tk, σ₁, rfl, rfl, S₁, ⟨_, hO, rfl, _, rfl⟩, by rwa [List.length_map] at hl, q⟩
theorem sAssignT (H : Snd cf cl D L) (ok : Ok cf D G fr) {ts : List PySem.Expr} {k : Nat} {p : Pos} {v : PySem.Expr} {pos : Pos} {Q : Fl → En → St → Prop} (hc : noComp v = true) (S : Sim G F σ e s.heap) (h : assignS L fr (.Tuple ts k p) v e σ Q) :
    wpC cl (model G.prog G.w) G.A (exec (.Assign [.Tuple ts k p] v pos) G.env) (Sst G F Q s) s := by
  have h : if tupleOk fr ts v = true then L.E fr v e σ fun w σ => onR w fun a => onT σ a fun ws => ts.length = ws.length ∧ setAll fr ts ws e σ fun e σ => Q .next e σ else False := h
  by_cases ht : tupleOk fr ts v = true
  · rw [if_pos ht] at h
    by_cases hd : isDisplay v = true
    · obtain ⟨vs, k', p', rfl⟩ := isDisplay_e hd
      have hsw := swapped_is (k := k) (k' := k') (p := p) (p' := p') ok (show swapOk fr ts vs = true from ht)
      have hlen : (ts.map nameOf).length = ts.length := List.length_map _
      refine xAssignSwapped (xMono (H.E ok S h) fun V s₁ h₁ => ?_) (swap_none hc) hsw
      obtain ⟨a, items, h', tk, σ₁, rfl, rfl, S₁, ht', hl, q⟩ := tupMain h₁
      rw [hlen, show ts.length = items.toArray.size by rw [hl, List.size_toArray]]
      refine wpAny_unpackItems_tuple ok.hh ht' fun h'' he => ?_
      have S₂ := Sim.ext (s := { s with heap := h', toks := tk }) S₁ he
      exact sSwapped (s := s) ok (show swapOk fr ts vs = true from ht) rfl S₂ q
    · refine xAssignTuple (xMono (H.E ok S h) fun V s₁ h₁ => ?_) (swap_none hc) (by cases v <;> first | rfl | exact absurd rfl hd)
      obtain ⟨a, items, h', tk, σ₁, rfl, rfl, S₁, ht', hl, q⟩ := tupMain h₁
      obtain ⟨n1, n2⟩ := assignEach_names (env := G.env) (setAll_names q)
      refine wpAny_assign_Tuple ok.hh ht' (by rw [n1, hl, List.size_toArray]) n2 fun h'' he => ?_
      refine wpAny_mono (sSetAll (s := s) ok rfl ((Sim.ext (s := { s with heap := h', toks := tk }) S₁ he)) q) (fun _ s' h₂ => ?_) fun _ _ e => e
      obtain ⟨h₃, tk₃, e₃, σ₃, rfl, S₃, q⟩ := h₂
      exact ⟨h₃, tk₃, e₃, σ₃, rfl, S₃, q⟩
  · rw [if_neg ht] at h; exact h.elim
theorem sAssignS (H : Snd cf cl D L) (ok : Ok cf D G fr) {o i : PySem.Expr} {p : Pos} {v : PySem.Expr} {pos : Pos} {Q : Fl → En → St → Prop} (hc : noComp v = true) (S : Sim G F σ e s.heap) (h : assignS L fr (.Subscript o i p) v e σ Q) :
    wpC cl (model G.prog G.w) G.A (exec (.Assign [.Subscript o i p] v pos) G.env) (Sst G F Q s) s := by
  have h : L.E fr v e σ fun w σ => L.E fr o e σ fun a σ => L.E fr i e σ fun k σ => onR a fun a => (match k with
    | .str x => onD σ a fun l => l.length ≤ 65536 ∧ key x ≠ 0 ∧ (look l (key x)).isSome = true ∧ Q .next e (upd σ a (.dct (put l (key x) w)))
    | _ => False) := h
  rw [exec_Assign_Subscript o i p v pos (swap_none hc)]
  refine xStandAt (xBind (xMono (H.E ok S h) fun V s₁ h₁ => ?_))
  obtain ⟨h', tk, σ₁, rfl, S₁, q⟩ := h₁
  rw [assign_Subscript]
  refine xBind (xBind (xHolding (xMono (H.E ok (s := { s with heap := h', toks := tk }) S₁ q) fun W s₂ h₂ => ?_)))
  obtain ⟨h', tk, σ₂, rfl, S₂, q⟩ := h₂
  refine xBind (xHolding (xMono (H.E ok (s := { s with heap := h', toks := tk }) S₂ q) fun X s₂ h₂ => ?_))
  obtain ⟨h', tk, σ₃, rfl, S₃, q⟩ := h₂
  obtain ⟨a, rfl, q⟩ := onR_er q
  have u := un_er X
  generalize er X = x at q u
  cases x with
  | str n =>
    obtain ⟨t, rfl⟩ := u
    obtain ⟨l, ho, hz, h0, hi, q⟩ := onD_e q
    obtain ⟨O, hO, kvs, hd, hk, rfl⟩ := S₃.at ho
    have hD := Heap.dictOf_iff.mpr ⟨O, hO, hd⟩
    obtain ⟨p1, p2⟩ := stored_put (V := V) hd.choose_spec.choose_spec.2.2.2.2 hk hi
    rw [List.length_map] at hz
    refine xStandAt (xBind (xHolding (xAny (wpAny_setItem_pairs (s := { s with heap := h', toks := tk }) (strKind_is _ _ _ _) hD (fun h'' hD' hs => ?_) (sz24 hz)))))
    obtain ⟨O', hO', hd'⟩ := Heap.dictOf_iff.mp hD'
    refine xAny (wpAny_release' ?_)
    refine xPure ⟨h'', _, e, _, rfl, S₃.turn (o' := .dct ((stored kvs n V).map fun p => (key p.1, er p.2))) ho rfl rfl hs hO' ⟨_, hd', p2, rfl⟩, ?_⟩
    rw [p1]
    exact q
  | _ => exact (q : False).elim
theorem sAssign (H : Snd cf cl D L) (ok : Ok cf D G fr) {t v : PySem.Expr} {pos : Pos} {Q : Fl → En → St → Prop} (hc : noComp v = true) (S : Sim G F σ e s.heap) (h : assignS L fr t v e σ Q) :
    wpC cl (model G.prog G.w) G.A (exec (.Assign [t] v pos) G.env) (Sst G F Q s) s := by
  cases t with
  | Name x p =>
    have h : L.E fr v e σ fun w σ => setN fr (key x) w e σ fun e σ => Q .next e σ := h
    refine xAssign (xMono (H.E ok S h) fun V s₁ h₁ => ?_) (swap_none hc)
    obtain ⟨h', tk, σ₁, rfl, S₁, q⟩ := h₁
    exact bindK ok rfl S₁ q
  | Tuple ts k p => exact sAssignT H ok hc S h
  | Subscript o i p => exact sAssignS H ok hc S h
  | _ => exact (h : False).elim
theorem sAug (ok : Ok cf D G fr) (H : Snd cf cl D L) {x : Str} {p : Pos} {op : Operator} {v : PySem.Expr} {pos : Pos} {Q : Fl → En → St → Prop} (S : Sim G F σ e s.heap)
    (h : getN fr (key x) e σ fun old => L.E fr v e σ fun w σ => augB op old w fun n => setN fr (key x) n e σ fun e σ => Q .next e σ) :
    wpC cl (model G.prog G.w) G.A (exec (.AugAssign (.Name x p) op v pos) G.env) (Sst G F Q s) s := by
  obtain ⟨hd, hl⟩ := sLoad (prog := G.prog) (w := G.w) (E := fun _ _ => False) ok S h
  refine xAugName (wpAny_mono hl (fun V s₁ h₁ => ?_) fun _ _ e => e)
  obtain ⟨rfl, h₁⟩ := h₁
  refine xMono (H.E ok S h₁) fun W s₂ h₂ => ?_
  obtain ⟨h', tk, σ₁, rfl, S₁, q⟩ := h₂
  cases op with
  | Add =>
    obtain ⟨i, t, rfl, q⟩ := onI_er q; obtain ⟨j, u, rfl, q⟩ := onI_er q
    exact iadd_int (bindK ok rfl S₁ q)
  | Sub =>
    obtain ⟨i, t, rfl, q⟩ := onI_er q; obtain ⟨j, u, rfl, q⟩ := onI_er q
    exact isub_int (bindK ok rfl S₁ q)
  | _ => exact (q : False).elim
theorem sBlk (H : Snd cf cl D L) (ok : Ok cf D G fr) : ∀ {b : List Stmt} {e : En} {σ : St} {s : Shared} {Q : Fl → En → St → Prop}, Sim G F σ e s.heap → blk L fr b e σ Q → wpC cl (model G.prog G.w) G.A (execs b G.env) (Sst G F Q s) s
  | [], e, σ, s, Q, S, h => xExecsNil ⟨s.heap, s.toks, e, σ, rfl, S, h⟩
  | st :: r, e, σ, s, Q, S, h => by
    have h : L.S fr st e σ fun f e σ => thenF f e σ (blk L fr r e σ Q) Q := h
    refine xExecs (xMono (H.S ok S h) fun f s₁ h₁ => ?_)
    obtain ⟨h', tk, e₁, σ₁, rfl, S₁, q⟩ := h₁
    cases f with
    | next => exact sBlk H ok (s := { s with heap := h', toks := tk }) S₁ q
    | brk => exact ⟨h', tk, e₁, σ₁, rfl, S₁, q⟩
    | cont => exact ⟨h', tk, e₁, σ₁, rfl, S₁, q⟩
    | ret v => exact ⟨h', tk, e₁, σ₁, rfl, S₁, q⟩
end

/-- an iterator at its place -/
noncomputable def itAt (src : Src) (i : Nat) (h : Heap) (I : Addr) : Prop := match src with
  | .byt l => ∃ b t, KBw.bInts b = l ∧ KBw.IsBytesIter h I b t i
  | .list a => h.IsListIter I a i
  | .rng n => i ≤ n ∧ IsRangeIter h I (i : Int) ((n : Int) - i) 1
theorem itAt_congr {src : Src} {i : Nat} {h h' : Heap} {I : Addr} (e : h'.get? I = h.get? I) (x : itAt src i h I) : itAt src i h' I := by
  cases src with
  | byt l =>
    obtain ⟨b, t, hb, o, ho, r⟩ := x
    exact ⟨b, t, hb, o, e.trans ho, r⟩
  | list a =>
    obtain ⟨o, ho, r⟩ := x
    exact ⟨o, e.trans ho, r⟩
  | rng n => exact ⟨x.1, (e.trans x.2 : _ = _)⟩
theorem small_range {n : Nat} (h : n ≤ 65536) : Builtin.Range.small 0 (n : Int) 1 = true ∧ Builtin.Range.rangeSize 0 (n : Int) 1 = (n : Int) := by
  have hs : Builtin.Range.rangeSize 0 (n : Int) 1 = (n : Int) := by
    unfold Builtin.Range.rangeSize
    rw [if_pos (by decide)]
    split
    · rw [Int.ediv_one]; (first | exact Int.natCast_nonneg _ | lia | omega)
    · (first | exact Int.natCast_nonneg _ | lia | omega)
  refine ⟨?_, hs⟩
  unfold Builtin.Range.small
  rw [hs]
  have f : ∀ x : Int, 0 ≤ x → x ≤ 65536 → Builtin.Range.rangeFitsLong x = true := fun x h0 h1 => by
    unfold Builtin.Range.rangeFitsLong
    simp only [Bool.and_eq_true, decide_eq_true_eq]
    (first | exact Int.natCast_nonneg _ | lia | omega)
  rw [f 0 (by (first | exact Int.natCast_nonneg _ | lia | omega)) (by (first | exact Int.natCast_nonneg _ | lia | omega)), f (n : Int) (by (first | exact Int.natCast_nonneg _ | lia | omega)) (by (first | exact Int.natCast_nonneg _ | lia | omega)), f 1 (by (first | exact Int.natCast_nonneg _ | lia | omega)) (by (first | exact Int.natCast_nonneg _ | lia | omega))]
  rw [if_pos (by decide), f ((n : Int) + (1 - 1)) (by (first | exact Int.natCast_nonneg _ | lia | omega)) (by (first | exact Int.natCast_nonneg _ | lia | omega))]
  simp
section
variable {cf : Cfg} {cl : Bool} {D : Nat} {L : Lvl} {G : Gd} {fr : Frm} {F : List (Addr × Obj)} {e : En} {σ : St} {s : Shared} {E : Value → Shared → Prop}
theorem sIter {V : Value} {Q : Src → Prop} (S : Sim G F σ e s.heap) (h : srcOf (er V) σ Q) :
    wpAny (model G.prog G.w) G.A (pyIter V) (fun it s' => ∃ src O, it = .ref s.heap.objs.size ∧ s' = { s with heap := s.heap.push O } ∧ O.isFreed = false ∧ itAt src 0 (s.heap.push O) s.heap.objs.size ∧ Q src) E s := by
  have u := un_er V
  unfold srcOf at h
  generalize er V = v at h u
  cases v with
  | byt l =>
    obtain ⟨b, t, rfl, rfl⟩ := u
    exact KBw.pyIter_bytes ⟨.byt (KBw.bInts b), _, rfl, rfl, rfl, ⟨b, t, rfl, _, Heap.get?_push_size _ rfl, rfl, rfl⟩, h⟩
  | ref a =>
    cases u
    replace h := onS_e h
    obtain ⟨o, ho, h⟩ := h
    obtain ⟨O, hO, io⟩ := S.at ho
    cases o with
    | list vs =>
      obtain ⟨Vs, n, rfl, rfl⟩ := io
      exact wpAny_pyIter_list (isL hO) ⟨.list a, _, rfl, rfl, rfl, ⟨_, Heap.get?_push_size _ rfl, rfl, rfl⟩, h⟩
    | rng n =>
      obtain ⟨t, u, v, rfl⟩ := io
      obtain ⟨z1, z2⟩ := small_range h.1
      refine wpAny_pyIter_range hO z1 ⟨.rng n, _, rfl, rfl, rfl, ⟨Nat.zero_le _, ?_⟩, h.2⟩
      rw [z2]
      show _ = some _
      rw [Heap.get?_push_size _ rfl]
      congr 4
    | _ => exact (h : False).elim
  | _ => exact (h : False).elim
theorem sNext {src : Src} {i : Nat} {I : Addr} {O : Obj} {Q : Option PV → Prop} (hh : G.A.handled = none) (S : Sim G ((I, O) :: F) σ e s.heap) (hF : ∀ p ∈ F, p.1 ≠ I) (it : itAt src i s.heap I) (h : nextOf src i σ Q) :
    wpAny (model G.prog G.w) G.A (pyNext (.ref I)) (fun r s' => ∃ h' tk, s' = { s with heap := h', toks := tk } ∧ Q (r.map er) ∧
      match r with
      | none => Sim G F σ e h'
      | some _ => ∃ O', Sim G ((I, O') :: F) σ e h' ∧ itAt src (i + 1) h' I) E s := by
  have gone : ∀ h', Heap.ExtBut I s.heap h' → Sim G F σ e h' := fun h' he => by
    have S0 := S.drop
    obtain ⟨m, ⟨H, uH, Fm⟩, hm⟩ := S.fr
    obtain ⟨mC, NC, hC⟩ := S.ns
    obtain ⟨g1, g2, g3, g4, g5⟩ := S.fo _ (.head _)
    have g4 : G.h₀.get? I = none := g4
    have g5 : σ I = none := g5
    refine ⟨⟨m, ⟨H, uH, Fm.ns.at' fun o q => he _ o (Ne.symm g2) q, fun b ob q => he b ob (fun q' => by rw [q', uH.none _ g4] at q; cases q) (Fm.keep b ob q), Fm.above⟩, hm⟩, ⟨mC, NC.at' fun o q => he _ o (Ne.symm g3) q, hC⟩, S.ap, fun b ob q => ?_, fun p hp => ?_⟩
    · exact (S.ob b ob q).turn fun O q' _ _ _ => he b O (fun q'' => by rw [q'', g5] at q; cases q) q'
    · obtain ⟨h1, h2⟩ := S0.fo p hp
      exact ⟨he _ _ (hF p hp) h1, h2⟩
  have on : ∀ h', Heap.SameBut I s.heap h' → (∃ O', h'.get? I = some O') → ∃ O', Sim G ((I, O') :: F) σ e h' := fun h' hs ⟨O', hO'⟩ => ⟨O', S.turnF hF hs hO'⟩
  cases src with
  | byt l =>
    obtain ⟨b, t, rfl, hit⟩ := it
    have h : Q ((KBw.bInts b)[i]?.map .int) := h
    cases hx : b[i]? with
    | none =>
      refine KBw.next_end hh hit hx fun h' he => ⟨h', s.toks, rfl, ?_, gone h' he⟩
      have : (KBw.bInts b)[i]? = none := by
        rw [List.getElem?_eq_none]
        rw [KBw.ints_length]
        exact Array.getElem?_eq_none_iff.mp hx
      rw [this] at h
      exact h
    | some c =>
      refine KBw.next_item hit hx fun h' hit' hs => ⟨h', _, rfl, ?_, ?_⟩
      · rw [KBw.ints_get hx] at h
        exact h
      · obtain ⟨O', q⟩ := on h' hs (by obtain ⟨o, ho, _⟩ := hit'; exact ⟨o, ho⟩)
        exact ⟨O', q, b, t, rfl, hit'⟩
  | list a =>
    obtain ⟨vs, ho, h⟩ := onL_e h
    obtain ⟨_, hO, Vs, n, rfl, rfl⟩ := S.at ho
    cases hx : Vs[i]? with
    | none =>
      refine wpAny_pyNext_list_end hh it (isL hO) (by simpa using hx) fun h' he => ⟨h', s.toks, rfl, ?_, gone h' he⟩
      rw [List.getElem?_map, hx] at h
      exact h
    | some V =>
      refine wpAny_pyNext_list_item it (isL hO) (x := V) (by simpa using hx) fun h' hit' hs => ⟨h', s.toks, rfl, ?_, ?_⟩
      · rw [List.getElem?_map, hx] at h
        exact h
      · obtain ⟨O', q⟩ := on h' hs (by obtain ⟨o, ho, _⟩ := hit'; exact ⟨o, ho⟩)
        exact ⟨O', q, hit'⟩
  | rng n =>
    obtain ⟨hin, hit⟩ := it
    have h : Q (if i < n then some (.int i) else none) := h
    by_cases hlt : i < n
    · rw [if_pos hlt] at h
      refine wpAny_pyNext_range_item hit (by (first | exact Int.natCast_nonneg _ | lia | omega)) fun h' hit' hs => ⟨h', _, rfl, h, ?_⟩
      obtain ⟨O', q⟩ := on h' hs ⟨_, hit'⟩
      refine ⟨O', q, hlt, ?_⟩
      have e1 : ((i + 1 : Nat) : Int) = (i : Int) + 1 := by (first | exact Int.natCast_nonneg _ | lia | omega)
      have e2 : (n : Int) - ((i + 1 : Nat) : Int) = (n : Int) - i - 1 := by (first | exact Int.natCast_nonneg _ | lia | omega)
      rw [e2, e1]
      exact hit'
    · rw [if_neg hlt] at h
      exact wpAny_pyNext_range_end hh hit (by (first | exact Int.natCast_nonneg _ | lia | omega)) fun h' he => ⟨h', s.toks, rfl, h, gone h' he⟩
theorem xFor {target iter : PySem.Expr} {body : List Stmt} {pos : Pos} {env : Env} {M : Model} {A : Around} {Q : Flow → Shared → Prop} (hi : isSet iter = false)
    (h : wpC cl M A (eval iter env) (fun x s₁ => wpAny M A (pyIter x) (fun it s₂ => codeC cl M A (.forLoop target it body [] env) Q s₂) (fun _ _ => False) s₁) s) : wpC cl M A (exec (.For target iter body [] pos) env) Q s := by
  have hs : ∀ x, foldedSetIterable iter env x = pure x := fun x => by
    cases iter <;> first | rfl | cases hi
  rw [exec_For]
  refine xStandAt (xBind (xMono h fun x s₁ h₁ => xBindAny (wpAny_of_eq (hs x) (xStandAt (xBind (xHolding (xMono (xAny h₁) fun it s₂ h₂ => ?_)))))))
  unfold runOwn
  exact xOnRaise (xRun h₂)
noncomputable def WInv (G : Gd) (F : List (Addr × Obj)) (s : Shared) (I : Nat → En → St → Prop) (n : Nat) (s' : Shared) : Prop := ∃ e σ h tk, I n e σ ∧ s' = { s with heap := h, toks := tk } ∧ Sim G F σ e h
noncomputable def FInv (G : Gd) (F : List (Addr × Obj)) (src : Src) (J : Addr) (s : Shared) (N : Nat) (I : Nat → En → St → Prop) (n : Nat) (s' : Shared) : Prop := ∃ i e σ O h tk, n + i = N + 1 ∧ I i e σ ∧ s' = { s with heap := h, toks := tk } ∧ Sim G ((J, O) :: F) σ e h ∧ itAt src i h J
theorem sWhile (H : Snd cf cl D L) (ok : Ok cf D G fr) {t : PySem.Expr} {b : List Stmt} {pos : Pos} {Q : Fl → En → St → Prop} (S : Sim G F σ e s.heap) (h : whileW (L.T fr t) (blk L fr b) e σ Q) :
    wpC cl (model G.prog G.w) G.A (exec (.While t b [] pos) G.env) (Sst G F Q s) s := by
  obtain ⟨I, ⟨n, e', hw, h0⟩, turn⟩ := h
  replace S := S.weak hw
  rw [exec_While]
  refine xStandAt ?_
  unfold runOwn
  refine xOnRaise (xRun ?_)
  refine codeC_loop rfl rfl (WInv G F s I) ?_ n ⟨e', σ, s.heap, s.toks, h0, rfl, S⟩
  rintro n s' ⟨e, σ, h, tk, hI, rfl, S⟩
  show wpC _ _ G.A ((whileTurn t b [] G.env).onRaise _) _ _
  refine xOnRaise ?_
  unfold whileTurn
  refine xBind (xMono (H.T ok (s := { s with heap := h, toks := tk }) S (turn n e σ hI)) fun c s₂ h₂ => ?_)
  obtain ⟨h', tk', σ₁, rfl, S₁, q⟩ := h₂
  cases c with
  | false =>
    simp only [Bool.false_eq_true, if_false]
    exact xBind (xExecsNil (xPure ⟨h', tk', e, σ₁, rfl, S₁, q.2 rfl⟩))
  | true =>
    simp only [if_true]
    refine xBind (xMono (sBlk H ok (s := { s with heap := h', toks := tk' }) S₁ (q.1 rfl)) fun f s₃ h₃ => ?_)
    obtain ⟨h'', tk'', e₂, σ₂, rfl, S₂, q⟩ := h₃
    cases f with
    | next =>
      obtain ⟨m, e₃, hm, hw, hI⟩ := q
      exact xPure (.inl ⟨rfl, m, hm, e₃, σ₂, h'', tk'', hI, rfl, S₂.weak hw⟩)
    | cont =>
      obtain ⟨m, e₃, hm, hw, hI⟩ := q
      exact xPure (.inl ⟨rfl, m, hm, e₃, σ₂, h'', tk'', hI, rfl, S₂.weak hw⟩)
    | brk => exact xPure ⟨h'', tk'', e₂, σ₂, rfl, S₂, q⟩
    | ret v => exact xPure ⟨h'', tk'', e₂, σ₂, rfl, S₂, q⟩
theorem sFor (H : Snd cf cl D L) (ok : Ok cf D G fr) {x : Str} {px : Pos} {it : PySem.Expr} {b : List Stmt} {pos : Pos} {Q : Fl → En → St → Prop} (hi : isSet it = false) (S : Sim G F σ e s.heap)
    (h : L.E fr it e σ fun v σ => srcOf v σ fun src => forW fr (key x) (blk L fr b) src e σ Q) :
    wpC cl (model G.prog G.w) G.A (exec (.For (.Name x px) it b [] pos) G.env) (Sst G F Q s) s := by
  refine xFor hi (xMono (H.E ok S h) fun V s₁ h₁ => ?_)
  obtain ⟨h', tk, σ₁, rfl, S₁, q⟩ := h₁
  refine wpAny_mono (sIter (s := { s with heap := h', toks := tk }) S₁ q) (fun itv s₂ h₂ => ?_) fun _ _ e => e
  obtain ⟨src, O, rfl, rfl, hf, hit, N, I, ⟨e₀, hw, h0⟩, turn⟩ := h₂
  obtain ⟨S₂, hF⟩ := (S₁.weak hw).hold hf
  generalize h'.objs.size = J at S₂ hF hit
  refine codeC_loop rfl rfl (FInv G F src J s N I) ?_ (N + 1) ⟨0, e₀, σ₁, O, _, tk, rfl, h0, rfl, S₂, hit⟩
  rintro n s' ⟨i, e, σ, O, h, tk, hn, hI, rfl, S, hit⟩
  obtain ⟨hiN, hnx⟩ := turn i e σ hI
  show wpC _ _ G.A ((forTurn (.Name x px) (.ref J) b [] G.env).onRaise _) _ _
  refine xOnRaise ?_
  unfold forTurn
  refine xStandAt (xBind (xOnRaise (xAny (wpAny_mono (sNext ok.hh (s := { s with heap := h, toks := tk }) S hF hit hnx) (fun r s₂ h₂ => ?_) fun _ _ e => e))))
  obtain ⟨h₂, tk₂, rfl, q, hr⟩ := h₂
  cases r with
  | none =>
    dsimp only at hr ⊢
    refine xPure (.inr ⟨rfl, codeC_of_any (codeAny_block (wpAny_execs_nil ?_))⟩)
    exact ⟨_, rfl, h₂, tk₂, e, σ, rfl, hr, q⟩
  | some V =>
    obtain ⟨O', S', hit'⟩ := hr
    dsimp only
    have q : setN fr (key x) (er V) e σ fun e σ => blk L fr b e σ fun f e σ => turnF f e σ (∃ e', wk e' e ∧ I (i + 1) e' σ) Q := q
    refine xBindAny (wpAny_of_eq (rfl : letOwnedTupleGo (.Name x px) (.ref J) V = pure ()) ?_)
    refine xBindAny (wpAny_assign_Name (wpAny_mono (sStore (s := { s with heap := h₂, toks := tk₂ }) ok S' q) (fun _ s₃ h₃ => ?_) fun _ _ e => e))
    obtain ⟨h₃, tk₃, e₃, σ₃, rfl, S₃, q⟩ := h₃
    have e₃' : h₃.get? J = h₂.get? J := (S₃.fo _ (.head _)).1.trans (S'.fo _ (.head _)).1.symm
    refine xBind (xMono (sBlk H ok (s := { s with heap := h₃, toks := tk₃ }) S₃ q) fun f s₄ h₄ => ?_)
    obtain ⟨h₄, tk₄, e₄, σ₄, rfl, S₄, q⟩ := h₄
    have e₄' : h₄.get? J = h₂.get? J := (S₄.fo _ (.head _)).1.trans (S'.fo _ (.head _)).1.symm
    have again' : (∃ e', wk e' e₄ ∧ I (i + 1) e' σ₄) → ∃ m, m < n ∧ FInv G F src J s N I m { s with heap := h₄, toks := tk₄ } := fun ⟨e₅, hw, hI⟩ =>
      ⟨n - 1, by (first | exact Int.natCast_nonneg _ | lia | omega), i + 1, e₅, σ₄, O', h₄, tk₄, by (first | exact Int.natCast_nonneg _ | lia | omega), hI, rfl, S₄.weak hw, itAt_congr e₄' hit'⟩
    cases f with
    | next => exact xPure (.inl ⟨rfl, again' q⟩)
    | cont => exact xPure (.inl ⟨rfl, again' q⟩)
    | brk => exact xPure ⟨h₄, tk₄, e₄, σ₄, rfl, S₄.drop, q⟩
    | ret v => exact xPure ⟨h₄, tk₄, e₄, σ₄, rfl, S₄.drop, q⟩
end

section
variable {cl : Bool} {M : Model} {A : Around} {s : Shared} {env : Env}
noncomputable def compQ (M : Model) (A : Around) (use : Option (Value → Sem Unit)) (Q : Value → Shared → Prop) (acc : Value) (C : Addr) (s' : Shared) : Prop :=
  match use with
  | none => ∃ m, s'.heap.Ns C m ∧ ∀ h', Heap.SameBut C s'.heap h' → Q acc { s' with heap := h' }
  | some u => wpAny M A (u acc) (fun _ s'' => ∃ m, s''.heap.Ns C m ∧ ∀ h', Heap.SameBut C s''.heap h' → Q .none { s'' with heap := h' }) (fun _ _ => False) s'
theorem xComprehension {e : PySem.Expr} {scope : Scope} {pos : Pos} {newAcc first : Sem Value} {g : Comprehension} {gs : List Comprehension} {ccl : List (Str × Addr)} {use : Option (Value → Sem Unit)}
    {Q : Value → Shared → Prop}
    (hcl : clausesOf e = g :: gs) (hs : ∀ x, foldedSetIterable g.iter env x = pure x) (hclos : closureFor scope env = pure ccl)
    (hkind : scope.kind = .function) (hnames : ∀ x ∈ scope.names, x.2 = .local → scope.names.lookup x.1 = some .local)
    (h : wpC cl M A first (fun x s₁ => wpAny M A (pyIter x) (fun it s₂ => wpAny M A newAcc (fun acc s₃ =>
      wpAny M A (newFunctionEnv scope env.globals ccl [] env.qual none .none (some env)) (fun cenv s₄ =>
        codeC cl M A (.compStart e 0 it acc { cenv with scope := relabel scope env }) (fun _ s' => compQ M A use Q acc cenv.locals s') s₄) (fun _ _ => False) s₃) (fun _ _ => False) s₂) (fun _ _ => False) s₁) s) :
    wpC cl M A (comprehension e scope env pos newAcc false first use) Q s := by
  have standIf : ∀ {c : Prop} [Decidable c] {pos : Pos} {k : PUnit → Sem Value} {Q : Value → Shared → Prop} {s : Shared}, wpC cl M A (k ()) Q s → wpC cl M A (if c then (standAt pos >>= k) else k ()) Q s := fun {c} _ {pos k Q s} h => by
    split
    · exact xStandAt h
    · exact h
  unfold comprehension
  rw [hclos, hcl]
  refine xBind (xMono h fun x s₁ h₁ => xStandAt (xBindAny (wpAny_of_eq (hs x) (xBindAny (wpAny_holding (wpAny_mono h₁ (fun it s₂ h₂ =>
    standIf (xBindAny (wpAny_mono h₂ (fun acc s₃ h₃ => xBind (xPure (xBindAny (wpAny_mono h₃ (fun cenv s₄ h₄ => ?_) fun _ _ h' => h')))) fun _ _ h' => h')))
      fun _ _ h' => h'))))))
  dsimp only
  have hv : ∀ x ∈ (scope.names.filter fun x => (x.2 == .local || x.2 == .cell) && x.1 != (".0" : Str)).reverse, x.2 = .local →
      Env.kindOf { cenv with scope := relabel scope env } x.1 = some .local := fun x hx hl => lookup_relabel_local (hnames x (List.mem_filter.mp (List.mem_reverse.mp hx)).1 hl)
  have hv' : ∀ x ∈ (scope.names.filter fun x => (x.2 == .local || x.2 == .cell) && x.1 != (".0" : Str)).reverse.drop 1 ++ (scope.names.filter fun x => (x.2 == .local || x.2 == .cell) && x.1 != (".0" : Str)).reverse.take 1,
      x.2 = .local → Env.kindOf { cenv with scope := relabel scope env } x.1 = some .local := fun x hx hl => by
    rcases List.mem_append.mp hx with h1 | h1
    · exact hv x (List.mem_of_mem_drop h1) hl
    · exact hv x (List.mem_of_mem_take h1) hl
  have h₄' : codeC cl M A (.compStart e 0 it acc { cenv with scope := relabel scope env }) (fun _ s' => compQ M A use Q acc cenv.locals s') s₄ := h₄
  refine xHolding (xBind (xAttempt (xHolding (xMono (xRun h₄') fun f s' hr => ?_))))
  cases use with
  | none =>
    obtain ⟨m, hn, hr⟩ := hr
    exact xBindAny (wpAny_holding (wpAny_comp_letGo (cenv := { cenv with scope := relabel scope env }) hkind _ s' m hv hn fun h' m' _ hs' => xPure (hr h' hs')))
  | some u =>
    refine xBindAny (wpAny_rule (xBindAny (wpAny_holding (wpAny_mono hr (fun _ s'' hr' => ?_) fun _ _ h' => h'))))
    obtain ⟨m, hn, hr'⟩ := hr'
    exact xBindAny (wpAny_comp_letGo (cenv := { cenv with scope := relabel scope env }) hkind _ s'' m hv' hn fun h' m' _ hs' => xPure (hr' h' hs'))
end
theorem Sim.perm {G : Gd} {F F' : List (Addr × Obj)} {σ : St} {e : En} {h : Heap} (S : Sim G F σ e h) (hs : ∀ p ∈ F', p ∈ F) : Sim G F' σ e h := ⟨S.fr, S.ns, S.ap, S.ob, fun p hp => S.fo p (hs p hp)⟩
theorem good.mem {G : Gd} {h : Heap} {a : Addr} {o : AO} (g : good G h a o) : (a ≠ G.L ∧ a ≠ G.env.locals ∧ ∃ O, h.get? a = some O) ∨ ∃ O, G.h₀.get? a = some O := by
  obtain ⟨O, _, ⟨_, _, h2⟩ | ⟨_, h3, h4, h5, _⟩⟩ := g
  · exact .inr ⟨O, h2 _ .refl⟩
  · exact .inl ⟨h4, h5, O, h3⟩
/-- what is held is let go -/
theorem Sim.lose {G : Gd} {F : List (Addr × Obj)} {σ : St} {e : En} {h h' : Heap} {a : Addr} {O : Obj} (S : Sim G ((a, O) :: F) σ e h) (hF : ∀ p ∈ F, p.1 ≠ a) (hs : Heap.SameBut a h h') : Sim G F σ e h' := by
  obtain ⟨m, ⟨H, uH, Fm⟩, hm⟩ := S.fr
  obtain ⟨mC, NC, hC⟩ := S.ns
  obtain ⟨g1, g2, g3, g4, g5⟩ := S.fo _ (.head _)
  refine ⟨⟨m, ⟨H, uH, Fm.ns.sameBut hs (Ne.symm g2), fun b ob q => (hs.2 b (fun q' => ?_)).trans (Fm.keep b ob q), Fm.above⟩, hm⟩, ⟨mC, NC.sameBut hs (Ne.symm g3), hC⟩, S.ap, fun b ob q => ?_, fun p hp => ?_⟩
  · have g4 : G.h₀.get? a = none := g4
    rw [q', uH.none _ g4] at q; cases q
  · have hb : b ≠ a := fun hb => by
      have g5 : σ a = none := g5
      rw [hb, g5] at q; cases q
    exact (S.ob b ob q).turn fun O q _ _ _ => (hs.2 b hb).trans q
  · obtain ⟨h1, h2, h3, h4, h5⟩ := S.fo p (.tail _ hp)
    exact ⟨(hs.2 _ (hF p hp)).trans h1, h2, h3, h4, h5⟩
theorem ns_uniq {h : Heap} {a : Addr} {m m' : Str → Option Value} (x : h.Ns a m) (y : h.Ns a m') : m = m' := by
  obtain ⟨o, es, ep, a1, a2, a3, a4⟩ := x
  obtain ⟨o', es', ep', b1, b2, b3, b4⟩ := y
  rw [a1] at b1; cases b1
  rw [a2] at b2; cases b2
  funext y
  rw [← a4, b4]
/-- into a comprehension's frame, and out of it -/
theorem Sim.enter {G : Gd} {F : List (Addr × Obj)} {σ : St} {e : En} {h h' : Heap} {C : Addr} {m₁ : Str → Option Value} (S : Sim G F σ e h) (hC : h.objs.size ≤ C) (hk : ∀ b o, h.get? b = some o → h'.get? b = some o) (hn : h'.Ns C m₁) :
    ∃ M' F0, (∀ p ∈ F0, p.1 = G.env.locals) ∧ ∀ env' : Env, env'.locals = C → Sim { G with env := env', M := M' } (F0 ++ F) σ [] h' ∧
      ∀ F₁ σ' e' h₂, (∀ p ∈ F₁, p.1 ≠ G.env.locals) → Sim { G with env := env', M := M' } (F0 ++ F₁) σ' e' h₂ → ∃ O, (∃ m, ∀ h₃ : Heap, h₃.get? C = some O → h₃.Ns C m) ∧ Sim G ((C, O) :: F₁) σ' e h₂ := by
  obtain ⟨m, ⟨H, uH, Fm⟩, hm⟩ := S.fr
  obtain ⟨mC, NC, hmC⟩ := S.ns
  have hL : G.L ≠ C := fun q => absurd (Nat.lt_of_lt_of_le Fm.ns.lt (q ▸ hC)) (Nat.lt_irrefl _)
  have hl : G.env.locals ≠ C := fun q => absurd (Nat.lt_of_lt_of_le NC.lt (q ▸ hC)) (Nat.lt_irrefl _)
  have hb : ∀ b o, h.get? b = some o → b ≠ C := fun b o q q' => absurd (Nat.lt_of_lt_of_le (Heap.lt_size q) (q' ▸ hC)) (Nat.lt_irrefl _)
  have h0 : G.h₀.get? C = none := by
    cases q : G.h₀.get? C with
    | none => rfl
    | some o =>
      obtain ⟨sl, q⟩ := uH.slot _ _ q
      exact absurd rfl (hb _ _ (Fm.keep _ _ q))
  have S' := S.grow hk
  have ob' : ∀ env' : Env, env'.locals = C → ∀ M' a o, σ a = some o → good { G with env := env', M := M' } h' a o := fun env' he M' a o q => by
    obtain ⟨O, h1, h2 | ⟨h2, h3, h4, h5, h6⟩⟩ := S.ob a o q
    · exact ⟨O, h1, .inl h2⟩
    · exact ⟨O, h1, .inr ⟨h2, hk _ _ h3, h4, fun q' => hb _ _ h3 (q'.trans he), h6⟩⟩
  have fo' : ∀ p ∈ F, h'.get? p.1 = some p.2 ∧ p.1 ≠ G.L ∧ p.1 ≠ C ∧ G.h₀.get? p.1 = none ∧ σ p.1 = none := fun p hp => by
    obtain ⟨h1, h2, h3, h4, h5⟩ := S.fo p hp
    exact ⟨hk _ _ h1, h2, hb _ _ h1, h4, h5⟩
  have σC : ∀ (env' : Env) M' F₁ σ' e' h₂, env'.locals = C → Sim { G with env := env', M := M' } F₁ σ' e' h₂ → σ' C = none ∧ ∃ O, h₂.get? C = some O ∧ ∃ m, ∀ h₃ : Heap, h₃.get? C = some O → h₃.Ns C m := fun env' M' F₁ σ' e' h₂ he S₂ => by
    constructor
    · cases q : σ' C with
      | none => rfl
      | some o =>
        rcases (S₂.ob C o q).mem with ⟨_, q2, _⟩ | ⟨O, q2⟩
        · exact absurd he.symm q2
        · have q2 : G.h₀.get? C = some O := q2
          rw [h0] at q2; cases q2
    · obtain ⟨m₂, N₂, _⟩ := S₂.ns
      have N₂ : h₂.Ns C m₂ := he ▸ N₂
      obtain ⟨O, hO⟩ : ∃ O, h₂.get? C = some O := by
        obtain ⟨o, _, _, a1, _⟩ := N₂
        exact ⟨o, a1⟩
      exact ⟨O, hO, m₂, fun h₃ q => N₂.at' fun o q' => by rw [hO] at q'; cases q'; exact q⟩
  by_cases hlL : G.env.locals = G.L
  · refine ⟨m, [], fun p hp => (nomatch hp), fun env' he => ⟨⟨⟨m, ⟨H, uH, Fm.ns.at' (hk _), fun b o q => hk _ _ (Fm.keep b o q), Fm.above⟩, fun _ => rfl⟩, ⟨m₁, he ▸ hn, fun x v _ q => nomatch q⟩, fun _ => he ▸ h0, ob' env' he _, fun p hp => ?_⟩, fun F₁ σ' e' h₂ hF₁ S₂ => ?_⟩⟩
    · exact he ▸ fo' p hp
    · obtain ⟨z1, O, z2, z3⟩ := σC env' m _ σ' e' h₂ he S₂
      obtain ⟨m₃, ⟨H₃, uH₃, Fm₃⟩, hm₃⟩ := S₂.fr
      have hm₃ : m₃ = m := hm₃ (fun q => hL (he ▸ q).symm)
      subst hm₃
      have Fm₃ : Fr H₃ G.L h₂ m₃ := Fm₃
      refine ⟨O, z3, ⟨⟨m₃, ⟨H₃, uH₃, Fm₃⟩, fun q => absurd hlL q⟩, ⟨m₃, hlL ▸ Fm₃.ns, ?_⟩, S.ap, fun a o q => ?_, fun p hp => ?_⟩⟩
      · have : mC = m₃ := ns_uniq (hlL ▸ NC) Fm.ns
        exact this ▸ hmC
      · obtain ⟨O, h1, h2 | ⟨h2, h3, h4, h5, h6⟩⟩ := S₂.ob a o q
        · exact ⟨O, h1, .inl h2⟩
        · exact ⟨O, h1, .inr ⟨h2, h3, h4, hlL ▸ h4, h6⟩⟩
      · rcases List.mem_cons.mp hp with rfl | hp
        · exact ⟨z2, Ne.symm hL, Ne.symm hl, h0, z1⟩
        · obtain ⟨h1, h2, h3, h4, h5⟩ := S₂.fo p (by simpa using hp)
          exact ⟨h1, h2, hF₁ p hp, h4, h5⟩
  · obtain ⟨Ol, hOl⟩ : ∃ O, h.get? G.env.locals = some O := by
      obtain ⟨o, _, _, a1, _⟩ := NC
      exact ⟨o, a1⟩
    have hl0 := S.ap hlL
    have σl : σ G.env.locals = none := by
      cases q : σ G.env.locals with
      | none => rfl
      | some o =>
        rcases (S.ob _ o q).mem with ⟨_, q2, _⟩ | ⟨O, q2⟩
        · exact absurd rfl q2
        · rw [hl0] at q2; cases q2
    refine ⟨m, [(G.env.locals, Ol)], fun p hp => by rw [List.mem_singleton.mp hp], fun env' he => ⟨⟨⟨m, ⟨H, uH, Fm.ns.at' (hk _), fun b o q => hk _ _ (Fm.keep b o q), Fm.above⟩, fun _ => rfl⟩, ⟨m₁, he ▸ hn, fun x v _ q => nomatch q⟩, fun _ => he ▸ h0, ob' env' he _, fun p hp => ?_⟩, fun F₁ σ' e' h₂ hF₁ S₂ => ?_⟩⟩
    · rcases List.mem_cons.mp hp with rfl | hp
      · exact ⟨hk _ _ hOl, hlL, fun q => hl (q.trans he), hl0, σl⟩
      · exact he ▸ fo' p hp
    · obtain ⟨z1, O, z2, z3⟩ := σC env' m _ σ' e' h₂ he S₂
      obtain ⟨m₃, ⟨H₃, uH₃, Fm₃⟩, hm₃⟩ := S₂.fr
      have hm₃ : m₃ = m := hm₃ (fun q => hL (he ▸ q).symm)
      subst hm₃
      have Fm₃ : Fr H₃ G.L h₂ m₃ := Fm₃
      obtain ⟨y1, y2, y3, y4, y5⟩ := S₂.fo (G.env.locals, Ol) (by simp)
      have y1 : h₂.get? G.env.locals = some Ol := y1
      refine ⟨O, z3, ⟨⟨m₃, ⟨H₃, uH₃, Fm₃⟩, hm⟩, ⟨mC, NC.at' fun o q => by rw [hOl] at q; cases q; exact y1, hmC⟩, S.ap, fun a o q => ?_, fun p hp => ?_⟩⟩
      · obtain ⟨O, h1, h2 | ⟨h2, h3, h4, h5, h6⟩⟩ := S₂.ob a o q
        · exact ⟨O, h1, .inl h2⟩
        · refine ⟨O, h1, .inr ⟨h2, h3, h4, fun q' => ?_, h6⟩⟩
          have y5 : σ' G.env.locals = none := y5
          rw [q', y5] at q; cases q
      · rcases List.mem_cons.mp hp with rfl | hp
        · exact ⟨z2, Ne.symm hL, Ne.symm hl, h0, z1⟩
        · obtain ⟨h1, h2, h3, h4, h5⟩ := S₂.fo p (List.mem_append.mpr (.inr hp))
          exact ⟨h1, h2, hF₁ p hp, h4, h5⟩
theorem lookup_map {f : Str × NameKind → Str × NameKind} (hf : ∀ p, (f p).1 = p.1) : ∀ {names : List (Str × NameKind)} {x : Str} {k : NameKind}, names.lookup x = some k → (names.map f).lookup x = some (f (x, k)).2
  | [], _, _, h => nomatch h
  | (n, k') :: r, x, k, h => by
    rw [List.map_cons]
    cases hfn : f (n, k') with
    | mk a b =>
      have ha : a = n := by have := hf (n, k'); rw [hfn] at this; exact this
      subst ha
      by_cases hx : x = a
      · subst hx
        simp only [List.lookup, beq_self_eq_true] at h ⊢
        cases h
        rw [hfn]
      · have hx' : (x == a) = false := beq_false_of_ne hx
        simp only [List.lookup, hx'] at h ⊢
        exact lookup_map hf h
theorem closure_loop {env : Env} {f : Str × NameKind → List (Str × Addr) → Sem (ForInStep (List (Str × Addr)))}
    (f1 : ∀ n c r, env.cells.lookup n = some c → f (n, .free) r = pure (.yield ((n, c) :: r))) (f2 : ∀ n k r, k ≠ .free → f (n, k) r = pure (.yield r)) :
    ∀ (names : List (Str × NameKind)) (cs : List (Str × Addr)), (∀ p ∈ names, p.2 = .free → ∃ c, env.cells.lookup p.1 = some c) →
      ∃ ccl, forIn names cs f = pure ccl ∧ ∀ x, (cs.lookup x = env.cells.lookup x ∨ (x, NameKind.free) ∈ names) → ccl.lookup x = env.cells.lookup x
  | [], cs, _ => ⟨cs, rfl, fun x hx => by
      rcases hx with hx | hx
      · exact hx
      · cases hx⟩
  | (n, k) :: r, cs, h => by
    by_cases hk : k = .free
    · subst hk
      obtain ⟨c, hc⟩ := h _ (.head _) rfl
      obtain ⟨ccl, e1, e2⟩ := closure_loop f1 f2 r ((n, c) :: cs) fun p hp => h p (.tail _ hp)
      refine ⟨ccl, ?_, fun x hx => e2 x ?_⟩
      · rw [List.forIn_cons, f1 n c cs hc]
        exact e1
      · by_cases hxn : x = n
        · left
          subst hxn
          simp [List.lookup, hc]
        · rcases hx with hx | hx
          · left
            simp only [List.lookup, beq_false_of_ne hxn]
            exact hx
          · rcases List.mem_cons.mp hx with q | q
            · cases q; exact absurd rfl hxn
            · exact .inr q
    · obtain ⟨ccl, e1, e2⟩ := closure_loop f1 f2 r cs fun p hp => h p (.tail _ hp)
      refine ⟨ccl, ?_, fun x hx => e2 x ?_⟩
      · rw [List.forIn_cons, f2 n k cs hk]
        exact e1
      · rcases hx with hx | hx
        · exact .inl hx
        · rcases List.mem_cons.mp hx with q | q
          · cases q; exact absurd rfl hk
          · exact .inr q
theorem closure_pure {scope : Scope} {env : Env} (h : ∀ p ∈ scope.names, p.2 = .free → ∃ c, env.cells.lookup p.1 = some c) :
    ∃ ccl, closureFor scope env = pure ccl ∧ ∀ x, (x, NameKind.free) ∈ scope.names → ccl.lookup x = env.cells.lookup x := by
  obtain ⟨ccl, e1, e2⟩ := closure_loop (env := env) (f := fun (p : Str × NameKind) r => if (p.2 == .free) = true then (cellOf env p.1 >>= fun c => pure (.yield ((p.1, c) :: r))) else pure (.yield r))
    (fun n c r hc => by
      refine (if_pos (by show (NameKind.free == NameKind.free) = true; decide)).trans ?_
      unfold cellOf
      rw [hc]
      rfl)
    (fun n k r hk => by
      refine if_neg ?_
      simpa using hk) scope.names [] h
  refine ⟨ccl, ?_, fun x hx => e2 x (.inr hx)⟩
  show (forIn scope.names [] _ >>= fun cs => pure cs) = _
  rw [show (forIn scope.names [] fun (x : Str × NameKind) (r : List (Str × Addr)) => _) = _ from e1]
  rfl

section
variable {cf : Cfg} {cl : Bool} {D : Nat} {L : Lvl} {G : Gd} {fr : Frm} {F : List (Addr × Obj)} {e : En} {σ : St} {s : Shared}
theorem look_filter {α : Type} {p : Nat × α → Bool} : ∀ {l : List (Nat × α)} {k : Nat} {v : α}, look (l.filter p) k = some v → (∀ v v', p (k, v) = p (k, v')) → look l k = some v ∧ p (k, v) = true
  | [], _, _, h, _ => nomatch h
  | (k', v') :: r, k, v, h, hp => by
    rw [List.filter_cons] at h
    by_cases hk : k' = k
    · subst hk
      split at h
      · rename_i h1
        simp only [look, if_true] at h
        cases h
        exact ⟨by simp [look], h1⟩
      · rename_i h1
        obtain ⟨_, h2⟩ := look_filter h hp
        rw [hp v v'] at h2
        exact absurd h2 h1
    · have : look (r.filter p) k = some v := by
        split at h
        · simp only [look] at h
          rwa [if_neg hk] at h
        · exact h
      obtain ⟨h1, h2⟩ := look_filter this hp
      refine ⟨?_, h2⟩
      simp only [look]
      rwa [if_neg hk]
theorem mem_in : ∀ {l : List Nat} {k : Nat}, mem l k = true → k ∈ l
  | [], _, h => nomatch h
  | a :: r, k, h => by
    unfold mem at h
    split at h
    · rename_i q; subst q; exact .head _
    · exact .tail _ (mem_in h)
theorem look_in {α : Type} : ∀ {l : List (Nat × α)} {k : Nat} {v : α}, look l k = some v → (k, v) ∈ l
  | [], _, _, h => nomatch h
  | (k', v') :: r, k, v, h => by
    unfold look at h
    split at h
    · rename_i q; subst q; cases h; exact .head _
    · exact .tail _ (look_in h)
theorem scope_names {x : Nat} {scope : Scope} (hs : scopeOk fr x scope = true) : scope.kind = .function ∧ scope.isGenerator = false ∧ scope.isCoroutine = false ∧ mem (frC fr scope.names).loc x = true ∧
    ∀ p ∈ scope.names, (p.1 == ("__debug__" : Str)) = false ∧ p.2 ≠ .cell ∧ key p.1 ≠ 0 ∧ scope.names.lookup p.1 = some p.2 ∧ (p.2 = .free → ∃ c, look fr.cel (key p.1) = some c) := by
  unfold scopeOk at hs
  simp only [Bool.and_eq_true, decide_eq_true_eq, Bool.not_eq_true', List.all_eq_true] at hs
  obtain ⟨⟨⟨⟨h1, h2⟩, h3⟩, h4⟩, h5⟩ := hs
  refine ⟨h1, h2, h3, h5, fun p hp => ?_⟩
  obtain ⟨⟨⟨⟨k1, k2⟩, k3⟩, k4⟩, k5⟩ := h4 p hp
  refine ⟨k1, k2, k3, k4, fun hf => ?_⟩
  rw [Bool.or_eq_true] at k5
  rcases k5 with k5 | k5
  · simp [hf] at k5
  · exact Option.isSome_iff_exists.mp k5
theorem Ok.comp (ok : Ok cf D G fr) {x : Nat} {scope : Scope} (hs : scopeOk fr x scope = true) {ccl : List (Str × Addr)} (hc : ∀ x, (x, NameKind.free) ∈ scope.names → ccl.lookup x = G.env.cells.lookup x) (C : Addr) (M' : Str → Option Value) :
    Ok cf D { G with env := compEnvC scope ccl C G.env, M := M' } (frC fr scope.names) := by
  obtain ⟨h1, h2, h3, h4, h5⟩ := scope_names hs
  have lk : ∀ {y : Str} {k : NameKind}, scope.names.lookup y = some k → Env.kindOf (compEnvC scope ccl C G.env) y = some (if (k == .free && G.env.scope.kind == .function && G.env.kindOf y == some .cell) = true then (y, NameKind.cell) else (y, k)).2 := fun {y k} h => by
    show (scope.names.map _).lookup y = _
    refine lookup_map (fun p => ?_) h
    dsimp only
    split <;> rfl
  have inj : ∀ {y : Str} {p : Str × NameKind}, key y ≠ 0 → key p.1 = key y → p.1 = y := fun hy hq => (key_inj hy hq.symm).symm
  refine ⟨ok.B, ok.X, ok.T, ok.hA, ok.hf, ok.h0, ok.hh, ok.hg, ok.hd, ok.hu, ?_, ok.gl, ok.bu, fun y hy _ hm => ?_, fun y v hy _ _ hl => ?_, fun y c hy hl => ?_, ok.ro, ok.al⟩
  · show scope.kind = _
    exact h1
  · have hm := mem_in hm
    obtain ⟨p, hp, hq⟩ := List.mem_filterMap.mp hm
    split at hq
    · rename_i hloc
      have hq := Option.some.inj hq
      obtain rfl := inj hy hq
      obtain ⟨d1, d2, d3, d4, d5⟩ := h5 p hp
      rw [hloc] at d4
      refine ⟨(lk d4).trans ?_, d1⟩
      rfl
    · cases hq
  · obtain ⟨g1, g2⟩ := look_filter hl fun _ _ => rfl
    simp only [Bool.and_eq_true, List.any_eq_true, decide_eq_true_eq] at g2
    obtain ⟨p, hp, hp1, hp2⟩ := g2
    obtain ⟨k2, k3⟩ := ok.al y v hy g1
    obtain rfl := inj hy hp2
    obtain ⟨d1, d2, d3, d4, d5⟩ := h5 p hp
    rw [hp1] at d4
    exact ⟨(lk d4).trans rfl, k2, k3⟩
  · have hm := look_in hl
    obtain ⟨p, hp, hq⟩ := List.mem_filterMap.mp hm
    split at hq
    · rename_i hfree
      cases hlk : look fr.cel (key p.1) with
      | none => rw [hlk] at hq; cases hq
      | some c' =>
        rw [hlk] at hq
        have hq := Option.some.inj hq
        have q1 : key p.1 = key y := congrArg Prod.fst hq
        have q2 : c' = c := congrArg Prod.snd hq
        obtain rfl := inj hy q1
        subst q2
        obtain ⟨d1, d2, d3, d4, d5⟩ := h5 p hp
        obtain ⟨k1, k2, k3⟩ := ok.ce p.1 _ hy hlk
        rw [hfree] at d4
        refine ⟨(lk d4).trans ?_, ?_, d1⟩
        · rw [ok.kd, k1]
          rfl
        · refine (hc p.1 ?_).trans k2
          rw [← hfree]
          exact hp
    · cases hq
noncomputable def CInv (G : Gd) (src : Src) (J Da : Addr) (F₀ : List (Addr × Obj)) (s : Shared) (N : Nat) (I : Nat → List PV → St → Prop) (n : Nat) (s' : Shared) : Prop :=
  ∃ i vs k e σ O h tk, n + i = N + 1 ∧ I i (vs.map er) σ ∧ s' = { s with heap := h, toks := tk } ∧ Sim G ((J, O) :: (Da, PySem.W.listOf (List.toArray vs) k) :: F₀) σ e h ∧ itAt src i h J
/-- the loop of a comprehension -/
theorem sCompLoop (H : Snd cf cl D L) {G' : Gd} {fr' : Frm} (ok : Ok cf D G' fr') {elt iter : PySem.Expr} {x : Str} {px : Pos} {ifs : List PySem.Expr} {scope : Scope} {pos : Pos} {src : Src} {J Da : Addr} {F₀ : List (Addr × Obj)} {R : Flow → Shared → Prop} {Q : PV → St → Prop} {OJ : Obj}
    (hJ : ∀ p ∈ F₀, p.1 ≠ J) (hD : ∀ p ∈ F₀, p.1 ≠ Da) (hJD : J ≠ Da)
    (S : Sim G' ((J, OJ) :: (Da, PySem.W.listOf #[] 0) :: F₀) σ [] s.heap) (hit : itAt src 0 s.heap J) (h : compW L fr' (key x) elt ifs src σ Q)
    (hR : ∀ h tk σ e' vs n, Sim G' ((Da, PySem.W.listOf (List.toArray vs) n) :: F₀) σ e' h → vs.length ≤ 65536 → (∀ a, σ a = none → Q (.ref a) (upd σ a (.list (vs.map er)))) → R .next { s with heap := h, toks := tk }) :
    codeC cl (model G'.prog G'.w) G'.A (.compLoop (.ListComp elt [⟨.Name x px, iter, ifs, 0⟩] scope pos) 0 (.ref J) (.ref Da) G'.env) R s := by
  obtain ⟨N, I, h0, turn⟩ := h
  refine codeC_loop rfl rfl (CInv G' src J Da F₀ s N I) ?_ (N + 1) ⟨0, [], 0, [], σ, OJ, s.heap, s.toks, rfl, h0, rfl, S, hit⟩
  rintro n s' ⟨i, vs, k, e, σ, O, h, tk, hn, hI, rfl, S, hit⟩
  obtain ⟨hiN, hvl, hN, hnx⟩ := turn i _ σ hI
  replace S := S.weak (e' := []) trivial
  rw [List.length_map] at hvl
  show wpC _ _ G'.A ((compTurn (.ListComp elt [⟨.Name x px, iter, ifs, 0⟩] scope pos) 0 (.ref J) (.ref Da) G'.env).onRaise _) _ _
  refine xOnRaise ?_
  rw [compTurn_list]
  have hF' : ∀ p ∈ (Da, PySem.W.listOf (List.toArray vs) k) :: F₀, p.1 ≠ J := fun p hp => by
    rcases List.mem_cons.mp hp with rfl | hp
    · exact Ne.symm hJD
    · exact hJ p hp
  refine xStandAt (xBindAny (wpAny_mono (sNext ok.hh (s := { s with heap := h, toks := tk }) S hF' hit hnx) (fun r s₂ h₂ => ?_) fun _ _ e => e))
  obtain ⟨h₂, tk₂, rfl, q, hr⟩ := h₂
  cases r with
  | none =>
    dsimp only at hr ⊢
    exact xPure (hR h₂ tk₂ σ [] vs k hr (by omega) q)
  | some V =>
    obtain ⟨O', S', hit'⟩ := hr
    dsimp only
    refine xBindAny (wpAny_of_eq (rfl : letOwnedTupleGo (.Name x px) (.ref J) V = pure ()) ?_)
    have q : setN fr' (key x) (er V) [] σ fun e' σ => match (generalizing := false) ifs with
      | [] => L.E fr' elt e' σ fun w σ => I (i + 1) (vs.map er ++ [w]) σ
      | t :: ts => match (generalizing := false) ts with
        | [] => L.T fr' t e' σ fun b σ => ifB b (L.E fr' elt e' σ fun w σ => I (i + 1) (vs.map er ++ [w]) σ) (I (i + 1) (vs.map er) σ)
        | _ => False := q
    refine xBindAny (wpAny_assign_Name (wpAny_mono (sStore (s := { s with heap := h₂, toks := tk₂ }) ok S' q) (fun _ s₃ h₃ => ?_) fun _ _ e => e))
    obtain ⟨h₃, tk₃, e₃, σ₃, rfl, S₃, q⟩ := h₃
    have e₃' : h₃.get? J = h₂.get? J := (S₃.fo _ (.head _)).1.trans (S'.fo _ (.head _)).1.symm
    -- the element, and its append
    have last : ∀ {h₄ : Heap} {tk₄ : Nat} {σ₄ : St}, Sim G' ((J, O') :: (Da, PySem.W.listOf (List.toArray vs) k) :: F₀) σ₄ e₃ h₄ → (L.E fr' elt e₃ σ₄ fun w σ => I (i + 1) (vs.map er ++ [w]) σ) →
        wpC cl (model G'.prog G'.w) G'.A (eval elt G'.env) (fun y s₅ => wpC cl (model G'.prog G'.w) G'.A (call (.builtin "list.append") [.ref Da, y]) (fun _ s₆ => ∃ m, m < n ∧ CInv G' src J Da F₀ s N I m s₆) s₅) { s with heap := h₄, toks := tk₄ } := fun {h₄ tk₄ σ₄} S₄ q => by
      refine xMono (H.E ok (s := { s with heap := h₄, toks := tk₄ }) S₄ q) fun y s₅ h₅ => ?_
      obtain ⟨h₅, tk₅, σ₅, rfl, S₅, q⟩ := h₅
      have e₅ : h₅.get? J = h₂.get? J := (S₅.fo _ (.head _)).1.trans (S'.fo _ (.head _)).1.symm
      refine xAny (wpAny_list_append_plain (l := Da) (items := vs.toArray) ⟨k, (S₅.fo _ (.tail _ (.head _))).1⟩ (fun h₆ hp hs => ?_) (by rw [List.size_toArray]; exact sz24 (by omega)))
      obtain ⟨k', hk'⟩ := hp
      rw [List.push_toArray] at hk'
      have S₆ : Sim G' ((Da, PySem.W.listOf (vs ++ [y]).toArray k') :: (J, O') :: F₀) σ₅ e₃ h₆ :=
        (S₅.perm (F' := (Da, PySem.W.listOf vs.toArray k) :: (J, O') :: F₀) fun p hp => by
          simp only [List.mem_cons] at hp ⊢
          rcases hp with hp | hp | hp
          · exact .inr (.inl hp)
          · exact .inl hp
          · exact .inr (.inr hp)).turnF (fun p hp => by
            rcases List.mem_cons.mp hp with rfl | hp
            · exact hJD
            · exact hD p hp) hs hk'
      refine ⟨n - 1, by omega, i + 1, vs ++ [y], k', e₃, σ₅, O', h₆, tk₅, by omega, ?_, rfl, S₆.perm (fun p hp => by
          simp only [List.mem_cons] at hp ⊢
          rcases hp with hp | hp | hp
          · exact .inr (.inl hp)
          · exact .inl hp
          · exact .inr (.inr hp)), itAt_congr ?_ hit'⟩
      · rw [List.map_append]
        exact q
      · exact (hs.2 J hJD).trans e₅
    cases ifs with
    | nil =>
      refine xBind (xPure ?_)
      dsimp only
      exact xBind (xBind (xMono (last S₃ q) fun y s₅ h₅ => xBind (xMono h₅ fun _ s₆ h₆ => xPure (xPure (.inl ⟨rfl, h₆⟩)))))
    | cons t ts =>
      cases ts with
      | cons => exact (q : False).elim
      | nil =>
        simp only [List.forIn_cons, List.forIn_nil, if_true]
        refine xBind (xBind (xBind (xMono (H.T ok (s := { s with heap := h₃, toks := tk₃ }) S₃ q) fun b s₄ h₄ => xPure ?_)))
        obtain ⟨h₄, tk₄, σ₄, rfl, S₄, q⟩ := h₄
        refine xPure ?_
        cases b with
        | true => exact xBind (xBind (xMono (last S₄ (q.1 rfl)) fun y s₅ h₅ => xBind (xMono h₅ fun _ s₆ h₆ => xPure (xPure (.inl ⟨rfl, h₆⟩)))))
        | false =>
          have e₄ : h₄.get? J = h₂.get? J := (S₄.fo _ (.head _)).1.trans (S'.fo _ (.head _)).1.symm
          exact xPure (.inl ⟨rfl, n - 1, by omega, i + 1, vs, k, e₃, σ₄, O', h₄, tk₄, by omega, q.2 rfl, rfl, S₄, itAt_congr e₄ hit'⟩)
end

section
variable {cf : Cfg} {cl : Bool} {D : Nat} {L : Lvl} {G : Gd} {fr : Frm} {F : List (Addr × Obj)} {e : En} {σ : St} {s : Shared} {E : Value → Shared → Prop}
theorem itSelf {src : Src} {J : Addr} {Q : Value → Shared → Prop} {prog : Program} {w : World} {A : Around} (hit : itAt src 0 s.heap J) (h : Q (.ref J) s) : wpAny (model prog w) A (pyIter (.ref J)) Q E s := by
  cases src with
  | byt l =>
    obtain ⟨b, t, rfl, hit⟩ := hit
    exact KBw.pyIter_self hit h
  | list a => exact wpAny_pyIter_listiter hit h
  | rng n => exact wpAny_pyIter_rangeiter hit.2 h
theorem codeC_compStart {prog : Program} {w : World} {A : Around} {elt target iter : PySem.Expr} {ifs : List PySem.Expr} {rest : List Comprehension} {scope : Scope} {pos : Pos} {it acc : Value} {env : Env} {R : Flow → Shared → Prop}
    (h0 : codeC cl (model prog w) A (.compLoop (.ListComp elt (⟨target, iter, ifs, 0⟩ :: rest) scope pos) 0 it acc env) R s)
    (h : wpAny (model prog w) A (pyIter it) (fun it' s' => it' = it ∧ s' = s) (fun _ _ => False) s) :
    codeC cl (model prog w) A (.compStart (.ListComp elt (⟨target, iter, ifs, 0⟩ :: rest) scope pos) 0 it acc env) R s := by
  refine codeC_of_tree rfl ?_
  show wpC _ _ A ((compStart (.ListComp elt (⟨target, iter, ifs, 0⟩ :: rest) scope pos) 0 it acc env).onRaise (fun x => do noteFrame x env; standAt theWindowsPlace)) _ s
  refine xOnRaise ?_
  unfold compStart
  show wpC _ _ A (ask >>= _) _ s
  refine xBindAny (wpAny_askSetting ?_)
  dsimp only
  split
  · exact xPure ⟨rfl, h0⟩
  · refine xBindAny (wpAny_rule ?_)
    show wpC _ _ A (standAt iter.pos >>= _) _ s
    refine xStandAt (xBindAny (wpAny_mono h (fun it' s' h' => ?_) fun _ _ e => e))
    obtain ⟨rfl, rfl⟩ := h'
    exact xPure ⟨rfl, h0⟩
theorem sComp (H : Snd cf cl D L) (ok : Ok cf D G fr) {elt : PySem.Expr} {gens : List Comprehension} {scope : Scope} {pos : Pos} {use : Option (Value → Sem Unit)} {Qw : PV → St → Prop} {Q : Value → Shared → Prop}
    (S : Sim G F σ e s.heap) (h : compE L fr elt gens scope e σ Qw)
    (hQ : ∀ {h tk σ Da C O}, Sim G ((C, O) :: F) σ e h → (∀ p ∈ F, p.1 ≠ C) → (∃ m, ∀ h₃ : Heap, h₃.get? C = some O → h₃.Ns C m) → Qw (.ref Da) σ → compQ (model G.prog G.w) G.A use Q (.ref Da) C { s with heap := h, toks := tk }) :
    wpC cl (model G.prog G.w) G.A (comprehension (.ListComp elt gens scope pos) scope G.env (firstIterPos gens pos) (newList []) (firstAsync gens) (firstIter gens G.env) use) Q s := by
  cases gens with
  | nil => exact (h : False).elim
  | cons g gs =>
  cases gs with
  | cons => exact (h : False).elim
  | nil =>
  obtain ⟨target, iter, ifs, as⟩ := g
  unfold compE at h
  dsimp only at h
  by_cases hi : isSet iter = true
  · rw [if_pos hi] at h; exact h.elim
  rw [if_neg hi] at h
  by_cases ha : as = 0
  case neg => rw [if_neg ha] at h; exact h.elim
  rw [if_pos ha] at h
  subst ha
  obtain ⟨x, px, rfl, h⟩ := nameK_e h
  change (if scopeOk fr (key x) scope = true then _ else _) at h
  by_cases hsc : scopeOk fr (key x) scope = true
  case neg => rw [if_neg hsc] at h; exact h.elim
  rw [if_pos hsc] at h
  have hs : ∀ v, foldedSetIterable iter G.env v = pure v := fun v => by
    cases iter <;> first | rfl | exact absurd rfl hi
  obtain ⟨n1, n2, n3, n4, n5⟩ := scope_names hsc
  obtain ⟨ccl, c1, c2⟩ := closure_pure (scope := scope) (env := G.env) fun p hp hf => by
    obtain ⟨k1, k2, k3, k4, k5⟩ := n5 p hp
    obtain ⟨c, hc⟩ := k5 hf
    exact ⟨c, (ok.ce _ _ k3 hc).2.1⟩
  refine xComprehension rfl hs c1 n1 (fun p hp hl => (n5 p hp).2.2.2.1.trans (by rw [hl])) (xMono (H.E ok S h) fun V s₁ h₁ => ?_)
  obtain ⟨h', tk, σ₁, rfl, S₁, q⟩ := h₁
  refine wpAny_mono (sIter (s := { s with heap := h', toks := tk }) S₁ q) (fun itv s₂ h₂ => ?_) fun _ _ e => e
  obtain ⟨src, O, rfl, rfl, hf, hit, q⟩ := h₂
  obtain ⟨S₂, hF₂⟩ := S₁.hold hf
  dsimp only at hit S₂ hF₂ ⊢
  generalize hJ : h'.objs.size = J at S₂ hF₂ hit
  refine wpAny_newList ?_
  obtain ⟨S₃, hF₃⟩ := S₂.hold (O := PySem.W.listOf #[] 0) rfl
  have hit₃ : itAt src 0 ((h'.push O).push (PySem.W.listOf #[] 0)) J := itAt_congr ((Heap.get?_push_of_some _ (S₂.fo _ (.head _)).1).trans (S₂.fo _ (.head _)).1.symm) hit
  dsimp only at S₃ hF₃ ⊢
  generalize hD : (h'.push O).objs.size = Da at S₃ hF₃
  refine wpAny_newFunctionEnv (fun p hp => (n5 p hp).2.1) (by intro y hy; simp at hy) (fun h₁ hns hsb => ?_) n1
  dsimp only at hns hsb ⊢
  have hH3 : (h'.push O).push { cls := .type "list", data := .seq ([] : List Value).toArray } = ((h'.push O).push (PySem.W.listOf #[] 0)) := rfl
  rw [hH3] at hns hsb ⊢
  generalize (h'.push O).push (PySem.W.listOf #[] 0) = H3 at hns hsb S₃ hit₃ ⊢
  have hk : ∀ b o, H3.get? b = some o → h₁.get? b = some o := fun b o q => hsb.extBut b o (Nat.ne_of_lt (Heap.lt_size q)) (Heap.get?_push_of_some _ q)
  generalize hCC : H3.objs.size = C at hns hsb ⊢
  obtain ⟨M', F0, hF0, go⟩ := S₃.enter (Nat.le_of_eq hCC) hk hns
  obtain ⟨S₄, back⟩ := go (compEnvC scope ccl C G.env) rfl
  have okc := ok.comp hsc c2 C M'
  have hJl : J ≠ G.env.locals := (S₃.fo (J, O) (.tail _ (.head _))).2.2.1
  have hDl : Da ≠ G.env.locals := (S₃.fo (Da, PySem.W.listOf #[] 0) (.head _)).2.2.1
  have hJD : J ≠ Da := hF₃ (J, O) (.head _)
  have hFl : ∀ p ∈ F, p.1 ≠ G.env.locals := fun p hp => (S.fo p hp).2.2.1
  have fin : ∀ s₅ : Shared, s₅.heap = h₁ → (∃ tk, s₅ = { s with heap := h₁, toks := tk }) → codeC cl (model G.prog G.w) G.A (.compLoop (.ListComp elt [⟨.Name x px, iter, ifs, 0⟩] scope pos) 0 (.ref J) (.ref Da) (compEnvC scope ccl C G.env))
      (fun _ s' => compQ (model G.prog G.w) G.A use Q (.ref Da) C s') s₅ := by
    rintro _ _ ⟨tk₅, rfl⟩
    refine sCompLoop (G' := { G with env := compEnvC scope ccl C G.env, M := M' }) (F₀ := F0 ++ F) (J := J) (Da := Da) (OJ := O) (s := { s with heap := h₁, toks := tk₅ }) H okc
      (fun p hp => ?_) (fun p hp => ?_) hJD (S₄.perm fun p hp => ?_) (itAt_congr ?_ hit₃) q fun h₂ tk₂ σ₂ e' vs n S₅ hl hnew => ?_
    · rcases List.mem_append.mp hp with hp | hp
      · rw [hF0 p hp]; exact Ne.symm hJl
      · exact hF₂ p hp
    · rcases List.mem_append.mp hp with hp | hp
      · rw [hF0 p hp]; exact Ne.symm hDl
      · exact hF₃ p (.tail _ hp)
    · simp only [List.mem_cons, List.mem_append] at hp ⊢
      rcases hp with hp | hp | hp | hp
      · exact .inr (.inr (.inl hp))
      · exact .inr (.inl hp)
      · exact .inl hp
      · exact .inr (.inr (.inr hp))
    · have e1 := (S₃.fo (J, O) (.tail _ (.head _))).1
      exact (hk _ _ e1).trans e1.symm
    · obtain ⟨O', hns', S₆⟩ := back ((Da, PySem.W.listOf vs.toArray n) :: F) σ₂ e' h₂ (fun p hp => by
        rcases List.mem_cons.mp hp with rfl | hp
        · exact hDl
        · exact hFl p hp) (S₅.perm fun p hp => by
          simp only [List.mem_cons, List.mem_append] at hp ⊢
          rcases hp with hp | hp | hp
          · exact .inr (.inl hp)
          · exact .inl hp
          · exact .inr (.inr hp))
      have hCs : ∀ b o, H3.get? b = some o → b ≠ C := fun b o q q' => absurd (Heap.lt_size q) (by rw [q', hCC]; exact Nat.lt_irrefl _)
      have hDC : Da ≠ C := hCs _ _ (S₃.fo (Da, PySem.W.listOf #[] 0) (.head _)).1
      have hFC : ∀ p ∈ F, p.1 ≠ C := fun p hp => hCs _ _ (S₃.fo p (.tail _ (.tail _ hp))).1
      have hFD : ∀ p ∈ F, p.1 ≠ Da := fun p hp => hF₃ p (.tail _ hp)
      obtain ⟨z1, S₇⟩ := (S₆.perm (F' := (Da, PySem.W.listOf vs.toArray n) :: (C, O') :: F) fun p hp => by
        simp only [List.mem_cons] at hp ⊢
        rcases hp with hp | hp | hp
        · exact .inr (.inl hp)
        · exact .inl hp
        · exact .inr (.inr hp)).give (o := .list (vs.map er)) (fun p hp => by
          rcases List.mem_cons.mp hp with rfl | hp
          · exact Ne.symm hDC
          · exact hFD p hp) ⟨vs, n, rfl, rfl⟩ rfl
      exact hQ S₇ hFC hns' (hnew Da z1)
  refine codeC_compStart (fin _ rfl ⟨_, rfl⟩) (itSelf (src := src) ?_ ⟨rfl, rfl⟩)
  exact itAt_congr (by
    have e1 := (S₃.fo (J, O) (.tail _ (.head _))).1
    exact (hk _ _ e1).trans e1.symm) hit₃
theorem eComp (H : Snd cf cl D L) (ok : Ok cf D G fr) {elt : PySem.Expr} {gens : List Comprehension} {scope : Scope} {pos : Pos} {Q : PV → St → Prop}
    (S : Sim G F σ e s.heap) (h : compE L fr elt gens scope e σ Q) : wpC cl (model G.prog G.w) G.A (eval (.ListComp elt gens scope pos) G.env) (Pst G F e Q s) s := by
  rw [eval_ListComp]
  refine sComp (use := none) H ok S h fun {h tk σ Da C O} S₁ hF ⟨m, hm⟩ q => ?_
  have hO := (S₁.fo (C, O) (.head _)).1
  exact ⟨m, hm _ hO, fun h' hs => ⟨h', tk, σ, rfl, S₁.lose hF hs, q⟩⟩
theorem sUsed (H : Snd cf cl D L) (ok : Ok cf D G fr) {t v : PySem.Expr} {pos : Pos} {Q : Fl → En → St → Prop}
    (S : Sim G F σ e s.heap) (h : usedS L fr t v e σ Q) : wpC cl (model G.prog G.w) G.A (exec (.Assign [t] v pos) G.env) (Sst G F Q s) s := by
  cases t <;> first | exact (h : False).elim | skip
  rename_i x p
  unfold usedS at h
  dsimp only at h
  by_cases hu : usedOk fr x p v = true
  case neg => rw [if_neg hu] at h; exact h.elim
  rw [if_pos hu] at h
  cases v <;> first | exact (h : False).elim | skip
  rename_i elt gens scope q
  dsimp only at h
  replace hu : (decide (key x ≠ 0) && isNone (look fr.cel (key x)) && mem fr.loc (key x) && p.line == q.line && !(scope.names.any fun n => n.1 == x && (n.2 == .local || n.2 == .cell))) = true := hu
  simp only [Bool.and_eq_true, decide_eq_true_eq, Bool.not_eq_true'] at hu
  obtain ⟨⟨⟨⟨u1, u2⟩, u3⟩, u4⟩, u5⟩ := hu
  have hc : look fr.cel (key x) = none := by
    cases q : look fr.cel (key x) with
    | none => rfl
    | some c => rw [q] at u2; cases u2
  have hsw : swapsWith (.ListComp elt gens scope q) (some (.Name x p)) pos.line G.env = pure true := by
    show pure _ = _
    rw [ok_blk ok, (ok.lo x u1 hc u3).1]
    have u4' : (p.line == (PySem.Expr.ListComp elt gens scope q).pos.line) = true := u4
    rw [u4', u5]
    rfl
  rw [exec_Assign_Name_used _ _ _ _ hsw]
  refine xStandAt ?_
  show wpC _ _ _ (do let _ ← (do let _ ← comprehension (.ListComp elt gens scope q) scope G.env (firstIterPos gens q) (newList []) (firstAsync gens) (firstIter gens G.env) (some (assign (.Name x p) G.env))); pure Flow.next) _ _
  refine xBind (xMono (Q := fun _ s' => Sst G F Q s .next s') ?_ fun _ s' h' => xPure h')
  refine xBind (xMono (Q := fun _ s' => Sst G F Q s .next s') (sComp (use := some (assign (.Name x p) G.env)) H ok S h fun {h tk σ Da C O} S₁ hF ⟨m, hm⟩ q => ?_) fun _ s' h' => xPure h')
  show wpAny _ _ (assign (.Name x p) G.env (.ref Da)) _ _ _
  refine wpAny_assign_Name (wpAny_mono (sStore (s := { s with heap := h, toks := tk }) ok S₁ q) (fun _ s₂ h₂ => ?_) fun _ _ e => e)
  obtain ⟨h₂, tk₂, e₂, σ₂, rfl, S₂, q⟩ := h₂
  have hO := (S₂.fo (C, O) (.head _)).1
  exact ⟨m, hm _ hO, fun h' hs => ⟨h', tk₂, e₂, σ₂, rfl, S₂.lose hF hs, q⟩⟩
end

section
variable {cf : Cfg} {cl : Bool} {D : Nat} {L : Lvl} {G : Gd} {fr : Frm} {F : List (Addr × Obj)} {e : En} {σ : St} {s : Shared}
theorem eStep (H : Snd cf cl D L) (ok : Ok cf D G fr) {x : PySem.Expr} {Q : PV → St → Prop} (S : Sim G F σ e s.heap) (h : stepE cl L fr x e σ Q) : wpC cl (model G.prog G.w) G.A (eval x G.env) (Pst G F e Q s) s := by
  cases x with
  | Constant c n pos => exact eConst S h
  | Name x pos => exact eName ok S h
  | BinOp l op r pos => exact eBin H ok S h
  | BoolOp op es pos => exact eBool H ok S h
  | UnaryOp op x pos =>
    cases op with
    | Not => exact eNot H ok S h
    | _ => exact (h : False).elim
  | Compare l ops rs pos => exact eCmp H ok S h
  | IfExp t b o pos => exact eIf H ok S h
  | Call f args kws pos =>
    cases kws with
    | nil => exact eCall H ok S h
    | cons => exact (h : False).elim
  | Subscript o i pos => exact eSub H ok S h
  | List es pos =>
    unfold stepE at h
    dsimp only at h
    by_cases hn : es.all noStar = true
    · rw [if_pos hn] at h
      exact eList H ok S hn h
    · rw [if_neg hn] at h; exact h.elim
  | Tuple es k pos =>
    unfold stepE at h
    dsimp only at h
    by_cases hn : es.all noStar = true
    · rw [if_pos hn] at h
      exact eTuple H ok S hn h
    · rw [if_neg hn] at h; exact h.elim
  | ListComp elt gens scope pos => exact eComp H ok S h
  | Dict ks vs pos =>
    unfold stepE at h
    dsimp only at h
    by_cases hg : (!(ks.length == vs.length && ks.all (·.isSome) && !ks.isEmpty && decide (ks.length ≤ 15))) = true
    · rw [if_pos hg] at h; exact h.elim
    · rw [if_neg hg] at h
      simp only [Bool.not_eq_true', Bool.not_eq_false, Bool.and_eq_true, decide_eq_true_eq, beq_iff_eq] at hg
      obtain ⟨⟨⟨g1, g2⟩, g3⟩, g4⟩ := hg
      exact eDict H ok g1 g2 (by rintro rfl; cases g3) g4 S h
  | _ => exact (h : False).elim
theorem sStep (H : Snd cf cl D L) (ok : Ok cf D G fr) {x : Stmt} {Q : Fl → En → St → Prop} (S : Sim G F σ e s.heap) (h : stepS L fr x e σ Q) : wpC cl (model G.prog G.w) G.A (exec x G.env) (Sst G F Q s) s := by
  cases x with
  | Expr x pos =>
    unfold stepS at h
    dsimp only at h
    by_cases hn : noComp x = true
    · rw [if_pos hn] at h
      refine xExpr (xMono (H.E ok S h) fun V s₁ h₁ => ?_) (ok_inter ok) (swap_none hn)
      obtain ⟨h', tk, σ₁, rfl, S₁, q⟩ := h₁
      refine ⟨?_, h', tk, e, σ₁, rfl, S₁, q.2⟩
      exact (un_of q.1 : un .none V)
    · rw [if_neg hn] at h; exact h.elim
  | Continue pos => exact xContinue ⟨s.heap, s.toks, e, σ, rfl, S, h⟩
  | Return x pos =>
    cases x with
    | none => exact (h : False).elim
    | some x =>
      refine xReturn (xMono (H.E ok S h) fun V s₁ h₁ => ?_)
      obtain ⟨h', tk, σ₁, rfl, S₁, q⟩ := h₁
      exact ⟨h', tk, e, σ₁, rfl, S₁, q⟩
  | Assign ts v pos =>
    unfold stepS at h
    dsimp only at h
    by_cases hn : noComp v = true
    · rw [if_pos hn] at h
      cases ts with
      | nil => exact (h : False).elim
      | cons t r =>
        cases r with
        | nil => exact sAssign H ok hn S h
        | cons => exact (h : False).elim
    · rw [if_neg hn] at h
      cases ts with
      | nil => exact (h : False).elim
      | cons t r =>
        cases r with
        | nil => exact sUsed H ok S h
        | cons => exact (h : False).elim
  | AugAssign t op v pos =>
    cases t <;> first | exact (h : False).elim | exact sAug ok H S h
  | If t b o pos =>
    refine xIfStmt (xMono (H.T ok S h) fun c s₁ h₁ => ?_)
    obtain ⟨h', tk, σ₁, rfl, S₁, q⟩ := h₁
    cases c with
    | true => exact sBlk H ok (s := { s with heap := h', toks := tk }) S₁ (q.1 rfl)
    | false => exact sBlk H ok (s := { s with heap := h', toks := tk }) S₁ (q.2 rfl)
  | While t b o pos =>
    cases o with
    | nil => exact sWhile H ok S h
    | cons => exact (h : False).elim
  | For t it b o pos =>
    cases o with
    | cons => exact (h : False).elim
    | nil =>
      unfold stepS at h
      dsimp only at h
      by_cases hi : isSet it = true
      · rw [if_pos hi] at h; exact h.elim
      rw [if_neg hi] at h
      obtain ⟨x, px, rfl, h⟩ := nameK_e h
      exact sFor H ok (by simpa using hi) S h
  | _ => exact (h : False).elim
theorem getN_x {k : Nat} {Q : PV → Prop} (h : getN fr k e σ Q) : ∃ v, Q v := by
  unfold getN at h
  split at h
  · exact h.elim
  split at h
  · obtain ⟨v, _, h⟩ := onC_e h
    obtain ⟨v, _, h⟩ := onS_e h
    exact ⟨v, h⟩
  split at h <;> (obtain ⟨v, _, h⟩ := onS_e h; exact ⟨v, h⟩)
theorem constV_x {c : Const} {Q : PV → Prop} (h : constV c Q) : ∃ v, Q v := by
  cases c <;> first | exact (h : False).elim | exact ⟨_, h⟩
noncomputable def up (cl : Bool) (L : Lvl) : Lvl := ⟨stepE cl L, stepT L, stepS L, L.C⟩
theorem Snd.up (H : Snd cf cl D L) : Snd cf cl D (up cl L) where
  E := fun ok S h => eStep H ok S h
  T := fun ok S h => tStep H ok S h
  S := fun ok S h => sStep H ok S h
  C := H.C
  A := fun {fr e σ x Q} ha h => by
    cases x with
    | Constant c n pos => exact constV_x h
    | Name x pos => exact getN_x (fr := fr) (e := e) (σ := σ) h
    | _ => exact Bool.noConfusion ha
theorem Snd.zero : Snd cf cl D ⟨fun _ _ _ _ _ => False, fun _ _ _ _ _ => False, fun _ _ _ _ _ => False, Con cf cl D⟩ :=
  ⟨fun _ _ h => h.elim, fun _ _ h => h.elim, fun _ _ h => h.elim, rfl, fun _ h => h.elim⟩
/-- levels of the evaluator -/
noncomputable def lv (cl : Bool) (C : Addr → List PV → St → (PV → St → Prop) → Prop) : Nat → Lvl
  | 0 => ⟨fun _ _ _ _ _ => False, fun _ _ _ _ _ => False, fun _ _ _ _ _ => False, C⟩
  | n + 1 => up cl (lv cl C n)
theorem snd_lv : ∀ n, Snd cf cl D (lv cl (Con cf cl D) n)
  | 0 => .zero
  | n + 1 => (snd_lv n).up
end

/-- a def's frame, checked -/
noncomputable def gloOk (K : Frag) (x : Str) (v : PV) : Bool := match nsIn K mainGlobals x with
  | some (some V) => decide (er V = v)
  | some none => !(x == ("__name__" : Str)) && (match bootBuiltins x with | some V => decide (er V = v) | none => false)
  | none => false
noncomputable def frOk (K : Frag) (scope : Scope) (fr : Frm) : Bool :=
  decide (scope.kind = .function) && !scope.isGenerator && !scope.isCoroutine && fr.cel.isEmpty && scope.names.all (fun p => decide (p.2 ≠ .cell)) &&
  fr.loc.all (fun k => scope.names.any fun p => decide (key p.1 = k) && decide (scope.names.lookup p.1 = some .local) && !(p.1 == ("__debug__" : Str))) &&
  fr.glo.all (fun q => scope.names.any fun p => decide (key p.1 = q.1) && decide (scope.names.lookup p.1 = some .globalImplicit) && !(p.1 == ("__debug__" : Str)) && gloOk K p.1 q.2)
theorem frOk_e {K : Frag} {scope : Scope} {fr : Frm} (h : frOk K scope fr = true) : scope.kind = .function ∧ scope.isGenerator = false ∧ scope.isCoroutine = false ∧ fr.cel = [] ∧ (∀ p ∈ scope.names, p.2 ≠ .cell) ∧
    (∀ x, key x ≠ 0 → mem fr.loc (key x) = true → scope.names.lookup x = some .local ∧ (x == ("__debug__" : Str)) = false) ∧
    (∀ x v, key x ≠ 0 → look fr.glo (key x) = some v → scope.names.lookup x = some .globalImplicit ∧ (x == ("__debug__" : Str)) = false ∧
      ((∃ V, nsIn K mainGlobals x = some (some V) ∧ er V = v) ∨ (nsIn K mainGlobals x = some none ∧ x ≠ ("__name__" : Str) ∧ ∃ V, bootBuiltins x = some V ∧ er V = v))) := by
  unfold frOk at h
  simp only [Bool.and_eq_true, decide_eq_true_eq, Bool.not_eq_true', List.all_eq_true, List.isEmpty_iff, List.any_eq_true] at h
  obtain ⟨⟨⟨⟨⟨⟨h1, h2⟩, h3⟩, h4⟩, h5⟩, h6⟩, h7⟩ := h
  refine ⟨h1, h2, h3, h4, h5, fun x hx hm => ?_, fun x v hx hl => ?_⟩
  · obtain ⟨p, hp, ⟨q1, q2⟩, q3⟩ := h6 _ (mem_in hm)
    obtain rfl := key_inj hx q1.symm
    exact ⟨q2, q3⟩
  · obtain ⟨p, hp, ⟨⟨q1, q2⟩, q3⟩, q4⟩ := h7 _ (look_in hl)
    obtain rfl := key_inj hx q1.symm
    refine ⟨q2, q3, ?_⟩
    unfold gloOk at q4
    split at q4
    · rename_i V hV
      exact .inl ⟨V, hV, by simpa using q4⟩
    · rename_i hV
      simp only [Bool.and_eq_true, Bool.not_eq_true'] at q4
      obtain ⟨q5, q6⟩ := q4
      refine .inr ⟨hV, fun q => by rw [q] at q5; simp at q5, ?_⟩
      split at q6
      · rename_i V hb
        exact ⟨V, hb, by simpa using q6⟩
      · cases q6
    · cases q4
theorem lookup_mem {x : Str} {V : Value} : ∀ {l : List (Str × Value)}, (l.map (·.1)).Nodup → (x, V) ∈ l → l.lookup x = some V
  | [], _, h => nomatch h
  | (y, W) :: r, hn, h => by
    obtain ⟨h1, h2⟩ := List.nodup_cons.mp (show (y :: r.map (·.1)).Nodup from hn)
    rcases List.mem_cons.mp h with q | q
    · cases q
      simp [List.lookup]
    · have : (x == y) = false := beq_false_of_ne fun e => h1 (e ▸ List.mem_map_of_mem (f := (·.1)) q)
      simp only [List.lookup, this]
      exact lookup_mem h2 q
theorem lookup_rev {x : Str} {V : Value} {l : List (Str × Value)} (hn : (l.map (·.1)).Nodup) (h : (x, V) ∈ l) : l.reverse.lookup x = some V :=
  lookup_mem (by rw [List.map_reverse]; exact List.pairwise_reverse.mpr (List.Pairwise.imp Ne.symm hn)) (List.mem_reverse.mpr h)
noncomputable def retF (Q : PV → St → Prop) (f : Fl) (_ : En) (σ : St) : Prop := match f with
  | .ret v => Q v σ
  | .next => Q .none σ
  | _ => False
noncomputable def argsE : List Str → List PV → En
  | n :: ns, v :: vs => (key n, v) :: argsE ns vs
  | _, _ => []
theorem args_look : ∀ {ns : List Str} {Vs : List Value} {x : Str} {v : PV}, key x ≠ 0 → look (argsE ns (Vs.map er)) (key x) = some v → ∃ V, (x, V) ∈ ns.zip Vs ∧ er V = v
  | [], _, _, _, _, h => nomatch h
  | _ :: _, [], _, _, _, h => nomatch h
  | n :: ns, V :: Vs, x, v, hx, h => by
    change look ((key n, er V) :: argsE ns (Vs.map er)) (key x) = some v at h
    simp only [look] at h
    split at h
    · rename_i q
      obtain rfl := key_inj hx q.symm
      cases h
      exact ⟨V, .head _, rfl⟩
    · obtain ⟨W, h1, h2⟩ := args_look hx h
      exact ⟨W, .tail _ h1, h2⟩
theorem zip_fst {ns : List Str} {Vs : List Value} (h : Vs.length = ns.length) : (ns.zip Vs).map (·.1) = ns := List.map_fst_zip (Nat.le_of_eq h.symm)
/-- the slots of a heap's frames taken from another -/
theorem patch (H H' : Heap) : ∀ (W : List Addr), (∀ b ∈ W, ∀ o, H.get? b = some o → ∃ sl, H'.get? b = some { o with slots := sl }) →
    ∃ H'', Heap.SlotsOnly W H H'' ∧ (∀ b, H.get? b = none → H''.get? b = none) ∧ ∀ b ∈ W, ∀ o, H''.get? b = some o → H'.get? b = some o
  | [], _ => ⟨H, .refl _ _, fun _ q => q, fun _ h => nomatch h⟩
  | a :: W, h => by
    obtain ⟨H₁, s1, n1, a1⟩ := patch H H' W fun b hb => h b (.tail _ hb)
    have s1' : Heap.SlotsOnly (a :: W) H H₁ := s1.mono fun b hb => .tail _ hb
    cases q : H₁.get? a with
    | none =>
      refine ⟨H₁, s1', n1, fun b hb o ho => ?_⟩
      rcases List.mem_cons.mp hb with rfl | hb
      · rw [q] at ho; cases ho
      · exact a1 b hb o ho
    | some o₁ =>
      obtain ⟨o, ho⟩ : ∃ o, H.get? a = some o := by
        cases q' : H.get? a with
        | none => rw [n1 _ q'] at q; cases q
        | some o => exact ⟨o, rfl⟩
      obtain ⟨sl₁, e₁⟩ := s1.2.2 a o ho
      obtain ⟨sl', e'⟩ := h a (.head _) o ho
      obtain rfl : o₁ = { o with slots := sl₁ } := by rw [q] at e₁; cases e₁; rfl
      have hfree : ({ ({ o with slots := sl₁ } : Obj) with slots := sl' } : Obj).isFreed = false := by
        have hx := (Heap.get?_some_iff.mp ho).2
        obtain ⟨c, d, dt, s0⟩ := o
        cases dt <;> first | rfl | (simp [Obj.isFreed] at hx)
      have hu := Heap.SlotsOnly.update q fun _ => sl'
      refine ⟨_, s1'.trans (hu.mono fun b hb => by rw [List.mem_singleton.mp hb]; exact .head _), fun b hb => ?_, fun b hb ob hob => ?_⟩
      · have hba : b ≠ a := fun q' => by rw [q', ho] at hb; cases hb
        rw [Heap.get?_update_other _ _ (Ne.symm hba)]
        exact n1 b hb
      · by_cases hba : b = a
        · subst hba
          rw [Heap.get?_update_self _ q hfree] at hob
          cases hob
          exact e'
        · rw [Heap.get?_update_other _ _ (Ne.symm hba)] at hob
          rcases List.mem_cons.mp hb with rfl | hb
          · exact absurd rfl hba
          · exact a1 b hb ob hob
theorem ns_slots {h h' : Heap} {a : Addr} {m : Str → Option Value} (hn : h.Ns a m) (hs : ∀ o, h.get? a = some o → ∃ sl, h'.get? a = some { o with slots := sl }) : h'.Ns a m := by
  obtain ⟨o, es, ep, ho, hd, r⟩ := hn
  obtain ⟨sl, hs⟩ := hs o ho
  exact ⟨_, es, ep, hs, hd, r⟩
section
variable {cf : Cfg} {cl : Bool} {D : Nat} {G : Gd} {fr : Frm} {F : List (Addr × Obj)} {e : En} {σ : St} {s : Shared}
/-- the ground of a call -/
theorem Sim.ground (ok : Ok cf D G fr) (S : Sim G F σ e s.heap) : ∃ g, Below G.A G.base (G.env₀ :: G.outer) g ∧
    (∀ b o, g.get? b = some o → s.heap.get? b = some o) ∧ g.objs.size = s.heap.objs.size ∧ (∀ a o, σ a = some o → isF o = false → g.get? a = none) ∧
    ∀ F₁ σ' h' H', Up g (G.env₀ :: G.outer) H' → (∀ b o, H'.get? b = some o → h'.get? b = some o) → (∀ p ∈ F₁, h'.get? p.1 = some p.2 ∧ g.get? p.1 = none ∧ σ' p.1 = none) →
      (∀ a o, σ' a = some o → ∃ O, isO G o O ∧ ((isF o = true ∧ G.R.get? a = some O) ∨ (isF o = false ∧ h'.get? a = some O ∧ g.get? a = none))) → Sim G (F₁ ++ F) σ' e h' := by
  classical
  obtain ⟨m, ⟨H, uH, Fm⟩, hm⟩ := S.fr
  obtain ⟨mC, NC, hC⟩ := S.ns
  let news : List (Addr × Obj) := (List.range s.heap.objs.size).filterMap fun b => if ∃ o, σ b = some o ∧ isF o = false then (s.heap.get? b).map (b, ·) else none
  have hN : ∀ p ∈ news, s.heap.get? p.1 = some p.2 ∧ ∃ o, σ p.1 = some o ∧ isF o = false := fun p hp => by
    obtain ⟨b, _, hb⟩ := List.mem_filterMap.mp hp
    split at hb
    · rename_i hc
      cases hg : s.heap.get? b with
      | none => rw [hg] at hb; cases hb
      | some O => rw [hg] at hb; cases hb; exact ⟨hg, hc⟩
    · cases hb
  have N : News H G.L s.heap news := fun p hp => by
    obtain ⟨h1, o, h2, h3⟩ := hN p hp
    obtain ⟨O', k1, k2, k3, k4, k5⟩ := (S.ob _ o h2).own h3
    exact ⟨h1, k2, uH.none _ k4⟩
  obtain ⟨FG, BG, st, _⟩ := groundX (R := fun _ _ => True) (uH.below ok.B) Fm N ok.hA ok.hf ok.h0
  have inn : ∀ a o, σ a = some o → isF o = false → a ∈ news.map (·.1) := fun a o h1 h2 => by
    obtain ⟨O', k1, _⟩ := (S.ob _ o h1).own h2
    exact List.mem_map.mpr ⟨(a, O'), List.mem_filterMap.mpr ⟨a, List.mem_range.mpr (Heap.lt_size k1), by rw [if_pos ⟨o, h1, h2⟩, k1]; rfl⟩, rfl⟩
  have out : ∀ b o, s.heap.get? b = some o → (∀ o', σ b = some o' → isF o' = true) → (hideAll s.heap (news.map (·.1))).get? b = some o := fun b o h1 h2 => hideAll_get _ h1 fun hm => by
    obtain ⟨p, hp, rfl⟩ := List.mem_map.mp hm
    obtain ⟨_, o', q1, q2⟩ := hN p hp
    rw [h2 _ q1] at q2; cases q2
  have hCo : ∃ O, s.heap.get? G.env.locals = some O ∧ (hideAll s.heap (news.map (·.1))).get? G.env.locals = some O := by
    obtain ⟨O, _, _, a1, _⟩ := NC
    refine ⟨O, a1, out _ _ a1 fun o' q => ?_⟩
    cases hf : isF o' with
    | true => rfl
    | false => exact absurd rfl ((S.ob _ _ q).own hf).choose_spec.2.2.1
  refine ⟨_, BG, fun b o => of_hideAll _, hideAll_size _ _, fun a o h1 h2 => hideAll_none _ (inn a o h1 h2), fun F₁ σ' h' H' uH' hk hF₁ hσ => ?_⟩
  obtain ⟨OC, c1, c2⟩ := hCo
  have hsl : ∀ b o, (hideAll s.heap (news.map (·.1))).get? b = some o → ∃ sl, h'.get? b = some { o with slots := sl } := fun b o q => by
    obtain ⟨sl, q'⟩ := uH'.slot b o q
    exact ⟨sl, hk _ _ q'⟩
  have mW : (G.env₀ :: G.outer).filterMap (·.frame) = G.L :: G.outer.filterMap (·.frame) := by rw [List.filterMap_cons, ok.hf]
  obtain ⟨H₂, p1, p2, p3⟩ := patch H H' (G.outer.filterMap (·.frame)) fun b _ o q => uH'.slot b o (st _ _ q)
  have up₂ : Up G.h₀ G.outer H₂ := by
    refine ⟨p1.1.trans uH.sz, fun b hb => (p1.2.1 b hb).trans (uH.same b hb), fun b o q => ?_, fun b q => p2 b (uH.none b q)⟩
    obtain ⟨sl, q1⟩ := uH.slot b o q
    obtain ⟨sl', q2⟩ := p1.2.2 b _ q1
    exact ⟨sl', q2⟩
  have noW : ∀ b, G.h₀.get? b = none → b ∉ G.outer.filterMap (·.frame) := fun b hb hm => by
    obtain ⟨_, o, q, _⟩ := ok.B.frames.mem hm
    rw [hb] at q; cases q
  have keep : ∀ b o, H₂.get? b = some o → h'.get? b = some o := fun b o q => by
    by_cases hb : b ∈ G.outer.filterMap (·.frame)
    · exact hk _ _ (p3 b hb o q)
    · rw [p1.2.1 b hb] at q
      refine hk _ _ ((uH'.same b fun hm => ?_).trans (st _ _ q))
      rw [mW] at hm
      rcases List.mem_cons.mp hm with rfl | hm
      · exact absurd (Nat.lt_of_lt_of_le (Heap.lt_size q) Fm.above) (Nat.lt_irrefl _)
      · exact hb hm
  refine ⟨⟨m, ⟨H₂, up₂, ns_slots FG.ns fun o q => hsl _ o q, keep, by rw [p1.1]; exact Fm.above⟩, hm⟩, ⟨mC, ns_slots NC fun o q => by rw [c1] at q; cases q; exact hsl _ _ c2, hC⟩, S.ap, fun a o q => ?_, fun p hp => ?_⟩
  · obtain ⟨O, i1, ⟨i2, i3⟩ | ⟨i2, i3, i4⟩⟩ := hσ a o q
    · exact ⟨O, i1, .inl ⟨i2, i3, fun H₃ u₃ => u₃.stays ok.B _ _ (ok.ro _ _ i3)⟩⟩
    · refine ⟨O, i1, .inr ⟨i2, i3, fun q' => ?_, fun q' => ?_, ?_⟩⟩
      · obtain ⟨OL, _, _, l1, _⟩ := FG.ns
        rw [q', l1] at i4; cases i4
      · rw [q', c2] at i4; cases i4
      · cases q' : G.h₀.get? a with
        | none => rfl
        | some o' =>
          obtain ⟨sl, q'⟩ := uH.slot _ _ q'
          rw [st _ _ q'] at i4; cases i4
  · rcases List.mem_append.mp hp with hp | hp
    · obtain ⟨h1, i4, h5⟩ := hF₁ p hp
      refine ⟨h1, fun q' => ?_, fun q' => ?_, ?_, h5⟩
      · obtain ⟨OL, _, _, l1, _⟩ := FG.ns
        rw [q', l1] at i4; cases i4
      · rw [q', c2] at i4; cases i4
      · cases q' : G.h₀.get? p.1 with
        | none => rfl
        | some o' =>
          obtain ⟨sl, q'⟩ := uH.slot _ _ q'
          rw [st _ _ q'] at i4; cases i4
    · obtain ⟨h1, h2, h3, h4, h5⟩ := S.fo p hp
      have g1 := out _ _ h1 fun o' q => by rw [h5] at q; cases q
      have g1' : H'.get? p.1 = some p.2 := (uH'.same _ fun hm => by
        rw [mW] at hm
        rcases List.mem_cons.mp hm with q | hm
        · exact h2 q
        · exact noW _ h4 hm).trans g1
      refine ⟨hk _ _ g1', h2, h3, h4, ?_⟩
      cases q : σ' p.1 with
      | none => rfl
      | some o =>
        exfalso
        obtain ⟨O, i1, ⟨i2, i3⟩ | ⟨i2, i3, i4⟩⟩ := hσ _ _ q
        · have := ok.B.stays _ _ (ok.ro _ _ i3)
          rw [h4] at this; cases this
        · rw [g1] at i4; cases i4
/-- into a def's frame, and out of it -/
theorem Sim.entry {fr' fr : Frm} (ok : Ok cf (D + 1) G fr') {scope : Scope} {qual : Str} {cdv : Value} {a : Addr} {ns : List Str} {Vs : List Value} (S : Sim G F σ e s.heap)
    (hfr : frOk cf.K scope fr = true) (hlen : Vs.length = ns.length) (hnd : ns.Nodup) {L' : Addr} (hL' : s.heap.objs.size = L') {h₁ : Heap} (hns : h₁.Ns L' fun x => (ns.zip Vs).reverse.lookup x) {O : Obj} (hsb : Heap.SameBut L' (s.heap.push O) h₁) :
    ∃ G' : Gd, (G' = ⟨G.prog, G.w, G.A.deeper (envOf qual scope L' a cdv), G.A, G.base, G'.h₀, L', envOf qual scope L' a cdv, envOf qual scope L' a cdv, G.env₀ :: G.outer, G.M, G.R⟩) ∧
      Ok cf D G' fr ∧ Sim G' [] σ (argsE ns (Vs.map er)) h₁ ∧ ∀ F₁ σ' e' h', Sim G' F₁ σ' e' h' → Sim G (F₁ ++ F) σ' e h' := by
  obtain ⟨f1, f2, f3, f4, f5, f6, f7⟩ := frOk_e hfr
  obtain ⟨g, BG, og, gz, gn, back⟩ := S.ground ok
  have hz := zip_fst hlen
  have hk₁ : ∀ b o, s.heap.get? b = some o → h₁.get? b = some o := fun b o q => hsb.extBut b o (hL' ▸ Nat.ne_of_lt (Heap.lt_size q)) (Heap.get?_push_of_some _ q)
  have nL : ∀ b o, s.heap.get? b = some o → b ≠ L' := fun b o q q' => absurd (Heap.lt_size q) (by rw [q', hL']; exact Nat.lt_irrefl _)
  have gL : g.get? L' = none := by
    cases q : g.get? L' with
    | none => rfl
    | some o => exact absurd rfl (nL _ _ (og _ _ q))
  refine ⟨⟨G.prog, G.w, G.A.deeper (envOf qual scope L' a cdv), G.A, G.base, g, L', envOf qual scope L' a cdv, envOf qual scope L' a cdv, G.env₀ :: G.outer, G.M, G.R⟩, rfl, ?_, ?_, ?_⟩
  · refine ⟨BG, ok.X, ok.T, Around.frames_deeper ok.hA, rfl, f1, ok.hh, ok.hg, ?_, ?_, f1, rfl, rfl, fun x hx _ hl => f6 x hx hl, fun x v hx _ _ hg => f7 x v hx hg, fun x c hx hc => ?_, ok.ro, ok.al⟩
    · have := ok.hd
      show G.A.depth + 1 + D < _
      (first | exact Int.natCast_nonneg _ | lia | omega)
    · have := ok.hu
      show G.A.units + 3 + 8 * D + 64 < _
      (first | exact Int.natCast_nonneg _ | lia | omega)
    · rw [f4] at hc; cases hc
  · refine ⟨⟨_, ⟨g, .refl, hns, fun b o q => hk₁ _ _ (og _ _ q), by show g.objs.size ≤ L'; rw [gz, hL']; exact Nat.le_refl _⟩, fun q => absurd rfl q⟩, ⟨_, hns, fun x v hx hl => ?_⟩, fun q => absurd rfl q, fun b o q => ?_, fun p hp => nomatch hp⟩
    · obtain ⟨V, h1, h2⟩ := args_look hx hl
      exact ⟨V, lookup_rev (by rw [hz]; exact hnd) h1, h2⟩
    · obtain ⟨O, i1, ⟨i2, i3, i4⟩ | ⟨i2, i3, i4, i5, i6⟩⟩ := S.ob b o q
      · exact ⟨O, i1, .inl ⟨i2, i3, fun H u => u.stays BG _ _ (ok.ro _ _ i3)⟩⟩
      · exact ⟨O, i1, .inr ⟨i2, hk₁ _ _ i3, nL _ _ i3, nL _ _ i3, gn _ _ q i2⟩⟩
  · intro F₁ σ' e' h' S₂
    obtain ⟨m', ⟨H', uH', Fm'⟩, _⟩ := S₂.fr
    refine back F₁ σ' h' H' uH' Fm'.keep (fun p hp => ?_) fun b o q => ?_
    · obtain ⟨k1, k2, k3, k4, k5⟩ := S₂.fo p hp
      exact ⟨k1, k4, k5⟩
    · obtain ⟨O, i1, ⟨i2, i3, i4⟩ | ⟨i2, i3, i4, i5, i6⟩⟩ := S₂.ob b o q
      · exact ⟨O, i1, .inl ⟨i2, i3⟩⟩
      · exact ⟨O, i1, .inr ⟨i2, i3, i6⟩⟩
/-- from a def's body to its contract -/
theorem con_ofX {a : Addr} {vs : List PV} {Q : PV → St → Prop} {oc : Value} {od : Option Addr} {osl : Array (Option Value)} {name qual : Str} {params : Arguments} {body : List Stmt} {scope : Scope} {dV kV doc pm cdv ct : Value} {an : Option Addr} {ns : List Str}
    (ho : cf.K.lookup a = some ⟨oc, od, .func (fnOf name qual params body scope dV kV doc pm an cdv ct), osl⟩) (hfn : PySem.W.fnIn cf.K a = true) (hcd : codeIn cf.K cdv qual = true)
    (hfr : frOk cf.K scope fr = true) (hlen : vs.length = ns.length) (hnd : ns.Nodup) (hloc : ∀ y ∈ ns, scope.names.lookup y = some .local)
    (hbind : ∀ (s : Shared) (Vs : List Value), Vs.length = ns.length → cf.K.In s.heap → BindsTo s (fnOf name qual params body scope dV kV doc pm an cdv ct) ⟨Vs, []⟩ (ns.zip Vs))
    (h : ∀ (G : Gd) (s : Shared), Ok cf D G fr → G.env₀ = G.env → G.env.locals = G.L → Sim G [] σ (argsE ns vs) s.heap → wpC cl (model G.prog G.w) G.A (execs body G.env) (Sst G [] (retF Q) s) s) : Con cf cl (D + 1) a vs σ Q := by
  refine ⟨hfn, fun G fr' F e s Vs ok hVs S => ?_⟩
  subst hVs
  rw [List.length_map] at hlen
  obtain ⟨f1, f2, f3, f4, f5, f6, f7⟩ := frOk_e hfr
  have hX : cf.K.In s.heap := ok.X.keeps (S.bs ok)
  refine xCall (codeC_call_function (fd := fnOf name qual params body scope dV kV doc pm an cdv ct) (body := body) (by have := ok.hd; (first | exact Int.natCast_nonneg _ | lia | omega)) (hX _ _ ho) rfl f3 f2 rfl (codeRec_of hX hcd) ?_)
  have hz := zip_fst hlen
  refine hbind s Vs hlen hX _ _ _ _ (wpAny_newFunctionEnv f5 (fun y hy => hloc _ (hz ▸ List.mem_map_of_mem (f := (·.1)) hy)) (fun h₁ hns hsb => ⟨((ok.T.nolimit.keeps (S.bs ok)).fresh _ hsb), codeC_func ?_⟩) f1)
  obtain ⟨G', hG', ok', S', back⟩ := S.entry (qual := qual) (cdv := cdv) (a := a) ok hfr hlen hnd rfl hns hsb
  have key := h G' { s with heap := h₁, toks := s.toks + (ns.zip Vs).length } ok' (by rw [hG']) (by rw [hG']; rfl) S'
  rw [show G'.A = G.A.deeper (envOf qual scope s.heap.objs.size a cdv) by rw [hG'], show G'.env = envOf qual scope s.heap.objs.size a cdv by rw [hG'], show G'.prog = G.prog by rw [hG'], show G'.w = G.w by rw [hG']] at key
  refine xMono key fun f s' hs' => ?_
  obtain ⟨h', tk, e', σ', rfl, S₂, q⟩ := hs'
  have S₃ : Sim G F σ' e h' := back _ _ _ _ S₂
  cases f with
  | ret v => exact ⟨_, rfl, h', tk, σ', rfl, S₃, q⟩
  | next => exact ⟨_, rfl, h', tk, σ', rfl, S₃, q⟩
  | brk => exact (q : False).elim
  | cont => exact (q : False).elim
theorem con_of {n : Nat} {a : Addr} {vs : List PV} {Q : PV → St → Prop} {oc : Value} {od : Option Addr} {osl : Array (Option Value)} {name qual : Str} {params : Arguments} {body : List Stmt} {scope : Scope} {dV kV doc pm cdv ct : Value} {an : Option Addr} {ns : List Str}
    (ho : cf.K.lookup a = some ⟨oc, od, .func (fnOf name qual params body scope dV kV doc pm an cdv ct), osl⟩) (hfn : PySem.W.fnIn cf.K a = true) (hcd : codeIn cf.K cdv qual = true)
    (hfr : frOk cf.K scope fr = true) (hlen : vs.length = ns.length) (hnd : ns.Nodup) (hloc : ∀ y ∈ ns, scope.names.lookup y = some .local)
    (hbind : ∀ (s : Shared) (Vs : List Value), Vs.length = ns.length → cf.K.In s.heap → BindsTo s (fnOf name qual params body scope dV kV doc pm an cdv ct) ⟨Vs, []⟩ (ns.zip Vs))
    (h : blk (lv cl (Con cf cl D) n) fr body (argsE ns vs) σ (retF Q)) : Con cf cl (D + 1) a vs σ Q :=
  con_ofX ho hfn hcd hfr hlen hnd hloc hbind fun G s ok _ _ S => sBlk (snd_lv n) ok S h
end

/-- a def of the text, its parts -/
noncomputable def bodyOf (i : Nat) : List Stmt := match pw.main.body[i]? with
  | some (.FunctionDef _ _ body _ _ _ _ _ _ _) => body
  | _ => []
noncomputable def nameAt (i : Nat) : Str := match pw.main.body[i]? with
  | some (.FunctionDef name _ _ _ _ _ _ _ _ _) => name
  | _ => default
noncomputable def parsAt (i : Nat) : Arguments := match pw.main.body[i]? with
  | some (.FunctionDef _ args _ _ _ _ _ _ _ _) => args
  | _ => default
noncomputable def scopeAt (i : Nat) : Scope := match pw.main.body[i]? with
  | some (.FunctionDef _ _ _ _ _ _ scope _ _ _) => scope
  | _ => default
theorem lenS {n : Nat} : ∀ {Vs : List Value}, Vs.length = n + 1 → ∃ a r, Vs = a :: r ∧ r.length = n
  | [], h => nomatch h
  | a :: r, h => ⟨a, r, rfl, Nat.succ.inj h⟩
theorem len0 {Vs : List Value} (h : Vs.length = 0) : Vs = [] := List.length_eq_zero_iff.mp h
theorem len1 {Vs : List Value} (h : Vs.length = 1) : ∃ a, Vs = [a] := by
  obtain ⟨a, r, rfl, h'⟩ := lenS h
  obtain rfl := len0 h'
  exact ⟨a, rfl⟩
theorem len2 {Vs : List Value} (h : Vs.length = 2) : ∃ a b, Vs = [a, b] := by
  obtain ⟨a, r, rfl, h'⟩ := lenS h
  obtain ⟨b, rfl⟩ := len1 h'
  exact ⟨a, b, rfl⟩
theorem len3 {Vs : List Value} (h : Vs.length = 3) : ∃ a b c, Vs = [a, b, c] := by
  obtain ⟨a, r, rfl, h'⟩ := lenS h
  obtain ⟨b, c, rfl⟩ := len2 h'
  exact ⟨a, b, c, rfl⟩
theorem len4 {Vs : List Value} (h : Vs.length = 4) : ∃ a b c d, Vs = [a, b, c, d] := by
  obtain ⟨a, r, rfl, h'⟩ := lenS h
  obtain ⟨b, c, d, rfl⟩ := len3 h'
  exact ⟨a, b, c, d, rfl⟩
section
variable {P : Params} {cf : Cfg} {cl : Bool} {D n : Nat} {σ : St} {Q : PV → St → Prop}
/- is_code -/
noncomputable def fr66 : Frm := ⟨[3811208377074], [(43636068736819781, .int 1114111)], []⟩
noncomputable abbrev ns66 : List Str := [PySem.Str.ofString "number"]
theorem con66 (hK : cf.K = frag P) (v0 : PV) (h : ∀ C : Addr → List PV → St → (PV → St → Prop) → Prop, (∀ {a vs σ Q}, Con cf cl D a vs σ Q → C a vs σ Q) → blk (lv cl C n) fr66 (bodyOf 10) (argsE ns66 [v0]) σ (retF Q)) : Con cf cl (D + 1) 66 [v0] σ Q :=
  con_of (name := nameAt 10) (qual := nameAt 10) (params := parsAt 10) (body := bodyOf 10) (scope := scopeAt 10) (dV := (.none)) (kV := .none) (doc := .none) (pm := (.str (PySem.Str.ofString "unicore.base") 187)) (cdv := .ref 65) (ct := .none) (an := none) (ns := ns66) (oc := .type "function") (od := none) (osl := #[])
    (by rw [hK]; kernel_rfl) (by rw [hK]; kernel_rfl) (by rw [hK]; kernel_rfl) (by rw [hK]; kernel_rfl) rfl (by decide +kernel) (by decide +kernel) (fun s Vs hV hX => by obtain ⟨a, rfl⟩ := len1 hV; exact .of_eq (by kernel_rfl)) (h _ fun h => h)
/- is_high -/
noncomputable def fr73 : Frm := ⟨[209449573], [(669383280407474383316, .int 55296), (5229556878195845588, .int 56319)], []⟩
noncomputable abbrev ns73 : List Str := [PySem.Str.ofString "code"]
theorem con73 (hK : cf.K = frag P) (v0 : PV) (h : ∀ C : Addr → List PV → St → (PV → St → Prop) → Prop, (∀ {a vs σ Q}, Con cf cl D a vs σ Q → C a vs σ Q) → blk (lv cl C n) fr73 (bodyOf 11) (argsE ns73 [v0]) σ (retF Q)) : Con cf cl (D + 1) 73 [v0] σ Q :=
  con_of (name := nameAt 11) (qual := nameAt 11) (params := parsAt 11) (body := bodyOf 11) (scope := scopeAt 11) (dV := (.none)) (kV := .none) (doc := .none) (pm := (.str (PySem.Str.ofString "unicore.base") 187)) (cdv := .ref 72) (ct := .none) (an := none) (ns := ns73) (oc := .type "function") (od := none) (osl := #[])
    (by rw [hK]; kernel_rfl) (by rw [hK]; kernel_rfl) (by rw [hK]; kernel_rfl) (by rw [hK]; kernel_rfl) rfl (by decide +kernel) (by decide +kernel) (fun s Vs hV hX => by obtain ⟨a, rfl⟩ := len1 hV; exact .of_eq (by kernel_rfl)) (h _ fun h => h)
/- is_low -/
noncomputable def fr80 : Frm := ⟨[209449573], [(5521236106369346004, .int 56320), (43134657093462484, .int 57343)], []⟩
noncomputable abbrev ns80 : List Str := [PySem.Str.ofString "code"]
theorem con80 (hK : cf.K = frag P) (v0 : PV) (h : ∀ C : Addr → List PV → St → (PV → St → Prop) → Prop, (∀ {a vs σ Q}, Con cf cl D a vs σ Q → C a vs σ Q) → blk (lv cl C n) fr80 (bodyOf 12) (argsE ns80 [v0]) σ (retF Q)) : Con cf cl (D + 1) 80 [v0] σ Q :=
  con_of (name := nameAt 12) (qual := nameAt 12) (params := parsAt 12) (body := bodyOf 12) (scope := scopeAt 12) (dV := (.none)) (kV := .none) (doc := .none) (pm := (.str (PySem.Str.ofString "unicore.base") 187)) (cdv := .ref 79) (ct := .none) (an := none) (ns := ns80) (oc := .type "function") (od := none) (osl := #[])
    (by rw [hK]; kernel_rfl) (by rw [hK]; kernel_rfl) (by rw [hK]; kernel_rfl) (by rw [hK]; kernel_rfl) rfl (by decide +kernel) (by decide +kernel) (fun s Vs hV hX => by obtain ⟨a, rfl⟩ := len1 hV; exact .of_eq (by kernel_rfl)) (h _ fun h => h)
/- is_surrogate -/
noncomputable def fr87 : Frm := ⟨[209449573], [(669383280407474383316, .int 55296), (43134657093462484, .int 57343)], []⟩
noncomputable abbrev ns87 : List Str := [PySem.Str.ofString "code"]
theorem con87 (hK : cf.K = frag P) (v0 : PV) (h : ∀ C : Addr → List PV → St → (PV → St → Prop) → Prop, (∀ {a vs σ Q}, Con cf cl D a vs σ Q → C a vs σ Q) → blk (lv cl C n) fr87 (bodyOf 13) (argsE ns87 [v0]) σ (retF Q)) : Con cf cl (D + 1) 87 [v0] σ Q :=
  con_of (name := nameAt 13) (qual := nameAt 13) (params := parsAt 13) (body := bodyOf 13) (scope := scopeAt 13) (dV := (.none)) (kV := .none) (doc := .none) (pm := (.str (PySem.Str.ofString "unicore.base") 187)) (cdv := .ref 86) (ct := .none) (an := none) (ns := ns87) (oc := .type "function") (od := none) (osl := #[])
    (by rw [hK]; kernel_rfl) (by rw [hK]; kernel_rfl) (by rw [hK]; kernel_rfl) (by rw [hK]; kernel_rfl) rfl (by decide +kernel) (by decide +kernel) (fun s Vs hV hX => by obtain ⟨a, rfl⟩ := len1 hV; exact .of_eq (by kernel_rfl)) (h _ fun h => h)
/- is_scalar -/
noncomputable def fr94 : Frm := ⟨[3811208377074], [(465771964396133, .ref 66), (16003803992161794660006501, .ref 87)], []⟩
noncomputable abbrev ns94 : List Str := [PySem.Str.ofString "number"]
theorem con94 (hK : cf.K = frag P) (v0 : PV) (h : ∀ C : Addr → List PV → St → (PV → St → Prop) → Prop, (∀ {a vs σ Q}, Con cf cl D a vs σ Q → C a vs σ Q) → blk (lv cl C n) fr94 (bodyOf 14) (argsE ns94 [v0]) σ (retF Q)) : Con cf cl (D + 1) 94 [v0] σ Q :=
  con_of (name := nameAt 14) (qual := nameAt 14) (params := parsAt 14) (body := bodyOf 14) (scope := scopeAt 14) (dV := (.none)) (kV := .none) (doc := .none) (pm := (.str (PySem.Str.ofString "unicore.base") 187)) (cdv := .ref 93) (ct := .none) (an := none) (ns := ns94) (oc := .type "function") (od := none) (osl := #[])
    (by rw [hK]; kernel_rfl) (by rw [hK]; kernel_rfl) (by rw [hK]; kernel_rfl) (by rw [hK]; kernel_rfl) rfl (by decide +kernel) (by decide +kernel) (fun s Vs hV hX => by obtain ⟨a, rfl⟩ := len1 hV; exact .of_eq (by kernel_rfl)) (h _ fun h => h)
/- utf7_sign -/
noncomputable def fr101 : Frm := ⟨[31880592101, 465771985138924], [(6172493068023048915, .int 43), (790079112703466759873, .int 44), (790079112707755239880, .int 47)], []⟩
noncomputable abbrev ns101 : List Str := [PySem.Str.ofString "value", PySem.Str.ofString "is_mail"]
theorem con101 (hK : cf.K = frag P) (v0 v1 : PV) (h : ∀ C : Addr → List PV → St → (PV → St → Prop) → Prop, (∀ {a vs σ Q}, Con cf cl D a vs σ Q → C a vs σ Q) → blk (lv cl C n) fr101 (bodyOf 30) (argsE ns101 [v0, v1]) σ (retF Q)) : Con cf cl (D + 1) 101 [v0, v1] σ Q :=
  con_of (name := nameAt 30) (qual := nameAt 30) (params := parsAt 30) (body := bodyOf 30) (scope := scopeAt 30) (dV := (.none)) (kV := .none) (doc := .none) (pm := (.str (PySem.Str.ofString "unicore.utf7") 297)) (cdv := .ref 100) (ct := .none) (an := none) (ns := ns101) (oc := .type "function") (od := none) (osl := #[])
    (by rw [hK]; kernel_rfl) (by rw [hK]; kernel_rfl) (by rw [hK]; kernel_rfl) (by rw [hK]; kernel_rfl) rfl (by decide +kernel) (by decide +kernel) (fun s Vs hV hX => by obtain ⟨a, b, rfl⟩ := len2 hV; exact .of_eq (by kernel_rfl)) (h _ fun h => h)
/- utf7_value -/
noncomputable def fr108 : Frm := ⟨[30005867252, 465771985138924], [(6172493068023048915, .int 43), (790079112703466759873, .int 44), (790079112707755239880, .int 47)], []⟩
noncomputable abbrev ns108 : List Str := [PySem.Str.ofString "octet", PySem.Str.ofString "is_mail"]
theorem con108 (hK : cf.K = frag P) (v0 v1 : PV) (h : ∀ C : Addr → List PV → St → (PV → St → Prop) → Prop, (∀ {a vs σ Q}, Con cf cl D a vs σ Q → C a vs σ Q) → blk (lv cl C n) fr108 (bodyOf 31) (argsE ns108 [v0, v1]) σ (retF Q)) : Con cf cl (D + 1) 108 [v0, v1] σ Q :=
  con_of (name := nameAt 31) (qual := nameAt 31) (params := parsAt 31) (body := bodyOf 31) (scope := scopeAt 31) (dV := (.none)) (kV := .none) (doc := .none) (pm := (.str (PySem.Str.ofString "unicore.utf7") 297)) (cdv := .ref 107) (ct := .none) (an := none) (ns := ns108) (oc := .type "function") (od := none) (osl := #[])
    (by rw [hK]; kernel_rfl) (by rw [hK]; kernel_rfl) (by rw [hK]; kernel_rfl) (by rw [hK]; kernel_rfl) rfl (by decide +kernel) (by decide +kernel) (fun s Vs hV hX => by obtain ⟨a, b, rfl⟩ := len2 hV; exact .of_eq (by kernel_rfl)) (h _ fun h => h)
/- utf7_is_direct -/
noncomputable def fr115 : Frm := ⟨[209449573, 125029716415040278212844], [(101130126426076504744404, .byt [39, 40, 41, 44, 45, 46, 47, 58, 63, 9, 10, 13, 32]), (1656915991371060759363821772, .byt [33, 34, 35, 36, 37, 38, 42, 59, 60, 61, 62, 64, 91, 93, 94, 95, 96, 123, 124, 125])], []⟩
noncomputable abbrev ns115 : List Str := [PySem.Str.ofString "code", PySem.Str.ofString "is_optional"]
theorem con115 (hK : cf.K = frag P) (v0 v1 : PV) (h : ∀ C : Addr → List PV → St → (PV → St → Prop) → Prop, (∀ {a vs σ Q}, Con cf cl D a vs σ Q → C a vs σ Q) → blk (lv cl C n) fr115 (bodyOf 32) (argsE ns115 [v0, v1]) σ (retF Q)) : Con cf cl (D + 1) 115 [v0, v1] σ Q :=
  con_of (name := nameAt 32) (qual := nameAt 32) (params := parsAt 32) (body := bodyOf 32) (scope := scopeAt 32) (dV := (.none)) (kV := .none) (doc := .none) (pm := (.str (PySem.Str.ofString "unicore.utf7") 297)) (cdv := .ref 114) (ct := .none) (an := none) (ns := ns115) (oc := .type "function") (od := none) (osl := #[])
    (by rw [hK]; kernel_rfl) (by rw [hK]; kernel_rfl) (by rw [hK]; kernel_rfl) (by rw [hK]; kernel_rfl) rfl (by decide +kernel) (by decide +kernel) (fun s Vs hV hX => by obtain ⟨a, b, rfl⟩ := len2 hV; exact .of_eq (by kernel_rfl)) (h _ fun h => h)
/- utf7_is_mail_direct -/
noncomputable def fr122 : Frm := ⟨[209449573], [(48222602093684548, .int 38)], []⟩
noncomputable abbrev ns122 : List Str := [PySem.Str.ofString "code"]
theorem con122 (hK : cf.K = frag P) (v0 : PV) (h : ∀ C : Addr → List PV → St → (PV → St → Prop) → Prop, (∀ {a vs σ Q}, Con cf cl D a vs σ Q → C a vs σ Q) → blk (lv cl C n) fr122 (bodyOf 33) (argsE ns122 [v0]) σ (retF Q)) : Con cf cl (D + 1) 122 [v0] σ Q :=
  con_of (name := nameAt 33) (qual := nameAt 33) (params := parsAt 33) (body := bodyOf 33) (scope := scopeAt 33) (dV := (.none)) (kV := .none) (doc := .none) (pm := (.str (PySem.Str.ofString "unicore.utf7") 297)) (cdv := .ref 121) (ct := .none) (an := none) (ns := ns122) (oc := .type "function") (od := none) (osl := #[])
    (by rw [hK]; kernel_rfl) (by rw [hK]; kernel_rfl) (by rw [hK]; kernel_rfl) (by rw [hK]; kernel_rfl) rfl (by decide +kernel) (by decide +kernel) (fun s Vs hV hX => by obtain ⟨a, rfl⟩ := len1 hV; exact .of_eq (by kernel_rfl)) (h _ fun h => h)
/- utf7_units -/
noncomputable def fr129 : Frm := ⟨[26809545459, 31639370355, 209449573, 240744948], [], []⟩
noncomputable abbrev ns129 : List Str := [PySem.Str.ofString "codes"]
theorem con129 (hK : cf.K = frag P) (v0 : PV) (h : ∀ C : Addr → List PV → St → (PV → St → Prop) → Prop, (∀ {a vs σ Q}, Con cf cl D a vs σ Q → C a vs σ Q) → blk (lv cl C n) fr129 (bodyOf 34) (argsE ns129 [v0]) σ (retF Q)) : Con cf cl (D + 1) 129 [v0] σ Q :=
  con_of (name := nameAt 34) (qual := nameAt 34) (params := parsAt 34) (body := bodyOf 34) (scope := scopeAt 34) (dV := (.none)) (kV := .none) (doc := .none) (pm := (.str (PySem.Str.ofString "unicore.utf7") 297)) (cdv := .ref 128) (ct := .none) (an := none) (ns := ns129) (oc := .type "function") (od := none) (osl := #[])
    (by rw [hK]; kernel_rfl) (by rw [hK]; kernel_rfl) (by rw [hK]; kernel_rfl) (by rw [hK]; kernel_rfl) rfl (by decide +kernel) (by decide +kernel) (fun s Vs hV hX => by obtain ⟨a, rfl⟩ := len1 hV; exact .of_eq (by kernel_rfl)) (h _ fun h => h)
/- utf7_packed -/
noncomputable def fr136 : Frm := ⟨[26809545459, 465771985138924, 27615131492, 240744948, 230193017, 247182580], [(7130274830088974585, .bt .bytearray), (1087550875304030009971, .ref 129), (6172493068033565908, .int 16), (48222602093978840, .int 6), (8496491213308457966, .ref 101), (26562343667, .bt .bytes)], []⟩
noncomputable abbrev ns136 : List Str := [PySem.Str.ofString "codes", PySem.Str.ofString "is_mail"]
theorem con136 (hK : cf.K = frag P) (v0 v1 : PV) (h : ∀ C : Addr → List PV → St → (PV → St → Prop) → Prop, (∀ {a vs σ Q}, Con cf cl D a vs σ Q → C a vs σ Q) → blk (lv cl C n) fr136 (bodyOf 35) (argsE ns136 [v0, v1]) σ (retF Q)) : Con cf cl (D + 1) 136 [v0, v1] σ Q :=
  con_of (name := nameAt 35) (qual := nameAt 35) (params := parsAt 35) (body := bodyOf 35) (scope := scopeAt 35) (dV := (.none)) (kV := .none) (doc := .none) (pm := (.str (PySem.Str.ofString "unicore.utf7") 297)) (cdv := .ref 135) (ct := .none) (an := none) (ns := ns136) (oc := .type "function") (od := none) (osl := #[])
    (by rw [hK]; kernel_rfl) (by rw [hK]; kernel_rfl) (by rw [hK]; kernel_rfl) (by rw [hK]; kernel_rfl) rfl (by decide +kernel) (by decide +kernel) (fun s Vs hV hX => by obtain ⟨a, b, rfl⟩ := len2 hV; exact .of_eq (by kernel_rfl)) (h _ fun h => h)
/- utf7_run_written -/
noncomputable def fr143 : Frm := ⟨[1882862, 3394586179428, 1013843543228625451493], [(790079112706138548947, .int 45), (1087550875304271231717, .ref 108), (139206512038740540191460, .ref 136)], []⟩
noncomputable abbrev ns143 : List Str := [PySem.Str.ofString "run", PySem.Str.ofString "behind"]
theorem con143 (hK : cf.K = frag P) (v0 v1 : PV) (h : ∀ C : Addr → List PV → St → (PV → St → Prop) → Prop, (∀ {a vs σ Q}, Con cf cl D a vs σ Q → C a vs σ Q) → blk (lv cl C n) fr143 (bodyOf 36) (argsE ns143 [v0, v1]) σ (retF Q)) : Con cf cl (D + 1) 143 [v0, v1] σ Q :=
  con_of (name := nameAt 36) (qual := nameAt 36) (params := parsAt 36) (body := bodyOf 36) (scope := scopeAt 36) (dV := (.none)) (kV := .none) (doc := .none) (pm := (.str (PySem.Str.ofString "unicore.utf7") 297)) (cdv := .ref 142) (ct := .none) (an := none) (ns := ns143) (oc := .type "function") (od := none) (osl := #[])
    (by rw [hK]; kernel_rfl) (by rw [hK]; kernel_rfl) (by rw [hK]; kernel_rfl) (by rw [hK]; kernel_rfl) rfl (by decide +kernel) (by decide +kernel) (fun s Vs hV hX => by obtain ⟨a, b, rfl⟩ := len2 hV; exact .of_eq (by kernel_rfl)) (h _ fun h => h)
/- encode_utf7 -/
noncomputable def fr151 : Frm := ⟨[244939892, 125029716415040278212844, 27615131492, 1882862, 209449573], [(7130274830088974585, .bt .bytearray), (7631208411194667250, .ref 94), (293630950240869, .ref 57), (291937215134574513452897366516, .ref 115), (4783099332775513677853535426654958, .ref 143), (6172493068023048915, .int 43), (26562343667, .bt .bytes)], []⟩
noncomputable abbrev ns151 : List Str := [PySem.Str.ofString "text", PySem.Str.ofString "is_optional"]
theorem con151 (hK : cf.K = frag P) (v0 v1 : PV) (h : ∀ C : Addr → List PV → St → (PV → St → Prop) → Prop, (∀ {a vs σ Q}, Con cf cl D a vs σ Q → C a vs σ Q) → blk (lv cl C n) fr151 (bodyOf 37) (argsE ns151 [v0, v1]) σ (retF Q)) : Con cf cl (D + 1) 151 [v0, v1] σ Q :=
  con_of (name := nameAt 37) (qual := nameAt 37) (params := parsAt 37) (body := bodyOf 37) (scope := scopeAt 37) (dV := (.ref 144)) (kV := .none) (doc := .none) (pm := (.str (PySem.Str.ofString "unicore.utf7") 297)) (cdv := .ref 150) (ct := .none) (an := none) (ns := ns151) (oc := .type "function") (od := none) (osl := #[])
    (by rw [hK]; kernel_rfl) (by rw [hK]; kernel_rfl) (by rw [hK]; kernel_rfl) (by rw [hK]; kernel_rfl) rfl (by decide +kernel) (by decide +kernel) (fun s Vs hV hX => by obtain ⟨a, b, rfl⟩ := len2 hV; exact .of_defaults (T := 144) (items := #[.bool true]) (n := 0) rfl (hX 144 (fo144 P) (by rw [hK]; kernel_rfl)) rfl rfl (by kernel_rfl)) (h _ fun h => h)
/- utf7_run_end -/
noncomputable def fr158 : Frm := ⟨[3840751008371, 12532, 465771985138924], [(1782510, .bt .len), (1087550875304271231717, .ref 108)], []⟩
noncomputable abbrev ns158 : List Str := [PySem.Str.ofString "octets", PySem.Str.ofString "at", PySem.Str.ofString "is_mail"]
theorem con158 (hK : cf.K = frag P) (v0 v1 v2 : PV) (h : ∀ C : Addr → List PV → St → (PV → St → Prop) → Prop, (∀ {a vs σ Q}, Con cf cl D a vs σ Q → C a vs σ Q) → blk (lv cl C n) fr158 (bodyOf 38) (argsE ns158 [v0, v1, v2]) σ (retF Q)) : Con cf cl (D + 1) 158 [v0, v1, v2] σ Q :=
  con_of (name := nameAt 38) (qual := nameAt 38) (params := parsAt 38) (body := bodyOf 38) (scope := scopeAt 38) (dV := (.none)) (kV := .none) (doc := .none) (pm := (.str (PySem.Str.ofString "unicore.utf7") 297)) (cdv := .ref 157) (ct := .none) (an := none) (ns := ns158) (oc := .type "function") (od := none) (osl := #[])
    (by rw [hK]; kernel_rfl) (by rw [hK]; kernel_rfl) (by rw [hK]; kernel_rfl) (by rw [hK]; kernel_rfl) rfl (by decide +kernel) (by decide +kernel) (fun s Vs hV hX => by obtain ⟨a, b, c, rfl⟩ := len3 hV; exact .of_eq (by kernel_rfl)) (h _ fun h => h)
/- utf7_run_units -/
noncomputable def fr165 : Frm := ⟨[3840751008371, 31114951028, 1668964, 465771985138924, 31639370355, 240744948, 230193017, 30005867252], [(48222602093978840, .int 6), (1087550875304271231717, .ref 108), (6172493068033565908, .int 16)], []⟩
noncomputable abbrev ns165 : List Str := [PySem.Str.ofString "octets", PySem.Str.ofString "start", PySem.Str.ofString "end", PySem.Str.ofString "is_mail"]
theorem con165 (hK : cf.K = frag P) (v0 v1 v2 v3 : PV) (h : ∀ C : Addr → List PV → St → (PV → St → Prop) → Prop, (∀ {a vs σ Q}, Con cf cl D a vs σ Q → C a vs σ Q) → blk (lv cl C n) fr165 (bodyOf 39) (argsE ns165 [v0, v1, v2, v3]) σ (retF Q)) : Con cf cl (D + 1) 165 [v0, v1, v2, v3] σ Q :=
  con_of (name := nameAt 39) (qual := nameAt 39) (params := parsAt 39) (body := bodyOf 39) (scope := scopeAt 39) (dV := (.none)) (kV := .none) (doc := .none) (pm := (.str (PySem.Str.ofString "unicore.utf7") 297)) (cdv := .ref 164) (ct := .none) (an := none) (ns := ns165) (oc := .type "function") (od := none) (osl := #[])
    (by rw [hK]; kernel_rfl) (by rw [hK]; kernel_rfl) (by rw [hK]; kernel_rfl) (by rw [hK]; kernel_rfl) rfl (by decide +kernel) (by decide +kernel) (fun s Vs hV hX => by obtain ⟨a, b, c, d, rfl⟩ := len4 hV; exact .of_eq (by kernel_rfl)) (h _ fun h => h)
/- utf7_run_read -/
noncomputable def fr172 : Frm := ⟨[3840751008371, 31114951028, 1668964, 465771985138924, 31639370355, 465771968705262, 26809545459, 3530978703987, 12532, 247182580, 30292865509], [(291937215135224223501257439859, .ref 165), (1782510, .bt .len), (6172493068033565908, .int 16), (48222602093978840, .int 6), (465771974783976, .ref 73), (3638843619319, .ref 80), (5521195637333533908, .str (PySem.Str.ofString "a surrogate without its other half")), (10030886331906510203793342819397644415476, .ref 122), (48222602093684548, .int 38), (11869128918749609400249038, .str (PySem.Str.ofString "a code in a run that stands for itself")), (5515531468810855122, .str (PySem.Str.ofString "bits that are left over"))], []⟩
noncomputable abbrev ns172 : List Str := [PySem.Str.ofString "octets", PySem.Str.ofString "start", PySem.Str.ofString "end", PySem.Str.ofString "is_mail"]
theorem con172 (hK : cf.K = frag P) (v0 v1 v2 v3 : PV) (h : ∀ C : Addr → List PV → St → (PV → St → Prop) → Prop, (∀ {a vs σ Q}, Con cf cl D a vs σ Q → C a vs σ Q) → blk (lv cl C n) fr172 (bodyOf 40) (argsE ns172 [v0, v1, v2, v3]) σ (retF Q)) : Con cf cl (D + 1) 172 [v0, v1, v2, v3] σ Q :=
  con_of (name := nameAt 40) (qual := nameAt 40) (params := parsAt 40) (body := bodyOf 40) (scope := scopeAt 40) (dV := (.none)) (kV := .none) (doc := .none) (pm := (.str (PySem.Str.ofString "unicore.utf7") 297)) (cdv := .ref 171) (ct := .none) (an := none) (ns := ns172) (oc := .type "function") (od := none) (osl := #[])
    (by rw [hK]; kernel_rfl) (by rw [hK]; kernel_rfl) (by rw [hK]; kernel_rfl) (by rw [hK]; kernel_rfl) rfl (by decide +kernel) (by decide +kernel) (fun s Vs hV hX => by obtain ⟨a, b, c, d, rfl⟩ := len4 hV; exact .of_eq (by kernel_rfl)) (h _ fun h => h)
/- utf7_step -/
noncomputable def fr179 : Frm := ⟨[3840751008371, 12532, 30005867252, 1668964, 7631207863884247780, 26809545459, 3530978703987], [(6172493068023048915, .int 43), (291937215134574513452897366516, .ref 115), (725163276770405867988, .str (PySem.Str.ofString "a sign that may not stand for itself")), (17818433540968275359922020, .ref 158), (1782510, .bt .len), (790079112706138548947, .int 45), (5015675889060719310, .str (PySem.Str.ofString "a run without signs")), (2280759493243939246097133796, .ref 172)], []⟩
noncomputable abbrev ns179 : List Str := [PySem.Str.ofString "octets", PySem.Str.ofString "at"]
theorem con179 (hK : cf.K = frag P) (v0 v1 : PV) (h : ∀ C : Addr → List PV → St → (PV → St → Prop) → Prop, (∀ {a vs σ Q}, Con cf cl D a vs σ Q → C a vs σ Q) → blk (lv cl C n) fr179 (bodyOf 41) (argsE ns179 [v0, v1]) σ (retF Q)) : Con cf cl (D + 1) 179 [v0, v1] σ Q :=
  con_of (name := nameAt 41) (qual := nameAt 41) (params := parsAt 41) (body := bodyOf 41) (scope := scopeAt 41) (dV := (.none)) (kV := .none) (doc := .none) (pm := (.str (PySem.Str.ofString "unicore.utf7") 297)) (cdv := .ref 178) (ct := .none) (an := none) (ns := ns179) (oc := .type "function") (od := none) (osl := #[])
    (by rw [hK]; kernel_rfl) (by rw [hK]; kernel_rfl) (by rw [hK]; kernel_rfl) (by rw [hK]; kernel_rfl) rfl (by decide +kernel) (by decide +kernel) (fun s Vs hV hX => by obtain ⟨a, b, rfl⟩ := len2 hV; exact .of_eq (by kernel_rfl)) (h _ fun h => h)
/- decode_utf7 -/
noncomputable def fr186 : Frm := ⟨[3840751008371, 244939892, 12532, 26809545459, 3530978703987], [(1782510, .bt .len), (8496491213308637936, .ref 179), (78820959145091376248679, .ref 45)], []⟩
noncomputable abbrev ns186 : List Str := [PySem.Str.ofString "octets"]
theorem con186 (hK : cf.K = frag P) (v0 : PV) (h : ∀ C : Addr → List PV → St → (PV → St → Prop) → Prop, (∀ {a vs σ Q}, Con cf cl D a vs σ Q → C a vs σ Q) → blk (lv cl C n) fr186 (bodyOf 42) (argsE ns186 [v0]) σ (retF Q)) : Con cf cl (D + 1) 186 [v0] σ Q :=
  con_of (name := nameAt 42) (qual := nameAt 42) (params := parsAt 42) (body := bodyOf 42) (scope := scopeAt 42) (dV := (.none)) (kV := .none) (doc := .none) (pm := (.str (PySem.Str.ofString "unicore.utf7") 297)) (cdv := .ref 185) (ct := .none) (an := none) (ns := ns186) (oc := .type "function") (od := none) (osl := #[])
    (by rw [hK]; kernel_rfl) (by rw [hK]; kernel_rfl) (by rw [hK]; kernel_rfl) (by rw [hK]; kernel_rfl) rfl (by decide +kernel) (by decide +kernel) (fun s Vs hV hX => by obtain ⟨a, rfl⟩ := len1 hV; exact .of_eq (by kernel_rfl)) (h _ fun h => h)
/- decode_utf7_replaced -/
noncomputable def fr191 : Frm := ⟨[3840751008371, 244939892, 12532, 26809545459, 3530978703987], [(1782510, .bt .len), (8496491213308637936, .ref 179)], []⟩
noncomputable abbrev ns191 : List Str := [PySem.Str.ofString "octets"]
theorem con191 (hK : cf.K = frag P) (v0 : PV) (h : ∀ C : Addr → List PV → St → (PV → St → Prop) → Prop, (∀ {a vs σ Q}, Con cf cl D a vs σ Q → C a vs σ Q) → blk (lv cl C n) fr191 (bodyOf 43) (argsE ns191 [v0]) σ (retF Q)) : Con cf cl (D + 1) 191 [v0] σ Q :=
  con_of (name := nameAt 43) (qual := nameAt 43) (params := parsAt 43) (body := bodyOf 43) (scope := scopeAt 43) (dV := (.none)) (kV := .none) (doc := .none) (pm := (.str (PySem.Str.ofString "unicore.utf7") 297)) (cdv := .ref 190) (ct := .none) (an := none) (ns := ns191) (oc := .type "function") (od := none) (osl := #[])
    (by rw [hK]; kernel_rfl) (by rw [hK]; kernel_rfl) (by rw [hK]; kernel_rfl) (by rw [hK]; kernel_rfl) rfl (by decide +kernel) (by decide +kernel) (fun s Vs hV hX => by obtain ⟨a, rfl⟩ := len1 hV; exact .of_eq (by kernel_rfl)) (h _ fun h => h)
/- is_utf7 -/
noncomputable def fr198 : Frm := ⟨[3840751008371, 12532, 26809545459, 3530978703987], [(1782510, .bt .len), (8496491213308637936, .ref 179)], []⟩
noncomputable abbrev ns198 : List Str := [PySem.Str.ofString "octets"]
theorem con198 (hK : cf.K = frag P) (v0 : PV) (h : ∀ C : Addr → List PV → St → (PV → St → Prop) → Prop, (∀ {a vs σ Q}, Con cf cl D a vs σ Q → C a vs σ Q) → blk (lv cl C n) fr198 (bodyOf 44) (argsE ns198 [v0]) σ (retF Q)) : Con cf cl (D + 1) 198 [v0] σ Q :=
  con_of (name := nameAt 44) (qual := nameAt 44) (params := parsAt 44) (body := bodyOf 44) (scope := scopeAt 44) (dV := (.none)) (kV := .none) (doc := .none) (pm := (.str (PySem.Str.ofString "unicore.utf7") 297)) (cdv := .ref 197) (ct := .none) (an := none) (ns := ns198) (oc := .type "function") (od := none) (osl := #[])
    (by rw [hK]; kernel_rfl) (by rw [hK]; kernel_rfl) (by rw [hK]; kernel_rfl) (by rw [hK]; kernel_rfl) rfl (by decide +kernel) (by decide +kernel) (fun s Vs hV hX => by obtain ⟨a, rfl⟩ := len1 hV; exact .of_eq (by kernel_rfl)) (h _ fun h => h)
/- utf8_index -/
noncomputable def fr205 : Frm := ⟨[3840751008371, 12532, 230193017, 30005867252], [], []⟩
noncomputable abbrev ns205 : List Str := [PySem.Str.ofString "octets", PySem.Str.ofString "at"]
theorem con205 (hK : cf.K = frag P) (v0 v1 : PV) (h : ∀ C : Addr → List PV → St → (PV → St → Prop) → Prop, (∀ {a vs σ Q}, Con cf cl D a vs σ Q → C a vs σ Q) → blk (lv cl C n) fr205 (bodyOf 46) (argsE ns205 [v0, v1]) σ (retF Q)) : Con cf cl (D + 1) 205 [v0, v1] σ Q :=
  con_of (name := nameAt 46) (qual := nameAt 46) (params := parsAt 46) (body := bodyOf 46) (scope := scopeAt 46) (dV := (.none)) (kV := .none) (doc := .none) (pm := (.str (PySem.Str.ofString "unicore.utf8") 480)) (cdv := .ref 204) (ct := .none) (an := none) (ns := ns205) (oc := .type "function") (od := none) (osl := #[])
    (by rw [hK]; kernel_rfl) (by rw [hK]; kernel_rfl) (by rw [hK]; kernel_rfl) (by rw [hK]; kernel_rfl) rfl (by decide +kernel) (by decide +kernel) (fun s Vs hV hX => by obtain ⟨a, b, rfl⟩ := len2 hV; exact .of_eq (by kernel_rfl)) (h _ fun h => h)
/- _law_deck -/
noncomputable def fr212 : Frm := ⟨[3978185832564, 209286764, 26788705907, 29481644772], [], []⟩
noncomputable abbrev ns212 : List Str := [PySem.Str.ofString "script"]
theorem con212 (hK : cf.K = frag P) (v0 : PV) (h : ∀ C : Addr → List PV → St → (PV → St → Prop) → Prop, (∀ {a vs σ Q}, Con cf cl D a vs σ Q → C a vs σ Q) → blk (lv cl C n) fr212 (bodyOf 51) (argsE ns212 [v0]) σ (retF Q)) : Con cf cl (D + 1) 212 [v0] σ Q :=
  con_of (name := nameAt 51) (qual := nameAt 51) (params := parsAt 51) (body := bodyOf 51) (scope := scopeAt 51) (dV := (.none)) (kV := .none) (doc := .none) (pm := (.str (PySem.Str.ofString "law_on0365_01") 492)) (cdv := .ref 211) (ct := .none) (an := none) (ns := ns212) (oc := .type "function") (od := none) (osl := #[])
    (by rw [hK]; kernel_rfl) (by rw [hK]; kernel_rfl) (by rw [hK]; kernel_rfl) (by rw [hK]; kernel_rfl) rfl (by decide +kernel) (by decide +kernel) (fun s Vs hV hX => by obtain ⟨a, rfl⟩ := len1 hV; exact .of_eq (by kernel_rfl)) (h _ fun h => h)
/- _law_draw -/
noncomputable def fr219 : Frm := ⟨[211382763, 230193017], [], []⟩
noncomputable abbrev ns219 : List Str := [PySem.Str.ofString "deck", PySem.Str.ofString "many"]
theorem con219 (hK : cf.K = frag P) (v0 v1 : PV) (h : ∀ C : Addr → List PV → St → (PV → St → Prop) → Prop, (∀ {a vs σ Q}, Con cf cl D a vs σ Q → C a vs σ Q) → blk (lv cl C n) fr219 (bodyOf 52) (argsE ns219 [v0, v1]) σ (retF Q)) : Con cf cl (D + 1) 219 [v0, v1] σ Q :=
  con_of (name := nameAt 52) (qual := nameAt 52) (params := parsAt 52) (body := bodyOf 52) (scope := scopeAt 52) (dV := (.none)) (kV := .none) (doc := .none) (pm := (.str (PySem.Str.ofString "law_on0365_01") 492)) (cdv := .ref 218) (ct := .none) (an := none) (ns := ns219) (oc := .type "function") (od := none) (osl := #[])
    (by rw [hK]; kernel_rfl) (by rw [hK]; kernel_rfl) (by rw [hK]; kernel_rfl) (by rw [hK]; kernel_rfl) rfl (by decide +kernel) (by decide +kernel) (fun s Vs hV hX => by obtain ⟨a, b, rfl⟩ := len2 hV; exact .of_eq (by kernel_rfl)) (h _ fun h => h)
/- _law_sixty -/
noncomputable def fr226 : Frm := ⟨[], [], []⟩
noncomputable abbrev ns226 : List Str := []
theorem con226 (hK : cf.K = frag P) (h : ∀ C : Addr → List PV → St → (PV → St → Prop) → Prop, (∀ {a vs σ Q}, Con cf cl D a vs σ Q → C a vs σ Q) → blk (lv cl C n) fr226 (bodyOf 53) (argsE ns226 []) σ (retF Q)) : Con cf cl (D + 1) 226 [] σ Q :=
  con_of (name := nameAt 53) (qual := nameAt 53) (params := parsAt 53) (body := bodyOf 53) (scope := scopeAt 53) (dV := (.none)) (kV := .none) (doc := .none) (pm := (.str (PySem.Str.ofString "law_on0365_01") 492)) (cdv := .ref 225) (ct := .none) (an := none) (ns := ns226) (oc := .type "function") (od := none) (osl := #[])
    (by rw [hK]; kernel_rfl) (by rw [hK]; kernel_rfl) (by rw [hK]; kernel_rfl) (by rw [hK]; kernel_rfl) rfl (by decide +kernel) (by decide +kernel) (fun s Vs hV hX => by obtain rfl := len0 hV; exact .of_eq (by kernel_rfl)) (h _ fun h => h)
/- _law_is_direct -/
noncomputable def fr233 : Frm := ⟨[30005867252], [(884057696465584011897, .ref 226)], []⟩
noncomputable abbrev ns233 : List Str := [PySem.Str.ofString "octet"]
theorem con233 (hK : cf.K = frag P) (v0 : PV) (h : ∀ C : Addr → List PV → St → (PV → St → Prop) → Prop, (∀ {a vs σ Q}, Con cf cl D a vs σ Q → C a vs σ Q) → blk (lv cl C n) fr233 (bodyOf 54) (argsE ns233 [v0]) σ (retF Q)) : Con cf cl (D + 1) 233 [v0] σ Q :=
  con_of (name := nameAt 54) (qual := nameAt 54) (params := parsAt 54) (body := bodyOf 54) (scope := scopeAt 54) (dV := (.none)) (kV := .none) (doc := .none) (pm := (.str (PySem.Str.ofString "law_on0365_01") 492)) (cdv := .ref 232) (ct := .none) (an := none) (ns := ns233) (oc := .type "function") (od := none) (osl := #[])
    (by rw [hK]; kernel_rfl) (by rw [hK]; kernel_rfl) (by rw [hK]; kernel_rfl) (by rw [hK]; kernel_rfl) rfl (by decide +kernel) (by decide +kernel) (fun s Vs hV hX => by obtain ⟨a, rfl⟩ := len1 hV; exact .of_eq (by kernel_rfl)) (h _ fun h => h)
/- _law_units -/
noncomputable def fr240 : Frm := ⟨[3811208377074, 230193017, 228160372, 27615131492, 107], [(30806881253, .bt .range)], []⟩
noncomputable abbrev ns240 : List Str := [PySem.Str.ofString "number", PySem.Str.ofString "many"]
theorem con240 (hK : cf.K = frag P) (v0 v1 : PV) (h : ∀ C : Addr → List PV → St → (PV → St → Prop) → Prop, (∀ {a vs σ Q}, Con cf cl D a vs σ Q → C a vs σ Q) → blk (lv cl C n) fr240 (bodyOf 55) (argsE ns240 [v0, v1]) σ (retF Q)) : Con cf cl (D + 1) 240 [v0, v1] σ Q :=
  con_of (name := nameAt 55) (qual := nameAt 55) (params := parsAt 55) (body := bodyOf 55) (scope := scopeAt 55) (dV := (.none)) (kV := .none) (doc := .none) (pm := (.str (PySem.Str.ofString "law_on0365_01") 492)) (cdv := .ref 239) (ct := .none) (an := none) (ns := ns240) (oc := .type "function") (od := none) (osl := #[])
    (by rw [hK]; kernel_rfl) (by rw [hK]; kernel_rfl) (by rw [hK]; kernel_rfl) (by rw [hK]; kernel_rfl) rfl (by decide +kernel) (by decide +kernel) (fun s Vs hV hX => by obtain ⟨a, b, rfl⟩ := len2 hV; exact .of_eq (by kernel_rfl)) (h _ fun h => h)
/- _law_run -/
noncomputable def fr247 : Frm := ⟨[3811208377074, 230193017, 31639370355, 59618815456703604, 27615131492, 12532, 465771968705262, 247182580, 3394586179428, 465771983271781], [(884057696466131122803, .ref 240), (1782510, .bt .len)], []⟩
noncomputable abbrev ns247 : List Str := [PySem.Str.ofString "number", PySem.Str.ofString "many"]
theorem con247 (hK : cf.K = frag P) (v0 v1 : PV) (h : ∀ C : Addr → List PV → St → (PV → St → Prop) → Prop, (∀ {a vs σ Q}, Con cf cl D a vs σ Q → C a vs σ Q) → blk (lv cl C n) fr247 (bodyOf 56) (argsE ns247 [v0, v1]) σ (retF Q)) : Con cf cl (D + 1) 247 [v0, v1] σ Q :=
  con_of (name := nameAt 56) (qual := nameAt 56) (params := parsAt 56) (body := bodyOf 56) (scope := scopeAt 56) (dV := (.none)) (kV := .none) (doc := .none) (pm := (.str (PySem.Str.ofString "law_on0365_01") 492)) (cdv := .ref 246) (ct := .none) (an := none) (ns := ns247) (oc := .type "function") (od := none) (osl := #[])
    (by rw [hK]; kernel_rfl) (by rw [hK]; kernel_rfl) (by rw [hK]; kernel_rfl) (by rw [hK]; kernel_rfl) rfl (by decide +kernel) (by decide +kernel) (fun s Vs hV hX => by obtain ⟨a, b, rfl⟩ := len2 hV; exact .of_eq (by kernel_rfl)) (h _ fun h => h)
/- _law_read -/
noncomputable def fr254 : Frm := ⟨[3840751008371, 27615131492, 12532, 59618815456703604, 7188795035643049828, 1668964, 3811208377074, 7631207863884247780, 26809545459, 465771970590565], [(1782510, .bt .len), (237312430880333575594062737908, .ref 233), (884057696465584011897, .ref 226), (53958599637777134, .ref 247), (1734516, .bt .int)], []⟩
noncomputable abbrev ns254 : List Str := [PySem.Str.ofString "octets"]
theorem con254 (hK : cf.K = frag P) (v0 : PV) (h : ∀ C : Addr → List PV → St → (PV → St → Prop) → Prop, (∀ {a vs σ Q}, Con cf cl D a vs σ Q → C a vs σ Q) → blk (lv cl C n) fr254 (bodyOf 57) (argsE ns254 [v0]) σ (retF Q)) : Con cf cl (D + 1) 254 [v0] σ Q :=
  con_of (name := nameAt 57) (qual := nameAt 57) (params := parsAt 57) (body := bodyOf 57) (scope := scopeAt 57) (dV := (.none)) (kV := .none) (doc := .none) (pm := (.str (PySem.Str.ofString "law_on0365_01") 492)) (cdv := .ref 253) (ct := .none) (an := none) (ns := ns254) (oc := .type "function") (od := none) (osl := #[])
    (by rw [hK]; kernel_rfl) (by rw [hK]; kernel_rfl) (by rw [hK]; kernel_rfl) (by rw [hK]; kernel_rfl) rfl (by decide +kernel) (by decide +kernel) (fun s Vs hV hX => by obtain ⟨a, rfl⟩ := len1 hV; exact .of_eq (by kernel_rfl)) (h _ fun h => h)
/- _law_heard -/
noncomputable def fr261 : Frm := ⟨[3840751008371, 27615131492], [(228227572, .bt .list), (118997919280018780664631, .ref 186), (78820959145091376248679, .ref 45)], []⟩
noncomputable abbrev ns261 : List Str := [PySem.Str.ofString "octets"]
theorem con261 (hK : cf.K = frag P) (v0 : PV) (h : ∀ C : Addr → List PV → St → (PV → St → Prop) → Prop, (∀ {a vs σ Q}, Con cf cl D a vs σ Q → C a vs σ Q) → blk (lv cl C n) fr261 (bodyOf 58) (argsE ns261 [v0]) σ (retF Q)) : Con cf cl (D + 1) 261 [v0] σ Q :=
  con_of (name := nameAt 58) (qual := nameAt 58) (params := parsAt 58) (body := bodyOf 58) (scope := scopeAt 58) (dV := (.none)) (kV := .none) (doc := .none) (pm := (.str (PySem.Str.ofString "law_on0365_01") 492)) (cdv := .ref 260) (ct := .none) (an := none) (ns := ns261) (oc := .type "function") (od := none) (osl := #[])
    (by rw [hK]; kernel_rfl) (by rw [hK]; kernel_rfl) (by rw [hK]; kernel_rfl) (by rw [hK]; kernel_rfl) rfl (by decide +kernel) (by decide +kernel) (fun s Vs hV hX => by obtain ⟨a, rfl⟩ := len1 hV; exact .of_eq (by kernel_rfl)) (h _ fun h => h)
/- _law_is_read -/
noncomputable def fr268 : Frm := ⟨[3840751008371, 1653477, 59618815456703604], [(6906700753635209444, .ref 254), (228227572, .bt .list), (1097562081131227017739878801252309217637092, .ref 191), (465772002226999, .ref 198), (884057696462622456164, .ref 261)], []⟩
noncomputable abbrev ns268 : List Str := [PySem.Str.ofString "octets"]
theorem con268 (hK : cf.K = frag P) (v0 : PV) (h : ∀ C : Addr → List PV → St → (PV → St → Prop) → Prop, (∀ {a vs σ Q}, Con cf cl D a vs σ Q → C a vs σ Q) → blk (lv cl C n) fr268 (bodyOf 59) (argsE ns268 [v0]) σ (retF Q)) : Con cf cl (D + 1) 268 [v0] σ Q :=
  con_of (name := nameAt 59) (qual := nameAt 59) (params := parsAt 59) (body := bodyOf 59) (scope := scopeAt 59) (dV := (.none)) (kV := .none) (doc := .none) (pm := (.str (PySem.Str.ofString "law_on0365_01") 492)) (cdv := .ref 267) (ct := .none) (an := none) (ns := ns268) (oc := .type "function") (od := none) (osl := #[])
    (by rw [hK]; kernel_rfl) (by rw [hK]; kernel_rfl) (by rw [hK]; kernel_rfl) (by rw [hK]; kernel_rfl) rfl (by decide +kernel) (by decide +kernel) (fun s Vs hV hX => by obtain ⟨a, rfl⟩ := len1 hV; exact .of_eq (by kernel_rfl)) (h _ fun h => h)
/- _law_written -/
noncomputable def fr275 : Frm := ⟨[209449573, 242908517, 27615131492, 107], [(26562343667, .bt .bytes), (30806881253, .bt .range)], []⟩
noncomputable abbrev ns275 : List Str := [PySem.Str.ofString "code"]
theorem con275 (hK : cf.K = frag P) (v0 : PV) (h : ∀ C : Addr → List PV → St → (PV → St → Prop) → Prop, (∀ {a vs σ Q}, Con cf cl D a vs σ Q → C a vs σ Q) → blk (lv cl C n) fr275 (bodyOf 60) (argsE ns275 [v0]) σ (retF Q)) : Con cf cl (D + 1) 275 [v0] σ Q :=
  con_of (name := nameAt 60) (qual := nameAt 60) (params := parsAt 60) (body := bodyOf 60) (scope := scopeAt 60) (dV := (.none)) (kV := .none) (doc := .none) (pm := (.str (PySem.Str.ofString "law_on0365_01") 492)) (cdv := .ref 274) (ct := .none) (an := none) (ns := ns275) (oc := .type "function") (od := none) (osl := #[])
    (by rw [hK]; kernel_rfl) (by rw [hK]; kernel_rfl) (by rw [hK]; kernel_rfl) (by rw [hK]; kernel_rfl) rfl (by decide +kernel) (by decide +kernel) (fun s Vs hV hX => by obtain ⟨a, rfl⟩ := len1 hV; exact .of_eq (by kernel_rfl)) (h _ fun h => h)
/- law -/
noncomputable def fr280 : Frm := ⟨[3978185832564, 1882103, 243005157, 244939892, 3840751008371, 30270077555, 3394584082291, 107, 32163755621], [(6906700753605849579, .ref 212), (30806881253, .bt .range), (6906700753606062327, .ref 219), (26562343667, .bt .bytes), (120261521249067884950327, .ref 151), (14484401298848484867797220, .ref 268), (465772002226999, .ref 198), (228227572, .bt .list), (1097562081131227017739878801252309217637092, .ref 191), (1782510, .bt .len), (1087550879698855211768, .ref 205)], []⟩
noncomputable abbrev ns280 : List Str := [PySem.Str.ofString "script"]
end

theorem mS {α : Type} {v : Option α} {x : α} {f : α → Prop} (h : v = some x) (q : f x) : onS v f := by
  rw [h]
  exact q
/-- one statement of a block; what is behind it stands as a name -/
theorem stp {L : Lvl} {fr : Frm} {e : En} {σ : St} {Q : Fl → En → St → Prop} {b : List Stmt} {st : Stmt} {r : List Stmt} (hb : b = st :: r)
    (h : ∀ (r' : List Stmt) (K : Fl → En → St → Prop), r' = r → (∀ e σ, blk L fr r' e σ Q → K .next e σ) → (∀ v e σ, Q (.ret v) e σ → K (.ret v) e σ) → (∀ e σ, Q .cont e σ → K .cont e σ) → L.S fr st e σ K) : blk L fr b e σ Q := by
  subst hb
  exact h r (fun f e σ => thenF f e σ (blk L fr r e σ Q) Q) rfl (fun _ _ h => h) (fun _ _ _ h => h) (fun _ _ h => h)
theorem nib {L : Lvl} {fr : Frm} {e : En} {σ : St} {Q : Fl → En → St → Prop} {b : List Stmt} (hb : b = []) (h : Q .next e σ) : blk L fr b e σ Q := by
  subst hb
  exact h
section
variable {cf : Cfg} {cl : Bool} {D D' : Nat} {G : Gd} {fr : Frm} {a : Addr} {vs : List PV} {σ : St} {Q Q' : PV → St → Prop}
theorem Ok.down (ok : Ok cf D' G fr) (h : D ≤ D') : Ok cf D G fr := by
  refine ⟨ok.B, ok.X, ok.T, ok.hA, ok.hf, ok.h0, ok.hh, ok.hg, ?_, ?_, ok.kd, ok.gl, ok.bu, ok.lo, ok.gk, ok.ce, ok.ro, ok.al⟩
  · have := ok.hd; omega
  · have := ok.hu; omega
theorem Con.up (c : Con cf cl D a vs σ Q) (h : D ≤ D' := by omega) : Con cf cl D' a vs σ Q := ⟨c.1, fun G fr F e s Vs ok hV S => c.2 G fr F e s Vs (ok.down h) hV S⟩
theorem Con.imp (c : Con cf cl D a vs σ Q) (h : ∀ v σ, Q v σ → Q' v σ) : Con cf cl D a vs σ Q' := ⟨c.1, fun G fr F e s Vs ok hV S => xMono (c.2 G fr F e s Vs ok hV S) fun V s' ⟨h', tk, σ', e1, S', q⟩ => ⟨h', tk, σ', e1, S', h _ _ q⟩⟩
end
/-- nothing of the state is lost -/
noncomputable def Ext (σ σ' : St) : Prop := ∀ a o, σ a = some o → σ' a = some o
theorem Ext.rfl {σ : St} : Ext σ σ := fun _ _ h => h
theorem Ext.trans {σ σ' σ'' : St} (h : Ext σ σ') (h' : Ext σ' σ'') : Ext σ σ'' := fun a o q => h' a o (h a o q)
theorem upd_same {σ : St} {a : Addr} {o : AO} : upd σ a o a = some o := if_pos _root_.rfl
theorem upd_ne {σ : St} {a b : Addr} {o : AO} (h : b ≠ a) : upd σ a o b = σ b := if_neg h
theorem Ext.new {σ : St} {a : Addr} {o : AO} (h : σ a = none) : Ext σ (upd σ a o) := fun b o' q => by
  by_cases hb : b = a
  · rw [hb, h] at q; cases q
  · rw [upd_ne hb]; exact q
/-- a new object, named -/
theorem new_i {σ : St} {o : AO} {Q : PV → St → Prop} (h : ∀ a σ', σ a = none → σ' a = some o → Ext σ σ' → (∀ b, b ≠ a → σ' b = σ b) → Q (.ref a) σ') : new σ o Q := fun a ha => h a _ ha upd_same (Ext.new ha) fun _ hb => upd_ne hb
theorem forI {L : Lvl} {fr : Frm} {k : Nat} {b : List Stmt} {s : Src} {e : En} {σ : St} {Q : Fl → En → St → Prop} (N : Nat) (I : Nat → En → St → Prop) (e₀ : En) (hw : wk e₀ e) (h0 : I 0 e₀ σ)
    (turn : ∀ b', b' = b → ∀ i e σ (K : Fl → En → St → Prop), (∀ e σ, (∃ e', wk e' e ∧ I (i + 1) e' σ) → K .next e σ) → (∀ v e σ, Q (.ret v) e σ → K (.ret v) e σ) → (∀ e σ, (∃ e', wk e' e ∧ I (i + 1) e' σ) → K .cont e σ) → I i e σ → i ≤ N ∧ nextOf s i σ fun r => match r with
      | none => Q .next e σ
      | some v => setN fr k v e σ fun e σ => blk L fr b' e σ K) : forW fr k (blk L fr b) s e σ Q :=
  ⟨N, I, ⟨e₀, hw, h0⟩, fun i e σ => turn b _root_.rfl i e σ (fun f e σ => turnF f e σ (∃ e', wk e' e ∧ I (i + 1) e' σ) Q) (fun _ _ h => h) (fun _ _ _ h => h) (fun _ _ h => h)⟩
theorem whileI {L : Lvl} {fr : Frm} {t : PySem.Expr} {b : List Stmt} {e : En} {σ : St} {Q : Fl → En → St → Prop} (I : Nat → En → St → Prop) (n : Nat) (e₀ : En) (hw : wk e₀ e) (h0 : I n e₀ σ)
    (turn : ∀ b', b' = b → ∀ n e σ (K : Fl → En → St → Prop), (∀ e σ, (∃ m e', m < n ∧ wk e' e ∧ I m e' σ) → K .next e σ) → (∀ v e σ, Q (.ret v) e σ → K (.ret v) e σ) → (∀ e σ, (∃ m e', m < n ∧ wk e' e ∧ I m e' σ) → K .cont e σ) → I n e σ → L.T fr t e σ fun c σ => ifB c (blk L fr b' e σ K) (Q .next e σ)) : whileW (L.T fr t) (blk L fr b) e σ Q :=
  ⟨I, ⟨n, e₀, hw, h0⟩, fun n e σ => turn b _root_.rfl n e σ (fun f e σ => turnF f e σ (∃ m e', m < n ∧ wk e' e ∧ I m e' σ) Q) (fun _ _ h => h) (fun _ _ _ h => h) (fun _ _ h => h)⟩
theorem Ext.put {σ σ' : St} {b : Addr} {o : AO} (h : Ext σ σ') (hb : σ b = none) : Ext σ (upd σ' b o) := fun c o' q => by
  by_cases hc : c = b
  · rw [hc, hb] at q; cases q
  · rw [upd_ne hc]; exact h _ _ q
theorem srcB {l : List Int} {σ : St} {Q : Src → Prop} (h : Q (.byt l)) : srcOf (.byt l) σ Q := h
theorem srcL {a : Addr} {σ : St} {Q : Src → Prop} {vs : List PV} (ha : σ a = some (.list vs)) (h : Q (.list a)) : srcOf (.ref a) σ Q := by
  show onS (σ a) _
  rw [ha]
  exact h
theorem srcR {a : Addr} {σ : St} {Q : Src → Prop} {n : Nat} (ha : σ a = some (.rng n)) (hn : n ≤ 65536) (h : Q (.rng n)) : srcOf (.ref a) σ Q := by
  show onS (σ a) _
  rw [ha]
  exact ⟨hn, h⟩
/-- an if whose test is known -/
theorem ifI {L : Lvl} {fr : Frm} {t : PySem.Expr} {b o : List Stmt} {pos : Pos} {e : En} {σ : St} {Q : Fl → En → St → Prop} (c : Bool) (hT : ∀ K : Bool → St → Prop, K c σ → L.T fr t e σ K)
    (hB : c = true → blk L fr b e σ Q) (hO : c = false → blk L fr o e σ Q) : stepS L fr (.If t b o pos) e σ Q := hT _ ⟨hB, hO⟩
theorem lvS {cl : Bool} {C : Addr → List PV → St → (PV → St → Prop) → Prop} {n : Nat} {fr : Frm} {st : Stmt} {e : En} {σ : St} {Q : Fl → En → St → Prop} (h : stepS (lv cl C n) fr st e σ Q) : (lv cl C (n + 1)).S fr st e σ Q := h
theorem forV {cl : Bool} {C : Addr → List PV → St → (PV → St → Prop) → Prop} {n : Nat} {fr : Frm} {x : Str} {px : Pos} {it : PySem.Expr} {b : List Stmt} {pos : Pos} {e : En} {σ : St} {Q : Fl → En → St → Prop} (X : Src → St → Prop)
    (hE : ∀ K : PV → St → Prop, (∀ v σ', srcOf v σ' (fun s => X s σ') → K v σ') → (lv cl C n).E fr it e σ K) (h : ∀ s σ', X s σ' → forW fr (key x) (blk (lv cl C n) fr b) s e σ' Q) (hi : isSet it = false := by rfl) :
    (lv cl C (n + 1)).S fr (.For (.Name x px) it b [] pos) e σ Q := by
  show stepS (lv cl C n) fr (.For (.Name x px) it b [] pos) e σ Q
  unfold stepS
  dsimp only
  rw [hi, if_neg (by decide)]
  refine hE _ fun v σ' hv => ?_
  have mono : ∀ {P R : Src → Prop}, srcOf v σ' P → (∀ s, P s → R s) → srcOf v σ' R := fun {P R} hv hh => by
    cases v with
    | byt l => exact hh _ hv
    | ref a =>
      change onS (σ' a) _ at hv
      show onS (σ' a) _
      cases hσ : σ' a with
      | none => rw [hσ] at hv; exact hv
      | some o =>
        rw [hσ] at hv
        cases o <;> first | exact hh _ hv | exact ⟨hv.1, hh _ hv.2⟩ | exact hv
    | _ => exact hv
  exact mono hv fun s hs => h s σ' hs
theorem lvT {cl : Bool} {C : Addr → List PV → St → (PV → St → Prop) → Prop} {n : Nat} {fr : Frm} {op : BoolOp} {es : List PySem.Expr} {pos : Pos} {e : En} {σ : St} {K : Bool → St → Prop} (h : boolT (lv cl C n) fr op es e σ K) : (lv cl C (n + 1)).T fr (.BoolOp op es pos) e σ K := h
theorem lvB {cl : Bool} {C : Addr → List PV → St → (PV → St → Prop) → Prop} {n : Nat} {fr : Frm} {op : BoolOp} {es : List PySem.Expr} {pos : Pos} {e : En} {σ : St} {K : PV → St → Prop} (h : boolE (lv cl C n) fr op es e σ K) : (lv cl C (n + 1)).E fr (.BoolOp op es pos) e σ K := h
theorem tAnd {L : Lvl} {fr : Frm} {b : List PySem.Expr} {x : PySem.Expr} {r : List PySem.Expr} {e : En} {σ : St} {K : Bool → St → Prop} (hb : b = x :: r) (h : ∀ r', r' = r → L.T fr x e σ fun b σ => ifB b (boolT L fr .And r' e σ K) (K false σ)) : boolT L fr .And b e σ K := by
  subst hb
  exact h r _root_.rfl
theorem tAndZ {L : Lvl} {fr : Frm} {b : List PySem.Expr} {e : En} {σ : St} {K : Bool → St → Prop} (hb : b = []) (h : K true σ) : boolT L fr .And b e σ K := by
  subst hb
  exact h
theorem tOr {L : Lvl} {fr : Frm} {b : List PySem.Expr} {x : PySem.Expr} {r : List PySem.Expr} {e : En} {σ : St} {K : Bool → St → Prop} (hb : b = x :: r) (h : ∀ r', r' = r → L.T fr x e σ fun b σ => ifB b (K true σ) (boolT L fr .Or r' e σ K)) : boolT L fr .Or b e σ K := by
  subst hb
  exact h r _root_.rfl
theorem tOrZ {L : Lvl} {fr : Frm} {b : List PySem.Expr} {e : En} {σ : St} {K : Bool → St → Prop} (hb : b = []) (h : K false σ) : boolT L fr .Or b e σ K := by
  subst hb
  exact h
theorem eAnd {L : Lvl} {fr : Frm} {b : List PySem.Expr} {x y : PySem.Expr} {r : List PySem.Expr} {e : En} {σ : St} {K : PV → St → Prop} (hb : b = x :: y :: r) (h : ∀ r', r' = y :: r → L.E fr x e σ fun v σ => onB v fun b => ifB b (boolE L fr .And r' e σ K) (K (.bool false) σ)) : boolE L fr .And b e σ K := by
  subst hb
  exact h _ _root_.rfl
theorem eOr {L : Lvl} {fr : Frm} {b : List PySem.Expr} {x y : PySem.Expr} {r : List PySem.Expr} {e : En} {σ : St} {K : PV → St → Prop} (hb : b = x :: y :: r) (h : ∀ r', r' = y :: r → L.E fr x e σ fun v σ => onB v fun b => ifB b (K (.bool true) σ) (boolE L fr .Or r' e σ K)) : boolE L fr .Or b e σ K := by
  subst hb
  exact h _ _root_.rfl
theorem eOne {L : Lvl} {fr : Frm} {b : List PySem.Expr} {x : PySem.Expr} {op : BoolOp} {e : En} {σ : St} {K : PV → St → Prop} (hb : b = [x]) (h : L.E fr x e σ K) : boolE L fr op b e σ K := by
  subst hb
  exact h
/-- a name takes the value of an and or an or -/
theorem asgB {cl : Bool} {C : Addr → List PV → St → (PV → St → Prop) → Prop} {n : Nat} {fr : Frm} {x : Str} {px q pos : Pos} {op : BoolOp} {es : List PySem.Expr} {e : En} {σ : St} {Q : Fl → En → St → Prop} (v : PV)
    (hE : ∀ K : PV → St → Prop, K v σ → boolE (lv cl C n) fr op es e σ K) (h : setN fr (key x) v e σ fun e σ => Q .next e σ) : (lv cl C (n + 2)).S fr (.Assign [.Name x px] (.BoolOp op es q) pos) e σ Q := hE _ h
/-- a loop's test that is known -/
theorem wT {L : Lvl} {fr : Frm} {t : PySem.Expr} {e : En} {σ : St} {A B : St → Prop} (c : Bool) (hT : ∀ K : Bool → St → Prop, K c σ → L.T fr t e σ K) (hA : c = true → A σ) (hB : c = false → B σ) : L.T fr t e σ fun c σ => ifB c (A σ) (B σ) := hT _ ⟨hA, hB⟩

theorem ifF {α : Type} {b : Bool} {x y : α} (h : b = false) : (if b = true then x else y) = y := by rw [h]; rfl
noncomputable def rng (a n b : Int) : Bool := decide (a ≤ n) && decide (n ≤ b)
noncomputable def valO (n : Int) : Option Int := if rng 65 n 90 = true then some (n - 65) else if rng 97 n 122 = true then some (n - 97 + 26) else if rng 48 n 57 = true then some (n - 48 + 52) else if n = 43 then some 62 else if n = 47 then some 63 else none
noncomputable def optV : Option Int → PV
  | some i => .int i
  | none => .none
noncomputable def sgn (v : Int) : Int := if v < 26 then 65 + v else if v < 52 then 97 + v - 26 else if v < 62 then 48 + v - 52 else if v = 62 then 43 else 47
noncomputable def isDir (c : Int) (opt : Bool) : Bool := if (decide (0 ≤ c) && decide (c < 128)) = true then (if rng 65 c 90 = true then true else if rng 97 c 122 = true then true else if rng 48 c 57 = true then true else
  if [39, 40, 41, 44, 45, 46, 47, 58, 63, 9, 10, 13, 32].contains c = true then true else if opt = true then [33, 34, 35, 36, 37, 38, 42, 59, 60, 61, 62, 64, 91, 93, 94, 95, 96, 123, 124, 125].contains c else false) else false
section
variable {P : Params} {cf : Cfg} {cl : Bool} {D : Nat} {σ : St} {Q : PV → St → Prop}
theorem c66 (hK : cf.K = frag P) {n : Int} (h : Q (.bool (rng 0 n 1114111)) σ) : Con cf cl (D + 1) 66 [.int n] σ Q := by
  refine con66 (n := 8) hK _ fun C hC => ?_
  refine stp rfl fun r0 K0 hr0 hn0 ht0 hc0 => ?_; conv => whnf
  refine ht0 _ _ _ ?_
  exact h
theorem c73 (hK : cf.K = frag P) {n : Int} (h : Q (.bool (rng 55296 n 56319)) σ) : Con cf cl (D + 1) 73 [.int n] σ Q := by
  refine con73 (n := 8) hK _ fun C hC => ?_
  refine stp rfl fun r0 K0 hr0 hn0 ht0 hc0 => ?_; conv => whnf
  refine ht0 _ _ _ ?_
  exact h
theorem c80 (hK : cf.K = frag P) {n : Int} (h : Q (.bool (rng 56320 n 57343)) σ) : Con cf cl (D + 1) 80 [.int n] σ Q := by
  refine con80 (n := 8) hK _ fun C hC => ?_
  refine stp rfl fun r0 K0 hr0 hn0 ht0 hc0 => ?_; conv => whnf
  refine ht0 _ _ _ ?_
  exact h
theorem c87 (hK : cf.K = frag P) {n : Int} (h : Q (.bool (rng 55296 n 57343)) σ) : Con cf cl (D + 1) 87 [.int n] σ Q := by
  refine con87 (n := 8) hK _ fun C hC => ?_
  refine stp rfl fun r0 K0 hr0 hn0 ht0 hc0 => ?_; conv => whnf
  refine ht0 _ _ _ ?_
  exact h
noncomputable def isScal (n : Int) : Bool := if rng 0 n 1114111 = true then !(rng 55296 n 57343) else false
theorem c94 (hK : cf.K = frag P) {n : Int} (h : Q (.bool (isScal n)) σ) : Con cf cl (D + 2) 94 [.int n] σ Q := by
  refine con94 (n := 8) hK _ fun C hC => ?_
  unfold isScal at h
  refine stp rfl fun r0 K0 hr0 hn0 ht0 hc0 => ?_
  refine hC (c66 (D := D) hK ?_)
  refine ⟨fun hc => ?_, fun hc => ?_⟩
  · refine hC (c87 (D := D) hK ?_)
    rw [if_pos hc] at h
    conv => whnf
    refine ht0 _ _ _ ?_
    exact h
  · rw [ifF hc] at h
    conv => whnf
    refine ht0 _ _ _ ?_
    exact h
theorem c101 (hK : cf.K = frag P) {n : Int} (h : Q (.int (sgn n)) σ) : Con cf cl (D + 1) 101 [.int n, .bool false] σ Q := by
  refine con101 (n := 8) hK _ _ fun C hC => ?_
  unfold sgn at h
  refine stp rfl fun r0 K0 hr0 hn0 ht0 hc0 => ?_
  refine ⟨fun hc => ?_, fun hc => ?_⟩
  · rw [if_pos (of_decide_eq_true hc)] at h
    refine stp rfl fun r1 K1 hr1 hn1 ht1 hc1 => ?_; conv => whnf
    refine ht1 _ _ _ ?_
    refine ht0 _ _ _ ?_
    exact h
  rw [if_neg (of_decide_eq_false hc)] at h
  refine nib rfl ?_
  refine hn0 _ _ (stp hr0 fun r0 K0 hr0 hn0 ht0 hc0 => ?_)
  refine ⟨fun hc => ?_, fun hc => ?_⟩
  · rw [if_pos (of_decide_eq_true hc)] at h
    refine stp rfl fun r1 K1 hr1 hn1 ht1 hc1 => ?_; conv => whnf
    refine ht1 _ _ _ ?_
    refine ht0 _ _ _ ?_
    exact h
  rw [if_neg (of_decide_eq_false hc)] at h
  refine nib rfl ?_
  refine hn0 _ _ (stp hr0 fun r0 K0 hr0 hn0 ht0 hc0 => ?_)
  refine ⟨fun hc => ?_, fun hc => ?_⟩
  · rw [if_pos (of_decide_eq_true hc)] at h
    refine stp rfl fun r1 K1 hr1 hn1 ht1 hc1 => ?_; conv => whnf
    refine ht1 _ _ _ ?_
    refine ht0 _ _ _ ?_
    exact h
  rw [if_neg (of_decide_eq_false hc)] at h
  refine nib rfl ?_
  refine hn0 _ _ (stp hr0 fun r0 K0 hr0 hn0 ht0 hc0 => ?_)
  refine ⟨fun hc => ?_, fun hc => ?_⟩
  · rw [if_pos (by simpa using hc)] at h
    refine stp rfl fun r1 K1 hr1 hn1 ht1 hc1 => ?_; conv => whnf
    refine ht1 _ _ _ ?_
    refine ht0 _ _ _ ?_
    exact h
  rw [if_neg (by simpa using hc)] at h
  refine nib rfl ?_
  refine hn0 _ _ (stp hr0 fun r0 K0 hr0 hn0 ht0 hc0 => ?_)
  refine ⟨fun hc => (nomatch hc), fun _ => ?_⟩
  conv => whnf
  refine ht0 _ _ _ ?_
  exact h
theorem c108 (hK : cf.K = frag P) {n : Int} (h : Q (optV (valO n)) σ) : Con cf cl (D + 1) 108 [.int n, .bool false] σ Q := by
  refine con108 (n := 8) hK _ _ fun C hC => ?_
  unfold valO rng at h
  refine stp rfl fun r0 K0 hr0 hn0 ht0 hc0 => ?_
  refine ⟨fun hc => ?_, fun hc => ?_⟩
  · rw [if_pos hc] at h
    refine stp rfl fun r1 K1 hr1 hn1 ht1 hc1 => ?_; conv => whnf
    refine ht1 _ _ _ ?_
    refine ht0 _ _ _ ?_
    exact h
  rw [ifF hc] at h
  refine nib rfl ?_
  refine hn0 _ _ (stp hr0 fun r0 K0 hr0 hn0 ht0 hc0 => ?_)
  refine ⟨fun hc => ?_, fun hc => ?_⟩
  · rw [if_pos hc] at h
    refine stp rfl fun r1 K1 hr1 hn1 ht1 hc1 => ?_; conv => whnf
    refine ht1 _ _ _ ?_
    refine ht0 _ _ _ ?_
    exact h
  rw [ifF hc] at h
  refine nib rfl ?_
  refine hn0 _ _ (stp hr0 fun r0 K0 hr0 hn0 ht0 hc0 => ?_)
  refine ⟨fun hc => ?_, fun hc => ?_⟩
  · rw [if_pos hc] at h
    refine stp rfl fun r1 K1 hr1 hn1 ht1 hc1 => ?_; conv => whnf
    refine ht1 _ _ _ ?_
    refine ht0 _ _ _ ?_
    exact h
  rw [ifF hc] at h
  refine nib rfl ?_
  refine hn0 _ _ (stp hr0 fun r0 K0 hr0 hn0 ht0 hc0 => ?_)
  refine ⟨fun hc => ?_, fun hc => ?_⟩
  · rw [if_pos (by simpa using hc)] at h
    refine stp rfl fun r1 K1 hr1 hn1 ht1 hc1 => ?_; conv => whnf
    refine ht1 _ _ _ ?_
    refine ht0 _ _ _ ?_
    exact h
  rw [if_neg (by simpa using hc)] at h
  refine nib rfl ?_
  refine hn0 _ _ (stp hr0 fun r0 K0 hr0 hn0 ht0 hc0 => ?_)
  refine ⟨fun hc => (nomatch hc), fun _ => ?_⟩
  refine ⟨fun hc => ?_, fun hc => ?_⟩
  · rw [if_pos (by simpa using hc)] at h
    conv => whnf
    refine ht0 _ _ _ ?_
    exact h
  · rw [if_neg (by simpa using hc)] at h
    conv => whnf
    refine ht0 _ _ _ ?_
    exact h
theorem notT {b : Bool} (h : (!b) = true) : b = false := (Bool.not_eq_true' _).mp h
theorem notF {b : Bool} (h : (!b) = false) : b = true := (Bool.not_eq_false' _).mp h
theorem c115 (hK : cf.K = frag P) {n : Int} {b : Bool} (h : Q (.bool (isDir n b)) σ) : Con cf cl (D + 1) 115 [.int n, .bool b] σ Q := by
  refine con115 (n := 8) hK _ _ fun C hC => ?_
  unfold isDir rng at h
  refine stp rfl fun r0 K0 hr0 hn0 ht0 hc0 => ?_
  refine ⟨fun hc => ?_, fun hc => ?_⟩
  · rw [ifF (notT hc)] at h
    refine stp rfl fun r1 K1 hr1 hn1 ht1 hc1 => ?_; conv => whnf
    refine ht1 _ _ _ ?_
    refine ht0 _ _ _ ?_
    exact h
  rw [if_pos (notF hc)] at h
  obtain ⟨h0, h1⟩ := Bool.and_eq_true_iff.mp (notF hc)
  have h0 := of_decide_eq_true h0
  have h1 := of_decide_eq_true h1
  refine nib rfl ?_
  refine hn0 _ _ (stp hr0 fun r0 K0 hr0 hn0 ht0 hc0 => ?_)
  refine ⟨fun hc => ?_, fun hc => ?_⟩
  · rw [if_pos hc] at h
    refine ⟨fun _ => ?_, fun hc => (nomatch hc)⟩
    refine stp rfl fun r1 K1 hr1 hn1 ht1 hc1 => ?_; conv => whnf
    refine ht1 _ _ _ ?_
    refine ht0 _ _ _ ?_
    exact h
  rw [ifF hc] at h
  refine ⟨fun hc => ?_, fun hc => ?_⟩
  · rw [if_pos hc] at h
    refine ⟨fun _ => ?_, fun hc => (nomatch hc)⟩
    refine stp rfl fun r1 K1 hr1 hn1 ht1 hc1 => ?_; conv => whnf
    refine ht1 _ _ _ ?_
    refine ht0 _ _ _ ?_
    exact h
  rw [ifF hc] at h
  refine ⟨fun hc => ?_, fun hc => ?_⟩
  · rw [if_pos hc] at h
    refine ⟨fun _ => ?_, fun hc => (nomatch hc)⟩
    refine stp rfl fun r1 K1 hr1 hn1 ht1 hc1 => ?_; conv => whnf
    refine ht1 _ _ _ ?_
    refine ht0 _ _ _ ?_
    exact h
  rw [ifF hc] at h
  refine ⟨h0, by omega, ?_⟩
  refine ⟨fun hc => ?_, fun hc => ?_⟩
  · rw [if_pos hc] at h
    refine ⟨fun _ => ?_, fun hc => (nomatch hc)⟩
    refine stp rfl fun r1 K1 hr1 hn1 ht1 hc1 => ?_; conv => whnf
    refine ht1 _ _ _ ?_
    refine ht0 _ _ _ ?_
    exact h
  rw [ifF hc] at h
  refine ⟨fun hc => (nomatch hc), fun _ => ?_⟩
  refine nib rfl ?_
  refine hn0 _ _ (stp hr0 fun r0 K0 hr0 hn0 ht0 hc0 => ?_)
  refine ⟨fun hc => ?_, fun hc => ?_⟩
  · rw [if_pos hc] at h
    refine ⟨h0, by omega, ?_⟩
    conv => whnf
    refine ht0 _ _ _ ?_
    exact h
  · rw [ifF hc] at h
    conv => whnf
    refine ht0 _ _ _ ?_
    exact h
end

theorem and_mask {x : Int} (hx : 0 ≤ x) (m : Nat) : Builtin.bitAnd x (2 ^ m - 1) = x % 2 ^ m := by
  obtain ⟨n, rfl⟩ := Int.eq_ofNat_of_zero_le hx
  have hp : (0 : Int) < 2 ^ m := Int.pow_pos (by decide)
  have h2 : (0 : Int) ≤ 2 ^ m - 1 := by (first | exact Int.natCast_nonneg _ | lia | omega)
  have e : ((2 : Int) ^ m - 1).toNat = 2 ^ m - 1 := by
    have : ((2 : Int) ^ m) = ((2 ^ m : Nat) : Int) := by rw [Int.natCast_pow]; rfl
    rw [this]; (first | exact Int.natCast_nonneg _ | lia | omega)
  unfold Builtin.bitAnd
  rw [decide_eq_true hx, decide_eq_true h2]
  show ((Int.toNat (n : Int) &&& ((2 : Int) ^ m - 1).toNat : Nat) : Int) = _
  rw [e, Int.toNat_natCast, Nat.and_two_pow_sub_one_eq_mod, Int.natCast_emod, Int.natCast_pow]
  rfl
theorem and_1023 {x : Int} (hx : 0 ≤ x) : Builtin.bitAnd x 1023 = x % 1024 := and_mask hx 10
theorem or_add {a b : Int} (ha : 0 ≤ a) (hb : 0 ≤ b) (k : Nat) (hk : b < 2 ^ k) : Builtin.bitOr (a * 2 ^ k) b = a * 2 ^ k + b := by
  obtain ⟨n, rfl⟩ := Int.eq_ofNat_of_zero_le ha
  obtain ⟨m, rfl⟩ := Int.eq_ofNat_of_zero_le hb
  have e1 : ((n : Int) * 2 ^ k) = ((2 ^ k * n : Nat) : Int) := by rw [Int.natCast_mul, Int.natCast_pow, Int.mul_comm]; rfl
  have hm : m < 2 ^ k := by
    have : ((2 : Int) ^ k) = ((2 ^ k : Nat) : Int) := by rw [Int.natCast_pow]; rfl
    rw [this] at hk; exact Int.ofNat_lt.mp hk
  rw [e1]
  unfold Builtin.bitOr Builtin.bitAnd
  have n1 : ∀ z : Nat, ¬ (0 ≤ Builtin.bitNot (z : Int)) := fun z => by unfold Builtin.bitNot; (first | exact Int.natCast_nonneg _ | lia | omega)
  have n2 : ∀ z : Nat, Builtin.bitNot (Builtin.bitNot (z : Int)) = z := fun z => by unfold Builtin.bitNot; (first | exact Int.natCast_nonneg _ | lia | omega)
  rw [decide_eq_false (n1 _), decide_eq_false (n1 _)]
  show Builtin.bitNot (Builtin.bitNot (((Builtin.bitNot (Builtin.bitNot ((2 ^ k * n : Nat) : Int))).toNat ||| (Builtin.bitNot (Builtin.bitNot (m : Int))).toNat : Nat) : Int)) = _
  rw [n2, n2, n2, Int.toNat_natCast, Int.toNat_natCast, ← Nat.two_pow_add_eq_or_of_lt hm]
  (first | exact Int.natCast_nonneg _ | lia | omega)
/-- the units of a text -/
noncomputable def unitsOf : List Int → List Int
  | [] => []
  | c :: r => (if c < 65536 then [c] else [55296 + (c - 65536) / 1024, 56320 + (c - 65536) % 1024]) ++ unitsOf r
theorem unitsOf_snoc (l : List Int) (c : Int) : unitsOf (l ++ [c]) = unitsOf l ++ unitsOf [c] := by
  induction l with
  | nil => simp [unitsOf]
  | cons a r ih => simp only [List.cons_append, unitsOf, ih, List.append_assoc]
theorem unitsOf_length (l : List Int) : (unitsOf l).length ≤ 2 * l.length := by
  induction l with
  | nil => exact Nat.le_refl _
  | cons a r ih =>
    simp only [unitsOf, List.length_append, List.length_cons]
    split <;> simp <;> (first | exact Int.natCast_nonneg _ | lia | omega)
section
variable {P : Params} {cf : Cfg} {cl : Bool} {D : Nat} {σ : St} {Q : PV → St → Prop}
theorem c129 (hK : cf.K = frag P) {a : Addr} {l : List Int} (ha : σ a = some (.list (l.map .int))) (hl : l.length ≤ 1000) (hp : ∀ c ∈ l, 0 ≤ c)
    (h : ∀ b σ', Ext σ σ' → σ b = none → σ' b = some (.list ((unitsOf l).map .int)) → Q (.ref b) σ') : Con cf cl (D + 1) 129 [.ref a] σ Q := by
  refine con129 (n := 8) hK _ fun C hC => ?_
  refine stp rfl fun r0 K0 hr0 hn0 ht0 hc0 => ?_
  refine ⟨by decide, new_i fun b σ₁ hb hb1 hx ho => ?_⟩
  conv => whnf
  refine hn0 _ _ (stp hr0 fun r0 K0 hr0 hn0 ht0 hc0 => ?_)
  refine forV (fun s σ' => s = .list a ∧ σ' = σ₁) (fun K hK => ?_) ?_
  · conv => whnf
    exact hK _ _ (srcL (hx _ _ ha) ⟨rfl, rfl⟩)
  rintro _ _ ⟨rfl, rfl⟩
  refine forI l.length (fun i e σ' => i ≤ l.length ∧ e = [(key "units", .ref b)] ∧ Ext σ σ' ∧ σ' b = some (.list ((unitsOf (l.take i)).map .int))) [(key "units", .ref b)] ?_ ?_ ?_
  · exact ⟨rfl, trivial⟩
  · exact ⟨Nat.zero_le _, rfl, hx, hb1⟩
  rintro b' hr' i e σ' K hn ht hc ⟨hi, rfl, hx', hb'⟩
  refine ⟨hi, ?_⟩
  conv => whnf
  rw [hx' _ _ ha]
  conv => whnf
  rw [List.getElem?_map]
  cases hi' : l[i]? with
  | none =>
    have : i = l.length := by rw [List.getElem?_eq_none_iff] at hi'; (first | exact Int.natCast_nonneg _ | lia | omega)
    subst this
    rw [List.take_length] at hb'
    refine hn0 _ _ (stp hr0 fun r0 K0 hr0 hn0 ht0 hc0 => ?_); conv => whnf
    refine ht0 _ _ _ ?_
    exact h b σ' hx' hb hb'
  | some c =>
    have hil : i < l.length := (List.getElem?_eq_some_iff.mp hi').1
    have ht : l.take (i + 1) = l.take i ++ [c] := by rw [List.take_add_one, hi']; rfl
    have hlen : ((unitsOf (l.take i)).map PV.int).length ≤ 2000 := by
      have := unitsOf_length (l.take i)
      rw [List.length_take] at this
      rw [List.length_map]; (first | exact Int.natCast_nonneg _ | lia | omega)
    conv => whnf
    refine stp hr' fun r1 K1 hr1 hn1 ht1 hc1 => ?_
    refine ⟨fun hc => ?_, fun hc => ?_⟩
    · refine stp rfl fun r2 K2 hr2 hn2 ht2 hc2 => ?_; conv => whnf
      first | refine mS (hb') ?_ | rw [hb']
      conv => whnf
      first | refine mS (hb') ?_ | rw [hb']
      refine ⟨by (first | exact Int.natCast_nonneg _ | lia | omega), rfl, ?_⟩
      generalize hu : upd _ _ _ = σ₂
      refine hn2 _ _ (nib hr2 ?_)
      refine hn1 _ _ (nib hr1 ?_)
      refine hn _ _ ⟨[(key "units", .ref b)], ⟨rfl, trivial⟩, hil, rfl, hu ▸ hx'.put hb, ?_⟩
      rw [← hu, upd_same, ht, unitsOf_snoc]
      simp [unitsOf, of_decide_eq_true hc]
    · refine stp rfl fun r2 K2 hr2 hn2 ht2 hc2 => ?_; conv => whnf
      refine hn2 _ _ (stp hr2 fun r2 K2 hr2 hn2 ht2 hc2 => ?_); conv => whnf
      first | refine mS (hb') ?_ | rw [hb']
      refine ⟨by decide, ?_⟩
      conv => whnf
      first | refine mS (hb') ?_ | rw [hb']
      refine ⟨by (first | exact Int.natCast_nonneg _ | lia | omega), rfl, ?_⟩
      generalize hu : upd _ _ _ = σ₂
      refine hn2 _ _ (stp hr2 fun r2 K2 hr2 hn2 ht2 hc2 => ?_); conv => whnf
      first | refine mS (show σ₂ b = _ by rw [← hu, upd_same]) ?_ | rw [show σ₂ b = _ by rw [← hu, upd_same]]
      conv => whnf
      first | refine mS (show σ₂ b = _ by rw [← hu, upd_same]) ?_ | rw [show σ₂ b = _ by rw [← hu, upd_same]]
      refine ⟨by simp at hlen ⊢; (first | exact Int.natCast_nonneg _ | lia | omega), rfl, ?_⟩
      generalize hu' : upd _ _ _ = σ₃
      refine hn2 _ _ (nib hr2 ?_)
      refine hn1 _ _ (nib hr1 ?_)
      refine hn _ _ ⟨[(key "units", .ref b)], ⟨rfl, trivial⟩, hil, rfl, hu' ▸ Ext.put (hu ▸ hx'.put hb) hb, ?_⟩
      have hc' : 0 ≤ c - 65536 := by have := of_decide_eq_false hc; (first | exact Int.natCast_nonneg _ | lia | omega)
      rw [← hu', upd_same, ht, unitsOf_snoc, and_1023 hc']
      simp [unitsOf, of_decide_eq_false hc]
end

/-- digits of a base -/
noncomputable def num (b : Int) : List Int → Int → Int
  | [], a => a
  | d :: r, a => num b r (a * b + d)
theorem num_snoc (b : Int) : ∀ (l : List Int) (d a : Int), num b (l ++ [d]) a = num b l a * b + d
  | [], _, _ => rfl
  | _ :: r, d, _ => num_snoc b r d _
noncomputable def allIn (n : Int) (l : List Int) : Prop := ∀ d ∈ l, 0 ≤ d ∧ d < n
theorem allIn.snoc {n : Int} {l : List Int} {d : Int} (h : allIn n l) (h0 : 0 ≤ d) (h1 : d < n) : allIn n (l ++ [d]) := fun x hx => by
  rcases List.mem_append.mp hx with hx | hx
  · exact h x hx
  · rw [List.mem_singleton.mp hx]; exact ⟨h0, h1⟩
theorem num_nonneg {b : Int} (hb : 0 ≤ b) : ∀ (l : List Int) (a : Int), 0 ≤ a → (∀ d ∈ l, 0 ≤ d) → 0 ≤ num b l a
  | [], a, ha, _ => ha
  | d :: r, a, ha, h => num_nonneg hb r _ (Int.add_nonneg (Int.mul_nonneg ha hb) (h d (.head _))) fun x hx => h x (.tail _ hx)
theorem pow_pos2 (n : Nat) : (0 : Int) < 2 ^ n := Int.pow_pos (by decide)
theorem pow_mono {m n : Nat} (h : m ≤ n) : (2 : Int) ^ m ≤ 2 ^ n := by
  have e : ∀ k : Nat, (2 : Int) ^ k = ((2 ^ k : Nat) : Int) := fun k => by rw [Int.natCast_pow]; rfl
  rw [e, e]
  exact Int.ofNat_le.mpr (Nat.pow_le_pow_right (by decide) h)
theorem small_of {x : Int} (k : Nat) (h0 : 0 ≤ x) (h : x < 2 ^ k) (hk : k ≤ 4096 := by decide) : small x := by
  unfold small
  have e : (2 : Int) ^ k = ((2 ^ k : Nat) : Int) := by rw [Int.natCast_pow]; rfl
  rw [e] at h
  have h1 : x.natAbs < 2 ^ k := by (first | exact Int.natCast_nonneg _ | lia | omega)
  exact Nat.lt_of_lt_of_le h1 (Nat.pow_le_pow_right (by decide) hk)
/-- the units of a run's number -/
noncomputable def uList (N : Int) (n : Nat) : List Int := (List.range (6 * n / 16)).map fun k => N / 2 ^ (6 * n - 16 * (k + 1)) % 65536
noncomputable def uOk (N : Int) (n : Nat) : Bool := decide (6 * n % 16 < 6) && decide (N % 2 ^ (6 * n % 16) = 0)
theorem num16_at' : ∀ (rs : List Int) (k : Nat) (u : Int), allIn 65536 rs.reverse → rs.reverse[k]? = some u → num 65536 rs.reverse 0 / 2 ^ (16 * (rs.reverse.length - 1 - k)) % 65536 = u := by
  intro rs
  induction rs with
  | nil => intro k u _ h; simp at h
  | cons d rs ih =>
    rw [List.reverse_cons]
    generalize rs.reverse = l at ih
    intro k u hl h
    have hd := hl d (List.mem_append_right _ (.head _))
    have hl' : allIn 65536 l := fun x hx => hl x (List.mem_append_left _ hx)
    rw [num_snoc, List.length_append, List.length_singleton]
    by_cases hk : k < l.length
    · rw [List.getElem?_append_left hk] at h
      have := ih k u hl' h
      have e : 16 * (l.length + 1 - 1 - k) = 16 + 16 * (l.length - 1 - k) := by (first | exact Int.natCast_nonneg _ | lia | omega)
      rw [e, Int.pow_add, ← Int.ediv_ediv_of_nonneg (by decide)]
      have : (num 65536 l 0 * 65536 + d) / 2 ^ 16 = num 65536 l 0 := by
        show (num 65536 l 0 * 65536 + d) / 65536 = _
        (first | exact Int.natCast_nonneg _ | lia | omega)
      rw [this]; assumption
    · rw [List.getElem?_append_right (by (first | exact Int.natCast_nonneg _ | lia | omega))] at h
      have hk0 : k - l.length = 0 := by
        cases hq : k - l.length with
        | zero => rfl
        | succ m => rw [hq] at h; simp at h
      rw [hk0] at h
      simp at h
      subst h
      have e : 16 * (l.length + 1 - 1 - k) = 0 := by (first | exact Int.natCast_nonneg _ | lia | omega)
      rw [e]
      show (num 65536 l 0 * 65536 + d) / 1 % 65536 = d
      (first | exact Int.natCast_nonneg _ | lia | omega)
theorem num16_at (us : List Int) (k : Nat) (u : Int) (h : allIn 65536 us) (hk : us[k]? = some u) : num 65536 us 0 / 2 ^ (16 * (us.length - 1 - k)) % 65536 = u := by
  have := num16_at' us.reverse k u
  rw [List.reverse_reverse] at this
  exact this h hk
/-- the units are told by the number -/
theorem uList_of {us : List Int} {N rest : Int} {n m : Nat} (hu : allIn 65536 us) (hN : N = num 65536 us 0 * 2 ^ m + rest) (hn : 6 * n = 16 * us.length + m) (hm : m < 16) (h0 : 0 ≤ rest) (h1 : rest < 2 ^ m) :
    us = uList N n ∧ rest = N % 2 ^ m ∧ m = 6 * n % 16 := by
  have hm' : m = 6 * n % 16 := by (first | exact Int.natCast_nonneg _ | lia | omega)
  have hl : us.length = 6 * n / 16 := by (first | exact Int.natCast_nonneg _ | lia | omega)
  have hd : N / 2 ^ m = num 65536 us 0 := by
    rw [hN, Int.add_comm, Int.add_mul_ediv_right _ _ (Int.ne_of_gt (pow_pos2 m)), Int.ediv_eq_zero_of_lt h0 h1, Int.zero_add]
  refine ⟨?_, ?_, hm'⟩
  · apply List.ext_getElem?
    intro k
    unfold uList
    rw [List.getElem?_map]
    by_cases hk : k < us.length
    · rw [List.getElem?_range (by (first | exact Int.natCast_nonneg _ | lia | omega))]
      have h := num16_at us k us[k] hu (List.getElem?_eq_getElem hk)
      rw [List.getElem?_eq_getElem hk]
      show some us[k] = some _
      congr 1
      rw [← h, ← hd]
      show _ = N / 2 ^ (6 * n - 16 * (k + 1)) % 65536
      have e : 6 * n - 16 * (k + 1) = m + 16 * (us.length - 1 - k) := by (first | exact Int.natCast_nonneg _ | lia | omega)
      rw [e, Int.pow_add, ← Int.ediv_ediv_of_nonneg (Int.le_of_lt (pow_pos2 m))]
    · rw [List.getElem?_eq_none (by (first | exact Int.natCast_nonneg _ | lia | omega)), List.getElem?_eq_none (by rw [List.length_range]; (first | exact Int.natCast_nonneg _ | lia | omega))]
      rfl
  · rw [hN, Int.add_comm, Int.add_mul_emod_self_right, Int.emod_eq_of_lt h0 h1]

noncomputable def b64 (n : Int) : Bool := (valO n).isSome
noncomputable def runLen (s : List Int) : Nat := (s.takeWhile b64).length
theorem runLen_drop {l : List Int} {k : Nat} {c : Int} (h : l[k]? = some c) : runLen (l.drop k) = if b64 c = true then 1 + runLen (l.drop (k + 1)) else 0 := by
  obtain ⟨hk, rfl⟩ := List.getElem?_eq_some_iff.mp h
  rw [List.drop_eq_getElem_cons hk]
  unfold runLen
  rw [List.takeWhile_cons]
  split
  · simp; (first | exact Int.natCast_nonneg _ | lia | omega)
  · rfl
theorem runLen_end {l : List Int} {k : Nat} (h : l.length ≤ k) : runLen (l.drop k) = 0 := by rw [List.drop_eq_nil_of_le h]; rfl
section
variable {P : Params} {cf : Cfg} {cl : Bool} {D : Nat} {σ : St} {Q : PV → St → Prop}
theorem c158 (hK : cf.K = frag P) {l : List Int} {at' : Nat} (hl : l.length ≤ 65536) (h : Q (.int ((at' + runLen (l.drop at') : Nat) : Int)) σ) : Con cf cl (D + 2) 158 [.byt l, .int at', .bool false] σ Q := by
  refine con158 (n := 8) hK _ _ _ fun C hC => ?_
  refine stp rfl fun r0 K0 hr0 hn0 ht0 hc0 => ?_
  refine whileI (fun n e σ' => ∃ k : Nat, n = l.length - k ∧ e = [(key "octets", .byt l), (key "at", .int k), (key "is_mail", .bool false)] ∧ σ' = σ ∧ k + runLen (l.drop k) = at' + runLen (l.drop at')) (l.length - at') [(key "octets", .byt l), (key "at", .int at'), (key "is_mail", .bool false)] ⟨rfl, rfl, rfl, trivial⟩ ⟨at', rfl, rfl, rfl, rfl⟩ ?_
  rintro b' hb n e σ' K hn ht _ ⟨k, rfl, rfl, hs, hk⟩
  subst hs
  refine lvT (tAnd rfl fun q hq => ?_)
  refine ⟨hl, ?_⟩
  refine ⟨fun hc => ?_, fun hc => ?_⟩
  · have hkl : k < l.length := by have := of_decide_eq_true hc; (first | exact Int.natCast_nonneg _ | lia | omega)
    have hg : l[Int.toNat (k : Int)]? = some l[k] := List.getElem?_eq_getElem hkl
    have hrl := runLen_drop (List.getElem?_eq_getElem hkl)
    refine tAnd hq fun q hq => ?_
    refine ⟨by (first | exact Int.natCast_nonneg _ | lia | omega), hl, ?_⟩
    first | refine mS (hg) ?_ | rw [hg]
    refine hC (c108 (D := D) hK ?_ |>.up)
    unfold b64 at hrl
    cases hv : valO l[k] with
    | none =>
      rw [hv] at hrl
      refine ⟨fun hc => (nomatch hc), fun _ => ?_⟩
      refine ⟨fun hc => (nomatch hc), fun _ => ?_⟩
      refine hn0 _ _ (stp hr0 fun r0 K0 hr0 hn0 ht0 hc0 => ?_); conv => whnf
      refine ht0 _ _ _ ?_
      rw [← hk, hrl] at h
      exact h
    | some v =>
      rw [hv] at hrl
      refine ⟨fun _ => ?_, fun hc => (nomatch hc)⟩
      refine tAndZ hq ?_
      refine ⟨fun _ => ?_, fun hc => (nomatch hc)⟩
      refine stp hb fun r1 K1 hr1 hn1 ht1 hc1 => ?_
      conv => whnf
      refine hn1 _ _ (nib hr1 ?_)
      refine hn _ _ ⟨l.length - (k + 1), [(key "octets", .byt l), (key "at", .int ((k + 1 : Nat) : Int)), (key "is_mail", .bool false)], by (first | exact Int.natCast_nonneg _ | lia | omega), ⟨rfl, rfl, rfl, trivial⟩, k + 1, rfl, rfl, rfl, ?_⟩
      rw [← hk, hrl, if_pos (by rfl)]
      (first | exact Int.natCast_nonneg _ | lia | omega)
  · refine ⟨fun hc => (nomatch hc), fun _ => ?_⟩
    refine hn0 _ _ (stp hr0 fun r0 K0 hr0 hn0 ht0 hc0 => ?_); conv => whnf
    refine ht0 _ _ _ ?_
    have := of_decide_eq_false hc
    rw [← hk, runLen_end (by (first | exact Int.natCast_nonneg _ | lia | omega))] at h
    exact h
end

noncomputable def e165 (f : Addr) (x y : Int) : En := [(key "is_mail", .bool false), (key "units", .ref f), (key "rest", .int x), (key "many", .int y)]
section
variable {P : Params} {cf : Cfg} {cl : Bool} {D : Nat} {σ : St} {Q : PV → St → Prop}
noncomputable def dig (c : Int) : Int := (valO c).getD 0
theorem dig_in {c : Int} : 0 ≤ dig c ∧ dig c < 64 := by
  unfold dig valO rng
  repeat' split
  all_goals (try simp_all)
  all_goals (first | exact Int.natCast_nonneg _ | lia | omega)
theorem c165 (hK : cf.K = frag P) {l w : List Int} {s e : Nat} (hl : l.length ≤ 65536) (hw : (l.take e).drop s = w) (hn : w.length ≤ 65536) (hb : ∀ c ∈ w, b64 c = true)
    (h : ∀ t b σ', Ext σ σ' → σ b = none → σ' t = some (.tup [.ref b, .bool (uOk (num 64 (w.map dig) 0) w.length)]) → σ' b = some (.list ((uList (num 64 (w.map dig) 0) w.length).map .int)) → Q (.ref t) σ') :
    Con cf cl (D + 2) 165 [.byt l, .int s, .int e, .bool false] σ Q := by
  refine con165 (n := 9) hK _ _ _ _ fun C hC => ?_
  refine stp rfl fun r0 K0 hr0 hn0 ht0 hc0 => ?_
  refine ⟨Nat.le_of_ble_eq_true rfl, new_i fun b σ₁ hb0 hb1 hx ho => ?_⟩
  refine ⟨Nat.le_of_ble_eq_true rfl, new_i fun t σ₂ htZ ht1 hx2 ho2 => ?_⟩
  conv => whnf
  first | refine mS (ht1) ?_ | rw [ht1]
  refine ⟨rfl, ?_⟩
  conv => whnf
  have hx' := hx.trans hx2
  have hb2 := hx2 _ _ hb1
  refine hn0 _ _ (stp hr0 fun r0 K0 hr0 hn0 ht0 hc0 => ?_)
  have hcut : cut l (some (s : Int)) (some (e : Int)) = w := hw
  refine forV (fun s' σ' => s' = .byt w ∧ σ' = σ₂) (fun K hK => ?_) ?_
  · conv => whnf
    refine ⟨by (first | exact Int.natCast_nonneg _ | lia | omega), ?_⟩
    refine ⟨by (first | exact Int.natCast_nonneg _ | lia | omega), ?_⟩
    refine ⟨hl, ?_⟩
    rw [hcut]
    exact hK _ _ (srcB ⟨rfl, rfl⟩)
  rintro _ _ ⟨rfl, rfl⟩
  refine forI w.length (fun i e σ' => i ≤ w.length ∧ ∃ (us : List Int) (rest : Int) (many : Nat), e = (e165 b rest many) ∧ Ext σ σ' ∧ σ' b = some (.list (us.map .int)) ∧
    many < 16 ∧ 6 * i = 16 * us.length + many ∧ allIn 65536 us ∧ 0 ≤ rest ∧ rest < 2 ^ many ∧ num 64 ((w.take i).map dig) 0 = num 65536 us 0 * 2 ^ many + rest)
    (e165 b 0 0) ?_ ?_ ?_
  · exact ⟨rfl, rfl, rfl, rfl, trivial⟩
  · exact ⟨Nat.zero_le _, [], 0, 0, rfl, hx', hb2, by decide, rfl, (fun _ h => nomatch h), by decide, by decide, rfl⟩
  rintro b' hr' i e' σ' K hnL htZ hcL ⟨hi, us, rest, many, rfl, hx', hb', hm, hbits, hin, hre0, hre1, hnum⟩
  refine ⟨hi, ?_⟩
  conv => whnf
  have hsm : small rest := small_of many hre0 hre1 (by (first | exact Int.natCast_nonneg _ | lia | omega))
  cases hi' : w[i]? with
  | none =>
    have : i = w.length := by rw [List.getElem?_eq_none_iff] at hi'; (first | exact Int.natCast_nonneg _ | lia | omega)
    subst this
    rw [List.take_length] at hnum
    obtain ⟨u1, u2, u3⟩ := uList_of hin hnum hbits hm hre0 hre1
    have hok : uOk (num 64 (w.map dig) 0) w.length = (decide (many < 6) && decide (rest = 0)) := by unfold uOk; rw [← u3, ← u2]
    rw [hok, ← u1] at h
    refine hn0 _ _ (stp hr0 fun r0 K0 hr0 hn0 ht0 hc0 => ?_)
    refine ⟨fun hc => ?_, fun hc => ?_⟩
    · have hc' : decide (many < 6) = true := by have := of_decide_eq_true hc; exact decide_eq_true (by (first | exact Int.natCast_nonneg _ | lia | omega))
      rw [hc'] at h
      refine ⟨Nat.le_of_ble_eq_true rfl, new_i fun t σ₃ htZ ht1 hx3 ho3 => ?_⟩
      refine ht0 _ _ _ ?_
      exact h t b σ₃ (hx'.trans hx3) hb0 (by rw [ht1]; simp) (hx3 _ _ hb')
    · have hc' : decide (many < 6) = false := by have := of_decide_eq_false hc; exact decide_eq_false (by (first | exact Int.natCast_nonneg _ | lia | omega))
      rw [hc'] at h
      refine ⟨Nat.le_of_ble_eq_true rfl, new_i fun t σ₃ htZ ht1 hx3 ho3 => ?_⟩
      refine ht0 _ _ _ ?_
      exact h t b σ₃ (hx'.trans hx3) hb0 (by rw [ht1]; simp) (hx3 _ _ hb')
  | some c =>
    have hil : i < w.length := (List.getElem?_eq_some_iff.mp hi').1
    have hcw : c ∈ w := by rw [← (List.getElem?_eq_some_iff.mp hi').2]; exact List.getElem_mem _
    have hbc := hb c hcw
    have hd : valO c = some (dig c) := by
      unfold b64 at hbc
      unfold dig
      cases hv : valO c with
      | none => rw [hv] at hbc; cases hbc
      | some v => rfl
    obtain ⟨hd0, hd1⟩ := dig_in (c := c)
    have ht : num 64 ((w.take (i + 1)).map dig) 0 = num 64 ((w.take i).map dig) 0 * 64 + dig c := by
      rw [List.take_add_one, hi']
      show num 64 ((w.take i ++ [c]).map dig) 0 = _
      rw [List.map_append]
      exact num_snoc _ _ _ _
    conv => whnf
    refine stp hr' fun r1 K1 hr1 hn1 ht1 hc1 => ?_
    refine ⟨hsm, by decide, by decide, ?_⟩
    refine hC (c108 (D := D) hK ?_ |>.up)
    rw [hd]
    conv => whnf
    rw [show Builtin.bitOr (rest * 2 ^ Int.toNat 6) (dig c) = rest * 64 + dig c from or_add hre0 hd0 6 hd1]
    refine hn1 _ _ (stp hr1 fun r1 K1 hr1 hn1 ht1 hc1 => ?_); conv => whnf
    refine hn1 _ _ (stp hr1 fun r1 K1 hr1 hn1 ht1 hc1 => ?_); conv => whnf
    have hp6 : (2 : Int) ^ (many + 6) = 2 ^ many * 64 := by rw [Int.pow_add]; rfl
    have hq0 : 0 ≤ rest * 64 + dig c := by (first | exact Int.natCast_nonneg _ | lia | omega)
    have hq1 : rest * 64 + dig c < 2 ^ (many + 6) := by rw [hp6]; (first | exact Int.natCast_nonneg _ | lia | omega)
    have hnum' : num 64 ((w.take (i + 1)).map dig) 0 = num 65536 us 0 * 2 ^ (many + 6) + (rest * 64 + dig c) := by
      rw [ht, hnum, hp6, Int.add_mul, Int.mul_assoc, Int.add_assoc]
    generalize rest * 64 + dig c = q at hq0 hq1 hnum'
    refine ⟨fun hc => ?_, fun hc => ?_⟩
    · obtain ⟨m', rfl⟩ : ∃ m', many = m' + 10 := ⟨many - 10, by have := of_decide_eq_true hc; (first | exact Int.natCast_nonneg _ | lia | omega)⟩
      have em : ((m' + 10 : Nat) : Int) + 6 - 16 = (m' : Int) := by (first | exact Int.natCast_nonneg _ | lia | omega)
      have hp16 : (2 : Int) ^ (m' + 10 + 6) = 65536 * 2 ^ m' := by rw [show m' + 10 + 6 = 16 + m' by (first | exact Int.natCast_nonneg _ | lia | omega), Int.pow_add]; rfl
      have hpm := pow_pos2 m'
      rw [hp16] at hq1 hnum'
      refine stp rfl fun r2 K2 hr2 hn2 ht2 hc2 => ?_; conv => whnf
      rw [em]
      refine hn2 _ _ (stp hr2 fun r2 K2 hr2 hn2 ht2 hc2 => ?_); conv => whnf
      first | refine mS (hb') ?_ | rw [hb']
      refine ⟨by (first | exact Int.natCast_nonneg _ | lia | omega), ?_⟩
      conv => whnf
      first | refine mS (hb') ?_ | rw [hb']
      refine ⟨by rw [List.length_map]; (first | exact Int.natCast_nonneg _ | lia | omega), rfl, ?_⟩
      generalize hu : upd _ _ _ = σ₃
      refine hn2 _ _ (stp hr2 fun r2 K2 hr2 hn2 ht2 hc2 => ?_)
      refine ⟨by unfold small; decide, by (first | exact Int.natCast_nonneg _ | lia | omega), by (first | exact Int.natCast_nonneg _ | lia | omega), ?_⟩
      conv => whnf
      refine hn2 _ _ (nib hr2 ?_)
      refine hn1 _ _ (nib hr1 ?_)
      have e2 : Builtin.bitAnd q (1 * 2 ^ (m' : Int).toNat - 1) = q % 2 ^ m' := by rw [Int.one_mul, Int.toNat_natCast]; exact and_mask hq0 m'
      have e3 : (m' : Int).toNat = m' := Int.toNat_natCast m'
      have d1 := Int.emod_add_mul_ediv q (2 ^ m')
      refine hnL _ _ ⟨(e165 b (q % 2 ^ m') m'), ⟨rfl, rfl, by rw [← e2]; rfl, rfl, trivial⟩, hil, us ++ [q / 2 ^ m'], q % 2 ^ m', m', rfl, hu ▸ hx'.put hb0, ?_, by (first | exact Int.natCast_nonneg _ | lia | omega), ?_, ?_, Int.emod_nonneg _ (Int.ne_of_gt hpm), Int.emod_lt_of_pos _ hpm, ?_⟩
      · rw [← hu, upd_same, e3, List.map_append]; rfl
      · rw [List.length_append, List.length_singleton]; (first | exact Int.natCast_nonneg _ | lia | omega)
      · refine hin.snoc (Int.ediv_nonneg hq0 (Int.le_of_lt hpm)) (Int.ediv_lt_of_lt_mul hpm hq1)
      · rw [hnum', num_snoc, Int.add_mul, Int.mul_assoc, Int.add_assoc]
        congr 1
        rw [Int.mul_comm (q / 2 ^ m'), Int.add_comm]
        exact d1.symm
    · have hm' : many + 6 < 16 := by have := of_decide_eq_false hc; (first | exact Int.natCast_nonneg _ | lia | omega)
      refine nib rfl ?_
      refine hn1 _ _ (nib hr1 ?_)
      exact hnL _ _ ⟨(e165 b q ((many + 6 : Nat) : Int)), ⟨rfl, rfl, rfl, rfl, trivial⟩, hil, us, q, many + 6, rfl, hx', hb', hm', by (first | exact Int.natCast_nonneg _ | lia | omega), hin, hq0, hq1, hnum'⟩
end

noncomputable def hi (u : Int) : Bool := rng 55296 u 56319
noncomputable def lo (u : Int) : Bool := rng 56320 u 57343
noncomputable def sole (u : Int) : Option Int := if (hi u || lo u) = true then none else some u
/-- the codes of units -/
noncomputable def pairs : List Int → List (Option Int)
  | [] => []
  | [u] => [sole u]
  | u :: v :: r => if (hi u && lo v) = true then some (65536 + (u - 55296) * 1024 + v - 56320) :: pairs r else sole u :: pairs (v :: r)
noncomputable def runCodes (N : Int) (n : Nat) : List (Option Int) := pairs (uList N n) ++ (if uOk N n = true then [] else [none])
noncomputable def runFine (N : Int) (n : Nat) : Bool := uOk N n && (pairs (uList N n)).all Option.isSome
theorem pairs_two {us : List Int} {k : Nat} {u v : Int} (hu : us[k]? = some u) (hv : us[k + 1]? = some v) (h : (hi u && lo v) = true) : pairs (us.drop k) = some (65536 + (u - 55296) * 1024 + v - 56320) :: pairs (us.drop (k + 2)) := by
  obtain ⟨h1, rfl⟩ := List.getElem?_eq_some_iff.mp hu
  obtain ⟨h2, rfl⟩ := List.getElem?_eq_some_iff.mp hv
  rw [List.drop_eq_getElem_cons h1, List.drop_eq_getElem_cons h2, pairs, if_pos h]
theorem pairs_one {us : List Int} {k : Nat} {u : Int} (hu : us[k]? = some u) (h : ∀ v, us[k + 1]? = some v → (hi u && lo v) = false) : pairs (us.drop k) = sole u :: pairs (us.drop (k + 1)) := by
  obtain ⟨h1, rfl⟩ := List.getElem?_eq_some_iff.mp hu
  rw [List.drop_eq_getElem_cons h1]
  by_cases h2 : k + 1 < us.length
  · have := h _ (List.getElem?_eq_getElem h2)
    rw [List.drop_eq_getElem_cons h2, pairs, ifF this]
  · rw [List.drop_eq_nil_of_le (by (first | exact Int.natCast_nonneg _ | lia | omega))]
    rfl
theorem pairs_length : ∀ us : List Int, (pairs us).length ≤ us.length
  | [] => Nat.le_refl _
  | [u] => Nat.le_refl _
  | u :: v :: r => by
    unfold pairs
    split
    · have := pairs_length r; simp; (first | exact Int.natCast_nonneg _ | lia | omega)
    · have := pairs_length (v :: r); simp at this ⊢; (first | exact Int.natCast_nonneg _ | lia | omega)
theorem uList_length (N : Int) (n : Nat) : (uList N n).length = 6 * n / 16 := by unfold uList; rw [List.length_map, List.length_range]
noncomputable def e172 (s e : Int) (u : Addr) (ok : Bool) (b f : Addr) (x : Int) : En := [(key "start", .int s), (key "end", .int e), (key "is_mail", .bool false), (key "units", .ref u), (key "is_even", .bool ok), (key "codes", .ref b), (key "faults", .ref f), (key "at", .int x)]
section
variable {P : Params} {cf : Cfg} {cl : Bool} {D : Nat} {σ : St} {Q : PV → St → Prop}
theorem c172 (hK : cf.K = frag P) {l w : List Int} {s e : Nat} (hl : l.length ≤ 65536) (hw : (l.take e).drop s = w) (hn : w.length ≤ 65536) (hb : ∀ c ∈ w, b64 c = true) (he : 0 < e)
    (h : ∀ t b f fs σ', Ext σ σ' → σ b = none → σ f = none → σ' t = some (.tup [.ref b, .ref f]) → σ' b = some (.list ((runCodes (num 64 (w.map dig) 0) w.length).map optV)) →
      σ' f = some (.list fs) → fs.isEmpty = runFine (num 64 (w.map dig) 0) w.length → fs.length ≤ 65536 → Q (.ref t) σ') :
    Con cf cl (D + 3) 172 [.byt l, .int s, .int e, .bool false] σ Q := by
  refine con172 (n := 12) hK _ _ _ _ fun C hC => ?_
  refine stp rfl fun r0 K0 hr0 hn0 ht0 hc0 => ?_
  refine hC (c165 (D := D) hK hl hw hn hb fun t0 u σ₁ hx1 hu0 hta hu1 => ?_)
  have hln := uList_length (num 64 (w.map dig) 0) w.length
  unfold runCodes runFine at h
  generalize uList (num 64 (w.map dig) 0) w.length = us at h hu1 hln
  generalize uOk (num 64 (w.map dig) 0) w.length = ok at h hta
  conv => whnf
  first | refine mS (hta) ?_ | rw [hta]
  refine ⟨rfl, ?_⟩
  conv => whnf
  refine hn0 _ _ (stp hr0 fun r0 K0 hr0 hn0 ht0 hc0 => ?_)
  refine ⟨Nat.le_of_ble_eq_true rfl, new_i fun b σ₂ hb0 hb1 hx2 ho2 => ?_⟩
  refine ⟨Nat.le_of_ble_eq_true rfl, new_i fun f σ₃ hf0 hf1 hx3 ho3 => ?_⟩
  refine ⟨Nat.le_of_ble_eq_true rfl, new_i fun t1 σ₄ htb htc hx4 ho4 => ?_⟩
  conv => whnf
  first | refine mS (htc) ?_ | rw [htc]
  refine ⟨rfl, ?_⟩
  conv => whnf
  have hbf : b ≠ f := fun q => by rw [q, hf0] at hb1; cases hb1
  have hub : u ≠ b := fun q => by rw [q, hb0] at hu1; cases hu1
  have huf : u ≠ f := fun q => by have := hx2 _ _ hu1; rw [q, hf0] at this; cases this
  have hx := ((hx1.trans hx2).trans hx3).trans hx4
  have hσb : σ b = none := by
    cases q : σ b with
    | none => rfl
    | some o => have := hx1 _ _ q; rw [hb0] at this; cases this
  have hσf : σ f = none := by
    cases q : σ f with
    | none => rfl
    | some o => have := hx2 _ _ (hx1 _ _ q); rw [hf0] at this; cases this
  refine hn0 _ _ (stp hr0 fun r0 K0 hr0 hn0 ht0 hc0 => ?_)
  refine whileI (fun n en σ' => ∃ (k : Nat) (cs : List (Option Int)) (fs : List PV), n = us.length - k ∧ en = (e172 s e u ok b f k) ∧
    Ext σ σ' ∧ σ' u = some (.list (us.map .int)) ∧ σ' b = some (.list (cs.map optV)) ∧ σ' f = some (.list fs) ∧ fs.isEmpty = cs.all Option.isSome ∧ cs.length ≤ k ∧ fs.length ≤ k ∧ k ≤ us.length ∧ cs ++ pairs (us.drop k) = pairs us) us.length
    (e172 s e u ok b f 0) ?_ ?_ ?_
  · exact ⟨rfl, rfl, rfl, rfl, rfl, rfl, rfl, rfl, trivial⟩
  · exact ⟨0, [], [], rfl, rfl, hx, hx4 _ _ (hx3 _ _ (hx2 _ _ hu1)), hx4 _ _ (hx3 _ _ hb1), hx4 _ _ hf1, rfl, Nat.le_refl _, Nat.le_refl _, Nat.zero_le _, rfl⟩
  rintro b' hr' n en σ' KL hnL htL hcL ⟨k, cs, fs, rfl, rfl, hx', hu', hb', hf', hfs, hck, hfk, hk, hpair⟩
  conv => whnf
  first | refine mS (hu') ?_ | rw [hu']
  refine ⟨by rw [List.length_map]; (first | exact Int.natCast_nonneg _ | lia | omega), ?_⟩
  refine ⟨fun hc => ?_, fun hc => ?_⟩
  · have hku : k < us.length := by have := of_decide_eq_true hc; rw [List.length_map] at this; (first | exact Int.natCast_nonneg _ | lia | omega)
    refine stp hr' fun r1 K1 hr1 hn1 ht1 hc1 => ?_
    conv => whnf
    first | refine mS (hu') ?_ | rw [hu']
    refine ⟨by (first | exact Int.natCast_nonneg _ | lia | omega), by omega, ?_⟩
    have hg : (us.map PV.int)[Int.toNat (k : Int)]? = some (.int us[k]) := by rw [Int.toNat_natCast, List.getElem?_map, List.getElem?_eq_getElem hku]; rfl
    first | refine mS (hg) ?_ | rw [hg]
    refine ⟨small_of 24 (by (first | exact Int.natCast_nonneg _ | lia | omega)) (by show (k : Int) < 16777216; omega), by unfold small; decide, ?_⟩
    refine ⟨by decide, small_of 24 (by (first | exact Int.natCast_nonneg _ | lia | omega)) (by show (k : Int) * 16 < 16777216; omega), ?_⟩
    refine ⟨Nat.le_of_ble_eq_true rfl, new_i fun t2 σ₅ htd hte hx5 ho5 => ?_⟩
    conv => whnf
    first | refine mS (hte) ?_ | rw [hte]
    refine ⟨rfl, ?_⟩
    conv => whnf
    have hu5 := hx5 _ _ hu'
    have hb5 := hx5 _ _ hb'
    have hf5 := hx5 _ _ hf'
    have hxx := hx'.trans hx5
    have hgu : us[k]? = some us[k] := List.getElem?_eq_getElem hku
    generalize us[k] = uu at hg hgu
    refine hn1 _ _ (stp hr1 fun r1 K1 hr1 hn1 ht1 hc1 => ?_)
    refine lvS (ifI (match us[k + 1]? with | some v => hi uu && lo v | none => false) ?_ ?_ ?_)
    · intro K hK'
      refine lvT (tAnd rfl fun q hq => ?_)
      refine hC (c73 (D := D) hK ?_ |>.up)
      refine ⟨fun hc => ?_, fun hc => ?_⟩
      · refine tAnd hq fun q hq => ?_; conv => whnf
        first | refine mS (hu5) ?_ | rw [hu5]
        refine ⟨by rw [List.length_map]; (first | exact Int.natCast_nonneg _ | lia | omega), ?_⟩
        refine ⟨fun hc => ?_, fun hc => ?_⟩
        · have hk1 : k + 1 < us.length := by have := of_decide_eq_true ‹decide ((k : Int) + 1 < _) = true›; rw [List.length_map] at this; (first | exact Int.natCast_nonneg _ | lia | omega)
          have hg1 : (us.map PV.int)[Int.toNat ((k : Int) + 1)]? = some (.int us[k + 1]) := by rw [show Int.toNat ((k : Int) + 1) = k + 1 by (first | exact Int.natCast_nonneg _ | lia | omega), List.getElem?_map, List.getElem?_eq_getElem hk1]; rfl
          refine tAnd hq fun q hq => ?_; conv => whnf
          first | refine mS (hu5) ?_ | rw [hu5]
          refine ⟨by (first | exact Int.natCast_nonneg _ | lia | omega), by omega, ?_⟩
          first | refine mS (hg1) ?_ | rw [hg1]
          refine hC (c80 (D := D) hK ?_ |>.up)
          rw [List.getElem?_eq_getElem hk1] at hK'
          change K (hi uu && lo us[k + 1]) _ at hK'
          rw [show hi uu = true from ‹rng 55296 uu 56319 = true›, Bool.true_and] at hK'
          refine ⟨fun hc => ?_, fun hc => ?_⟩
          · rw [show lo us[k + 1] = true from hc] at hK'
            refine tAndZ hq ?_
            exact hK'
          · rw [show lo us[k + 1] = false from hc] at hK'
            exact hK'
        · have hk1 : us.length ≤ k + 1 := by have := of_decide_eq_false ‹decide ((k : Int) + 1 < _) = false›; rw [List.length_map] at this; (first | exact Int.natCast_nonneg _ | lia | omega)
          rw [List.getElem?_eq_none hk1] at hK'
          exact hK'
      · have hh : hi uu = false := hc
        have : (match us[k + 1]? with | some v => hi uu && lo v | none => false) = false := by
          split
          · rw [hh]; rfl
          · rfl
        rw [this] at hK'
        exact hK'
    · intro hc
      obtain ⟨hk1, hhl⟩ : ∃ h : k + 1 < us.length, (hi uu && lo us[k + 1]) = true := by
        by_cases hk1 : k + 1 < us.length
        · rw [List.getElem?_eq_getElem hk1] at hc
          exact ⟨hk1, hc⟩
        · rw [List.getElem?_eq_none (by (first | exact Int.natCast_nonneg _ | lia | omega))] at hc
          cases hc
      have hg1 : (us.map PV.int)[Int.toNat ((k : Int) + 1)]? = some (.int us[k + 1]) := by rw [show Int.toNat ((k : Int) + 1) = k + 1 by (first | exact Int.natCast_nonneg _ | lia | omega), List.getElem?_map, List.getElem?_eq_getElem hk1]; rfl
      have hp2 := pairs_two hgu (List.getElem?_eq_getElem hk1) hhl
      obtain ⟨hh1, hh2⟩ := Bool.and_eq_true_iff.mp (show (decide (55296 ≤ uu) && decide (uu ≤ 56319)) = true from (Bool.and_eq_true_iff.mp hhl).1)
      have hh1 := of_decide_eq_true hh1
      have hh2 := of_decide_eq_true hh2
      generalize us[k + 1] = vv at hg1 hp2
      refine stp rfl fun r2 K2 hr2 hn2 ht2 hc2 => ?_; conv => whnf
      first | refine mS (hb5) ?_ | rw [hb5]
      refine ⟨small_of 11 (by (first | exact Int.natCast_nonneg _ | lia | omega)) (by show uu - 55296 < 2048; (first | exact Int.natCast_nonneg _ | lia | omega)), by decide, by decide, ?_⟩
      conv => whnf
      first | refine mS (hu5) ?_ | rw [hu5]
      refine ⟨by (first | exact Int.natCast_nonneg _ | lia | omega), by omega, ?_⟩
      first | refine mS (hg1) ?_ | rw [hg1]
      conv => whnf
      first | refine mS (hb5) ?_ | rw [hb5]
      refine ⟨by rw [List.length_map]; (first | exact Int.natCast_nonneg _ | lia | omega), rfl, ?_⟩
      generalize hu : upd _ _ _ = σ₆
      refine hn2 _ _ (stp hr2 fun r2 K2 hr2 hn2 ht2 hc2 => ?_); conv => whnf
      refine hn2 _ _ (nib hr2 ?_)
      refine hn1 _ _ (nib hr1 ?_)
      refine hnL _ _ ⟨us.length - (k + 2), (e172 s e u ok b f ((k + 2 : Nat) : Int)), by (first | exact Int.natCast_nonneg _ | lia | omega), ⟨rfl, rfl, rfl, rfl, rfl, rfl, rfl, rfl, trivial⟩,
        k + 2, cs ++ [some (65536 + (uu - 55296) * 1024 + vv - 56320)], fs, rfl, rfl, hu ▸ hxx.put hσb, ?_, ?_, ?_, ?_, ?_, by (first | exact Int.natCast_nonneg _ | lia | omega), by (first | exact Int.natCast_nonneg _ | lia | omega), ?_⟩
      · rw [← hu, upd_ne hub, hu5]
      · rw [← hu, upd_same, List.map_append]; rfl
      · rw [← hu, upd_ne (Ne.symm hbf), hf5]
      · rw [hfs, List.all_append]; simp
      · rw [List.length_append, List.length_singleton]; (first | exact Int.natCast_nonneg _ | lia | omega)
      · rw [List.append_assoc, ← hpair, hp2]; rfl
    · intro hc
      have hone : pairs (us.drop k) = sole uu :: pairs (us.drop (k + 1)) := pairs_one hgu fun v hv => by rw [hv] at hc; exact hc
      refine stp rfl fun r2 K2 hr2 hn2 ht2 hc2 => ?_
      refine lvS (ifI (hi uu || lo uu) ?_ ?_ ?_)
      · intro K hK'
        refine lvT (tOr rfl fun q hq => ?_)
        refine hC (c73 (D := D) hK ?_ |>.up)
        refine ⟨fun hc => ?_, fun hc => ?_⟩
        · rw [show hi uu = true from hc, Bool.true_or] at hK'
          exact hK'
        · rw [show hi uu = false from hc, Bool.false_or] at hK'
          refine tOr hq fun q hq => ?_
          refine hC (c80 (D := D) hK ?_ |>.up)
          refine ⟨fun hc => ?_, fun hc => ?_⟩
          · rw [show lo uu = true from hc] at hK'
            exact hK'
          · rw [show lo uu = false from hc] at hK'
            refine tOrZ hq ?_
            exact hK'
      · intro hc
        have hso : sole uu = none := if_pos hc
        refine stp rfl fun r3 K3 hr3 hn3 ht3 hc3 => ?_; conv => whnf
        first | refine mS (hf5) ?_ | rw [hf5]
        refine ⟨Nat.le_of_ble_eq_true rfl, new_i fun t3 σ₆ htf htg hx6 ho6 => ?_⟩
        have hb6 := hx6 _ _ hb5
        have hf6 := hx6 _ _ hf5
        have hu6 := hx6 _ _ hu5
        conv => whnf
        first | refine mS (hf6) ?_ | rw [hf6]
        refine ⟨by (first | exact Int.natCast_nonneg _ | lia | omega), rfl, ?_⟩
        generalize hu : upd _ _ _ = σ₇
        have hb7 : σ₇ b = some (.list (cs.map optV)) := by rw [← hu, upd_ne hbf, hb6]
        have hf7 : σ₇ f = some (.list (fs ++ [.ref t3])) := by rw [← hu, upd_same]
        have hu7 : σ₇ u = some (.list (us.map .int)) := by rw [← hu, upd_ne huf, hu6]
        have hx7 : Ext σ σ₇ := hu ▸ (hxx.trans hx6).put hσf
        refine hn3 _ _ (stp hr3 fun r3 K3 hr3 hn3 ht3 hc3 => ?_); conv => whnf
        first | refine mS (hb7) ?_ | rw [hb7]
        conv => whnf
        first | refine mS (hb7) ?_ | rw [hb7]
        refine ⟨by rw [List.length_map]; (first | exact Int.natCast_nonneg _ | lia | omega), rfl, ?_⟩
        generalize hu' : upd _ _ _ = σ₈
        refine hn3 _ _ (nib hr3 ?_)
        refine hn2 _ _ (stp hr2 fun r2 K2 hr2 hn2 ht2 hc2 => ?_); conv => whnf
        refine hn2 _ _ (nib hr2 ?_)
        refine hn1 _ _ (nib hr1 ?_)
        refine hnL _ _ ⟨us.length - (k + 1), (e172 s e u ok b f ((k + 1 : Nat) : Int)), by (first | exact Int.natCast_nonneg _ | lia | omega), ⟨rfl, rfl, rfl, rfl, rfl, rfl, rfl, rfl, trivial⟩,
          k + 1, cs ++ [none], fs ++ [.ref t3], rfl, rfl, hu' ▸ hx7.put hσb, ?_, ?_, ?_, ?_, ?_, ?_, by (first | exact Int.natCast_nonneg _ | lia | omega), ?_⟩
        · rw [← hu', upd_ne hub, hu7]
        · rw [← hu', upd_same, List.map_append]; rfl
        · rw [← hu', upd_ne (Ne.symm hbf), hf7]
        · rw [List.all_append]; simp
        · rw [List.length_append, List.length_singleton]; (first | exact Int.natCast_nonneg _ | lia | omega)
        · rw [List.length_append, List.length_singleton]; (first | exact Int.natCast_nonneg _ | lia | omega)
        · rw [List.append_assoc, ← hpair, hone, hso]; rfl
      · intro hc
        have hso : sole uu = some uu := ifF hc
        refine stp rfl fun r3 K3 hr3 hn3 ht3 hc3 => ?_; conv => whnf
        first | refine mS (hb5) ?_ | rw [hb5]
        conv => whnf
        first | refine mS (hb5) ?_ | rw [hb5]
        refine ⟨by rw [List.length_map]; (first | exact Int.natCast_nonneg _ | lia | omega), rfl, ?_⟩
        generalize hu' : upd _ _ _ = σ₈
        refine hn3 _ _ (stp hr3 fun r3 K3 hr3 hn3 ht3 hc3 => ?_)
        refine lvS (ifI false (fun K hK' => ?_) (fun q => nomatch q) fun _ => ?_)
        · refine lvT (tAnd rfl fun q hq => ?_)
          refine ⟨fun hc => (nomatch hc), fun _ => ?_⟩
          exact hK'
        refine nib rfl ?_
        refine hn3 _ _ (nib hr3 ?_)
        refine hn2 _ _ (stp hr2 fun r2 K2 hr2 hn2 ht2 hc2 => ?_); conv => whnf
        refine hn2 _ _ (nib hr2 ?_)
        refine hn1 _ _ (nib hr1 ?_)
        refine hnL _ _ ⟨us.length - (k + 1), (e172 s e u ok b f ((k + 1 : Nat) : Int)), by (first | exact Int.natCast_nonneg _ | lia | omega), ⟨rfl, rfl, rfl, rfl, rfl, rfl, rfl, rfl, trivial⟩,
          k + 1, cs ++ [some uu], fs, rfl, rfl, hu' ▸ hxx.put hσb, ?_, ?_, ?_, ?_, ?_, by (first | exact Int.natCast_nonneg _ | lia | omega), by (first | exact Int.natCast_nonneg _ | lia | omega), ?_⟩
        · rw [← hu', upd_ne hub, hu5]
        · rw [← hu', upd_same, List.map_append]; rfl
        · rw [← hu', upd_ne (Ne.symm hbf), hf5]
        · rw [hfs, List.all_append]; simp
        · rw [List.length_append, List.length_singleton]; (first | exact Int.natCast_nonneg _ | lia | omega)
        · rw [List.append_assoc, ← hpair, hone, hso]; rfl
  · have hku : k = us.length := by have := of_decide_eq_false hc; rw [List.length_map] at this; (first | exact Int.natCast_nonneg _ | lia | omega)
    subst hku
    rw [List.drop_length] at hpair
    have hcs : cs = pairs us := by rw [← hpair]; simp [pairs]
    subst hcs
    refine hn0 _ _ (stp hr0 fun r0 K0 hr0 hn0 ht0 hc0 => ?_); conv => whnf
    cases ok with
    | true =>
      refine ⟨fun hc => (nomatch hc), fun _ => ?_⟩
      refine nib rfl ?_
      refine hn0 _ _ (stp hr0 fun r0 K0 hr0 hn0 ht0 hc0 => ?_)
      refine ⟨Nat.le_of_ble_eq_true rfl, new_i fun t3 σ₆ htf htg hx6 ho6 => ?_⟩
      refine ht0 _ _ _ ?_
      refine h t3 b f fs σ₆ (hx'.trans hx6) hσb hσf htg ?_ (hx6 _ _ hf') ?_ (by (first | exact Int.natCast_nonneg _ | lia | omega))
      · rw [if_pos rfl, List.append_nil]; exact hx6 _ _ hb'
      · rw [hfs]; rfl
    | false =>
      refine ⟨fun _ => ?_, fun hc => (nomatch hc)⟩
      refine stp rfl fun r1 K1 hr1 hn1 ht1 hc1 => ?_; conv => whnf
      first | refine mS (hf') ?_ | rw [hf']
      refine ⟨Nat.le_of_ble_eq_true rfl, new_i fun t3 σ₆ htf htg hx6 ho6 => ?_⟩
      have hb6 := hx6 _ _ hb'
      have hf6 := hx6 _ _ hf'
      conv => whnf
      first | refine mS (hf6) ?_ | rw [hf6]
      refine ⟨by (first | exact Int.natCast_nonneg _ | lia | omega), rfl, ?_⟩
      generalize hu : upd _ _ _ = σ₇
      have hb7 : σ₇ b = some (.list ((pairs us).map optV)) := by rw [← hu, upd_ne hbf, hb6]
      have hf7 : σ₇ f = some (.list (fs ++ [.ref t3])) := by rw [← hu, upd_same]
      have hx7 : Ext σ σ₇ := hu ▸ (hx'.trans hx6).put hσf
      refine hn1 _ _ (stp hr1 fun r1 K1 hr1 hn1 ht1 hc1 => ?_); conv => whnf
      first | refine mS (hb7) ?_ | rw [hb7]
      conv => whnf
      first | refine mS (hb7) ?_ | rw [hb7]
      refine ⟨by rw [List.length_map]; (first | exact Int.natCast_nonneg _ | lia | omega), rfl, ?_⟩
      generalize hu' : upd _ _ _ = σ₈
      refine hn1 _ _ (nib hr1 ?_)
      refine hn0 _ _ (stp hr0 fun r0 K0 hr0 hn0 ht0 hc0 => ?_)
      refine ⟨Nat.le_of_ble_eq_true rfl, new_i fun t4 σ₉ hth hti hx9 ho9 => ?_⟩
      refine ht0 _ _ _ ?_
      refine h t4 b f (fs ++ [.ref t3]) σ₉ ((hu' ▸ hx7.put hσb : Ext σ σ₈).trans hx9) hσb hσf hti (hx9 _ _ ?_) (hx9 _ _ ?_) (by simp) (by rw [List.length_append, List.length_singleton]; (first | exact Int.natCast_nonneg _ | lia | omega))
      · rw [← hu', upd_same, ifF rfl, List.map_append]; rfl
      · rw [← hu', upd_ne (Ne.symm hbf), hf7]
end

/-- a run from a place -/
noncomputable def runW (l : List Int) (k : Nat) : List Int := (l.take (k + 1 + runLen (l.drop (k + 1)))).drop (k + 1)
theorem takeWhile_take {p : Int → Bool} : ∀ l : List Int, l.take (l.takeWhile p).length = l.takeWhile p
  | [] => rfl
  | a :: r => by
    rw [List.takeWhile_cons]
    split
    · rw [List.length_cons, List.take_succ_cons, takeWhile_take r]
    · rfl
theorem runW_eq (l : List Int) (k : Nat) : runW l k = (l.drop (k + 1)).takeWhile b64 := by
  unfold runW runLen
  rw [List.drop_take, Nat.add_sub_cancel_left, takeWhile_take]
theorem runW_length (l : List Int) (k : Nat) : (runW l k).length = runLen (l.drop (k + 1)) := by rw [runW_eq]; rfl
theorem takeWhile_all {p : Int → Bool} : ∀ (l : List Int) (c : Int), c ∈ l.takeWhile p → p c = true
  | [], _, h => nomatch h
  | a :: r, c, h => by
    rw [List.takeWhile_cons] at h
    split at h
    · rcases List.mem_cons.mp h with rfl | h
      · assumption
      · exact takeWhile_all r c h
    · cases h
theorem runW_le (l : List Int) (k : Nat) : (runW l k).length ≤ l.length := by
  unfold runW
  rw [List.length_drop, List.length_take]
  omega
theorem runW_b64 (l : List Int) (k : Nat) : ∀ c ∈ runW l k, b64 c = true := fun c hc => takeWhile_all _ c (runW_eq l k ▸ hc)
/-- one step of the reading: codes, no fault, the next place -/
noncomputable def stepL (l : List Int) (k : Nat) : List (Option Int) × Bool × Nat := match l[k]? with
  | none => ([], true, k + 1)
  | some c => if c = 43 then
      (if runLen (l.drop (k + 1)) = 0 then (if l[k + 1]? = some 45 then ([some 43], true, k + 2) else ([none], false, k + 1))
       else (runCodes (num 64 ((runW l k).map dig) 0) (runW l k).length, runFine (num 64 ((runW l k).map dig) 0) (runW l k).length, if l[k + 1 + runLen (l.drop (k + 1))]? = some 45 then k + 1 + runLen (l.drop (k + 1)) + 1 else k + 1 + runLen (l.drop (k + 1))))
    else if isDir c true = true then ([some c], true, k + 1) else ([none], false, k + 1)
section
variable {P : Params} {cf : Cfg} {cl : Bool} {D : Nat} {σ : St} {Q : PV → St → Prop}
theorem c179 (hK : cf.K = frag P) {l : List Int} {k : Nat} (hl : l.length ≤ 65536) (hk : k < l.length)
    (h : ∀ t b f fs σ', Ext σ σ' → σ b = none → σ f = none → σ' t = some (.tup [.ref b, .ref f, .int ((stepL l k).2.2 : Nat)]) → σ' b = some (.list ((stepL l k).1.map optV)) →
      σ' f = some (.list fs) → fs.isEmpty = (stepL l k).2.1 → fs.length ≤ 65536 → Q (.ref t) σ') :
    Con cf cl (D + 4) 179 [.byt l, .int k] σ Q := by
  refine con179 (n := 12) hK _ _ fun C hC => ?_
  have hg : l[Int.toNat (k : Int)]? = some l[k] := List.getElem?_eq_getElem hk
  have hg' : l[k]? = some l[k] := List.getElem?_eq_getElem hk
  unfold stepL at h
  rw [hg'] at h
  generalize l[k] = c at h hg hg'
  dsimp only at h
  refine stp rfl fun r0 K0 hr0 hn0 ht0 hc0 => ?_
  refine ⟨by omega, hl, ?_⟩
  first | refine mS (hg) ?_ | rw [hg]
  conv => whnf
  refine hn0 _ _ (stp hr0 fun r0 K0 hr0 hn0 ht0 hc0 => ?_)
  refine ⟨fun hc => ?_, fun hc => ?_⟩
  · rw [if_neg (by simpa using hc)] at h
    refine stp rfl fun r1 K1 hr1 hn1 ht1 hc1 => ?_
    refine lvS (ifI (isDir c true) (fun K hK' => ?_) (fun hd => ?_) fun hd => ?_)
    · conv => whnf
      refine hC (c115 (D := D) hK ?_ |>.up)
      exact hK'
    · rw [if_pos hd] at h
      refine stp rfl fun r2 K2 hr2 hn2 ht2 hc2 => ?_
      refine ⟨Nat.le_of_ble_eq_true rfl, new_i fun b σ₁ hb0 hb1 hx1 ho1 => ?_⟩
      refine ⟨Nat.le_of_ble_eq_true rfl, new_i fun f σ₂ hf0 hf1 hx2 ho2 => ?_⟩
      refine ⟨Nat.le_of_ble_eq_true rfl, new_i fun t σ₃ hta htb hx3 ho3 => ?_⟩
      refine ht2 _ _ _ ?_
      refine ht1 _ _ _ ?_
      refine ht0 _ _ _ ?_
      have hσf : σ f = none := by
        cases q : σ f with
        | none => rfl
        | some o => have := hx1 _ _ q; rw [hf0] at this; cases this
      exact h t b f [] σ₃ ((hx1.trans hx2).trans hx3) hb0 hσf htb (hx3 _ _ (hx2 _ _ hb1)) (hx3 _ _ hf1) rfl (by simp)
    · rw [ifF hd] at h
      refine nib rfl ?_
      refine hn1 _ _ (stp hr1 fun r1 K1 hr1 hn1 ht1 hc1 => ?_)
      refine ⟨Nat.le_of_ble_eq_true rfl, new_i fun b σ₁ hb0 hb1 hx1 ho1 => ?_⟩
      refine ⟨Nat.le_of_ble_eq_true rfl, new_i fun g σ₂ hg0 hg1 hx2 ho2 => ?_⟩
      refine ⟨Nat.le_of_ble_eq_true rfl, new_i fun f σ₃ hf0 hf1 hx3 ho3 => ?_⟩
      refine ⟨Nat.le_of_ble_eq_true rfl, new_i fun t σ₄ hta htb hx4 ho4 => ?_⟩
      refine ht1 _ _ _ ?_
      refine ht0 _ _ _ ?_
      have hσf : σ f = none := by
        cases q : σ f with
        | none => rfl
        | some o => have := hx2 _ _ (hx1 _ _ q); rw [hf0] at this; cases this
      exact h t b f [.ref g] σ₄ (((hx1.trans hx2).trans hx3).trans hx4) hb0 hσf htb (hx4 _ _ (hx3 _ _ (hx2 _ _ hb1))) (hx4 _ _ hf1) rfl (by simp)
  · rw [if_pos (by simpa using hc)] at h
    refine nib rfl ?_
    refine hn0 _ _ (stp hr0 fun r0 K0 hr0 hn0 ht0 hc0 => ?_)
    refine hC ((c158 (D := D) (at' := k + 1) hK hl ?_).up)
    conv => whnf
    have hln := runW_length l k
    have hcut : (l.take (k + 1 + runLen (l.drop (k + 1)))).drop (k + 1) = runW l k := rfl
    have hb64 := runW_b64 l k
    have hwl := runW_le l k
    generalize runW l k = w at h hln hcut hb64 hwl
    generalize runLen (l.drop (k + 1)) = m at h hln hcut
    refine hn0 _ _ (stp hr0 fun r0 K0 hr0 hn0 ht0 hc0 => ?_)
    refine asgB (.bool (decide (l[k + 1 + m]? = some 45))) (fun K hK' => ?_) ?_
    · refine eAnd rfl fun q hq => ?_
      refine ⟨hl, ?_⟩
      refine ⟨fun hc => ?_, fun hc => ?_⟩
      · have hkm : k + 1 + m < l.length := by have := of_decide_eq_true ‹decide (((k + 1 + m : Nat) : Int) < _) = true›; omega
        refine eOne hq ?_
        refine ⟨by omega, hl, ?_⟩
        have hge : l[Int.toNat ((k + 1 + m : Nat) : Int)]? = some l[k + 1 + m] := List.getElem?_eq_getElem hkm
        first | refine mS (hge) ?_ | rw [hge]
        conv => whnf
        rw [List.getElem?_eq_getElem hkm] at hK'
        simp only [Option.some.injEq] at hK'
        rw [show (false ^^ decide (l[k + 1 + m] = 45)) = decide (l[k + 1 + m] = 45) from Bool.false_xor _]
        exact hK'
      · have hkm : l.length ≤ k + 1 + m := by have := of_decide_eq_false ‹decide (((k + 1 + m : Nat) : Int) < _) = false›; omega
        rw [List.getElem?_eq_none hkm] at hK'
        exact hK'
    conv => whnf
    refine hn0 _ _ (stp hr0 fun r0 K0 hr0 hn0 ht0 hc0 => ?_)
    refine ⟨fun hc => ?_, fun hc => ?_⟩
    · have hm : m = 0 := by
        have := of_decide_eq_true (by simpa using hc : decide (((k + 1 + m : Nat) : Int) = (k : Int) + 1) = true)
        omega
      subst hm
      rw [if_pos rfl] at h
      rw [Nat.add_zero]
      refine stp rfl fun r1 K1 hr1 hn1 ht1 hc1 => ?_
      refine ⟨fun hc => ?_, fun hc => ?_⟩
      · rw [if_pos (of_decide_eq_true hc)] at h
        refine stp rfl fun r2 K2 hr2 hn2 ht2 hc2 => ?_
        refine ⟨Nat.le_of_ble_eq_true rfl, new_i fun b σ₁ hb0 hb1 hx1 ho1 => ?_⟩
        refine ⟨Nat.le_of_ble_eq_true rfl, new_i fun f σ₂ hf0 hf1 hx2 ho2 => ?_⟩
        refine ⟨Nat.le_of_ble_eq_true rfl, new_i fun t σ₃ hta htb hx3 ho3 => ?_⟩
        refine ht2 _ _ _ ?_
        refine ht1 _ _ _ ?_
        refine ht0 _ _ _ ?_
        have hσf : σ f = none := by
          cases q : σ f with
          | none => rfl
          | some o => have := hx1 _ _ q; rw [hf0] at this; cases this
        exact h t b f [] σ₃ ((hx1.trans hx2).trans hx3) hb0 hσf htb (hx3 _ _ (hx2 _ _ hb1)) (hx3 _ _ hf1) rfl (by simp)
      · rw [if_neg (of_decide_eq_false hc)] at h
        refine nib rfl ?_
        refine hn1 _ _ (stp hr1 fun r1 K1 hr1 hn1 ht1 hc1 => ?_)
        refine ⟨Nat.le_of_ble_eq_true rfl, new_i fun b σ₁ hb0 hb1 hx1 ho1 => ?_⟩
        refine ⟨Nat.le_of_ble_eq_true rfl, new_i fun g σ₂ hg0 hg1 hx2 ho2 => ?_⟩
        refine ⟨Nat.le_of_ble_eq_true rfl, new_i fun f σ₃ hf0 hf1 hx3 ho3 => ?_⟩
        refine ⟨Nat.le_of_ble_eq_true rfl, new_i fun t σ₄ hta htb hx4 ho4 => ?_⟩
        refine ht1 _ _ _ ?_
        refine ht0 _ _ _ ?_
        have hσf : σ f = none := by
          cases q : σ f with
          | none => rfl
          | some o => have := hx2 _ _ (hx1 _ _ q); rw [hf0] at this; cases this
        exact h t b f [.ref g] σ₄ (((hx1.trans hx2).trans hx3).trans hx4) hb0 hσf htb (hx4 _ _ (hx3 _ _ (hx2 _ _ hb1))) (hx4 _ _ hf1) rfl (by simp)
    · have hm : m ≠ 0 := by
        have := of_decide_eq_false (by simpa using hc : decide (((k + 1 + m : Nat) : Int) = (k : Int) + 1) = false)
        omega
      rw [if_neg hm] at h
      refine nib rfl ?_
      refine hn0 _ _ (stp hr0 fun r0 K0 hr0 hn0 ht0 hc0 => ?_)
      refine hC ((c172 (D := D) (s := k + 1) (e := k + 1 + m) hK hl hcut (by omega) hb64 (by omega) fun t0 b f fs σ₁ hx1 hb0 hf0 hta hb1 hf1 hfs hfl => ?_).up)
      conv => whnf
      first | refine mS (hta) ?_ | rw [hta]
      refine ⟨rfl, ?_⟩
      conv => whnf
      refine hn0 _ _ (stp hr0 fun r0 K0 hr0 hn0 ht0 hc0 => ?_)
      refine ⟨fun hc => ?_, fun hc => ?_⟩
      · rw [if_pos (of_decide_eq_true hc)] at h
        refine ⟨Nat.le_of_ble_eq_true rfl, new_i fun t σ₂ htb htc hx2 ho2 => ?_⟩
        refine ht0 _ _ _ ?_
        exact h t b f fs σ₂ (hx1.trans hx2) hb0 hf0 htc (hx2 _ _ hb1) (hx2 _ _ hf1) hfs hfl
      · rw [if_neg (of_decide_eq_false hc)] at h
        refine ⟨Nat.le_of_ble_eq_true rfl, new_i fun t σ₂ htb htc hx2 ho2 => ?_⟩
        refine ht0 _ _ _ ?_
        exact h t b f fs σ₂ (hx1.trans hx2) hb0 hf0 htc (hx2 _ _ hb1) (hx2 _ _ hf1) hfs hfl
end

theorem runLen_le (s : List Int) : runLen s ≤ s.length := by
  unfold runLen
  induction s with
  | nil => exact Nat.le_refl _
  | cons a r ih =>
    rw [List.takeWhile_cons]
    split
    · simp only [List.length_cons]; (first | exact Int.natCast_nonneg _ | lia | omega)
    · simp
theorem runCodes_length (N : Int) (n : Nat) (hn : n ≠ 0) : (runCodes N n).length ≤ n := by
  unfold runCodes
  have h1 := pairs_length (uList N n)
  rw [uList_length] at h1
  rw [List.length_append]
  split
  · simp; (first | exact Int.natCast_nonneg _ | lia | omega)
  · simp; (first | exact Int.natCast_nonneg _ | lia | omega)
theorem stepL_ok {l : List Int} {k : Nat} (hk : k < l.length) : k < (stepL l k).2.2 ∧ (stepL l k).2.2 ≤ l.length ∧ (stepL l k).1.length + k ≤ (stepL l k).2.2 := by
  have h1 := runLen_le (l.drop (k + 1))
  rw [List.length_drop] at h1
  unfold stepL
  rw [List.getElem?_eq_getElem hk]
  dsimp only
  split
  · split
    · split
      · rename_i h
        have := (List.getElem?_eq_some_iff.mp h).1
        refine ⟨?_, ?_, ?_⟩ <;> simp <;> (first | exact Int.natCast_nonneg _ | lia | omega)
      · refine ⟨?_, ?_, ?_⟩ <;> simp <;> (first | exact Int.natCast_nonneg _ | lia | omega)
    · rename_i hm
      have h2 := runCodes_length (num 64 ((runW l k).map dig) 0) (runW l k).length (by rw [runW_length]; exact hm)
      rw [runW_length] at h2
      rw [runW_length]
      dsimp only
      split
      · rename_i h
        have := (List.getElem?_eq_some_iff.mp h).1
        refine ⟨?_, ?_, ?_⟩ <;> (first | exact Int.natCast_nonneg _ | lia | omega)
      · refine ⟨?_, ?_, ?_⟩ <;> (first | exact Int.natCast_nonneg _ | lia | omega)
  · split
    · refine ⟨?_, ?_, ?_⟩ <;> simp <;> (first | exact Int.natCast_nonneg _ | lia | omega)
    · refine ⟨?_, ?_, ?_⟩ <;> simp <;> (first | exact Int.natCast_nonneg _ | lia | omega)
noncomputable def readG : Nat → List Int → Nat → List (Option Int) × Bool
  | 0, _, _ => ([], true)
  | n + 1, l, k => if k < l.length then ((stepL l k).1 ++ (readG n l (stepL l k).2.2).1, (stepL l k).2.1 && (readG n l (stepL l k).2.2).2) else ([], true)
theorem readG_end {l : List Int} {k : Nat} (h : l.length ≤ k) : ∀ n, readG n l k = ([], true)
  | 0 => rfl
  | n + 1 => by unfold readG; rw [if_neg (by (first | exact Int.natCast_nonneg _ | lia | omega))]
theorem readG_fuel {l : List Int} : ∀ {n m k : Nat}, l.length - k ≤ n → l.length - k ≤ m → readG n l k = readG m l k
  | 0, m, k, h, _ => by rw [readG_end (by (first | exact Int.natCast_nonneg _ | lia | omega)), readG_end (by (first | exact Int.natCast_nonneg _ | lia | omega))]
  | n + 1, 0, k, _, h => by rw [readG_end (by (first | exact Int.natCast_nonneg _ | lia | omega)), readG_end (by (first | exact Int.natCast_nonneg _ | lia | omega))]
  | n + 1, m + 1, k, h1, h2 => by
    unfold readG
    by_cases hk : k < l.length
    · obtain ⟨s1, s2, s3⟩ := stepL_ok hk
      rw [if_pos hk, if_pos hk, readG_fuel (n := n) (m := m) (by (first | exact Int.natCast_nonneg _ | lia | omega)) (by (first | exact Int.natCast_nonneg _ | lia | omega))]
    · rw [if_neg hk, if_neg hk]
/-- all that is read from a place on -/
noncomputable def rd (l : List Int) (k : Nat) : List (Option Int) × Bool := readG (l.length - k) l k
theorem rd_end {l : List Int} {k : Nat} (h : l.length ≤ k) : rd l k = ([], true) := readG_end h _
theorem rd_step {l : List Int} {k : Nat} (hk : k < l.length) : rd l k = ((stepL l k).1 ++ (rd l (stepL l k).2.2).1, (stepL l k).2.1 && (rd l (stepL l k).2.2).2) := by
  obtain ⟨s1, s2, s3⟩ := stepL_ok hk
  have : rd l k = readG (l.length - k - 1 + 1) l k := by unfold rd; congr 1; (first | exact Int.natCast_nonneg _ | lia | omega)
  rw [this]
  unfold readG
  rw [if_pos hk]
  unfold rd
  rw [readG_fuel (n := l.length - k - 1) (m := l.length - (stepL l k).2.2) (by (first | exact Int.natCast_nonneg _ | lia | omega)) (by (first | exact Int.natCast_nonneg _ | lia | omega))]
noncomputable def rep : Option Int → Int
  | some i => i
  | none => 65533
section
variable {P : Params} {cf : Cfg} {cl : Bool} {D : Nat} {σ : St} {Q : PV → St → Prop}
theorem c198 (hK : cf.K = frag P) {l : List Int} (hl : l.length ≤ 65536) (h : ∀ σ', Ext σ σ' → Q (.bool (rd l 0).2) σ') : Con cf cl (D + 5) 198 [.byt l] σ Q := by
  refine con198 (n := 12) hK _ fun C hC => ?_
  refine stp rfl fun r0 K0 hr0 hn0 ht0 hc0 => ?_; conv => whnf
  refine hn0 _ _ (stp hr0 fun r0 K0 hr0 hn0 ht0 hc0 => ?_)
  refine whileI (fun n en σ' => ∃ k : Nat, n = l.length - k ∧ en = [(key "octets", .byt l), (key "at", .int k)] ∧ Ext σ σ' ∧ k ≤ l.length ∧ (rd l 0).2 = (rd l k).2) l.length [(key "octets", .byt l), (key "at", .int 0)] ?_ ?_ ?_
  · exact ⟨rfl, rfl, trivial⟩
  · exact ⟨0, rfl, rfl, .rfl, Nat.zero_le _, rfl⟩
  rintro b' hr' n en σ' KL hnL htL hcL ⟨k, rfl, rfl, hx, hkl, hrd⟩
  refine ⟨hl, ?_⟩
  refine ⟨fun hc => ?_, fun hc => ?_⟩
  · have hk : k < l.length := by have := of_decide_eq_true hc; (first | exact Int.natCast_nonneg _ | lia | omega)
    obtain ⟨s1, s2, s3⟩ := stepL_ok hk
    rw [rd_step hk] at hrd
    refine stp hr' fun r1 K1 hr1 hn1 ht1 hc1 => ?_
    refine hC ((c179 (D := D) hK hl hk fun t b f fs σ₁ hx1 hb0 hf0 ht hb hf hfs hfl => ?_).up)
    conv => whnf
    first | refine mS (ht) ?_ | rw [ht]
    refine ⟨rfl, ?_⟩
    refine hn1 _ _ (stp hr1 fun r1 K1 hr1 hn1 ht1 hc1 => ?_)
    refine ⟨Nat.le_of_ble_eq_true rfl, new_i fun g σ₂ hg0 hg1 hx2 ho2 => ?_⟩
    conv => whnf
    first | refine mS (hx2 _ _ hf) ?_ | rw [hx2 _ _ hf]
    conv => whnf
    first | refine mS (hg1) ?_ | rw [hg1]
    refine ⟨fun q => ?_, ?_⟩
    · have : fs = [] := List.length_eq_zero_iff.mp q
      subst this
      exact ⟨rfl, rfl⟩
    conv => whnf
    cases fs with
    | nil =>
      rw [← hfs] at hrd
      refine ⟨fun hc => (nomatch hc), fun _ => ?_⟩
      refine nib rfl ?_
      refine hn1 _ _ (nib hr1 ?_)
      exact hnL _ _ ⟨l.length - (stepL l k).2.2, [(key "octets", .byt l), (key "at", .int ((stepL l k).2.2 : Nat))], by (first | exact Int.natCast_nonneg _ | lia | omega), ⟨rfl, rfl, trivial⟩, (stepL l k).2.2, rfl, rfl, (hx.trans hx1).trans hx2, s2, hrd⟩
    | cons f0 fr' =>
      rw [← hfs] at hrd
      refine ⟨fun _ => ?_, fun hc => (nomatch hc)⟩
      refine stp rfl fun r2 K2 hr2 hn2 ht2 hc2 => ?_; conv => whnf
      refine ht2 _ _ _ ?_
      refine ht1 _ _ _ ?_
      refine htL _ _ _ ?_
      refine ht0 _ _ _ ?_
      have := h σ₂ ((hx.trans hx1).trans hx2)
      rw [hrd] at this
      exact this
  · have hk : l.length ≤ k := by have := of_decide_eq_false hc; (first | exact Int.natCast_nonneg _ | lia | omega)
    refine hn0 _ _ (stp hr0 fun r0 K0 hr0 hn0 ht0 hc0 => ?_); conv => whnf
    refine ht0 _ _ _ ?_
    have := h σ' hx
    rw [hrd, rd_end hk] at this
    exact this
end


section
variable {P : Params} {cf : Cfg} {cl : Bool} {D : Nat} {σ : St} {Q : PV → St → Prop}
theorem c191 (hK : cf.K = frag P) {l : List Int} (hl' : l.length ≤ 65535) (h : ∀ t σ', Ext σ σ' → σ t = none → σ' t = some (.list (((rd l 0).1.map rep).map .int)) → Q (.ref t) σ') : Con cf cl (D + 5) 191 [.byt l] σ Q := by
  have hl : l.length ≤ 65536 := by (first | exact Int.natCast_nonneg _ | lia | omega)
  refine con191 (n := 12) hK _ fun C hC => ?_
  refine stp rfl fun r0 K0 hr0 hn0 ht0 hc0 => ?_
  refine ⟨Nat.le_of_ble_eq_true rfl, new_i fun t σ₁ htn hta hx1 ho1 => ?_⟩
  refine ⟨Nat.le_of_ble_eq_true rfl, new_i fun g σ₂ hgn hga hx2 ho2 => ?_⟩
  conv => whnf
  first | refine mS (hga) ?_ | rw [hga]
  refine ⟨rfl, ?_⟩
  conv => whnf
  refine hn0 _ _ (stp hr0 fun r0 K0 hr0 hn0 ht0 hc0 => ?_)
  refine whileI (fun n en σ' => ∃ (k : Nat) (cs : List (Option Int)), n = l.length - k ∧ en = [(key "octets", .byt l), (key "text", .ref t), (key "at", .int k)] ∧ Ext σ σ' ∧ σ' t = some (.list ((cs.map rep).map .int)) ∧ k ≤ l.length ∧ cs.length ≤ k ∧ (rd l 0).1 = cs ++ (rd l k).1) l.length [(key "octets", .byt l), (key "text", .ref t), (key "at", .int 0)] ?_ ?_ ?_
  · exact ⟨rfl, rfl, rfl, trivial⟩
  · exact ⟨0, [], rfl, rfl, hx1.trans hx2, hx2 _ _ hta, Nat.zero_le _, Nat.le_refl _, rfl⟩
  rintro b' hr' n en σ' KL hnL htL hcL ⟨k, cs, rfl, rfl, hx, ht, hkl, hck, hrd⟩
  refine ⟨hl, ?_⟩
  refine ⟨fun hc => ?_, fun hc => ?_⟩
  · have hk : k < l.length := by have := of_decide_eq_true hc; (first | exact Int.natCast_nonneg _ | lia | omega)
    obtain ⟨s1, s2, s3⟩ := stepL_ok hk
    rw [rd_step hk] at hrd
    refine stp hr' fun r1 K1 hr1 hn1 ht1 hc1 => ?_
    refine hC ((c179 (D := D) hK hl hk fun u b f fs σ₃ hx3 hb0 hf0 hu hb hf hfs hfl => ?_).up)
    conv => whnf
    first | refine mS (hu) ?_ | rw [hu]
    refine ⟨rfl, ?_⟩
    refine hn1 _ _ (stp hr1 fun r1 K1 hr1 hn1 ht1 hc1 => ?_); conv => whnf
    have ht3 := hx3 _ _ ht
    first | refine mS (ht3) ?_ | rw [ht3]
    conv => whnf
    first | refine mS (hb) ?_ | rw [hb]
    refine ⟨(stepL l k).1.length, fun i vs σ'' => i ≤ (stepL l k).1.length ∧ vs = (((stepL l k).1.take i).map rep).map .int ∧ σ'' = σ₃, ⟨Nat.zero_le _, rfl, rfl⟩, ?_⟩
    rintro i vs σ'' ⟨hi, rfl, rfl⟩
    refine ⟨hi, by rw [List.length_map, List.length_map, List.length_take]; (first | exact Int.natCast_nonneg _ | lia | omega), by (first | exact Int.natCast_nonneg _ | lia | omega), ?_⟩
    conv => whnf
    first | refine mS (hb) ?_ | rw [hb]
    conv => whnf
    rw [List.getElem?_map]
    cases hci : (stepL l k).1[i]? with
    | none =>
      have hi2 : i = (stepL l k).1.length := by rw [List.getElem?_eq_none_iff] at hci; (first | exact Int.natCast_nonneg _ | lia | omega)
      subst hi2
      rw [List.take_length]
      conv => whnf
      intro c hc
      generalize hu : upd _ _ _ = σ₄
      have hx4 : Ext σ'' σ₄ := hu ▸ Ext.new hc
      have hc4 : σ₄ c = some (.list (((stepL l k).1.map rep).map .int)) := by rw [← hu, upd_same]
      have ht4 := hx4 _ _ ht3
      refine ⟨fun q => (by rw [← q, ht3] at hc; cases hc), ?_⟩
      conv => whnf
      first | refine mS (ht4) ?_ | rw [ht4]
      conv => whnf
      first | refine mS (hc4) ?_ | rw [hc4]
      refine ⟨by simp only [List.length_map]; (first | exact Int.natCast_nonneg _ | lia | omega), rfl, ?_⟩
      generalize hu' : upd _ _ _ = σ₅
      refine hn1 _ _ (nib hr1 ?_)
      refine hnL _ _ ⟨l.length - (stepL l k).2.2, [(key "octets", .byt l), (key "text", .ref t), (key "at", .int ((stepL l k).2.2 : Nat))], by (first | exact Int.natCast_nonneg _ | lia | omega), ⟨rfl, rfl, rfl, trivial⟩, (stepL l k).2.2, cs ++ (stepL l k).1, rfl, rfl, hu' ▸ ((hx.trans hx3).trans hx4).put htn, ?_, s2, by rw [List.length_append]; (first | exact Int.natCast_nonneg _ | lia | omega), ?_⟩
      · rw [← hu', upd_same, List.map_append, List.map_append]
      · rw [hrd, List.append_assoc]
    | some c =>
      have hil : i < (stepL l k).1.length := (List.getElem?_eq_some_iff.mp hci).1
      have htk : (((stepL l k).1.take (i + 1)).map rep).map PV.int = (((stepL l k).1.take i).map rep).map .int ++ [.int (rep c)] := by
        rw [List.take_add_one, hci]
        simp
      cases c with
      | none =>
        refine ⟨fun _ => ?_, fun hc => (nomatch hc)⟩
        conv => whnf
        exact ⟨hil, htk.symm, rfl⟩
      | some v =>
        refine ⟨fun hc => (nomatch hc), fun _ => ?_⟩
        conv => whnf
        exact ⟨hil, htk.symm, rfl⟩
  · have hk : l.length ≤ k := by have := of_decide_eq_false hc; (first | exact Int.natCast_nonneg _ | lia | omega)
    refine hn0 _ _ (stp hr0 fun r0 K0 hr0 hn0 ht0 hc0 => ?_); conv => whnf
    refine ht0 _ _ _ ?_
    refine h t σ' hx htn ?_
    rw [hrd, rd_end hk, List.append_nil]
    exact ht
end


noncomputable def SIXTY : List Int := [65, 66, 67, 68, 69, 70, 71, 72, 73, 74, 75, 76, 77, 78, 79, 80, 81, 82, 83, 84, 85, 86, 87, 88, 89, 90, 97, 98, 99, 100, 101, 102, 103, 104, 105, 106, 107, 108, 109, 110, 111, 112, 113, 114, 115, 116, 117, 118, 119, 120, 121, 122, 48, 49, 50, 51, 52, 53, 54, 55, 56, 57, 43, 47]
theorem byte_all (p : Int → Bool) (h : (List.range 256).all (fun n => p n) = true) {c : Int} (h0 : 0 ≤ c) (h1 : c < 256) : p c = true := by
  obtain ⟨n, rfl⟩ := Int.eq_ofNat_of_zero_le h0
  exact List.all_eq_true.mp h n (List.mem_range.mpr (by omega))
theorem sixty_b64 {c : Int} (h0 : 0 ≤ c) (h1 : c < 256) : SIXTY.contains c = b64 c := by
  have := byte_all (fun c => SIXTY.contains c == b64 c) (by decide +kernel) h0 h1
  simpa using this
theorem sixty_dig {c : Int} (h0 : 0 ≤ c) (h1 : c < 256) (hb : b64 c = true) : ((SIXTY.idxOf c : Nat) : Int) = dig c := by
  have := byte_all (fun c => !(b64 c) || ((SIXTY.idxOf c : Nat) : Int) == dig c) (by decide +kernel) h0 h1
  rw [hb] at this
  simpa using this
theorem law_dir {c : Int} (h0 : 0 ≤ c) (h1 : c < 256) : ((SIXTY.take 62).contains c || [39, 40, 41, 44, 45, 46, 47, 58, 63, 32, 9, 13, 10].contains c || [33, 34, 35, 36, 37, 38, 42, 59, 60, 61, 62, 64, 91, 93, 94, 95, 96, 123, 124, 125].contains c) = isDir c true := by
  have := byte_all (fun c => ((SIXTY.take 62).contains c || [39, 40, 41, 44, 45, 46, 47, 58, 63, 32, 9, 13, 10].contains c || [33, 34, 35, 36, 37, 38, 42, 59, 60, 61, 62, 64, 91, 93, 94, 95, 96, 123, 124, 125].contains c) == isDir c true) (by decide +kernel) h0 h1
  simpa using this
section
variable {P : Params} {cf : Cfg} {cl : Bool} {D : Nat} {σ : St} {Q : PV → St → Prop}
theorem c226 (hK : cf.K = frag P) (h : Q (.byt SIXTY) σ) : Con cf cl (D + 1) 226 [] σ Q := by
  refine con226 (n := 8) hK fun C hC => ?_
  refine stp rfl fun r0 K0 hr0 hn0 ht0 hc0 => ?_; conv => whnf
  refine ht0 _ _ _ ?_
  exact h
theorem lvR {C : Addr → List PV → St → (PV → St → Prop) → Prop} {n : Nat} {fr : Frm} {x : PySem.Expr} {pos : Pos} {e : En} {Q : Fl → En → St → Prop} (h : (lv cl C n).E fr x e σ fun v σ => Q (.ret v) e σ) : (lv cl C (n + 1)).S fr (.Return (some x) pos) e σ Q := h
theorem c233 (hK : cf.K = frag P) {n : Int} (h0 : 0 ≤ n) (h1 : n < 256) (h : Q (.bool (isDir n true)) σ) : Con cf cl (D + 2) 233 [.int n] σ Q := by
  refine con233 (n := 10) hK _ fun C hC => ?_
  rw [← law_dir h0 h1] at h
  refine stp rfl fun r0 K0 hr0 hn0 ht0 hc0 => ?_
  refine lvR (lvB (eOr rfl fun q hq => ?_))
  refine hC (c226 (D := D) hK ?_ |>.up)
  refine ⟨by decide, Nat.le_of_ble_eq_true rfl, ?_⟩
  refine ⟨h0, h1, ?_⟩
  have hcut : cut SIXTY none (some 62) = SIXTY.take 62 := rfl
  refine ⟨fun hc => ?_, fun hc => ?_⟩
  · refine ht0 _ _ _ ?_
    rw [show (SIXTY.take 62).contains n = true from hc, Bool.true_or, Bool.true_or] at h
    exact h
  rw [show (SIXTY.take 62).contains n = false from hc, Bool.false_or] at h
  refine eOr hq fun q hq => ?_
  refine ⟨h0, h1, ?_⟩
  refine ⟨fun hc => ?_, fun hc => ?_⟩
  · refine ht0 _ _ _ ?_
    rw [show [39, 40, 41, 44, 45, 46, 47, 58, 63, 32, 9, 13, 10].contains n = true from hc, Bool.true_or] at h
    exact h
  rw [show [39, 40, 41, 44, 45, 46, 47, 58, 63, 32, 9, 13, 10].contains n = false from hc, Bool.false_or] at h
  refine eOne hq ?_
  refine ⟨h0, h1, ?_⟩
  refine ht0 _ _ _ ?_
  exact h
end

section
variable {P : Params} {cf : Cfg} {cl : Bool} {D : Nat} {σ : St} {Q : PV → St → Prop}
theorem c240 (hK : cf.K = frag P) {N : Int} {m : Nat} (hN : 0 ≤ N) (hN' : N < 2 ^ (6 * m)) (hm : m ≤ 600)
    (h : ∀ t b σ', Ext σ σ' → σ b = none → σ' t = some (.tup [.ref b, .bool (uOk N m)]) → σ' b = some (.list ((uList N m).map .int)) → Q (.ref t) σ') :
    Con cf cl (D + 1) 240 [.int N, .int m] σ Q := by
  refine con240 (n := 12) hK _ _ fun C hC => ?_
  have hNs : small N := small_of (6 * m) hN hN' (by (first | exact Int.natCast_nonneg _ | lia | omega))
  have hms : small (m : Int) := small_of 24 (by (first | exact Int.natCast_nonneg _ | lia | omega)) (by show (m : Int) < 16777216; omega)
  have hms6 : small (6 * (m : Int)) := small_of 24 (by (first | exact Int.natCast_nonneg _ | lia | omega)) (by show 6 * (m : Int) < 16777216; omega)
  refine stp rfl fun r0 K0 hr0 hn0 ht0 hc0 => ?_
  refine ⟨by unfold small; decide, hms, ?_⟩
  refine ⟨by decide, ?_⟩
  refine ⟨Nat.le_of_ble_eq_true rfl, new_i fun b σ₁ hbn hba hx1 ho1 => ?_⟩
  refine ⟨Nat.le_of_ble_eq_true rfl, new_i fun g σ₂ hgn hga hx2 ho2 => ?_⟩
  conv => whnf
  first | refine mS (hga) ?_ | rw [hga]
  refine ⟨rfl, ?_⟩
  conv => whnf
  have hb2 := hx2 _ _ hba
  have hx := hx1.trans hx2
  have e6 : 6 * (m : Int) % 16 = ((6 * m % 16 : Nat) : Int) := by (first | exact Int.natCast_nonneg _ | lia | omega)
  have e7 : 6 * (m : Int) / 16 = ((6 * m / 16 : Nat) : Int) := by (first | exact Int.natCast_nonneg _ | lia | omega)
  rw [e6]
  refine hn0 _ _ (stp hr0 fun r0 K0 hr0 hn0 ht0 hc0 => ?_)
  refine forV (fun s' σ' => s' = .rng (6 * m / 16) ∧ Ext σ₂ σ') (fun K hK' => ?_) ?_
  · conv => whnf
    refine ⟨by unfold small; decide, hms, ?_⟩
    refine ⟨by decide, hms6, ?_⟩
    refine ⟨by (first | exact Int.natCast_nonneg _ | lia | omega), by (first | exact Int.natCast_nonneg _ | lia | omega), new_i fun r σ₃ hrn hra hx3 ho3 => ?_⟩
    refine hK' _ _ (srcR (n := 6 * m / 16) (by rw [hra, e7]; rfl) (by (first | exact Int.natCast_nonneg _ | lia | omega)) ⟨rfl, hx3⟩)
  rintro _ σ₃ ⟨rfl, hx3⟩
  have hb3 := hx3 _ _ hb2
  refine forI (6 * m / 16) (fun i e σ' => i ≤ 6 * m / 16 ∧ e = [(key "number", .int N), (key "many", .int m), (key "left", .int ((6 * m % 16 : Nat) : Int)), (key "found", .ref b)] ∧ Ext σ σ' ∧ σ' b = some (.list (((uList N m).take i).map .int)))
    [(key "number", .int N), (key "many", .int m), (key "left", .int ((6 * m % 16 : Nat) : Int)), (key "found", .ref b)] ?_ ?_ ?_
  · exact ⟨rfl, rfl, rfl, rfl, trivial⟩
  · exact ⟨Nat.zero_le _, rfl, hx.trans hx3, hb3⟩
  rintro b' hr' i e σ' KL hnL htL hcL ⟨hi, rfl, hx', hb'⟩
  refine ⟨hi, ?_⟩
  conv => whnf
  by_cases hil : i < 6 * m / 16
  · rw [if_pos hil]
    conv => whnf
    refine stp hr' fun r1 K1 hr1 hn1 ht1 hc1 => ?_
    conv => whnf
    first | refine mS (hb') ?_ | rw [hb']
    refine ⟨by unfold small; decide, hms, ?_⟩
    refine ⟨by unfold small; decide, small_of 24 (by (first | exact Int.natCast_nonneg _ | lia | omega)) (by show (i : Int) + 1 < 16777216; omega), ?_⟩
    refine ⟨rfl, by (first | exact Int.natCast_nonneg _ | lia | omega), by (first | exact Int.natCast_nonneg _ | lia | omega), ?_⟩
    refine ⟨pow_pos2 _, hNs, ?_⟩
    refine ⟨by decide, ?_⟩
    conv => whnf
    first | refine mS (hb') ?_ | rw [hb']
    refine ⟨by rw [List.length_map, List.length_take]; (first | exact Int.natCast_nonneg _ | lia | omega), rfl, ?_⟩
    generalize hu : upd _ _ _ = σ₄
    refine hn1 _ _ (nib hr1 ?_)
    refine hnL _ _ ⟨[(key "number", .int N), (key "many", .int m), (key "left", .int ((6 * m % 16 : Nat) : Int)), (key "found", .ref b)], ⟨rfl, rfl, rfl, rfl, trivial⟩, hil, rfl, hu ▸ hx'.put hbn, ?_⟩
    rw [← hu, upd_same]
    have hget : (uList N m)[i]? = some (N / 2 ^ (6 * m - 16 * (i + 1)) % 65536) := by
      unfold uList
      rw [List.getElem?_map, List.getElem?_range hil]
      rfl
    rw [List.take_add_one, hget, List.map_append, show (6 * (m : Int) - 16 * ((i : Int) + 1)).toNat = 6 * m - 16 * (i + 1) by (first | exact Int.natCast_nonneg _ | lia | omega)]
    rfl
  · rw [if_neg hil]
    have : i = 6 * m / 16 := by (first | exact Int.natCast_nonneg _ | lia | omega)
    subst this
    rw [← uList_length N m, List.take_length] at hb'
    refine hn0 _ _ (stp hr0 fun r0 K0 hr0 hn0 ht0 hc0 => ?_)
    refine ⟨fun hc => ?_, fun hc => ?_⟩
    · have hc' : decide (6 * m % 16 < 6) = true := by have := of_decide_eq_true hc; exact decide_eq_true (by (first | exact Int.natCast_nonneg _ | lia | omega))
      refine ⟨rfl, by (first | exact Int.natCast_nonneg _ | lia | omega), by (first | exact Int.natCast_nonneg _ | lia | omega), ?_⟩
      refine ⟨pow_pos2 _, ?_⟩
      refine ⟨Nat.le_of_ble_eq_true rfl, new_i fun t σ₄ htn hta hx4 ho4 => ?_⟩
      refine ht0 _ _ _ ?_
      refine h t b σ₄ (hx'.trans hx4) hbn ?_ (hx4 _ _ hb')
      rw [hta]
      unfold uOk
      rw [hc', Int.toNat_natCast]
      simp
    · have hc' : decide (6 * m % 16 < 6) = false := by have := of_decide_eq_false hc; exact decide_eq_false (by (first | exact Int.natCast_nonneg _ | lia | omega))
      refine ⟨Nat.le_of_ble_eq_true rfl, new_i fun t σ₄ htn hta hx4 ho4 => ?_⟩
      refine ht0 _ _ _ ?_
      refine h t b σ₄ (hx'.trans hx4) hbn ?_ (hx4 _ _ hb')
      rw [hta]
      unfold uOk
      rw [hc']
      simp
end

noncomputable def e247 (u : Addr) (r : Bool) (b : Addr) (x : Int) (ok : Bool) : En := [(key "units", .ref u), (key "is_right", .bool r), (key "found", .ref b), (key "at", .int x), (key "is_even", .bool ok)]
section
variable {P : Params} {cf : Cfg} {cl : Bool} {D : Nat} {σ : St} {Q : PV → St → Prop}
theorem c247 (hK : cf.K = frag P) {N : Int} {m : Nat} (hN : 0 ≤ N) (hN' : N < 2 ^ (6 * m)) (hm : m ≤ 600)
    (h : ∀ t b σ', Ext σ σ' → σ b = none → σ' t = some (.tup [.ref b, .bool (runFine N m)]) → σ' b = some (.list (((runCodes N m).map rep).map .int)) → Q (.ref t) σ') :
    Con cf cl (D + 2) 247 [.int N, .int m] σ Q := by
  refine con247 (n := 12) hK _ _ fun C hC => ?_
  refine stp rfl fun r0 K0 hr0 hn0 ht0 hc0 => ?_
  refine hC (c240 (D := D) hK hN hN' hm fun t0 u σ₁ hx1 hun hta hu1 => ?_).up
  have hln := uList_length N m
  unfold runCodes runFine at h
  generalize uList N m = us at h hu1 hln
  generalize uOk N m = ok at h hta
  conv => whnf
  first | refine mS (hta) ?_ | rw [hta]
  refine ⟨rfl, ?_⟩
  conv => whnf
  refine hn0 _ _ (stp hr0 fun r0 K0 hr0 hn0 ht0 hc0 => ?_)
  refine ⟨Nat.le_of_ble_eq_true rfl, new_i fun b σ₂ hb0 hb1 hx2 ho2 => ?_⟩
  refine ⟨Nat.le_of_ble_eq_true rfl, new_i fun t1 σ₃ htb htc hx3 ho3 => ?_⟩
  conv => whnf
  first | refine mS (htc) ?_ | rw [htc]
  refine ⟨rfl, ?_⟩
  conv => whnf
  have hub : u ≠ b := fun q => by rw [q, hb0] at hu1; cases hu1
  have hσb : σ b = none := by
    cases q : σ b with
    | none => rfl
    | some o => have := hx1 _ _ q; rw [hb0] at this; cases this
  have hx := (hx1.trans hx2).trans hx3
  refine hn0 _ _ (stp hr0 fun r0 K0 hr0 hn0 ht0 hc0 => ?_)
  refine whileI (fun n en σ' => ∃ (k : Nat) (cs : List (Option Int)), n = us.length - k ∧ en = (e247 u (ok && cs.all Option.isSome) b k ok) ∧
    Ext σ σ' ∧ σ' u = some (.list (us.map .int)) ∧ σ' b = some (.list ((cs.map rep).map .int)) ∧ cs.length ≤ k ∧ k ≤ us.length ∧ cs ++ pairs (us.drop k) = pairs us) us.length
    (e247 u ok b 0 ok) ?_ ?_ ?_
  · exact ⟨rfl, rfl, rfl, rfl, rfl, trivial⟩
  · exact ⟨0, [], rfl, by simp, hx, hx3 _ _ (hx2 _ _ hu1), hx3 _ _ hb1, Nat.le_refl _, Nat.zero_le _, rfl⟩
  rintro b' hr' n en σ' KL hnL htL hcL ⟨k, cs, rfl, rfl, hx', hu', hb', hck, hk, hpair⟩
  conv => whnf
  first | refine mS (hu') ?_ | rw [hu']
  refine ⟨by rw [List.length_map]; (first | exact Int.natCast_nonneg _ | lia | omega), ?_⟩
  refine ⟨fun hc => ?_, fun hc => ?_⟩
  · have hku : k < us.length := by have := of_decide_eq_true hc; rw [List.length_map] at this; (first | exact Int.natCast_nonneg _ | lia | omega)
    refine stp hr' fun r1 K1 hr1 hn1 ht1 hc1 => ?_
    have go : ∀ beh σ₅, beh = (match us[k + 1]? with | some v => v | none => 0) → Ext σ σ₅ → σ₅ u = some (.list (us.map .int)) → σ₅ b = some (.list ((cs.map rep).map .int)) →
        K1 .next (put (put (e247 u (ok && cs.all Option.isSome) b k ok) (key "unit") (.int us[k])) (key "behind") (.int beh)) σ₅ := by
      intro beh σ₅ hbeh hx5 hu5 hb5
      have hgu : us[k]? = some us[k] := List.getElem?_eq_getElem hku
      generalize us[k] = uu at hgu
      refine hn1 _ _ (stp hr1 fun r1 K1 hr1 hn1 ht1 hc1 => ?_)
      refine lvS (ifI (match us[k + 1]? with | some v => hi uu && lo v | none => false) ?_ ?_ ?_)
      · intro K hK'
        conv => whnf
        have e : (decide (55296 ≤ uu) && (decide (uu < 56320) && (decide (56320 ≤ beh) && decide (beh < 57344)))) = (match us[k + 1]? with | some v => hi uu && lo v | none => false) := by
          rw [hbeh]
          cases us[k + 1]? with
          | none => simp
          | some v =>
            unfold hi lo rng
            rw [Bool.eq_iff_iff]
            simp only [Bool.and_eq_true, decide_eq_true_eq]
            (first | exact Int.natCast_nonneg _ | lia | omega)
        rw [e]
        exact hK'
      · intro hc
        obtain ⟨hk1, hhl⟩ : ∃ h : k + 1 < us.length, (hi uu && lo us[k + 1]) = true := by
          by_cases hk1 : k + 1 < us.length
          · rw [List.getElem?_eq_getElem hk1] at hc
            exact ⟨hk1, hc⟩
          · rw [List.getElem?_eq_none (by (first | exact Int.natCast_nonneg _ | lia | omega))] at hc
            cases hc
        rw [List.getElem?_eq_getElem hk1] at hbeh
        have hp2 := pairs_two hgu (List.getElem?_eq_getElem hk1) hhl
        obtain ⟨hh1, hh2⟩ := Bool.and_eq_true_iff.mp (show (decide (55296 ≤ uu) && decide (uu ≤ 56319)) = true from (Bool.and_eq_true_iff.mp hhl).1)
        have hh1 := of_decide_eq_true hh1
        have hh2 := of_decide_eq_true hh2
        rw [← show beh = us[k + 1] from hbeh] at hp2
        refine stp rfl fun r2 K2 hr2 hn2 ht2 hc2 => ?_; conv => whnf
        first | refine mS (hb5) ?_ | rw [hb5]
        refine ⟨small_of 11 (by (first | exact Int.natCast_nonneg _ | lia | omega)) (by show uu - 55296 < 2048; (first | exact Int.natCast_nonneg _ | lia | omega)), by unfold small; decide, ?_⟩
        conv => whnf
        first | refine mS (hb5) ?_ | rw [hb5]
        refine ⟨by rw [List.length_map, List.length_map]; (first | exact Int.natCast_nonneg _ | lia | omega), rfl, ?_⟩
        generalize hu : upd _ _ _ = σ₆
        refine hn2 _ _ (stp hr2 fun r2 K2 hr2 hn2 ht2 hc2 => ?_); conv => whnf
        refine hn2 _ _ (nib hr2 ?_)
        refine hn1 _ _ (nib hr1 ?_)
        refine hnL _ _ ⟨us.length - (k + 2), (e247 u (ok && cs.all Option.isSome) b ((k + 2 : Nat) : Int) ok), by (first | exact Int.natCast_nonneg _ | lia | omega), ⟨rfl, rfl, rfl, rfl, rfl, trivial⟩,
          k + 2, cs ++ [some (65536 + (uu - 55296) * 1024 + beh - 56320)], rfl, ?_, hu ▸ hx5.put hσb, ?_, ?_, ?_, by (first | exact Int.natCast_nonneg _ | lia | omega), ?_⟩
        · rw [List.all_append]; simp
        · rw [← hu, upd_ne hub, hu5]
        · rw [← hu, upd_same, List.map_append, List.map_append]; rfl
        · rw [List.length_append, List.length_singleton]; (first | exact Int.natCast_nonneg _ | lia | omega)
        · rw [List.append_assoc, ← hpair, hp2]; rfl
      · intro hc
        have hone : pairs (us.drop k) = sole uu :: pairs (us.drop (k + 1)) := pairs_one hgu fun v hv => by rw [hv] at hc; exact hc
        have elone : (decide (55296 ≤ uu) && decide (uu < 57344)) = (hi uu || lo uu) := by
          unfold hi lo rng
          rw [Bool.eq_iff_iff]
          simp only [Bool.and_eq_true, Bool.or_eq_true, decide_eq_true_eq]
          (first | exact Int.natCast_nonneg _ | lia | omega)
        refine stp rfl fun r2 K2 hr2 hn2 ht2 hc2 => ?_; conv => whnf
        rw [elone]
        have hfin : ∀ σ₆ : St, Ext σ σ₆ → σ₆ u = some (.list (us.map .int)) → σ₆ b = some (.list (((cs ++ [sole uu]).map rep).map .int)) → ∀ en, wk (e247 u ((ok && cs.all Option.isSome) && !(hi uu || lo uu)) b ((k + 1 : Nat) : Int) ok) en → KL .next en σ₆ := by
          intro σ₆ hx6 hu6 hb6 en hwk
          refine hnL _ _ ⟨us.length - (k + 1), _, by (first | exact Int.natCast_nonneg _ | lia | omega), hwk, k + 1, cs ++ [sole uu], rfl, ?_, hx6, hu6, hb6, ?_, by (first | exact Int.natCast_nonneg _ | lia | omega), ?_⟩
          · rw [List.all_append]
            unfold sole
            cases (hi uu || lo uu) <;> simp
          · rw [List.length_append, List.length_singleton]; (first | exact Int.natCast_nonneg _ | lia | omega)
          · rw [List.append_assoc, ← hpair, hone]; rfl
        have hrep : (if (hi uu || lo uu) = true then PV.int 65533 else PV.int uu) = .int (rep (sole uu)) := by
          unfold sole
          cases (hi uu || lo uu) <;> rfl
        generalize (hi uu || lo uu) = lone at hfin hrep
        refine hn2 _ _ (stp hr2 fun r2 K2 hr2 hn2 ht2 hc2 => ?_); conv => whnf
        first | refine mS (hb5) ?_ | rw [hb5]
        conv => whnf
        have last : ∀ σ₆ : St, Ext σ σ₆ → σ₆ u = some (.list (us.map .int)) → σ₆ b = some (.list (((cs ++ [sole uu]).map rep).map .int)) → K2 .next (put (put (put (e247 u (ok && cs.all Option.isSome) b k ok) (key "unit") (.int uu)) (key "behind") (.int beh)) (key "is_lone") (.bool lone)) σ₆ := by
          intro σ₆ hx6 hu6 hb6
          refine hn2 _ _ (stp hr2 fun r2 K2 hr2 hn2 ht2 hc2 => ?_)
          refine asgB (.bool ((ok && cs.all Option.isSome) && !lone)) (fun K hK' => ?_) ?_
          · refine eAnd rfl fun q hq => ?_
            refine ⟨fun hc => ?_, fun hc => ?_⟩
            · refine eOne hq ?_
              rw [hc, Bool.true_and] at hK'
              conv => whnf
              exact hK'
            · rw [hc, Bool.false_and] at hK'
              exact hK'
          conv => whnf
          refine hn2 _ _ (stp hr2 fun r2 K2 hr2 hn2 ht2 hc2 => ?_); conv => whnf
          refine hn2 _ _ (nib hr2 ?_)
          refine hn1 _ _ (nib hr1 ?_)
          exact hfin σ₆ hx6 hu6 hb6 _ ⟨rfl, rfl, rfl, rfl, rfl, trivial⟩
        have done : ∀ σ₆, σ₆ = upd σ₅ b (.list ((cs.map rep).map .int ++ [.int (rep (sole uu))])) → Ext σ σ₆ ∧ σ₆ u = some (.list (us.map .int)) ∧ σ₆ b = some (.list (((cs ++ [sole uu]).map rep).map .int)) := by
          rintro σ₆ rfl
          refine ⟨hx5.put hσb, by rw [upd_ne hub, hu5], ?_⟩
          rw [upd_same, List.map_append, List.map_append]
          rfl
        refine ⟨fun hc => ?_, fun hc => ?_⟩
        · rw [if_pos hc] at hrep
          conv => whnf
          first | refine mS (hb5) ?_ | rw [hb5]
          refine ⟨by rw [List.length_map, List.length_map]; (first | exact Int.natCast_nonneg _ | lia | omega), rfl, ?_⟩
          obtain ⟨d1, d2, d3⟩ := done _ rfl
          have := last _ d1 d2 d3
          rw [← hrep] at this
          exact this
        · rw [ifF hc] at hrep
          conv => whnf
          first | refine mS (hb5) ?_ | rw [hb5]
          refine ⟨by rw [List.length_map, List.length_map]; (first | exact Int.natCast_nonneg _ | lia | omega), rfl, ?_⟩
          obtain ⟨d1, d2, d3⟩ := done _ rfl
          have := last _ d1 d2 d3
          rw [← hrep] at this
          exact this
    conv => whnf
    first | refine mS (hu') ?_ | rw [hu']
    refine ⟨by (first | exact Int.natCast_nonneg _ | lia | omega), by omega, ?_⟩
    have hg : (us.map PV.int)[Int.toNat (k : Int)]? = some (.int us[k]) := by rw [Int.toNat_natCast, List.getElem?_map, List.getElem?_eq_getElem hku]; rfl
    first | refine mS (hg) ?_ | rw [hg]
    conv => whnf
    first | refine mS (hu') ?_ | rw [hu']
    refine ⟨by rw [List.length_map]; (first | exact Int.natCast_nonneg _ | lia | omega), ?_⟩
    refine ⟨fun hc => ?_, fun hc => ?_⟩
    · have hk1 : k + 1 < us.length := by have := of_decide_eq_true ‹decide ((k : Int) + 1 < _) = true›; rw [List.length_map] at this; (first | exact Int.natCast_nonneg _ | lia | omega)
      have hg1 : (us.map PV.int)[Int.toNat ((k : Int) + 1)]? = some (.int us[k + 1]) := by rw [show Int.toNat ((k : Int) + 1) = k + 1 by (first | exact Int.natCast_nonneg _ | lia | omega), List.getElem?_map, List.getElem?_eq_getElem hk1]; rfl
      conv => whnf
      first | refine mS (hu') ?_ | rw [hu']
      refine ⟨by (first | exact Int.natCast_nonneg _ | lia | omega), by omega, ?_⟩
      first | refine mS (hg1) ?_ | rw [hg1]
      refine ⟨Nat.le_of_ble_eq_true rfl, new_i fun t2 σ₅ htd hte hx5 ho5 => ?_⟩
      conv => whnf
      first | refine mS (hte) ?_ | rw [hte]
      refine ⟨rfl, ?_⟩
      conv => whnf
      exact go _ σ₅ (by rw [List.getElem?_eq_getElem hk1]) (hx'.trans hx5) (hx5 _ _ hu') (hx5 _ _ hb')
    · have hk1 : us.length ≤ k + 1 := by have := of_decide_eq_false ‹decide ((k : Int) + 1 < _) = false›; rw [List.length_map] at this; (first | exact Int.natCast_nonneg _ | lia | omega)
      refine ⟨Nat.le_of_ble_eq_true rfl, new_i fun t2 σ₅ htd hte hx5 ho5 => ?_⟩
      conv => whnf
      first | refine mS (hte) ?_ | rw [hte]
      refine ⟨rfl, ?_⟩
      conv => whnf
      exact go _ σ₅ (by rw [List.getElem?_eq_none hk1]) (hx'.trans hx5) (hx5 _ _ hu') (hx5 _ _ hb')
  · have hku : k = us.length := by have := of_decide_eq_false hc; rw [List.length_map] at this; (first | exact Int.natCast_nonneg _ | lia | omega)
    subst hku
    rw [List.drop_length] at hpair
    have hcs : cs = pairs us := by rw [← hpair]; simp [pairs]
    subst hcs
    refine hn0 _ _ (stp hr0 fun r0 K0 hr0 hn0 ht0 hc0 => ?_); conv => whnf
    cases ok with
    | true =>
      refine ⟨fun _ => ?_, fun hc => (nomatch hc)⟩
      refine ⟨Nat.le_of_ble_eq_true rfl, new_i fun t2 σ₅ htd hte hx5 ho5 => ?_⟩
      refine ht0 _ _ _ ?_
      refine h t2 b σ₅ (hx'.trans hx5) hσb ?_ ?_
      · rw [hte]
      · rw [if_pos rfl, List.append_nil]; exact hx5 _ _ hb'
    | false =>
      refine ⟨fun hc => (nomatch hc), fun _ => ?_⟩
      refine ⟨Nat.le_of_ble_eq_true rfl, new_i fun g σ₅ hgn hga hx5 ho5 => ?_⟩
      have hb5 := hx5 _ _ hb'
      conv => whnf
      first | refine mS (hb5) ?_ | rw [hb5]
      conv => whnf
      first | refine mS (hga) ?_ | rw [hga]
      refine ⟨by rw [List.length_map, List.length_map]; simp; (first | exact Int.natCast_nonneg _ | lia | omega), new_i fun c σ₆ hcn hca hx6 ho6 => ?_⟩
      refine ⟨Nat.le_of_ble_eq_true rfl, new_i fun t2 σ₇ htd hte hx7 ho7 => ?_⟩
      refine ht0 _ _ _ ?_
      have hxx := hx'.trans hx5
      have hσc : σ c = none := by
        cases q : σ c with
        | none => rfl
        | some o => have := hxx _ _ q; rw [hcn] at this; cases this
      refine h t2 c σ₇ ((hxx.trans hx6).trans hx7) hσc ?_ ?_
      · rw [hte]
      · rw [hx7 _ _ hca, ifF rfl, List.map_append, List.map_append]; rfl
end

theorem takeWhile_at {p : Int → Bool} : ∀ (l : List Int) (i : Nat), i ≤ (l.takeWhile p).length → (if i < (l.takeWhile p).length then ∃ c, l[i]? = some c ∧ p c = true ∧ (l.takeWhile p)[i]? = some c else ∀ c, l[i]? = some c → p c = false)
  | [], i, h => by
    rw [if_neg (by simp)]
    intro c hc
    simp at hc
  | a :: r, i, h => by
    rw [List.takeWhile_cons] at h ⊢
    by_cases ha : p a = true
    · rw [if_pos ha] at h ⊢
      cases i with
      | zero => simp [ha]
      | succ i =>
        have := takeWhile_at r i (by simpa using h)
        simpa using this
    · rw [if_neg ha] at h ⊢
      have : i = 0 := by simpa using h
      subst this
      simpa using ha
theorem runW_at {l : List Int} {k i : Nat} (h : i ≤ (runW l k).length) : if i < (runW l k).length then ∃ c, l[k + 1 + i]? = some c ∧ b64 c = true ∧ (runW l k)[i]? = some c else ∀ c, l[k + 1 + i]? = some c → b64 c = false := by
  rw [runW_eq] at h ⊢
  have := takeWhile_at (p := b64) (l.drop (k + 1)) i h
  rw [List.getElem?_drop] at this
  exact this
theorem num_lt : ∀ (w : List Int) (a : Int) (n : Nat), (∀ d ∈ w, 0 ≤ d ∧ d < 64) → 0 ≤ a → a < 2 ^ (6 * n) → 0 ≤ num 64 w a ∧ num 64 w a < 2 ^ (6 * (n + w.length))
  | [], a, n, _, h0, h1 => ⟨h0, h1⟩
  | d :: r, a, n, h, h0, h1 => by
    obtain ⟨d0, d1⟩ := h d (.head _)
    have e : (2 : Int) ^ (6 * (n + 1)) = 2 ^ (6 * n) * 64 := by rw [show 6 * (n + 1) = 6 * n + 6 by (first | exact Int.natCast_nonneg _ | lia | omega), Int.pow_add]; rfl
    have := num_lt r (a * 64 + d) (n + 1) (fun x hx => h x (.tail _ hx)) (by (first | exact Int.natCast_nonneg _ | lia | omega)) (by rw [e]; (first | exact Int.natCast_nonneg _ | lia | omega))
    rw [show n + 1 + r.length = n + (r.length + 1) by (first | exact Int.natCast_nonneg _ | lia | omega)] at this
    exact this
theorem one_at (l : List Int) (n : Nat) (x : Int) : ((l.take (n + 1)).drop n = [x]) ↔ l[n]? = some x := by
  rw [List.drop_take, Nat.add_sub_cancel_left]
  rw [← List.head?_drop]
  cases l.drop n with
  | nil => simp
  | cons a r => simp
noncomputable def e254 (l : List Int) (b : Addr) (x : Int) (r : Bool) : En := [(key "octets", .byt l), (key "found", .ref b), (key "at", .int x), (key "is_right", .bool r)]
noncomputable def e254n (l : List Int) (b : Addr) (x : Int) (r : Bool) (y z : Int) : En := [(key "octets", .byt l), (key "found", .ref b), (key "at", .int x), (key "is_right", .bool r), (key "end", .int y), (key "number", .int z)]
section
variable {P : Params} {cf : Cfg} {cl : Bool} {D : Nat} {σ : St} {Q : PV → St → Prop}
theorem c254 (hK : cf.K = frag P) {l : List Int} (hl : l.length ≤ 600) (hby : ∀ c ∈ l, 0 ≤ c ∧ c < 256)
    (h : ∀ t b σ', Ext σ σ' → σ b = none → σ' t = some (.tup [.ref b, .bool (rd l 0).2]) → σ' b = some (.list (((rd l 0).1.map rep).map .int)) → Q (.ref t) σ') :
    Con cf cl (D + 3) 254 [.byt l] σ Q := by
  refine con254 (n := 14) hK _ fun C hC => ?_
  refine stp rfl fun r0 K0 hr0 hn0 ht0 hc0 => ?_
  refine ⟨Nat.le_of_ble_eq_true rfl, new_i fun b σ₁ hb0 hb1 hx1 ho1 => ?_⟩
  refine ⟨Nat.le_of_ble_eq_true rfl, new_i fun t1 σ₂ htb htc hx2 ho2 => ?_⟩
  conv => whnf
  first | refine mS (htc) ?_ | rw [htc]
  refine ⟨rfl, ?_⟩
  conv => whnf
  refine hn0 _ _ (stp hr0 fun r0 K0 hr0 hn0 ht0 hc0 => ?_)
  refine whileI (fun n en σ' => ∃ (k : Nat) (b : Addr) (cs : List (Option Int)) (r : Bool), n = l.length - k ∧ en = (e254 l b k r) ∧ Ext σ σ' ∧ σ b = none ∧ σ' b = some (.list ((cs.map rep).map .int)) ∧
    cs.length ≤ k ∧ k ≤ l.length ∧ (rd l 0).1 = cs ++ (rd l k).1 ∧ (rd l 0).2 = (r && (rd l k).2)) l.length (e254 l b 0 true) ?_ ?_ ?_
  · exact ⟨rfl, rfl, rfl, rfl, trivial⟩
  · exact ⟨0, b, [], true, rfl, rfl, hx1.trans hx2, hb0, hx2 _ _ hb1, Nat.le_refl _, Nat.zero_le _, rfl, rfl⟩
  clear hb0 hb1 htb htc
  rintro b' hr' n en σ' KL hnL htL hcL ⟨k, b, cs, r, rfl, rfl, hx, hb0, hb, hck, hkl, hrd1, hrd2⟩
  refine ⟨by (first | exact Int.natCast_nonneg _ | lia | omega), ?_⟩
  refine ⟨fun hc => ?_, fun hc => ?_⟩
  · have hk : k < l.length := by have := of_decide_eq_true hc; (first | exact Int.natCast_nonneg _ | lia | omega)
    have hg : l[Int.toNat (k : Int)]? = some l[k] := List.getElem?_eq_getElem hk
    have hg' : l[k]? = some l[k] := List.getElem?_eq_getElem hk
    obtain ⟨c0, c1⟩ := hby _ (List.getElem_mem hk)
    obtain ⟨s1, s2, s3⟩ := stepL_ok hk
    rw [rd_step hk] at hrd1 hrd2
    unfold stepL at hrd1 hrd2 s1 s2 s3
    rw [hg'] at hrd1 hrd2 s1 s2 s3
    generalize l[k] = c at hg hg' c0 c1 hrd1 hrd2 s1 s2 s3
    dsimp only at hrd1 hrd2 s1 s2 s3
    refine stp hr' fun r1 K1 hr1 hn1 ht1 hc1 => ?_
    refine lvS (ifI (!decide (c = 43)) (fun K hK' => ?_) (fun hd => ?_) fun hd => ?_)
    · conv => whnf
      refine ⟨by (first | exact Int.natCast_nonneg _ | lia | omega), by (first | exact Int.natCast_nonneg _ | lia | omega), ?_⟩
      first | refine mS (hg) ?_ | rw [hg]
      conv => whnf
      rw [Bool.true_xor]
      exact hK'
    · rw [if_neg (by simpa using hd)] at hrd1 hrd2 s1 s2 s3
      refine stp rfl fun r2 K2 hr2 hn2 ht2 hc2 => ?_
      refine ⟨by (first | exact Int.natCast_nonneg _ | lia | omega), by (first | exact Int.natCast_nonneg _ | lia | omega), ?_⟩
      first | refine mS (hg) ?_ | rw [hg]
      refine hC ((c233 (D := D) hK c0 c1 ?_).up)
      conv => whnf
      have hst : (if isDir c true = true then ([some c], true, k + 1) else ([none], false, k + 1) : List (Option Int) × Bool × Nat) = ([if isDir c true = true then some c else none], isDir c true, k + 1) := by
        cases isDir c true <;> rfl
      rw [hst] at hrd1 hrd2 s1 s2 s3
      generalize isDir c true = dd at hrd1 hrd2 s1 s2 s3
      dsimp only at hrd1 hrd2 s1 s2 s3
      refine hn2 _ _ (stp hr2 fun r2 K2 hr2 hn2 ht2 hc2 => ?_); conv => whnf
      first | refine mS (hb) ?_ | rw [hb]
      conv => whnf
      have tail : ∀ σ₄ : St, Ext σ σ₄ → σ₄ b = some (.list (((cs ++ [if dd = true then some c else none]).map rep).map .int)) → K2 .next (put (e254 l b k r) (key "can_stand") (.bool dd)) σ₄ := by
        intro σ₄ hx4 hb4
        have fin : ∀ σ₅ : St, Ext σ₄ σ₅ → ∀ en, wk (e254 l b ((k + 1 : Nat) : Int) (r && dd)) en → KL .cont en σ₅ := by
          intro σ₅ hx5 en hw
          refine hcL _ _ ⟨l.length - (k + 1), _, by (first | exact Int.natCast_nonneg _ | lia | omega), hw, k + 1, b, cs ++ [if dd = true then some c else none], r && dd, rfl, rfl, hx4.trans hx5, hb0, hx5 _ _ hb4, by rw [List.length_append, List.length_singleton]; (first | exact Int.natCast_nonneg _ | lia | omega), by (first | exact Int.natCast_nonneg _ | lia | omega), ?_, ?_⟩
          · rw [hrd1, List.append_assoc]
          · rw [hrd2, Bool.and_assoc]
        refine hn2 _ _ (stp hr2 fun r2 K2 hr2 hn2 ht2 hc2 => ?_); conv => whnf
        cases r with
        | true =>
          refine ⟨fun _ => ?_, fun hc => (nomatch hc)⟩
          refine eOne rfl ?_
          refine ⟨Nat.le_of_ble_eq_true rfl, new_i fun t2 σ₅ htd hte hx5 ho5 => ?_⟩
          conv => whnf
          first | refine mS (hte) ?_ | rw [hte]
          refine ⟨rfl, ?_⟩
          refine hn2 _ _ (stp hr2 fun r2 K2 hr2 hn2 ht2 hc2 => ?_); conv => whnf
          refine hc2 _ _ (hc1 _ _ (fin σ₅ hx5 _ ?_))
          exact ⟨rfl, rfl, rfl, rfl, trivial⟩
        | false =>
          refine ⟨fun hc => (nomatch hc), fun _ => ?_⟩
          refine ⟨Nat.le_of_ble_eq_true rfl, new_i fun t2 σ₅ htd hte hx5 ho5 => ?_⟩
          conv => whnf
          first | refine mS (hte) ?_ | rw [hte]
          refine ⟨rfl, ?_⟩
          refine hn2 _ _ (stp hr2 fun r2 K2 hr2 hn2 ht2 hc2 => ?_); conv => whnf
          refine hc2 _ _ (hc1 _ _ (fin σ₅ hx5 _ ?_))
          exact ⟨rfl, rfl, rfl, rfl, trivial⟩
      have up : ∀ x, x = rep (if dd = true then some c else none) → upd σ' b (.list ((cs.map rep).map .int ++ [.int x])) b = some (.list (((cs ++ [if dd = true then some c else none]).map rep).map .int)) := by
        rintro x rfl
        rw [upd_same, List.map_append, List.map_append]
        rfl
      refine ⟨fun hc => ?_, fun hc => ?_⟩
      · subst hc
        refine ⟨by (first | exact Int.natCast_nonneg _ | lia | omega), by (first | exact Int.natCast_nonneg _ | lia | omega), ?_⟩
        first | refine mS (hg) ?_ | rw [hg]
        conv => whnf
        first | refine mS (hb) ?_ | rw [hb]
        refine ⟨by rw [List.length_map, List.length_map]; (first | exact Int.natCast_nonneg _ | lia | omega), rfl, ?_⟩
        exact tail _ (hx.put hb0) (up c rfl)
      · subst hc
        conv => whnf
        first | refine mS (hb) ?_ | rw [hb]
        refine ⟨by rw [List.length_map, List.length_map]; (first | exact Int.natCast_nonneg _ | lia | omega), rfl, ?_⟩
        exact tail _ (hx.put hb0) (up 65533 rfl)
    · have hc43 : c = 43 := by simpa using hd
      rw [if_pos hc43] at hrd1 hrd2 s1 s2 s3
      refine nib rfl ?_
      refine hn1 _ _ (stp hr1 fun r1 K1 hr1 hn1 ht1 hc1 => ?_)
      refine ⟨Nat.le_of_ble_eq_true rfl, new_i fun t2 σ₃ htd hte hx3 ho3 => ?_⟩
      conv => whnf
      first | refine mS (hte) ?_ | rw [hte]
      refine ⟨rfl, ?_⟩
      conv => whnf
      have hb3 := hx3 _ _ hb
      have hwl := runW_length l k
      have hw64 := runW_b64 l k
      have hwle := runW_le l k
      refine hn1 _ _ (stp hr1 fun r1 K1 hr1 hn1 ht1 hc1 => ?_)
      refine whileI (fun n en σ' => ∃ i : Nat, n = (runW l k).length - i ∧ i ≤ (runW l k).length ∧ Ext σ₃ σ' ∧ en = (e254n l b k r ((k + 1 + i : Nat) : Int) (num 64 (((runW l k).take i).map dig) 0))) (runW l k).length
        (e254n l b k r ((k + 1 : Nat) : Int) 0) ?_ ?_ ?_
      · exact ⟨rfl, rfl, rfl, rfl, rfl, rfl, trivial⟩
      · exact ⟨0, rfl, Nat.zero_le _, .rfl, rfl⟩
      rintro b2 hb2 n en σ₄ KI hnI htI hcI ⟨i, rfl, hi, hxI, rfl⟩
      have hat : ∀ j, (l.drop (k + 1))[j]? = l[k + 1 + j]? := fun j => by rw [List.getElem?_drop]
      refine wT (decide (i < (runW l k).length)) (fun K hK' => ?_) (fun hc => ?_) fun hc => ?_
      · have hra := runW_at hi
        refine lvT (tAnd rfl fun q hq => ?_)
        refine ⟨by (first | exact Int.natCast_nonneg _ | lia | omega), ?_⟩
        refine ⟨fun hc => ?_, fun hc => ?_⟩
        · have hkl : k + 1 + i < l.length := by have := of_decide_eq_true ‹decide (((k + 1 + i : Nat) : Int) < _) = true›; (first | exact Int.natCast_nonneg _ | lia | omega)
          have hge : l[Int.toNat ((k + 1 + i : Nat) : Int)]? = some l[k + 1 + i] := List.getElem?_eq_getElem hkl
          obtain ⟨x0, x1⟩ := hby _ (List.getElem_mem hkl)
          refine tAnd hq fun q hq => ?_
          refine ⟨by (first | exact Int.natCast_nonneg _ | lia | omega), by (first | exact Int.natCast_nonneg _ | lia | omega), ?_⟩
          first | refine mS (hge) ?_ | rw [hge]
          refine hC ((c226 (D := D) hK ?_).up)
          refine ⟨x0, x1, ?_⟩
          rw [sixty_b64 x0 x1]
          by_cases hil : i < (runW l k).length
          · rw [if_pos hil] at hra
            obtain ⟨x, hx1, hx2, hx3⟩ := hra
            rw [List.getElem?_eq_getElem hkl] at hx1
            cases hx1
            rw [hx2]
            rw [decide_eq_true hil] at hK'
            refine ⟨fun _ => ?_, fun hc => (nomatch hc)⟩
            refine tAndZ hq ?_
            exact hK'
          · rw [if_neg hil] at hra
            rw [hra _ (List.getElem?_eq_getElem hkl)]
            rw [decide_eq_false hil] at hK'
            refine ⟨fun hc => (nomatch hc), fun _ => ?_⟩
            exact hK'
        · have hkl : l.length ≤ k + 1 + i := by have := of_decide_eq_false ‹decide (((k + 1 + i : Nat) : Int) < _) = false›; (first | exact Int.natCast_nonneg _ | lia | omega)
          by_cases hil : i < (runW l k).length
          · rw [if_pos hil] at hra
            obtain ⟨x, hx1, _⟩ := hra
            rw [List.getElem?_eq_none hkl] at hx1
            cases hx1
          · rw [decide_eq_false hil] at hK'
            exact hK'
      · have hil := of_decide_eq_true hc
        have hra := runW_at hi
        rw [if_pos hil] at hra
        obtain ⟨x, hx1, hx2, hx3⟩ := hra
        have hkl : k + 1 + i < l.length := (List.getElem?_eq_some_iff.mp hx1).1
        have hge : l[Int.toNat ((k + 1 + i : Nat) : Int)]? = some x := hx1
        obtain ⟨x0, x1⟩ := hby x (by rw [← (List.getElem?_eq_some_iff.mp hx1).2]; exact List.getElem_mem hkl)
        refine stp hb2 fun r2 K2 hr2 hn2 ht2 hc2 => ?_
        conv => whnf
        have hnum := num_lt (((runW l k).take i).map dig) 0 0 (fun d hd => by obtain ⟨y, _, rfl⟩ := List.mem_map.mp hd; exact dig_in) (by decide) (by decide)
        rw [List.length_map, List.length_take, Nat.zero_add, Nat.min_eq_left hi] at hnum
        have htk : num 64 (((runW l k).take (i + 1)).map dig) 0 = num 64 (((runW l k).take i).map dig) 0 * 64 + dig x := by
          rw [List.take_add_one, hx3]
          show num 64 (((runW l k).take i ++ [x]).map dig) 0 = _
          rw [List.map_append]
          exact num_snoc _ _ _ _
        refine ⟨small_of (6 * i) hnum.1 hnum.2 (by (first | exact Int.natCast_nonneg _ | lia | omega)), by unfold small; decide, ?_⟩
        refine hC ((c226 (D := D) hK ?_).up)
        refine ⟨by (first | exact Int.natCast_nonneg _ | lia | omega), by (first | exact Int.natCast_nonneg _ | lia | omega), ?_⟩
        first | refine mS (hge) ?_ | rw [hge]
        refine ⟨x0, x1, Nat.le_of_ble_eq_true rfl, ?_⟩
        rw [sixty_b64 x0 x1]
        refine ⟨hx2, ?_⟩
        rw [sixty_dig x0 x1 hx2]
        refine ⟨Nat.le_of_ble_eq_true rfl, new_i fun t3 σ₅ htf htg hx5 ho5 => ?_⟩
        conv => whnf
        first | refine mS (htg) ?_ | rw [htg]
        refine ⟨rfl, ?_⟩
        conv => whnf
        refine hn2 _ _ (nib hr2 ?_)
        refine hnI _ _ ⟨(runW l k).length - (i + 1), (e254n l b k r ((k + 1 + (i + 1) : Nat) : Int) (num 64 (((runW l k).take (i + 1)).map dig) 0)), by (first | exact Int.natCast_nonneg _ | lia | omega), ⟨rfl, rfl, rfl, rfl, rfl, by rw [htk]; rfl, trivial⟩, i + 1, rfl, hil, hxI.trans hx5, rfl⟩
      · have hil : i = (runW l k).length := by have := of_decide_eq_false hc; (first | exact Int.natCast_nonneg _ | lia | omega)
        subst hil
        rw [List.take_length]
        have hb4 := hxI _ _ hb3
        have hx4 := (hx.trans hx3).trans hxI
        rw [hwl] at hwle ⊢
        refine hn1 _ _ (stp hr1 fun r1 K1 hr1 hn1 ht1 hc1 => ?_)
        refine ⟨by (first | exact Int.natCast_nonneg _ | lia | omega), ?_⟩
        refine ⟨by (first | exact Int.natCast_nonneg _ | lia | omega), ?_⟩
        refine ⟨by (first | exact Int.natCast_nonneg _ | lia | omega), ?_⟩
        have hcut : decide (cut l (some ((k + 1 + runLen (l.drop (k + 1)) : Nat) : Int)) (some (((k + 1 + runLen (l.drop (k + 1)) : Nat) : Int) + 1)) = [45]) = decide (l[k + 1 + runLen (l.drop (k + 1))]? = some 45) := by
          show decide ((l.take (Int.toNat (((k + 1 + runLen (l.drop (k + 1)) : Nat) : Int) + 1))).drop (Int.toNat ((k + 1 + runLen (l.drop (k + 1)) : Nat) : Int)) = [45]) = _
          rw [show Int.toNat (((k + 1 + runLen (l.drop (k + 1)) : Nat) : Int) + 1) = k + 1 + runLen (l.drop (k + 1)) + 1 by (first | exact Int.natCast_nonneg _ | lia | omega), Int.toNat_natCast]
          exact decide_eq_decide.mpr (one_at _ _ _)
        have hnum := num_lt ((runW l k).map dig) 0 0 (fun d hd => by obtain ⟨y, _, rfl⟩ := List.mem_map.mp hd; exact dig_in) (by decide) (by decide)
        rw [List.length_map, Nat.zero_add] at hnum
        rw [hwl] at hnum hrd1 hrd2 s3
        generalize hNN : num 64 ((runW l k).map dig) 0 = N at hnum hrd1 hrd2 s1 s2 s3 ⊢
        generalize hmm : runLen (l.drop (k + 1)) = m at hcut hnum hrd1 hrd2 s1 s2 s3 hwle ⊢
        refine ⟨rfl, ?_⟩
        rw [show decide (cut l (some ((k + 1 + m : Nat) : Int)) (some (((k + 1 + m : Nat) : Int) + 1)) = List.map (fun c : UInt8 => (c.toNat : Int)) [45]) = decide (l[k + 1 + m]? = some 45) from hcut]
        generalize hcl : decide (l[k + 1 + m]? = some 45) = closed
        conv => whnf
        refine hn1 _ _ (stp hr1 fun r1 K1 hr1 hn1 ht1 hc1 => ?_)
        refine lvS (ifI (!decide (m = 0)) (fun K hK' => ?_) (fun hd => ?_) fun hd => ?_)
        · conv => whnf
          rw [show decide ((k : Int) + 1 < ((k + 1 + m : Nat) : Int)) = !decide (m = 0) by
            rw [Bool.eq_iff_iff]
            simp only [decide_eq_true_eq, Bool.not_eq_true', decide_eq_false_iff_not]
            (first | exact Int.natCast_nonneg _ | lia | omega)]
          exact hK'
        · have hm0 : m ≠ 0 := by simpa using hd
          rw [if_neg hm0] at hrd1 hrd2 s1 s2 s3
          dsimp only at hrd1 hrd2 s1 s2 s3
          refine stp rfl fun r2 K2 hr2 hn2 ht2 hc2 => ?_; conv => whnf
          rw [show ((k + 1 + m : Nat) : Int) - (k : Int) - 1 = (m : Int) by (first | exact Int.natCast_nonneg _ | lia | omega)]
          refine hC ((c247 (D := D) (m := m) hK hnum.1 hnum.2 (by (first | exact Int.natCast_nonneg _ | lia | omega)) fun t5 b5 σ₅ hx5 hbn5 ht5 hb5 => ?_).up)
          have hfb := hx5 _ _ hb4
          conv => whnf
          first | refine mS (ht5) ?_ | rw [ht5]
          refine ⟨rfl, ?_⟩
          conv => whnf
          refine hn2 _ _ (stp hr2 fun r2 K2 hr2 hn2 ht2 hc2 => ?_); conv => whnf
          first | refine mS (hfb) ?_ | rw [hfb]
          conv => whnf
          first | refine mS (hb5) ?_ | rw [hb5]
          conv => whnf
          have hcl5 := runCodes_length N m hm0
          have hex : ∀ {σ'' : St} {c : Addr}, Ext σ σ'' → σ'' c = none → σ c = none := fun {σ'' c} hh hn => by
            cases q : σ c with
            | none => rfl
            | some o => have := hh _ _ q; rw [hn] at this; cases this
          refine ⟨by simp only [List.length_map]; (first | exact Int.natCast_nonneg _ | lia | omega), new_i fun c σ₆ hcn hca hx6 ho6 => ?_⟩
          have hx46 := (hx4.trans hx5).trans hx6
          have hσc := hex (hx4.trans hx5) hcn
          have fin : ∀ σ₇ : St, Ext σ₆ σ₇ → ∀ en, wk (e254 l c ((k + 1 + m : Nat) + (if closed = true then (1 : Int) else 0)) (r && runFine N m)) en → KL .next en σ₇ := by
            intro σ₇ hx7 en hw
            have hnx : (if l[k + 1 + m]? = some 45 then k + 1 + m + 1 else k + 1 + m) = k + 1 + m + (if closed = true then 1 else 0) := by
              rw [← hcl]
              by_cases hq : l[k + 1 + m]? = some 45
              · rw [if_pos hq, decide_eq_true hq]; rfl
              · rw [if_neg hq, decide_eq_false hq]; rfl
            rw [hnx] at hrd1 hrd2 s1 s2 s3
            have hci : ((k + 1 + m : Nat) : Int) + (if closed = true then (1 : Int) else 0) = ((k + 1 + m + (if closed = true then 1 else 0) : Nat) : Int) := by cases closed <;> rfl
            rw [hci] at hw
            generalize k + 1 + m + (if closed = true then 1 else 0) = k' at hrd1 hrd2 s1 s2 s3 hw
            refine hnL _ _ ⟨l.length - k', _, by (first | exact Int.natCast_nonneg _ | lia | omega), hw, k', c, cs ++ runCodes N m, r && runFine N m, rfl, rfl, hx46.trans hx7, hσc, ?_, by rw [List.length_append]; (first | exact Int.natCast_nonneg _ | lia | omega), s2, ?_, ?_⟩
            · rw [hx7 _ _ hca, List.map_append, List.map_append]
            · rw [hrd1, List.append_assoc]
            · rw [hrd2, Bool.and_assoc]
          generalize runFine N m = dd at fin
          conv => whnf
          cases r with
          | true =>
            refine ⟨fun _ => ?_, fun hc => (nomatch hc)⟩
            refine eOne rfl ?_
            refine ⟨Nat.le_of_ble_eq_true rfl, new_i fun t6 σ₇ htf htg hx7 ho7 => ?_⟩
            conv => whnf
            first | refine mS (htg) ?_ | rw [htg]
            refine ⟨rfl, ?_⟩
            refine hn2 _ _ (nib hr2 ?_)
            refine hn1 _ _ (stp hr1 fun r1 K1 hr1 hn1 ht1 hc1 => ?_); conv => whnf
            refine hn1 _ _ (nib hr1 ?_)
            exact fin σ₇ hx7 _ ⟨rfl, rfl, rfl, rfl, trivial⟩
          | false =>
            refine ⟨fun hc => (nomatch hc), fun _ => ?_⟩
            refine ⟨Nat.le_of_ble_eq_true rfl, new_i fun t6 σ₇ htf htg hx7 ho7 => ?_⟩
            conv => whnf
            first | refine mS (htg) ?_ | rw [htg]
            refine ⟨rfl, ?_⟩
            refine hn2 _ _ (nib hr2 ?_)
            refine hn1 _ _ (stp hr1 fun r1 K1 hr1 hn1 ht1 hc1 => ?_); conv => whnf
            refine hn1 _ _ (nib hr1 ?_)
            exact fin σ₇ hx7 _ ⟨rfl, rfl, rfl, rfl, trivial⟩
        · have hm0 : m = 0 := by simpa using hd
          subst hm0
          rw [if_pos rfl] at hrd1 hrd2 s1 s2 s3
          have hst : (if l[k + 1]? = some 45 then ([some 43], true, k + 2) else ([none], false, k + 1) : List (Option Int) × Bool × Nat) = ([if closed = true then some 43 else none], closed, k + 1 + (if closed = true then 1 else 0)) := by
            rw [← hcl]
            by_cases hq : l[k + 1]? = some 45
            · rw [if_pos hq, decide_eq_true hq]; rfl
            · rw [if_neg hq, decide_eq_false hq]; rfl
          rw [hst] at hrd1 hrd2 s1 s2 s3
          dsimp only at hrd1 hrd2 s1 s2 s3
          clear hcl hst hcut
          refine stp rfl fun r2 K2 hr2 hn2 ht2 hc2 => ?_; conv => whnf
          have hex : ∀ {σ'' : St} {c : Addr}, Ext σ σ'' → σ'' c = none → σ c = none := fun {σ'' c} hh hn => by
            cases q : σ c with
            | none => rfl
            | some o => have := hh _ _ q; rw [hn] at this; cases this
          cases closed with
          | true =>
            simp only [if_pos] at hrd1 hrd2 s1 s2 s3
            refine ⟨fun _ => ?_, fun hc => (nomatch hc)⟩
            refine ⟨Nat.le_of_ble_eq_true rfl, new_i fun g σ₅ hgn hga hx5 ho5 => ?_⟩
            conv => whnf
            have hb5 := hx5 _ _ hb4
            first | refine mS (hb5) ?_ | rw [hb5]
            conv => whnf
            first | refine mS (hga) ?_ | rw [hga]
            refine ⟨by simp only [List.length_map, List.length_cons, List.length_nil]; (first | exact Int.natCast_nonneg _ | lia | omega), new_i fun c σ₆ hcn hca hx6 ho6 => ?_⟩
            have hx46 := (hx4.trans hx5).trans hx6
            have hσc := hex (hx4.trans hx5) hcn
            conv => whnf
            cases r with
            | true =>
              refine ⟨fun _ => ?_, fun hc => (nomatch hc)⟩
              refine eOne rfl ?_
              refine ⟨Nat.le_of_ble_eq_true rfl, new_i fun t6 σ₇ htf htg hx7 ho7 => ?_⟩
              conv => whnf
              first | refine mS (htg) ?_ | rw [htg]
              refine ⟨rfl, ?_⟩
              refine hn2 _ _ (nib hr2 ?_)
              refine hn1 _ _ (stp hr1 fun r1 K1 hr1 hn1 ht1 hc1 => ?_); conv => whnf
              refine hn1 _ _ (nib hr1 ?_)
              refine hnL _ _ ⟨l.length - (k + 1 + 1), (e254 l c ((k + 1 + 1 : Nat) : Int) true), by (first | exact Int.natCast_nonneg _ | lia | omega), ⟨rfl, rfl, rfl, rfl, trivial⟩, k + 1 + 1, c, cs ++ [some 43], true, rfl, rfl, hx46.trans hx7, hσc, ?_, by rw [List.length_append, List.length_singleton]; (first | exact Int.natCast_nonneg _ | lia | omega), s2, ?_, ?_⟩
              · rw [hx7 _ _ hca, List.map_append, List.map_append]; rfl
              · rw [hrd1, List.append_assoc]
              · rw [hrd2]; rfl
            | false =>
              refine ⟨fun hc => (nomatch hc), fun _ => ?_⟩
              refine ⟨Nat.le_of_ble_eq_true rfl, new_i fun t6 σ₇ htf htg hx7 ho7 => ?_⟩
              conv => whnf
              first | refine mS (htg) ?_ | rw [htg]
              refine ⟨rfl, ?_⟩
              refine hn2 _ _ (nib hr2 ?_)
              refine hn1 _ _ (stp hr1 fun r1 K1 hr1 hn1 ht1 hc1 => ?_); conv => whnf
              refine hn1 _ _ (nib hr1 ?_)
              refine hnL _ _ ⟨l.length - (k + 1 + 1), (e254 l c ((k + 1 + 1 : Nat) : Int) false), by (first | exact Int.natCast_nonneg _ | lia | omega), ⟨rfl, rfl, rfl, rfl, trivial⟩, k + 1 + 1, c, cs ++ [some 43], false, rfl, rfl, hx46.trans hx7, hσc, ?_, by rw [List.length_append, List.length_singleton]; (first | exact Int.natCast_nonneg _ | lia | omega), s2, ?_, ?_⟩
              · rw [hx7 _ _ hca, List.map_append, List.map_append]; rfl
              · rw [hrd1, List.append_assoc]
              · rw [hrd2]; rfl
          | false =>
            simp only [Bool.false_eq_true, if_false] at hrd1 hrd2 s1 s2 s3
            refine ⟨fun hc => (nomatch hc), fun _ => ?_⟩
            refine ⟨Nat.le_of_ble_eq_true rfl, new_i fun g σ₅ hgn hga hx5 ho5 => ?_⟩
            conv => whnf
            have hb5 := hx5 _ _ hb4
            first | refine mS (hb5) ?_ | rw [hb5]
            conv => whnf
            first | refine mS (hga) ?_ | rw [hga]
            refine ⟨by simp only [List.length_map, List.length_cons, List.length_nil]; (first | exact Int.natCast_nonneg _ | lia | omega), new_i fun c σ₆ hcn hca hx6 ho6 => ?_⟩
            have hx46 := (hx4.trans hx5).trans hx6
            have hσc := hex (hx4.trans hx5) hcn
            conv => whnf
            cases r with
            | true =>
              refine ⟨fun _ => ?_, fun hc => (nomatch hc)⟩
              refine eOne rfl ?_
              refine ⟨Nat.le_of_ble_eq_true rfl, new_i fun t6 σ₇ htf htg hx7 ho7 => ?_⟩
              conv => whnf
              first | refine mS (htg) ?_ | rw [htg]
              refine ⟨rfl, ?_⟩
              refine hn2 _ _ (nib hr2 ?_)
              refine hn1 _ _ (stp hr1 fun r1 K1 hr1 hn1 ht1 hc1 => ?_); conv => whnf
              refine hn1 _ _ (nib hr1 ?_)
              refine hnL _ _ ⟨l.length - (k + 1 + 0), (e254 l c ((k + 1 + 0 : Nat) : Int) false), by (first | exact Int.natCast_nonneg _ | lia | omega), ⟨rfl, rfl, rfl, rfl, trivial⟩, k + 1 + 0, c, cs ++ [none], false, rfl, rfl, hx46.trans hx7, hσc, ?_, by rw [List.length_append, List.length_singleton]; (first | exact Int.natCast_nonneg _ | lia | omega), s2, ?_, ?_⟩
              · rw [hx7 _ _ hca, List.map_append, List.map_append]; rfl
              · rw [hrd1, List.append_assoc]
              · rw [hrd2]; rfl
            | false =>
              refine ⟨fun hc => (nomatch hc), fun _ => ?_⟩
              refine ⟨Nat.le_of_ble_eq_true rfl, new_i fun t6 σ₇ htf htg hx7 ho7 => ?_⟩
              conv => whnf
              first | refine mS (htg) ?_ | rw [htg]
              refine ⟨rfl, ?_⟩
              refine hn2 _ _ (nib hr2 ?_)
              refine hn1 _ _ (stp hr1 fun r1 K1 hr1 hn1 ht1 hc1 => ?_); conv => whnf
              refine hn1 _ _ (nib hr1 ?_)
              refine hnL _ _ ⟨l.length - (k + 1 + 0), (e254 l c ((k + 1 + 0 : Nat) : Int) false), by (first | exact Int.natCast_nonneg _ | lia | omega), ⟨rfl, rfl, rfl, rfl, trivial⟩, k + 1 + 0, c, cs ++ [none], false, rfl, rfl, hx46.trans hx7, hσc, ?_, by rw [List.length_append, List.length_singleton]; (first | exact Int.natCast_nonneg _ | lia | omega), s2, ?_, ?_⟩
              · rw [hx7 _ _ hca, List.map_append, List.map_append]; rfl
              · rw [hrd1, List.append_assoc]
              · rw [hrd2]; rfl
  · have hk : l.length ≤ k := by have := of_decide_eq_false hc; (first | exact Int.natCast_nonneg _ | lia | omega)
    refine hn0 _ _ (stp hr0 fun r0 K0 hr0 hn0 ht0 hc0 => ?_)
    refine ⟨Nat.le_of_ble_eq_true rfl, new_i fun t2 σ₄ htd hte hx4 ho4 => ?_⟩
    refine ht0 _ _ _ ?_
    rw [rd_end hk] at hrd1 hrd2
    refine h t2 b σ₄ (hx.trans hx4) hb0 ?_ ?_
    · rw [hte, hrd2, Bool.and_true]
    · rw [hx4 _ _ hb, hrd1, List.append_nil]
end


/-- an octet that begins a code -/
noncomputable def lead (c : Int) : Bool := decide (c < 128) || decide (192 ≤ c)
section
variable {P : Params} {cf : Cfg} {cl : Bool} {D : Nat} {σ : St} {Q : PV → St → Prop}
theorem c205 (hK : cf.K = frag P) {l : List Int} {k : Nat} (hl : l.length ≤ 65536) (h : Q (.int (((l.take k).filter lead).length : Nat)) σ) : Con cf cl (D + 1) 205 [.byt l, .int k] σ Q := by
  refine con205 (n := 12) hK _ _ fun C hC => ?_
  refine stp rfl fun r0 K0 hr0 hn0 ht0 hc0 => ?_; conv => whnf
  refine hn0 _ _ (stp hr0 fun r0 K0 hr0 hn0 ht0 hc0 => ?_)
  refine forV (fun s' σ' => s' = .byt (l.take k) ∧ σ' = σ) (fun K hK => ?_) ?_
  · conv => whnf
    refine ⟨by (first | exact Int.natCast_nonneg _ | lia | omega), ?_⟩
    refine ⟨hl, ?_⟩
    exact hK _ _ (srcB ⟨rfl, rfl⟩)
  rintro _ σ ⟨rfl, rfl⟩
  have hwl : (l.take k).length ≤ l.length := by rw [List.length_take]; (first | exact Int.natCast_nonneg _ | lia | omega)
  generalize l.take k = w at h hwl ⊢
  refine forI w.length (fun i e σ' => i ≤ w.length ∧ e = [(key "many", .int (((w.take i).filter lead).length : Nat))] ∧ σ' = σ) [(key "many", .int 0)] ?_ ?_ ?_
  · exact ⟨rfl, trivial⟩
  · exact ⟨Nat.zero_le _, rfl, rfl⟩
  rintro b' hr' i e σ KL hnL htL hcL ⟨hi, rfl, rfl⟩
  refine ⟨hi, ?_⟩
  conv => whnf
  cases hi' : w[i]? with
  | none =>
    have : i = w.length := by rw [List.getElem?_eq_none_iff] at hi'; (first | exact Int.natCast_nonneg _ | lia | omega)
    subst this
    rw [List.take_length]
    refine hn0 _ _ (stp hr0 fun r0 K0 hr0 hn0 ht0 hc0 => ?_); conv => whnf
    refine ht0 _ _ _ ?_
    exact h
  | some c =>
    have hil : i < w.length := (List.getElem?_eq_some_iff.mp hi').1
    have htk : (w.take (i + 1)).filter lead = (w.take i).filter lead ++ (if lead c = true then [c] else []) := by
      rw [List.take_add_one, hi', List.filter_append]
      congr 1
      show [c].filter lead = _
      rw [List.filter_cons]
      rfl
    have fin : ∀ v : Int, v = (((w.take (i + 1)).filter lead).length : Nat) → ∀ en, wk [(key "many", .int v)] en → KL .next en σ := by
      rintro v rfl en hw
      exact hnL _ _ ⟨_, hw, hil, rfl, rfl⟩
    rw [htk] at fin
    conv => whnf
    refine stp hr' fun r1 K1 hr1 hn1 ht1 hc1 => ?_
    refine lvS (ifI (lead c) (fun K hK' => ?_) (fun hd => ?_) fun hd => ?_)
    · unfold lead at hK'
      refine lvT (tOr rfl fun q hq => ?_)
      refine ⟨fun hc => ?_, fun hc => ?_⟩
      · rw [hc, Bool.true_or] at hK'
        exact hK'
      · rw [hc, Bool.false_or] at hK'
        refine tOr hq fun q hq => ?_
        refine ⟨fun hc => ?_, fun hc => ?_⟩
        · rw [hc] at hK'
          exact hK'
        · rw [hc] at hK'
          refine tOrZ hq ?_
          exact hK'
    · rw [if_pos hd] at fin
      refine stp rfl fun r2 K2 hr2 hn2 ht2 hc2 => ?_; conv => whnf
      refine hn2 _ _ (nib hr2 ?_)
      refine hn1 _ _ (nib hr1 ?_)
      refine fin _ ?_ _ ⟨rfl, trivial⟩
      rw [List.length_append, List.length_singleton]; (first | exact Int.natCast_nonneg _ | lia | omega)
    · rw [ifF hd, List.append_nil] at fin
      refine nib rfl ?_
      refine hn1 _ _ (nib hr1 ?_)
      exact fin _ rfl _ ⟨rfl, trivial⟩
end

/-- the deck: where its cells lie, its number -/
noncomputable def Deck (σ : St) (d c : Addr) : Prop := ∃ (l : List Int) (m : Int), σ d = some (.dct [(key "cells", .ref c), (key "mixed", .int m)]) ∧ σ c = some (.list (l.map .int)) ∧ l.length ≤ 40 ∧ 0 ≤ m ∧ m < 2147483647
/-- nothing but the deck is changed -/
noncomputable def DExt (d c : Addr) (σ σ' : St) : Prop := ∀ a o, a ≠ d → a ≠ c → σ a = some o → σ' a = some o
theorem DExt.of {d c : Addr} {σ σ' : St} (h : Ext σ σ') : DExt d c σ σ' := fun a o _ _ q => h a o q
theorem DExt.trans {d c : Addr} {σ σ' σ'' : St} (h : DExt d c σ σ') (h' : DExt d c σ' σ'') : DExt d c σ σ'' := fun a o h1 h2 q => h' a o h1 h2 (h a o h1 h2 q)
theorem DExt.put {d c b : Addr} {σ σ' : St} {o : AO} (h : DExt d c σ σ') (hb : b = d ∨ b = c) : DExt d c σ (upd σ' b o) := fun a o' h1 h2 q => by
  have : a ≠ b := by rcases hb with rfl | rfl <;> assumption
  rw [upd_ne this]
  exact h a o' h1 h2 q
section
variable {P : Params} {cf : Cfg} {cl : Bool} {D : Nat} {σ : St} {Q : PV → St → Prop}
theorem allI_map : ∀ l : List Int, (l.map PV.int).all isI = true
  | [] => rfl
  | _ :: r => allI_map r
theorem c219 (hK : cf.K = frag P) {d c : Addr} {many : Int} (hd : Deck σ d c) (hm : 0 < many)
    (h : ∀ v σ', 0 ≤ v → v < many → Deck σ' d c → DExt d c σ σ' → Q (.int v) σ') : Con cf cl (D + 1) 219 [.ref d, .int many] σ Q := by
  obtain ⟨l, m, h1, h2, h3, h4, h5⟩ := hd
  have hdc : d ≠ c := fun q => by rw [q, h2] at h1; cases h1
  refine con219 (n := 12) hK _ _ fun C hC => ?_
  refine stp rfl fun r0 K0 hr0 hn0 ht0 hc0 => ?_; conv => whnf
  first | refine mS (h1) ?_ | rw [h1]
  refine ⟨by decide, ?_⟩
  refine ⟨Nat.le_of_ble_eq_true rfl, new_i fun g σ₁ hgn hga hx1 ho1 => ?_⟩
  have h1' := hx1 _ _ h1
  have h2' := hx1 _ _ h2
  conv => whnf
  first | refine mS (h2') ?_ | rw [h2']
  conv => whnf
  first | refine mS (hga) ?_ | rw [hga]
  refine ⟨fun q => ?_, ?_⟩
  · rw [List.length_map] at q
    have : l = [] := List.length_eq_zero_iff.mp q
    subst this
    exact ⟨rfl, rfl⟩
  conv => whnf
  rcases List.eq_nil_or_concat l with rfl | ⟨r, x, rfl⟩
  · refine ⟨fun hc => (nomatch hc), fun _ => ?_⟩
    refine nib rfl ?_
    refine hn0 _ _ (stp hr0 fun r0 K0 hr0 hn0 ht0 hc0 => ?_); conv => whnf
    first | refine mS (h1') ?_ | rw [h1']
    refine ⟨by decide, ?_⟩
    refine ⟨small_of 31 h4 (by show m < 2147483648; (first | exact Int.natCast_nonneg _ | lia | omega)), by unfold small; decide, ?_⟩
    refine ⟨by decide, ?_⟩
    conv => whnf
    first | refine mS (h1') ?_ | rw [h1']
    refine ⟨Nat.le_of_ble_eq_true rfl, by decide, rfl, ?_⟩
    generalize hu : upd _ _ _ = σ₂
    have hm0 : 0 ≤ (m * 16807 + 29) % 2147483647 := Int.emod_nonneg _ (by decide)
    have hm1 : (m * 16807 + 29) % 2147483647 < 2147483647 := Int.emod_lt_of_pos _ (by decide)
    have hd2 : σ₂ d = some (.dct [(key "cells", .ref c), (key "mixed", .int ((m * 16807 + 29) % 2147483647))]) := by rw [← hu, upd_same]; rfl
    have hc2 : σ₂ c = some (.list (([] : List Int).map .int)) := by rw [← hu, upd_ne (Ne.symm hdc)]; exact h2'
    have hx2 : DExt d c σ σ₂ := hu ▸ (DExt.of hx1).put (.inl rfl)
    clear hu
    generalize (m * 16807 + 29) % 2147483647 = m' at hm0 hm1 hd2
    refine hn0 _ _ (stp hr0 fun r0 K0 hr0 hn0 ht0 hc0 => ?_); conv => whnf
    first | refine mS (hd2) ?_ | rw [hd2]
    refine ⟨by decide, ?_⟩
    refine ⟨by decide, small_of 31 hm0 (by show m' < 2147483648; (first | exact Int.natCast_nonneg _ | lia | omega)), ?_⟩
    refine ⟨hm, ?_⟩
    refine ht0 _ _ _ ?_
    exact h _ σ₂ (Int.emod_nonneg _ (by (first | exact Int.natCast_nonneg _ | lia | omega))) (Int.emod_lt_of_pos _ hm) ⟨[], m', hd2, hc2, by simp, hm0, hm1⟩ hx2
  · rw [List.concat_eq_append] at h2' h3 ⊢
    rw [show decide (((r ++ [x]).map PV.int) = []) = false from decide_eq_false (by simp)]
    refine ⟨fun _ => ?_, fun hc => (nomatch hc)⟩
    refine stp rfl fun r1 K1 hr1 hn1 ht1 hc1 => ?_; conv => whnf
    first | refine mS (h1') ?_ | rw [h1']
    refine ⟨by decide, ?_⟩
    conv => whnf
    first | refine mS (h2') ?_ | rw [h2']
    conv => whnf
    first | refine mS (h2') ?_ | rw [h2']
    conv => whnf
    have hgl : (List.map PV.int (r ++ [x])).getLast? = some (.int x) := by rw [List.map_append]; simp
    have hdl : (List.map PV.int (r ++ [x])).dropLast = r.map .int := by rw [List.map_append]; simp
    rw [List.length_append, List.length_singleton] at h3
    refine ⟨by rw [List.length_map, List.length_append, List.length_singleton]; (first | exact Int.natCast_nonneg _ | lia | omega), allI_map _, ?_⟩
    rw [hdl]
    first | refine mS (hgl) ?_ | rw [hgl]
    refine ⟨hm, ?_⟩
    refine ht1 _ _ _ ?_
    refine ht0 _ _ _ ?_
    generalize hu : upd _ _ _ = σ₂
    refine h _ σ₂ (Int.emod_nonneg _ (by (first | exact Int.natCast_nonneg _ | lia | omega))) (Int.emod_lt_of_pos _ hm) ⟨r, m, ?_, ?_, by (first | exact Int.natCast_nonneg _ | lia | omega), h4, h5⟩ (hu ▸ (DExt.of hx1).put (.inr rfl))
    · rw [← hu, upd_ne hdc]; exact h1'
    · rw [← hu, upd_same]
end

section
variable {P : Params} {cf : Cfg} {cl : Bool} {D : Nat} {σ : St} {Q : PV → St → Prop}
theorem c212 (hK : cf.K = frag P) {a : Addr} {l : List Int} (ha : σ a = some (.flist (l.map .int))) (hl : l.length ≤ 63)
    (h : ∀ d c σ', Ext σ σ' → σ d = none → σ c = none → Deck σ' d c → Q (.ref d) σ') : Con cf cl (D + 1) 212 [.ref a] σ Q := by
  refine con212 (n := 12) hK _ fun C hC => ?_
  refine stp rfl fun r0 K0 hr0 hn0 ht0 hc0 => ?_
  refine ⟨by decide, ?_⟩
  conv => whnf
  first | refine mS (ha) ?_ | rw [ha]
  refine ⟨by rw [List.length_map]; (first | exact Int.natCast_nonneg _ | lia | omega), ?_⟩
  rw [show cut (l.map PV.int) none (some 40) = (l.take 40).map PV.int by rw [List.map_take]; rfl]
  have hl4 : (l.take 40).length ≤ 40 := by rw [List.length_take]; (first | exact Int.natCast_nonneg _ | lia | omega)
  generalize l.take 40 = w at hl4
  refine new_i fun b σ₁ hbn hba hx1 ho1 => ?_
  conv => whnf
  first | refine mS (hba) ?_ | rw [hba]
  refine ⟨w.length, fun i vs σ'' => i ≤ w.length ∧ vs = ((w.take i).map fun c => c % 1000000007).map .int ∧ σ'' = σ₁, ⟨Nat.zero_le _, rfl, rfl⟩, ?_⟩
  rintro i vs σ'' ⟨hi, rfl, rfl⟩
  refine ⟨hi, by rw [List.length_map, List.length_map, List.length_take]; (first | exact Int.natCast_nonneg _ | lia | omega), by (first | exact Int.natCast_nonneg _ | lia | omega), ?_⟩
  conv => whnf
  first | refine mS (hba) ?_ | rw [hba]
  conv => whnf
  rw [List.getElem?_map]
  cases hci : w[i]? with
  | none =>
    have hi2 : i = w.length := by rw [List.getElem?_eq_none_iff] at hci; (first | exact Int.natCast_nonneg _ | lia | omega)
    subst hi2
    rw [List.take_length]
    have hl5 : (w.map fun c => c % 1000000007).length ≤ 40 := by rw [List.length_map]; exact hl4
    generalize (w.map fun c => c % 1000000007) = cs at hl5
    conv => whnf
    intro c hc
    generalize hu : upd _ _ _ = σ₂
    have hx2 : Ext σ'' σ₂ := hu ▸ Ext.new hc
    have hc2 : σ₂ c = some (.list (cs.map .int)) := by rw [← hu, upd_same]
    clear hu
    refine ⟨Nat.le_of_ble_eq_true rfl, new_i fun g σ₃ hgn hga hx3 ho3 => ?_⟩
    conv => whnf
    first | refine mS (hga) ?_ | rw [hga]
    refine ⟨rfl, ?_⟩
    have hc3 := hx3 _ _ hc2
    conv => whnf
    have hx13 := (hx1.trans hx2).trans hx3
    refine hn0 _ _ (stp hr0 fun r0 K0 hr0 hn0 ht0 hc0 => ?_)
    refine forV (fun s' σ' => s' = .list c ∧ σ' = σ₃) (fun K hK' => ?_) ?_
    · conv => whnf
      exact hK' _ _ (srcL hc3 ⟨rfl, rfl⟩)
    rintro _ σ₃ ⟨rfl, rfl⟩
    refine forI cs.length (fun i e σ' => i ≤ cs.length ∧ σ' = σ₃ ∧ ∃ m : Int, e = [(key "cells", .ref c), (key "mixed", .int m)] ∧ 0 ≤ m ∧ m < 1000003) [(key "cells", .ref c), (key "mixed", .int 11)] ?_ ?_ ?_
    · exact ⟨rfl, rfl, trivial⟩
    · exact ⟨Nat.zero_le _, rfl, 11, rfl, by decide, by decide⟩
    rintro b' hr' i e σ₃ KL hnL htL hcL ⟨hi, rfl, m, rfl, hm0, hm1⟩
    refine ⟨hi, ?_⟩
    conv => whnf
    first | refine mS (hc3) ?_ | rw [hc3]
    conv => whnf
    rw [List.getElem?_map]
    cases hi' : cs[i]? with
    | none =>
      refine hn0 _ _ (stp hr0 fun r0 K0 hr0 hn0 ht0 hc0 => ?_); conv => whnf
      first | refine mS (hc3) ?_ | rw [hc3]
      refine ⟨by rw [List.length_map]; (first | exact Int.natCast_nonneg _ | lia | omega), ?_⟩
      rw [← List.map_reverse]
      refine new_i fun c' σ₄ hcn' hca' hx4 ho4 => ?_
      refine ⟨rfl, ?_⟩
      refine ⟨rfl, ?_⟩
      refine ⟨Nat.le_of_ble_eq_true rfl, List.cons_ne_nil _ _, new_i fun d σ₅ hdn hda hx5 ho5 => ?_⟩
      refine ht0 _ _ _ ?_
      have hex : ∀ {σ'' : St} {c : Addr}, Ext σ σ'' → σ'' c = none → σ c = none := fun {σ'' c} hh hn => by
        cases q : σ c with
        | none => rfl
        | some o => have := hh _ _ q; rw [hn] at this; cases this
      exact h d c' σ₅ ((hx13.trans hx4).trans hx5) (hex (hx13.trans hx4) hdn) (hex hx13 hcn') ⟨cs.reverse, m, hda, hx5 _ _ hca', by rw [List.length_reverse]; exact hl5, hm0, by (first | exact Int.natCast_nonneg _ | lia | omega)⟩
    | some x =>
      have hil : i < cs.length := (List.getElem?_eq_some_iff.mp hi').1
      conv => whnf
      refine stp hr' fun r1 K1 hr1 hn1 ht1 hc1 => ?_
      refine ⟨small_of 31 hm0 (by show m < 2147483648; (first | exact Int.natCast_nonneg _ | lia | omega)), by unfold small; decide, ?_⟩
      refine ⟨by decide, ?_⟩
      conv => whnf
      refine hn1 _ _ (nib hr1 ?_)
      exact hnL _ _ ⟨[(key "cells", .ref c), (key "mixed", .int ((m * 31 + x) % 1000003))], ⟨rfl, rfl, trivial⟩, hil, rfl, _, rfl, Int.emod_nonneg _ (by decide), Int.emod_lt_of_pos _ (by decide)⟩
  | some c =>
    have hil : i < w.length := (List.getElem?_eq_some_iff.mp hci).1
    refine ⟨by decide, hil, ?_, rfl⟩
    rw [List.take_add_one, hci]
    simp
end

section
variable {P : Params} {cf : Cfg} {cl : Bool} {D : Nat} {σ : St} {Q : PV → St → Prop}
theorem allOf_map : ∀ l : List Int, allOf intOf (l.map PV.int) = some l
  | [] => rfl
  | a :: r => by
    show (some a).bind (fun i => (allOf intOf (r.map PV.int)).map (i :: ·)) = _
    rw [allOf_map r]
    rfl
/-- the octets of one code: a lead, then others -/
noncomputable def oneCode (w : List Int) : Prop := ∃ x r, w = x :: r ∧ lead x = true ∧ (∀ y ∈ r, lead y = false) ∧ w.length ≤ 4 ∧ ∀ y ∈ w, 0 ≤ y ∧ y < 256
theorem c275 (hK : cf.K = frag P) {n : Int} (h0 : 0 ≤ n) (h1 : n ≤ 1114111)
    (h : ∀ w σ', Ext σ σ' → oneCode w → Q (.byt w) σ') : Con cf cl (D + 1) 275 [.int n] σ Q := by
  refine con275 (n := 13) hK _ fun C hC => ?_
  refine stp rfl fun r0 K0 hr0 hn0 ht0 hc0 => ?_
  refine ⟨fun hc => ?_, fun hc => ?_⟩
  · have hn := of_decide_eq_true hc
    refine stp rfl fun r1 K1 hr1 hn1 ht1 hc1 => ?_
    refine ⟨Nat.le_of_ble_eq_true rfl, new_i fun b σ₁ hbn hba hx1 ho1 => ?_⟩
    conv => whnf
    first | refine mS (hba) ?_ | rw [hba]
    refine ⟨Nat.le_of_ble_eq_true rfl, ?_, ?_⟩
    · intro x hx
      rcases List.mem_singleton.mp hx with rfl
      (first | exact Int.natCast_nonneg _ | lia | omega)
    conv => whnf
    refine ht1 _ _ _ ?_
    refine ht0 _ _ _ ?_
    refine h _ σ₁ hx1 ⟨n, [], rfl, ?_, fun y hy => (nomatch hy), by simp, fun y hy => ?_⟩
    · unfold lead; rw [hc]; rfl
    · rcases List.mem_singleton.mp hy with rfl
      (first | exact Int.natCast_nonneg _ | lia | omega)
  have hn := of_decide_eq_false hc
  refine nib rfl ?_
  refine hn0 _ _ (stp hr0 fun r0 K0 hr0 hn0 ht0 hc0 => ?_); conv => whnf
  have tail : ∀ (sz : Nat) (lb : Int), 2 ≤ sz → sz ≤ 4 → (sz = 2 ∧ lb = 192 ∨ sz = 3 ∧ lb = 224 ∨ sz = 4 ∧ lb = 240) → lb + n / 64 ^ (sz - 1) < 256 → K0 .next (put [(key "code", .int n)] (key "size") (.int sz)) σ := by
    intro sz lb hs2 hs4 hlb hx
    have hlk : lookI [(2, PV.int 192), (3, .int 224), (4, .int 240)] sz = some (.int lb) := by
      rcases hlb with ⟨rfl, rfl⟩ | ⟨rfl, rfl⟩ | ⟨rfl, rfl⟩ <;> rfl
    have hlb' : 192 ≤ lb := by (first | exact Int.natCast_nonneg _ | lia | omega)
    clear hlb
    refine hn0 _ _ (stp hr0 fun r0 K0 hr0 hn0 ht0 hc0 => ?_)
    refine ⟨Nat.le_of_ble_eq_true rfl, new_i fun b σ₁ hbn hba hx1 ho1 => ?_⟩
    conv => whnf
    refine hn0 _ _ (stp hr0 fun r0 K0 hr0 hn0 ht0 hc0 => ?_)
    refine forV (fun s' σ' => s' = .rng (sz - 1) ∧ Ext σ₁ σ') (fun K hK' => ?_) ?_
    · conv => whnf
      refine ⟨by (first | exact Int.natCast_nonneg _ | lia | omega), by (first | exact Int.natCast_nonneg _ | lia | omega), new_i fun r σ₃ hrn hra hx3 ho3 => ?_⟩
      refine hK' _ _ (srcR (n := sz - 1) (by rw [hra, show ((sz : Int) - 1).toNat = sz - 1 by (first | exact Int.natCast_nonneg _ | lia | omega)]) (by (first | exact Int.natCast_nonneg _ | lia | omega)) ⟨rfl, hx3⟩)
    rintro _ σ₃ ⟨rfl, hx3⟩
    refine forI (sz - 1) (fun i e σ' => i ≤ sz - 1 ∧ ∃ (b : Addr) (fs : List Int), e = [(key "code", .int (n / 64 ^ i)), (key "size", .int sz), (key "found", .ref b)] ∧ Ext σ σ' ∧ σ' b = some (.list (fs.map .int)) ∧ fs.length = i ∧ ∀ y ∈ fs, 128 ≤ y ∧ y < 192)
      [(key "code", .int n), (key "size", .int sz), (key "found", .ref b)] ?_ ?_ ?_
    · exact ⟨rfl, rfl, rfl, trivial⟩
    · refine ⟨Nat.zero_le _, b, [], by rw [Int.pow_zero, Int.ediv_one], hx1.trans hx3, hx3 _ _ hba, rfl, fun y hy => (nomatch hy)⟩
    rintro b' hr' i e σ' KL hnL htL hcL ⟨hi, b, fs, rfl, hx', hb', hfl, hfs⟩
    refine ⟨hi, ?_⟩
    conv => whnf
    by_cases hil : i < sz - 1
    · rw [if_pos hil]
      conv => whnf
      refine stp hr' fun r1 K1 hr1 hn1 ht1 hc1 => ?_
      conv => whnf
      have hq0 : 0 ≤ n / 64 ^ i := Int.ediv_nonneg h0 (Int.le_of_lt (Int.pow_pos (by decide)))
      have hq1 : n / 64 ^ i ≤ n := Int.ediv_le_self _ h0
      have hqn : n / 64 ^ (i + 1) = n / 64 ^ i / 64 := by rw [Int.pow_succ, Int.ediv_ediv_of_nonneg (Int.le_of_lt (Int.pow_pos (by decide)))]
      generalize n / 64 ^ i = q at hq0 hq1 hqn
      refine ⟨by decide, ?_⟩
      refine ⟨Nat.le_of_ble_eq_true rfl, new_i fun g σ₅ hgn hga hx5 ho5 => ?_⟩
      conv => whnf
      have hb5 := hx5 _ _ hb'
      first | refine mS (hga) ?_ | rw [hga]
      conv => whnf
      first | refine mS (hb5) ?_ | rw [hb5]
      refine ⟨by simp only [List.length_map, List.length_cons, List.length_nil]; (first | exact Int.natCast_nonneg _ | lia | omega), new_i fun c σ₆ hcn hca hx6 ho6 => ?_⟩
      conv => whnf
      refine hn1 _ _ (stp hr1 fun r1 K1 hr1 hn1 ht1 hc1 => ?_)
      refine ⟨by decide, small_of 31 hq0 (by show q < 2147483648; (first | exact Int.natCast_nonneg _ | lia | omega)), ?_⟩
      conv => whnf
      refine hn1 _ _ (nib hr1 ?_)
      refine hnL _ _ ⟨[(key "code", .int (n / 64 ^ (i + 1))), (key "size", .int sz), (key "found", .ref c)], ⟨by rw [hqn]; rfl, rfl, rfl, trivial⟩, hil, c, [128 + q % 64] ++ fs, rfl, (hx'.trans hx5).trans hx6, ?_, by rw [List.length_append, hfl, List.length_singleton]; (first | exact Int.natCast_nonneg _ | lia | omega), ?_⟩
      · rw [hca]; rfl
      · intro y hy
        rcases List.mem_append.mp hy with hy | hy
        · rcases List.mem_singleton.mp hy with rfl
          (first | exact Int.natCast_nonneg _ | lia | omega)
        · exact hfs y hy
    · rw [if_neg hil]
      have : i = sz - 1 := by (first | exact Int.natCast_nonneg _ | lia | omega)
      subst this
      refine hn0 _ _ (stp hr0 fun r0 K0 hr0 hn0 ht0 hc0 => ?_)
      refine ⟨rfl, ?_⟩
      refine ⟨rfl, ?_⟩
      refine ⟨rfl, ?_⟩
      refine ⟨Nat.le_of_ble_eq_true rfl, List.cons_ne_nil _ _, new_i fun d σ₄ hdn hda hx4 ho4 => ?_⟩
      conv => whnf
      first | refine mS (hda) ?_ | rw [hda]
      conv => whnf
      have hlk' : lookI [(2, PV.int 192), (3, .int 224), (4, .int 240)] sz = some (.int lb) := hlk
      first | refine mS (hlk') ?_ | rw [hlk']
      refine ⟨Nat.le_of_ble_eq_true rfl, new_i fun g σ₅ hgn hga hx5 ho5 => ?_⟩
      conv => whnf
      have hb5 := hx5 _ _ (hx4 _ _ hb')
      first | refine mS (hga) ?_ | rw [hga]
      conv => whnf
      first | refine mS (hb5) ?_ | rw [hb5]
      conv => whnf
      have hq0 : 0 ≤ n / 64 ^ (sz - 1) := Int.ediv_nonneg h0 (Int.le_of_lt (Int.pow_pos (by decide)))
      refine ⟨by simp only [List.length_map, List.length_cons, List.length_nil]; (first | exact Int.natCast_nonneg _ | lia | omega), new_i fun c σ₆ hcn hca hx6 ho6 => ?_⟩
      rw [show [PV.int (lb + n / 64 ^ (sz - 1))] ++ List.map PV.int fs = ((lb + n / 64 ^ (sz - 1)) :: fs).map PV.int from rfl] at hca
      conv => whnf
      first | refine mS (hca) ?_ | rw [hca]
      conv => whnf
      have hall := allOf_map ((lb + n / 64 ^ (sz - 1)) :: fs)
      first | refine mS (hall) ?_ | rw [hall]
      conv => whnf
      have hby : ∀ y ∈ (lb + n / 64 ^ (sz - 1)) :: fs, 0 ≤ y ∧ y < 256 := by
        intro y hy
        rcases List.mem_cons.mp hy with rfl | hy
        · (first | exact Int.natCast_nonneg _ | lia | omega)
        · have := hfs y hy; (first | exact Int.natCast_nonneg _ | lia | omega)
      refine ⟨by rw [List.length_cons]; (first | exact Int.natCast_nonneg _ | lia | omega), hby, ?_⟩
      refine ht0 _ _ _ ?_
      refine h _ σ₆ (((hx'.trans hx4).trans hx5).trans hx6) ⟨_, _, rfl, ?_, fun y hy => ?_, by rw [List.length_cons]; (first | exact Int.natCast_nonneg _ | lia | omega), hby⟩
      · unfold lead; rw [show decide (192 ≤ lb + n / 64 ^ (sz - 1)) = true from decide_eq_true (by (first | exact Int.natCast_nonneg _ | lia | omega)), Bool.or_true]
      · have := hfs y hy
        unfold lead
        rw [show decide (y < 128) = false from decide_eq_false (by (first | exact Int.natCast_nonneg _ | lia | omega)), show decide (192 ≤ y) = false from decide_eq_false (by (first | exact Int.natCast_nonneg _ | lia | omega))]
        rfl
  have h64 : ∀ k : Nat, (64 : Int) ^ k = ((64 ^ k : Nat) : Int) := fun k => by rw [Int.natCast_pow]; rfl
  refine ⟨fun hc => ?_, fun hc => ?_⟩
  · have := of_decide_eq_true hc
    exact tail 2 192 (by (first | exact Int.natCast_nonneg _ | lia | omega)) (by (first | exact Int.natCast_nonneg _ | lia | omega)) (by (first | exact Int.natCast_nonneg _ | lia | omega)) (by show 192 + n / 64 < 256; (first | exact Int.natCast_nonneg _ | lia | omega))
  have hn2 := of_decide_eq_false hc
  refine ⟨fun hc => ?_, fun hc => ?_⟩
  · have := of_decide_eq_true hc
    exact tail 3 224 (by (first | exact Int.natCast_nonneg _ | lia | omega)) (by (first | exact Int.natCast_nonneg _ | lia | omega)) (by (first | exact Int.natCast_nonneg _ | lia | omega)) (by show 224 + n / 4096 < 256; (first | exact Int.natCast_nonneg _ | lia | omega))
  · exact tail 4 240 (by (first | exact Int.natCast_nonneg _ | lia | omega)) (by (first | exact Int.natCast_nonneg _ | lia | omega)) (by (first | exact Int.natCast_nonneg _ | lia | omega)) (by show 240 + n / 262144 < 256; (first | exact Int.natCast_nonneg _ | lia | omega))
end

/-- digits that hold the units -/
noncomputable def Packed (us ds : List Int) : Prop := ∃ pad : Nat, allIn 64 ds ∧ pad < 6 ∧ 6 * ds.length = 16 * us.length + pad ∧ num 64 ds 0 = num 65536 us 0 * 2 ^ pad
theorem unitsOf_in : ∀ {l : List Int}, (∀ c ∈ l, 0 ≤ c ∧ c ≤ 1114111) → allIn 65536 (unitsOf l)
  | [], _ => fun _ h => nomatch h
  | c :: r, h => by
    obtain ⟨h0, h1⟩ := h c (.head _)
    intro x hx
    unfold unitsOf at hx
    rcases List.mem_append.mp hx with hx | hx
    · split at hx
      · rcases List.mem_singleton.mp hx with rfl
        (first | exact Int.natCast_nonneg _ | lia | omega)
      · simp only [List.mem_cons, List.not_mem_nil, or_false] at hx
        rcases hx with rfl | rfl <;> (first | exact Int.natCast_nonneg _ | lia | omega)
    · exact unitsOf_in (fun x hx => h x (.tail _ hx)) x hx
theorem sgn_in {v : Int} (h0 : 0 ≤ v) (h1 : v < 64) : 0 ≤ sgn v ∧ sgn v < 256 := by
  unfold sgn
  repeat' split
  all_goals (first | exact Int.natCast_nonneg _ | lia | omega)
noncomputable def e136 (f : Addr) (x y : Int) : En := [(key "is_mail", .bool false), (key "found", .ref f), (key "rest", .int x), (key "many", .int y)]
section
variable {P : Params} {cf : Cfg} {D : Nat} {σ : St} {Q : PV → St → Prop}
theorem c136 (hK : cf.K = frag P) {a : Addr} {l : List Int} (ha : σ a = some (.list (l.map .int))) (hl : l.length ≤ 1000) (hp : ∀ c ∈ l, 0 ≤ c ∧ c ≤ 1114111)
    (h : ∀ ds σ', Ext σ σ' → Packed (unitsOf l) ds → Q (.byt (ds.map sgn)) σ') : Con cf true (D + 2) 136 [.ref a, .bool false] σ Q := by
  refine con136 (n := 13) hK _ _ fun C hC => ?_
  refine stp rfl fun r0 K0 hr0 hn0 ht0 hc0 => ?_
  refine ⟨rfl, new_i fun f σ₁ hfn hfa hx1 ho1 => ?_⟩
  refine ⟨Nat.le_of_ble_eq_true rfl, new_i fun g σ₂ hgn hga hx2 ho2 => ?_⟩
  conv => whnf
  first | refine mS (hga) ?_ | rw [hga]
  refine ⟨rfl, ?_⟩
  conv => whnf
  have hf2 := hx2 _ _ hfa
  have hx := hx1.trans hx2
  have hin := unitsOf_in hp
  have hul := unitsOf_length l
  refine hn0 _ _ (stp hr0 fun r0 K0 hr0 hn0 ht0 hc0 => ?_)
  refine forV (fun s' σ' => ∃ u, s' = .list u ∧ Ext σ σ' ∧ σ' f = some (.ba []) ∧ σ' u = some (.list ((unitsOf l).map .int)) ∧ u ≠ f) (fun K hK' => ?_) ?_
  · conv => whnf
    refine hC ((c129 (D := D) hK (hx _ _ ha) hl (fun c hc => (hp c hc).1) fun u σ₃ hx3 hun hua => ?_).up)
    exact hK' _ _ (srcL hua ⟨u, rfl, hx.trans hx3, hx3 _ _ hf2, hua, fun q => by rw [q, hf2] at hun; cases hun⟩)
  rintro _ σ₃ ⟨u, rfl, hx3, hf3, hu3, huf⟩
  generalize unitsOf l = us at hin hul hu3 h
  refine forI us.length (fun i e σ' => i ≤ us.length ∧ ∃ (ds : List Int) (rest : Int) (many : Nat), e = (e136 f rest many) ∧ Ext σ σ' ∧ σ' f = some (.ba (ds.map sgn)) ∧ σ' u = some (.list (us.map .int)) ∧
    many < 6 ∧ 16 * i = 6 * ds.length + many ∧ allIn 64 ds ∧ 0 ≤ rest ∧ rest < 2 ^ many ∧ num 65536 (us.take i) 0 = num 64 ds 0 * 2 ^ many + rest)
    (e136 f 0 0) ?_ ?_ ?_
  · exact ⟨rfl, rfl, rfl, rfl, trivial⟩
  · exact ⟨Nat.zero_le _, [], 0, 0, rfl, hx3, hf3, hu3, by decide, rfl, (fun _ h => nomatch h), by decide, by decide, rfl⟩
  rintro b' hr' i e' σ' KL hnL htL hcL ⟨hi, ds, rest, many, rfl, hx', hf', hu', hm, hbits, hds, hre0, hre1, hnum⟩
  refine ⟨hi, ?_⟩
  conv => whnf
  first | refine mS (hu') ?_ | rw [hu']
  conv => whnf
  rw [List.getElem?_map]
  cases hi' : us[i]? with
  | none =>
    have : i = us.length := by rw [List.getElem?_eq_none_iff] at hi'; (first | exact Int.natCast_nonneg _ | lia | omega)
    subst this
    rw [List.take_length] at hnum
    refine hn0 _ _ (stp hr0 fun r0 K0 hr0 hn0 ht0 hc0 => ?_)
    refine ⟨fun hc => ?_, fun hc => ?_⟩
    · have hm0 : 0 < many := by have := of_decide_eq_true hc; (first | exact Int.natCast_nonneg _ | lia | omega)
      refine stp rfl fun r1 K1 hr1 hn1 ht1 hc1 => ?_; conv => whnf
      first | refine mS (hf') ?_ | rw [hf']
      refine ⟨small_of many hre0 hre1 (by (first | exact Int.natCast_nonneg _ | lia | omega)), by (first | exact Int.natCast_nonneg _ | lia | omega), by (first | exact Int.natCast_nonneg _ | lia | omega), ?_⟩
      refine hC ((c101 (D := D) hK ?_).up)
      rw [show (6 - (many : Int)).toNat = 6 - many by (first | exact Int.natCast_nonneg _ | lia | omega)]
      have e64 : (2 : Int) ^ many * 2 ^ (6 - many) = 64 := by rw [← Int.pow_add, show many + (6 - many) = 6 by (first | exact Int.natCast_nonneg _ | lia | omega)]; rfl
      have hp6 := pow_pos2 (6 - many)
      have hd0 : 0 ≤ rest * 2 ^ (6 - many) := Int.mul_nonneg hre0 (Int.le_of_lt hp6)
      have hd1 : rest * 2 ^ (6 - many) < 64 := by rw [← e64]; exact Int.mul_lt_mul_of_pos_right hre1 hp6
      have hnum' : num 64 (ds ++ [rest * 2 ^ (6 - many)]) 0 = num 65536 us 0 * 2 ^ (6 - many) := by
        rw [num_snoc, hnum, Int.add_mul, Int.mul_assoc, e64]
      generalize rest * 2 ^ (6 - many) = d at hd0 hd1 hnum'
      obtain ⟨g0, g1⟩ := sgn_in hd0 hd1
      conv => whnf
      first | refine mS (hf') ?_ | rw [hf']
      refine ⟨rfl, g0, g1, by rw [List.length_map]; (first | exact Int.natCast_nonneg _ | lia | omega), rfl, ?_⟩
      generalize hu : upd _ _ _ = σ₂
      have hf2 : σ₂ f = some (.ba ((ds ++ [d]).map sgn)) := by rw [← hu, upd_same, List.map_append]; rfl
      have hx2 : Ext σ σ₂ := hu ▸ hx'.put hfn
      refine hn1 _ _ (nib hr1 ?_)
      refine hn0 _ _ (stp hr0 fun r0 K0 hr0 hn0 ht0 hc0 => ?_); conv => whnf
      first | refine mS (hf2) ?_ | rw [hf2]
      refine ⟨by rw [List.length_map, List.length_append, List.length_singleton]; (first | exact Int.natCast_nonneg _ | lia | omega), ?_⟩
      refine ht0 _ _ _ ?_
      exact h (ds ++ [d]) σ₂ hx2 ⟨6 - many, hds.snoc hd0 hd1, by (first | exact Int.natCast_nonneg _ | lia | omega), by rw [List.length_append, List.length_singleton]; (first | exact Int.natCast_nonneg _ | lia | omega), hnum'⟩
    · have hm0 : many = 0 := by have := of_decide_eq_false hc; (first | exact Int.natCast_nonneg _ | lia | omega)
      subst hm0
      have hr0 : rest = 0 := by have : rest < 1 := hre1; (first | exact Int.natCast_nonneg _ | lia | omega)
      subst hr0
      refine nib rfl ?_
      refine hn0 _ _ (stp hr0 fun r0 K0 hr0 hn0 ht0 hc0 => ?_); conv => whnf
      first | refine mS (hf') ?_ | rw [hf']
      refine ⟨by rw [List.length_map]; (first | exact Int.natCast_nonneg _ | lia | omega), ?_⟩
      refine ht0 _ _ _ ?_
      exact h ds σ' hx' ⟨0, hds, by decide, by (first | exact Int.natCast_nonneg _ | lia | omega), by rw [hnum, Int.pow_zero, Int.mul_one, Int.mul_one, Int.add_zero]⟩
  | some c =>
    have hil : i < us.length := (List.getElem?_eq_some_iff.mp hi').1
    obtain ⟨c0, c1⟩ := hin c (by rw [← (List.getElem?_eq_some_iff.mp hi').2]; exact List.getElem_mem _)
    conv => whnf
    refine stp hr' fun r1 K1 hr1 hn1 ht1 hc1 => ?_
    conv => whnf
    have hsm : small rest := small_of many hre0 hre1 (by (first | exact Int.natCast_nonneg _ | lia | omega))
    refine ⟨hsm, by decide, by decide, ?_⟩
    conv => whnf
    rw [show Builtin.bitOr (rest * 2 ^ Int.toNat 16) c = rest * 2 ^ 16 + c from or_add hre0 c0 16 c1]
    have hz0 : 0 ≤ rest * 2 ^ 16 + c := by (first | exact Int.natCast_nonneg _ | lia | omega)
    have hz1 : rest * 2 ^ 16 + c < 2 ^ (many + 16) := by rw [Int.pow_add]; generalize (2 : Int) ^ many = z at hre1; show rest * 65536 + c < z * 65536; (first | exact Int.natCast_nonneg _ | lia | omega)
    have hnum1 : num 65536 (us.take (i + 1)) 0 = num 64 ds 0 * 2 ^ (many + 16) + (rest * 2 ^ 16 + c) := by
      rw [List.take_add_one, hi']
      show num 65536 (us.take i ++ [c]) 0 = _
      rw [num_snoc, hnum, Int.pow_add, ← Int.mul_assoc, Int.add_mul]
      show _ + rest * 65536 + c = _
      (first | exact Int.natCast_nonneg _ | lia | omega)
    have hm1 : many + 16 < 24 := by (first | exact Int.natCast_nonneg _ | lia | omega)
    have hb1 : 16 * (i + 1) = 6 * ds.length + (many + 16) := by (first | exact Int.natCast_nonneg _ | lia | omega)
    generalize rest * 2 ^ 16 + c = rest1 at hz0 hz1 hnum1
    refine hn1 _ _ (stp hr1 fun r1 K1 hr1 hn1 ht1 hc1 => ?_); conv => whnf
    refine hn1 _ _ (stp hr1 fun r1 K1 hr1 hn1 ht1 hc1 => ?_)
    refine whileI (fun n e σ' => ∃ (ds : List Int) (rest : Int) (many : Nat), n = many ∧ e = (e136 f rest many) ∧ Ext σ σ' ∧ σ' f = some (.ba (ds.map sgn)) ∧ σ' u = some (.list (us.map .int)) ∧
      many < 24 ∧ 16 * (i + 1) = 6 * ds.length + many ∧ allIn 64 ds ∧ 0 ≤ rest ∧ rest < 2 ^ many ∧ num 65536 (us.take (i + 1)) 0 = num 64 ds 0 * 2 ^ many + rest) (many + 16)
      (e136 f rest1 ((many + 16 : Nat) : Int)) ?_ ?_ ?_
    · exact ⟨rfl, rfl, rfl, rfl, trivial⟩
    · exact ⟨ds, rest1, many + 16, rfl, rfl, hx', hf', hu', hm1, hb1, hds, hz0, hz1, hnum1⟩
    clear hz0 hz1 hnum1 hm1 hb1 hx' hf' hu' hds hre0 hre1 hnum hbits hm hsm
    rintro b2 hb2 many en σ₄ KI hnI htI hcI ⟨ds, rest, _, rfl, rfl, hx', hf', hu', hm, hbits, hds, hre0, hre1, hnum⟩
    refine ⟨fun hc => ?_, fun hc => ?_⟩
    · have hm6 : 6 ≤ many := by have := of_decide_eq_true hc; (first | exact Int.natCast_nonneg _ | lia | omega)
      refine stp hb2 fun r2 K2 hr2 hn2 ht2 hc2 => ?_
      conv => whnf
      refine hn2 _ _ (stp hr2 fun r2 K2 hr2 hn2 ht2 hc2 => ?_); conv => whnf
      first | refine mS (hf') ?_ | rw [hf']
      refine ⟨by (first | exact Int.natCast_nonneg _ | lia | omega), ?_⟩
      rw [show ((many : Int) - 6).toNat = many - 6 by (first | exact Int.natCast_nonneg _ | lia | omega), show (many : Int) - 6 = ((many - 6 : Nat) : Int) by (first | exact Int.natCast_nonneg _ | lia | omega)]
      obtain ⟨m, rfl⟩ : ∃ m, many = m + 6 := ⟨many - 6, by (first | exact Int.natCast_nonneg _ | lia | omega)⟩
      rw [show m + 6 - 6 = m by (first | exact Int.natCast_nonneg _ | lia | omega)]
      have e64 : (2 : Int) ^ (m + 6) = 2 ^ m * 64 := by rw [Int.pow_add]; rfl
      have hpm := pow_pos2 m
      rw [e64] at hre1 hnum
      have hd0 : 0 ≤ rest / 2 ^ m := Int.ediv_nonneg hre0 (Int.le_of_lt hpm)
      have hd1 : rest / 2 ^ m < 64 := Int.ediv_lt_of_lt_mul hpm (by rw [Int.mul_comm]; exact hre1)
      have hz0 : 0 ≤ rest % 2 ^ m := Int.emod_nonneg _ (Int.ne_of_gt hpm)
      have hz1 : rest % 2 ^ m < 2 ^ m := Int.emod_lt_of_pos _ hpm
      have hnum' : num 65536 (us.take (i + 1)) 0 = num 64 (ds ++ [rest / 2 ^ m]) 0 * 2 ^ m + rest % 2 ^ m := by
        have h2 := Int.emod_add_mul_ediv rest (2 ^ m)
        rw [num_snoc, hnum, Int.add_mul, Int.mul_assoc, Int.mul_comm 64 (2 ^ m), Int.add_assoc, Int.mul_comm (rest / 2 ^ m), Int.add_comm (2 ^ m * (rest / 2 ^ m)), h2]
      have hmask : Builtin.bitAnd rest (1 * 2 ^ m - 1) = rest % 2 ^ m := by rw [Int.one_mul]; exact and_mask hre0 m
      obtain ⟨g0, g1⟩ := sgn_in hd0 hd1
      refine hC ((c101 (D := D) hK ?_).up)
      generalize rest / 2 ^ m = d at hd0 hd1 hnum' g0 g1
      conv => whnf
      first | refine mS (hf') ?_ | rw [hf']
      refine ⟨rfl, g0, g1, by rw [List.length_map]; (first | exact Int.natCast_nonneg _ | lia | omega), rfl, ?_⟩
      generalize hu : upd _ _ _ = σ₅
      have hf5 : σ₅ f = some (.ba ((ds ++ [d]).map sgn)) := by rw [← hu, upd_same, List.map_append]; rfl
      have huu : u ≠ f := fun q => by rw [q, hf'] at hu'; cases hu'
      have hu5 : σ₅ u = some (.list (us.map .int)) := by rw [← hu, upd_ne huu]; exact hu'
      have hx5 : Ext σ σ₅ := hu ▸ hx'.put hfn
      refine hn2 _ _ (stp hr2 fun r2 K2 hr2 hn2 ht2 hc2 => ?_)
      refine ⟨by unfold small; decide, by (first | exact Int.natCast_nonneg _ | lia | omega), by (first | exact Int.natCast_nonneg _ | lia | omega), ?_⟩
      rw [Int.toNat_natCast]
      conv => whnf
      rw [hmask]
      refine hn2 _ _ (nib hr2 ?_)
      exact hnI _ _ ⟨m, (e136 f (rest % 2 ^ m) (m : Nat)), by (first | exact Int.natCast_nonneg _ | lia | omega), ⟨rfl, rfl, rfl, rfl, trivial⟩, ds ++ [d], rest % 2 ^ m, m, rfl, rfl, hx5, hf5, hu5, by (first | exact Int.natCast_nonneg _ | lia | omega), by rw [List.length_append, List.length_singleton]; (first | exact Int.natCast_nonneg _ | lia | omega), hds.snoc hd0 hd1, hz0, hz1, hnum'⟩
    · have hm6 : many < 6 := by have := of_decide_eq_false hc; (first | exact Int.natCast_nonneg _ | lia | omega)
      refine hn1 _ _ (nib hr1 ?_)
      exact hnL _ _ ⟨(e136 f rest many), ⟨rfl, rfl, rfl, rfl, trivial⟩, hil, ds, rest, many, rfl, hx', hf', hu', hm6, hbits, hds, hre0, hre1, hnum⟩
end

/-- the octets of a run that is written, with what closes it -/
noncomputable def RunOct (l : List Int) (closed : Bool) (w : List Int) : Prop := if l = [] then w = [] else ∃ ds, Packed (unitsOf l) ds ∧ w = [43] ++ ds.map sgn ++ (if closed = true then [45] else [])
noncomputable def mustClose : Option Int → Bool
  | none => true
  | some c => decide (c = 45) || b64 c
section
variable {P : Params} {cf : Cfg} {D : Nat} {σ : St} {Q : PV → St → Prop}
theorem c143 (hK : cf.K = frag P) {a : Addr} {l : List Int} {beh : Option Int} (ha : σ a = some (.list (l.map .int))) (hl : l.length ≤ 1000) (hp : ∀ c ∈ l, 0 ≤ c ∧ c ≤ 1114111)
    (h : ∀ w σ', Ext σ σ' → RunOct l (mustClose beh) w → Q (.byt w) σ') : Con cf true (D + 3) 143 [.ref a, optV beh] σ Q := by
  refine con143 (n := 13) hK _ _ fun C hC => ?_
  refine stp rfl fun r0 K0 hr0 hn0 ht0 hc0 => ?_
  refine ⟨Nat.le_of_ble_eq_true rfl, new_i fun g σ₁ hgn hga hx1 ho1 => ?_⟩
  conv => whnf
  have ha1 := hx1 _ _ ha
  first | refine mS (ha1) ?_ | rw [ha1]
  conv => whnf
  first | refine mS (hga) ?_ | rw [hga]
  refine ⟨fun q => ?_, ?_⟩
  · rw [List.length_map] at q
    have : l = [] := List.length_eq_zero_iff.mp q
    subst this
    exact ⟨rfl, rfl⟩
  conv => whnf
  rcases l with _ | ⟨x, r⟩
  · refine ⟨fun _ => ?_, fun hc => (nomatch hc)⟩
    refine stp rfl fun r1 K1 hr1 hn1 ht1 hc1 => ?_; conv => whnf
    refine ht1 _ _ _ ?_
    refine ht0 _ _ _ ?_
    exact h [] σ₁ hx1 (show RunOct [] _ [] by unfold RunOct; rw [if_pos rfl])
  · rw [show decide ((x :: r).map PV.int = []) = false from rfl]
    refine ⟨fun hc => (nomatch hc), fun _ => ?_⟩
    refine nib rfl ?_
    have hRun : ∀ w, (∃ ds, Packed (unitsOf (x :: r)) ds ∧ w = [43] ++ ds.map sgn ++ (if mustClose beh = true then [45] else [])) → RunOct (x :: r) (mustClose beh) w := fun w hw => by
      unfold RunOct
      rw [if_neg (List.cons_ne_nil _ _)]
      exact hw
    refine hn0 _ _ (stp hr0 fun r0 K0 hr0 hn0 ht0 hc0 => ?_)
    refine asgB (.bool (mustClose beh)) (fun K hK' => ?_) ?_
    · refine eOr rfl fun q hq => ?_
      cases beh with
      | none =>
        refine ⟨fun _ => ?_, fun hc => (nomatch hc)⟩
        exact hK'
      | some c =>
        refine ⟨fun hc => (nomatch hc), fun _ => ?_⟩
        refine eOr hq fun q hq => ?_
        refine ⟨fun hc => ?_, fun hc => ?_⟩
        · rw [Bool.false_xor] at hc
          rw [show mustClose (some c) = true by show (decide (c = 45) || b64 c) = true; rw [hc]; rfl] at hK'
          exact hK'
        · rw [Bool.false_xor] at hc
          rw [show mustClose (some c) = b64 c by show (decide (c = 45) || b64 c) = b64 c; rw [hc]; rfl] at hK'
          refine eOne hq ?_
          refine hC ((c108 (D := D) hK ?_).up)
          unfold b64 at hK'
          cases hv : valO c with
          | none =>
            rw [hv] at hK'
            conv => whnf
            exact hK'
          | some v =>
            rw [hv] at hK'
            conv => whnf
            exact hK'
    conv => whnf
    generalize mustClose beh = mc at hRun h
    refine hn0 _ _ (stp hr0 fun r0 K0 hr0 hn0 ht0 hc0 => ?_)
    refine hC ((c136 (D := D) hK ha1 hl hp fun ds σ₂ hx2 hds => ?_).up)
    conv => whnf
    have hdl : ds.length ≤ 6000 := by
      obtain ⟨pad, p1, p2, p3, p4⟩ := id hds
      have := unitsOf_length (x :: r)
      (first | exact Int.natCast_nonneg _ | lia | omega)
    have hdl' : (ds.map sgn).length ≤ 6000 := by rw [List.length_map]; exact hdl
    refine ⟨by rw [List.length_map, List.length_singleton]; (first | exact Int.natCast_nonneg _ | lia | omega), ?_⟩
    rw [show List.map (fun c : UInt8 => (c.toNat : Int)) [43] = [43] from rfl]
    conv => whnf
    cases mc with
    | true =>
      refine ⟨fun _ => ?_, fun hc => (nomatch hc)⟩
      refine ⟨by simp; (first | exact Int.natCast_nonneg _ | lia | omega), ?_⟩
      refine ht0 _ _ _ ?_
      exact h _ σ₂ (hx1.trans hx2) (hRun _ ⟨ds, hds, rfl⟩)
    | false =>
      refine ⟨fun hc => (nomatch hc), fun _ => ?_⟩
      refine ⟨by simp; (first | exact Int.natCast_nonneg _ | lia | omega), ?_⟩
      refine ht0 _ _ _ ?_
      exact h _ σ₂ (hx1.trans hx2) (hRun _ ⟨ds, hds, rfl⟩)
end

theorem stepL_shift (p s : List Int) (k : Nat) : stepL (p ++ s) (p.length + k) = ((stepL s k).1, (stepL s k).2.1, if k < s.length then p.length + (stepL s k).2.2 else p.length + k + 1) := by
  have hd : ∀ j, (p ++ s).drop (p.length + j) = s.drop j := fun j => by rw [List.drop_append]; simp
  have hg : ∀ j, (p ++ s)[p.length + j]? = s[j]? := fun j => by rw [List.getElem?_append_right (by (first | exact Int.natCast_nonneg _ | lia | omega)), Nat.add_sub_cancel_left]
  unfold stepL
  rw [runW_eq, runW_eq, Nat.add_assoc, hd, hg]
  have h1 := hg (k + 1)
  have h2 := hg (k + 1 + runLen (s.drop (k + 1)))
  rw [← Nat.add_assoc p.length] at h2
  rw [h1, h2]
  by_cases hk : k < s.length
  · rw [List.getElem?_eq_getElem hk, if_pos hk]
    generalize s[k] = c
    dsimp only
    by_cases q1 : c = 43
    · rw [if_pos q1, if_pos q1]
      by_cases q2 : runLen (s.drop (k + 1)) = 0
      · rw [if_pos q2, if_pos q2]
        by_cases q3 : s[k + 1]? = some 45
        · rw [if_pos q3, if_pos q3]; rfl
        · rw [if_neg q3, if_neg q3]
      · rw [if_neg q2, if_neg q2]
        dsimp only
        by_cases q3 : s[k + 1 + runLen (s.drop (k + 1))]? = some 45
        · rw [if_pos q3, if_pos q3]
          simp only [Prod.mk.injEq, true_and] <;> (first | exact Int.natCast_nonneg _ | lia | omega)
        · rw [if_neg q3, if_neg q3]
          simp only [Prod.mk.injEq, true_and] <;> (first | exact Int.natCast_nonneg _ | lia | omega)
    · rw [if_neg q1, if_neg q1]
      by_cases q2 : isDir c true = true
      · rw [if_pos q2, if_pos q2]
      · rw [if_neg q2, if_neg q2]
  · rw [List.getElem?_eq_none (by (first | exact Int.natCast_nonneg _ | lia | omega)), if_neg hk]
theorem readG_shift (p s : List Int) : ∀ (n k : Nat), readG n (p ++ s) (p.length + k) = readG n s k
  | 0, _ => rfl
  | n + 1, k => by
    unfold readG
    by_cases hk : k < s.length
    · rw [if_pos hk, if_pos (by rw [List.length_append]; (first | exact Int.natCast_nonneg _ | lia | omega)), stepL_shift, if_pos hk]
      dsimp only
      rw [readG_shift p s n]
    · rw [if_neg hk, if_neg (by rw [List.length_append]; (first | exact Int.natCast_nonneg _ | lia | omega))]
theorem rd_shift (p s : List Int) (k : Nat) : rd (p ++ s) (p.length + k) = rd s k := by
  unfold rd
  rw [readG_shift, List.length_append, Nat.add_sub_add_left]
theorem rd_shift0 (p s : List Int) : rd (p ++ s) p.length = rd s 0 := rd_shift p s 0
/-- octets that end where a step ends, and read as a text -/
noncomputable def Reads (F : List Int) (t : List Int) : Prop := ∀ s, rd (F ++ s) 0 = (t.map some ++ (rd s 0).1, (rd s 0).2)
theorem Reads.nil : Reads [] [] := fun _ => rfl
theorem Reads.end {F t : List Int} (h : Reads F t) : rd F 0 = (t.map some, true) := by
  have := h []
  rw [List.append_nil] at this
  rw [this, rd_end (Nat.zero_le _), List.append_nil]
theorem Reads.add {F t G u : List Int} (h : Reads F t) (h' : Reads G u) : Reads (F ++ G) (t ++ u) := fun s => by
  rw [List.append_assoc, h, h', List.map_append, List.append_assoc]
theorem Reads.dir {c : Int} (h : isDir c true = true) (hc : c ≠ 43) : Reads [c] [c] := fun s => by
  have hk : 0 < ([c] ++ s).length := by simp
  have : stepL ([c] ++ s) 0 = ([some c], true, [c].length) := by
    have hg : ([c] ++ s)[0]? = some c := rfl
    unfold stepL
    rw [hg]
    dsimp only
    rw [if_neg hc, if_pos h]
    rfl
  rw [rd_step hk, this]
  dsimp only
  rw [rd_shift0]
  rfl
theorem Reads.plus : Reads [43, 45] [43] := fun s => by
  have hk : 0 < ([43, 45] ++ s).length := by simp
  have : stepL ([43, 45] ++ s) 0 = ([some 43], true, ([43, 45] : List Int).length) := rfl
  rw [rd_step hk, this]
  dsimp only
  rw [rd_shift0]
  rfl
theorem dig_sgn {v : Int} (h0 : 0 ≤ v) (h1 : v < 64) : dig (sgn v) = v ∧ b64 (sgn v) = true := by
  have := byte_all (fun v => if v < 64 then (decide (dig (sgn v) = v) && b64 (sgn v)) else true) (by decide +kernel) h0 (by (first | exact Int.natCast_nonneg _ | lia | omega))
  rw [if_pos h1] at this
  simpa using this
theorem isScal_e {c : Int} (h : isScal c = true) : 0 ≤ c ∧ c ≤ 1114111 ∧ (hi c || lo c) = false := by
  unfold isScal rng at h
  unfold hi lo rng
  simp only [Bool.and_eq_true, decide_eq_true_eq, Bool.not_eq_true', Bool.and_eq_false_iff, decide_eq_false_iff_not, Bool.or_eq_false_iff] at h ⊢
  split at h
  · rename_i q
    simp only [Bool.not_eq_true', Bool.and_eq_false_iff, decide_eq_false_iff_not] at h
    (first | exact Int.natCast_nonneg _ | lia | omega)
  · cases h
theorem pairs_units : ∀ {l : List Int}, (∀ c ∈ l, isScal c = true) → pairs (unitsOf l) = l.map some
  | [], _ => rfl
  | c :: r, h => by
    obtain ⟨h0, h1, h2⟩ := isScal_e (h c (.head _))
    have ih := pairs_units (l := r) fun x hx => h x (.tail _ hx)
    have hso : sole c = some c := ifF h2
    have hun : unitsOf (c :: r) = (if c < 65536 then [c] else [55296 + (c - 65536) / 1024, 56320 + (c - 65536) % 1024]) ++ unitsOf r := rfl
    rw [List.map_cons, ← ih, hun]
    by_cases hc : c < 65536
    · rw [if_pos hc]
      show pairs (c :: unitsOf r) = _
      cases unitsOf r with
      | nil => show [sole c] = _; rw [hso]; rfl
      | cons v r' =>
        rw [pairs, if_neg, hso]
        rw [Bool.or_eq_false_iff] at h2
        rw [h2.1, Bool.false_and]; exact Bool.false_ne_true
    · rw [if_neg hc]
      show pairs (_ :: _ :: unitsOf r) = _
      rw [pairs, if_pos]
      · congr 2
        (first | exact Int.natCast_nonneg _ | lia | omega)
      · unfold hi lo rng
        simp only [Bool.and_eq_true, decide_eq_true_eq]
        (first | exact Int.natCast_nonneg _ | lia | omega)
theorem takeWhile_run {p : Int → Bool} {z : List Int} (hz : ∀ c, z[0]? = some c → p c = false) : ∀ {w : List Int}, (∀ c ∈ w, p c = true) → (w ++ z).takeWhile p = w
  | [], _ => by
    cases z with
    | nil => rfl
    | cons c r => rw [List.nil_append, List.takeWhile_cons, hz c rfl]; rfl
  | a :: r, h => by
    rw [List.cons_append, List.takeWhile_cons, h a (.head _), if_pos rfl, takeWhile_run hz fun c hc => h c (.tail _ hc)]
/-- a run that is written reads as its text -/
theorem run_reads {l ds z : List Int} (hl : l ≠ []) (hs : ∀ c ∈ l, isScal c = true) (hp : Packed (unitsOf l) ds) (hz : ∀ c, z[0]? = some c → b64 c = false) :
    rd ([43] ++ ds.map sgn ++ z) 0 = (l.map some ++ (rd (if z[0]? = some 45 then z.drop 1 else z) 0).1, (rd (if z[0]? = some 45 then z.drop 1 else z) 0).2) := by
  obtain ⟨pad, p1, p2, p3, p4⟩ := hp
  have hsc : ∀ c ∈ l, 0 ≤ c ∧ c ≤ 1114111 := fun c hc => ⟨(isScal_e (hs c hc)).1, (isScal_e (hs c hc)).2.1⟩
  have hu := unitsOf_in hsc
  obtain ⟨e1, e2, e3⟩ := uList_of (N := num 64 ds 0) (rest := 0) (n := ds.length) (m := pad) hu (by rw [p4, Int.add_zero]) p3 (by (first | exact Int.natCast_nonneg _ | lia | omega)) (Int.le_refl _) (pow_pos2 _)
  have hok : uOk (num 64 ds 0) ds.length = true := by
    unfold uOk
    rw [← e3, ← e2, decide_eq_true p2]
    rfl
  have hne : ds.length ≠ 0 := by
    have : 0 < (unitsOf l).length := by
      cases l with
      | nil => exact absurd rfl hl
      | cons c r => unfold unitsOf; split <;> simp
    (first | exact Int.natCast_nonneg _ | lia | omega)
  have hdm : (ds.map sgn).map dig = ds := by
    rw [List.map_map]
    refine (List.map_congr_left fun v hv => ?_).trans (List.map_id ds)
    exact (dig_sgn (p1 v hv).1 (p1 v hv).2).1
  have hb : ∀ c ∈ ds.map sgn, b64 c = true := fun c hc => by
    obtain ⟨v, hv, rfl⟩ := List.mem_map.mp hc
    exact (dig_sgn (p1 v hv).1 (p1 v hv).2).2
  have htw := takeWhile_run hz hb
  have hcodes : runCodes (num 64 ds 0) ds.length = l.map some := by
    unfold runCodes
    rw [hok, if_pos rfl, List.append_nil, ← e1, pairs_units hs]
  have hfine : runFine (num 64 ds 0) ds.length = true := by
    unfold runFine
    rw [hok, ← e1, pairs_units hs, List.all_map]
    simp
  have hrl : runLen (ds.map sgn ++ z) = ds.length := by unfold runLen; rw [htw, List.length_map]
  have hrw : runW ([43] ++ ds.map sgn ++ z) 0 = ds.map sgn := by rw [runW_eq]; exact htw
  have hdr : ([43] ++ ds.map sgn ++ z).drop (0 + 1) = ds.map sgn ++ z := rfl
  have hgz : ([43] ++ ds.map sgn ++ z)[0 + 1 + ds.length]? = z[0]? := by
    rw [List.getElem?_append_right (by simp; (first | exact Int.natCast_nonneg _ | lia | omega))]
    congr 1
    simp; (first | exact Int.natCast_nonneg _ | lia | omega)
  have hst : stepL ([43] ++ ds.map sgn ++ z) 0 = (l.map some, true, if z[0]? = some 45 then 0 + 1 + ds.length + 1 else 0 + 1 + ds.length) := by
    have hg : ([43] ++ ds.map sgn ++ z)[0]? = some 43 := rfl
    unfold stepL
    rw [hg]
    dsimp only
    rw [if_pos rfl, hdr, hrl, if_neg hne, hrw, hdm, List.length_map, hcodes, hfine, hgz]
  rw [rd_step (by simp), hst]
  dsimp only
  by_cases q : z[0]? = some 45
  · rw [if_pos q, if_pos q]
    have hz1 : [43] ++ ds.map sgn ++ z = ([43] ++ ds.map sgn ++ [45]) ++ z.drop 1 := by
      cases z with
      | nil => cases q
      | cons c r =>
        have : c = 45 := by simpa using q
        subst this
        simp
    have hlen : 0 + 1 + ds.length + 1 = ([43] ++ ds.map sgn ++ [45]).length := by simp; (first | exact Int.natCast_nonneg _ | lia | omega)
    rw [hz1, hlen, rd_shift0, Bool.true_and]
  · rw [if_neg q, if_neg q]
    have hlen : 0 + 1 + ds.length = ([43] ++ ds.map sgn).length := by simp; (first | exact Int.natCast_nonneg _ | lia | omega)
    rw [hlen, rd_shift0, Bool.true_and]
theorem run_closed {l w : List Int} (hs : ∀ c ∈ l, isScal c = true) (h : RunOct l true w) : Reads w l := by
  unfold RunOct at h
  by_cases hl : l = []
  · rw [if_pos hl] at h
    subst h; subst hl
    exact Reads.nil
  rw [if_neg hl] at h
  obtain ⟨ds, hp, rfl⟩ := h
  intro s
  have := run_reads (z := [45] ++ s) hl hs hp (fun c hc => by
    have : c = 45 := by simpa using hc.symm
    subst this; decide)
  rw [if_pos rfl, List.append_assoc, this]
  rfl
theorem run_open {l w : List Int} {c : Int} (hs : ∀ c ∈ l, isScal c = true) (h : RunOct l (mustClose (some c)) w) (hd : isDir c true = true) (hc : c ≠ 43) : Reads (w ++ [c]) (l ++ [c]) := by
  cases hm : mustClose (some c) with
  | true =>
    rw [hm] at h
    exact (run_closed hs h).add (.dir hd hc)
  | false =>
    rw [hm] at h
    obtain ⟨h45, h64⟩ : decide (c = 45) = false ∧ b64 c = false := Bool.or_eq_false_iff.mp hm
    unfold RunOct at h
    by_cases hl : l = []
    · rw [if_pos hl] at h
      subst h; subst hl
      exact Reads.dir hd hc
    rw [if_neg hl] at h
    obtain ⟨ds, hp, rfl⟩ := h
    intro s
    have := run_reads (z := [c] ++ s) hl hs hp (fun x hx => by
      have : x = c := by simpa using hx.symm
      subst this; exact h64)
    rw [if_neg (by decide), List.append_nil, List.append_assoc, this, if_neg (by simpa using h45), Reads.dir hd hc, List.map_append, List.append_assoc]
theorem run_size {l w : List Int} {b : Bool} (hs : ∀ c ∈ l, isScal c = true) (h : RunOct l b w) : w.length ≤ 8 * l.length ∧ ∀ c ∈ w, 0 ≤ c ∧ c < 256 := by
  unfold RunOct at h
  by_cases hl : l = []
  · rw [if_pos hl] at h
    subst h
    exact ⟨Nat.zero_le _, fun c hc => nomatch hc⟩
  rw [if_neg hl] at h
  obtain ⟨ds, ⟨pad, p1, p2, p3, p4⟩, rfl⟩ := h
  have h1 : l.length ≠ 0 := fun q => hl (List.length_eq_zero_iff.mp q)
  have h2 := unitsOf_length l
  constructor
  · have : (if b = true then [45] else ([] : List Int)).length ≤ 1 := by split <;> simp
    rw [List.length_append, List.length_append, List.length_map, List.length_singleton]
    (first | exact Int.natCast_nonneg _ | lia | omega)
  · intro c hc
    rcases List.mem_append.mp hc with hc | hc
    · rcases List.mem_append.mp hc with hc | hc
      · rcases List.mem_singleton.mp hc with rfl; (first | exact Int.natCast_nonneg _ | lia | omega)
      · obtain ⟨v, hv, rfl⟩ := List.mem_map.mp hc
        exact sgn_in (p1 v hv).1 (p1 v hv).2
    · split at hc
      · rcases List.mem_singleton.mp hc with rfl; (first | exact Int.natCast_nonneg _ | lia | omega)
      · cases hc
theorem dir_e {c : Int} {o : Bool} (h : isDir c o = true) : isDir c true = true ∧ c ≠ 43 ∧ 0 ≤ c ∧ c < 256 := by
  have hr : 0 ≤ c ∧ c < 128 := by
    unfold isDir at h
    by_cases q : (decide (0 ≤ c) && decide (c < 128)) = true
    · simpa using q
    · rw [if_neg q] at h; cases h
  have := byte_all (fun c => (!(isDir c o) || (isDir c true && decide (c ≠ 43)))) (by cases o <;> decide +kernel) hr.1 (by (first | exact Int.natCast_nonneg _ | lia | omega))
  rw [h] at this
  simp only [Bool.not_true, Bool.false_or, Bool.and_eq_true, decide_eq_true_eq] at this
  exact ⟨this.1, this.2, hr.1, by (first | exact Int.natCast_nonneg _ | lia | omega)⟩

/-- an if whose test is known, the state grown by then -/
theorem ifX {L : Lvl} {fr : Frm} {t : PySem.Expr} {b o : List Stmt} {pos : Pos} {e : En} {σ : St} {Q : Fl → En → St → Prop} (c : Bool) (X : St → Prop) (hT : ∀ K : Bool → St → Prop, (∀ σ', X σ' → K c σ') → L.T fr t e σ K)
    (hB : c = true → ∀ σ', X σ' → blk L fr b e σ' Q) (hO : c = false → ∀ σ', X σ' → blk L fr o e σ' Q) : stepS L fr (.If t b o pos) e σ Q := hT _ fun σ' hx => ⟨fun h => hB h σ' hx, fun h => hO h σ' hx⟩
section
variable {P : Params} {cf : Cfg} {D : Nat} {σ : St} {Q : PV → St → Prop}
theorem c151 (hK : cf.K = frag P) {a : Addr} {l : List Int} {opt : Bool} (ha : σ a = some (.list (l.map .int))) (hl : l.length ≤ 1000) (hs : ∀ c ∈ l, isScal c = true)
    (h : ∀ w σ', Ext σ σ' → rd w 0 = (l.map some, true) → w.length ≤ 8 * l.length → (∀ c ∈ w, 0 ≤ c ∧ c < 256) → Q (.byt w) σ') : Con cf true (D + 4) 151 [.ref a, .bool opt] σ Q := by
  refine con151 (n := 13) hK _ _ fun C hC => ?_
  have hsc : ∀ c ∈ l, 0 ≤ c ∧ c ≤ 1114111 := fun c hc => ⟨(isScal_e (hs c hc)).1, (isScal_e (hs c hc)).2.1⟩
  refine stp rfl fun r0 K0 hr0 hn0 ht0 hc0 => ?_
  refine ⟨rfl, new_i fun f σ₁ hfn hfa hx1 ho1 => ?_⟩
  refine ⟨Nat.le_of_ble_eq_true rfl, new_i fun b σ₂ hbn hba hx2 ho2 => ?_⟩
  refine ⟨Nat.le_of_ble_eq_true rfl, new_i fun g σ₃ hgn hga hx3 ho3 => ?_⟩
  conv => whnf
  first | refine mS (hga) ?_ | rw [hga]
  refine ⟨rfl, ?_⟩
  conv => whnf
  have hx := (hx1.trans hx2).trans hx3
  have hf3 := hx3 _ _ (hx2 _ _ hfa)
  have hb3 := hx3 _ _ hba
  have hex : ∀ {σ'' : St} {c : Addr}, Ext σ σ'' → σ'' c = none → σ c = none := fun {σ'' c} hh hn => by
    cases q : σ c with
    | none => rfl
    | some o => have := hh _ _ q; rw [hn] at this; cases this
  have hb0 := hex hx1 hbn
  refine hn0 _ _ (stp hr0 fun r0 K0 hr0 hn0 ht0 hc0 => ?_)
  refine forV (fun s' σ' => s' = .list a ∧ σ' = σ₃) (fun K hK' => ?_) ?_
  · conv => whnf
    exact hK' _ _ (srcL (hx _ _ ha) ⟨rfl, rfl⟩)
  rintro _ σ₃ ⟨rfl, rfl⟩
  refine forI l.length (fun i e σ' => i ≤ l.length ∧ ∃ (b : Addr) (F t run : List Int), e = [(key "is_optional", .bool opt), (key "found", .ref f), (key "run", .ref b)] ∧ Ext σ σ' ∧ σ b = none ∧ σ' f = some (.ba F) ∧ σ' b = some (.list (run.map .int)) ∧
    t ++ run = l.take i ∧ Reads F t ∧ F.length ≤ 8 * t.length ∧ ∀ c ∈ F, 0 ≤ c ∧ c < 256)
    [(key "is_optional", .bool opt), (key "found", .ref f), (key "run", .ref b)] ?_ ?_ ?_
  · exact ⟨rfl, rfl, rfl, trivial⟩
  · exact ⟨Nat.zero_le _, b, [], [], [], rfl, hx, hb0, hf3, hb3, rfl, Reads.nil, Nat.le_refl _, fun c hc => nomatch hc⟩
  clear hbn hba hb0 hb3 hf3 hfa
  rintro b' hr' i e σ' KL hnL htL hcL ⟨hi, b, F, t, run, rfl, hx', hb0, hf', hb', htr, hRd, hFl, hFb⟩
  refine ⟨hi, ?_⟩
  conv => whnf
  first | refine mS (hx' _ _ ha) ?_ | rw [hx' _ _ ha]
  conv => whnf
  rw [List.getElem?_map]
  have htl : t.length + run.length ≤ l.length := by
    have := congrArg List.length htr
    rw [List.length_append, List.length_take] at this
    (first | exact Int.natCast_nonneg _ | lia | omega)
  have hrs : ∀ c ∈ run, isScal c = true := fun c hc => hs c (List.mem_of_mem_take (htr ▸ List.mem_append_right t hc))
  have hrsc : ∀ c ∈ run, 0 ≤ c ∧ c ≤ 1114111 := fun c hc => ⟨(isScal_e (hrs c hc)).1, (isScal_e (hrs c hc)).2.1⟩
  have hbf : b ≠ f := fun q => by rw [q, hf'] at hb'; cases hb'
  cases hi' : l[i]? with
  | none =>
    have : i = l.length := by rw [List.getElem?_eq_none_iff] at hi'; (first | exact Int.natCast_nonneg _ | lia | omega)
    subst this
    rw [List.take_length] at htr
    refine hn0 _ _ (stp hr0 fun r0 K0 hr0 hn0 ht0 hc0 => ?_); conv => whnf
    first | refine mS (hf') ?_ | rw [hf']
    refine hC ((c143 (D := D) (beh := none) hK hb' (by (first | exact Int.natCast_nonneg _ | lia | omega)) hrsc fun w σ₄ hx4 hw => ?_).up)
    obtain ⟨w1, w2⟩ := run_size hrs hw
    have hf4 := hx4 _ _ hf'
    conv => whnf
    first | refine mS (hf4) ?_ | rw [hf4]
    refine ⟨rfl, by (first | exact Int.natCast_nonneg _ | lia | omega), rfl, ?_⟩
    generalize hu : upd _ _ _ = σ₅
    have hf5 : σ₅ f = some (.ba (F ++ w)) := by rw [← hu, upd_same]
    refine hn0 _ _ (stp hr0 fun r0 K0 hr0 hn0 ht0 hc0 => ?_); conv => whnf
    first | refine mS (hf5) ?_ | rw [hf5]
    refine ⟨by rw [List.length_append]; (first | exact Int.natCast_nonneg _ | lia | omega), ?_⟩
    refine ht0 _ _ _ ?_
    refine h (F ++ w) σ₅ (hu ▸ (hx'.trans hx4).put hfn) ?_ ?_ ?_
    · rw [(hRd.add (run_closed hrs hw)).end, htr]
    · rw [← htr, List.length_append, List.length_append]; (first | exact Int.natCast_nonneg _ | lia | omega)
    · intro c hc
      rcases List.mem_append.mp hc with hc | hc
      · exact hFb c hc
      · exact w2 c hc
  | some c =>
    have hil : i < l.length := (List.getElem?_eq_some_iff.mp hi').1
    have hcs : isScal c = true := hs c (by rw [← (List.getElem?_eq_some_iff.mp hi').2]; exact List.getElem_mem _)
    have htk : l.take (i + 1) = l.take i ++ [c] := by rw [List.take_add_one, hi']; rfl
    rw [← htr] at htk
    conv => whnf
    refine stp hr' fun r1 K1 hr1 hn1 ht1 hc1 => ?_
    refine hC ((c94 (D := D) hK ?_).up)
    rw [hcs]
    refine ⟨fun hc => (nomatch hc), fun _ => ?_⟩
    refine nib rfl ?_
    refine hn1 _ _ (stp hr1 fun r1 K1 hr1 hn1 ht1 hc1 => ?_)
    refine lvS (ifI (isDir c opt) (fun K hK' => ?_) (fun hd => ?_) fun hd => ?_)
    · conv => whnf
      refine hC ((c115 (D := D) hK ?_).up)
      exact hK'
    · obtain ⟨d1, d2, d3, d4⟩ := dir_e hd
      refine stp rfl fun r2 K2 hr2 hn2 ht2 hc2 => ?_; conv => whnf
      first | refine mS (hf') ?_ | rw [hf']
      refine hC ((c143 (D := D) (beh := some c) hK hb' (by (first | exact Int.natCast_nonneg _ | lia | omega)) hrsc fun w σ₄ hx4 hw => ?_).up)
      obtain ⟨w1, w2⟩ := run_size hrs hw
      have hf4 := hx4 _ _ hf'
      conv => whnf
      first | refine mS (hf4) ?_ | rw [hf4]
      refine ⟨rfl, by (first | exact Int.natCast_nonneg _ | lia | omega), rfl, ?_⟩
      generalize hu : upd _ _ _ = σ₅
      have hf5 : σ₅ f = some (.ba (F ++ w)) := by rw [← hu, upd_same]
      have hx5 : Ext σ σ₅ := hu ▸ (hx'.trans hx4).put hfn
      refine hn2 _ _ (stp hr2 fun r2 K2 hr2 hn2 ht2 hc2 => ?_); conv => whnf
      first | refine mS (hf5) ?_ | rw [hf5]
      conv => whnf
      first | refine mS (hf5) ?_ | rw [hf5]
      refine ⟨rfl, d3, d4, by rw [List.length_append]; (first | exact Int.natCast_nonneg _ | lia | omega), rfl, ?_⟩
      generalize hu' : upd _ _ _ = σ₆
      have hf6 : σ₆ f = some (.ba (F ++ w ++ [c])) := by rw [← hu', upd_same]
      have hx6 : Ext σ σ₆ := hu' ▸ hx5.put hfn
      refine hn2 _ _ (stp hr2 fun r2 K2 hr2 hn2 ht2 hc2 => ?_)
      refine ⟨Nat.le_of_ble_eq_true rfl, new_i fun b2 σ₇ hbn hba hx7 ho7 => ?_⟩
      refine hn2 _ _ (nib hr2 ?_)
      refine hn1 _ _ (nib hr1 ?_)
      refine hnL _ _ ⟨[(key "is_optional", .bool opt), (key "found", .ref f), (key "run", .ref b2)], ⟨rfl, rfl, rfl, trivial⟩, hil, b2, F ++ w ++ [c], t ++ run ++ [c], [], rfl, hx6.trans hx7, hex hx6 hbn, hx7 _ _ hf6, hba, ?_, ?_, ?_, ?_⟩
      · rw [List.append_nil, htk]
      · rw [List.append_assoc, List.append_assoc]
        exact hRd.add (run_open hrs hw d1 d2)
      · simp only [List.length_append, List.length_singleton]; (first | exact Int.natCast_nonneg _ | lia | omega)
      · intro x hx
        rcases List.mem_append.mp hx with hx | hx
        · rcases List.mem_append.mp hx with hx | hx
          · exact hFb x hx
          · exact w2 x hx
        · rcases List.mem_singleton.mp hx with rfl; exact ⟨d3, d4⟩
    · refine stp rfl fun r2 K2 hr2 hn2 ht2 hc2 => ?_
      refine lvS (ifX (decide (c = 43) && run.isEmpty) (Ext σ') (fun K hK' => ?_) (fun hd2 σ₄ hx4 => ?_) fun hd2 σ₄ hx4 => ?_)
      · refine lvT (tAnd rfl fun q hq => ?_)
        refine ⟨fun hc => ?_, fun hc => ?_⟩
        · rw [Bool.false_xor] at hc
          rw [hc, Bool.true_and] at hK'
          refine tAnd hq fun q hq => ?_
          refine ⟨Nat.le_of_ble_eq_true rfl, new_i fun g σ₄ hgn hga hx4 ho4 => ?_⟩
          conv => whnf
          first | refine mS (hx4 _ _ hb') ?_ | rw [hx4 _ _ hb']
          conv => whnf
          first | refine mS (hga) ?_ | rw [hga]
          refine ⟨fun q => ?_, ?_⟩
          · rw [List.length_map] at q
            have : run = [] := List.length_eq_zero_iff.mp q
            subst this
            exact ⟨rfl, rfl⟩
          cases run with
          | nil =>
            refine ⟨fun _ => ?_, fun hc => (nomatch hc)⟩
            refine tAndZ hq ?_
            exact hK' _ hx4
          | cons x r =>
            rw [show decide ((x :: r).map PV.int = []) = false from rfl]
            refine ⟨fun hc => (nomatch hc), fun _ => ?_⟩
            exact hK' _ hx4
        · rw [Bool.false_xor] at hc
          rw [hc, Bool.false_and] at hK'
          exact hK' _ .rfl
      · obtain ⟨q1, q2⟩ := Bool.and_eq_true_iff.mp hd2
        have q1 := of_decide_eq_true q1
        have q2 := List.isEmpty_iff.mp q2
        subst q1; subst q2
        have hf4 := hx4 _ _ hf'
        have hb4 := hx4 _ _ hb'
        refine stp rfl fun r3 K3 hr3 hn3 ht3 hc3 => ?_; conv => whnf
        first | refine mS (hf4) ?_ | rw [hf4]
        conv => whnf
        first | refine mS (hf4) ?_ | rw [hf4]
        refine ⟨rfl, by simp; (first | exact Int.natCast_nonneg _ | lia | omega), rfl, ?_⟩
        generalize hu : upd _ _ _ = σ₅
        have hf5 : σ₅ f = some (.ba (F ++ [43, 45])) := by rw [← hu, upd_same]; rfl
        refine hn3 _ _ (nib hr3 ?_)
        refine hn2 _ _ (nib hr2 ?_)
        refine hn1 _ _ (nib hr1 ?_)
        refine hnL _ _ ⟨[(key "is_optional", .bool opt), (key "found", .ref f), (key "run", .ref b)], ⟨rfl, rfl, rfl, trivial⟩, hil, b, F ++ [43, 45], t ++ [43], [], rfl, hu ▸ (hx'.trans hx4).put hfn, hb0, hf5, ?_, ?_, ?_, ?_, ?_⟩
        · rw [← hu, upd_ne hbf]; exact hb4
        · rw [List.append_nil, htk, List.append_nil]
        · exact hRd.add .plus
        · simp only [List.length_append, List.length_singleton, List.length_cons, List.length_nil]; (first | exact Int.natCast_nonneg _ | lia | omega)
        · intro x hx
          rcases List.mem_append.mp hx with hx | hx
          · exact hFb x hx
          · simp only [List.mem_cons, List.not_mem_nil, or_false] at hx
            rcases hx with rfl | rfl <;> (first | exact Int.natCast_nonneg _ | lia | omega)
      · have hf4 := hx4 _ _ hf'
        have hb4 := hx4 _ _ hb'
        refine stp rfl fun r3 K3 hr3 hn3 ht3 hc3 => ?_; conv => whnf
        first | refine mS (hb4) ?_ | rw [hb4]
        conv => whnf
        first | refine mS (hb4) ?_ | rw [hb4]
        refine ⟨by rw [List.length_map]; (first | exact Int.natCast_nonneg _ | lia | omega), rfl, ?_⟩
        generalize hu : upd _ _ _ = σ₅
        refine hn3 _ _ (nib hr3 ?_)
        refine hn2 _ _ (nib hr2 ?_)
        refine hn1 _ _ (nib hr1 ?_)
        refine hnL _ _ ⟨[(key "is_optional", .bool opt), (key "found", .ref f), (key "run", .ref b)], ⟨rfl, rfl, rfl, trivial⟩, hil, b, F, t, run ++ [c], rfl, hu ▸ (hx'.trans hx4).put hb0, hb0, ?_, ?_, ?_, hRd, hFl, hFb⟩
        · rw [← hu, upd_ne (Ne.symm hbf)]; exact hf4
        · rw [← hu, upd_same, List.map_append]; rfl
        · rw [htk, List.append_assoc]
end

open PySem.Builtin PySem.Builtin.ObjectAttr
theorem hTy {U : Addr} {bmB : List Value} {X : String} {b : Bool} (hb : bmB.contains (.type X) = b) : (Value.ref U :: bmB).contains (.type X) = b := by
  rw [List.contains_cons, hb]
  rfl
section
variable {M : Model} {A : Around} {E : Value → Shared → Prop} {h : Heap} {g : Array GenState} {d : Drawn} {t : Nat} {os : OsState}
variable {nm q : Str} {C U N : Addr} {bs bmB : List Value} {hdct : Bool} {sn : List Str} {sub : List Value} {ab : Bool} {col : Option Bool} {dd dU : Option Addr} {k0 k1 k2 k3 k5 : Option Value} {B newId initId sa owner : String} {cU : Value} {cdU : ClassData} {slU : Array (Option Value)} {mN mU : Str → Option Value}
theorem look_two {name : Str} {y : Option Value} {Q : Option Value → Shared → Prop}
    (hC : h.get? C = some (excClassObj nm q C N bs (.ref U :: bmB) hdct sn sub ab col dd k0 k1 k2 k3 k5 newId)) (hn : h.Ns N mN) (hU : h.get? U = some { cls := cU, dict := dU, data := .cls cdU, slots := slU }) (hnU : h.Ns cdU.ns mU) (h1 : mN name = none)
    (hbm : mroOf (.type B) = pure bmB) (hB : typeLookup (.type B) name = pure y) (hq : Q (match mU name with | some v => some v | none => y) ⟨h, g, d, t, os⟩) : wpAny M A (typeLookup (.ref C) name) Q E ⟨h, g, d, t, os⟩ := by
  have hrest : lookupAlong bmB name = pure y := by rw [typeLookup_eq, hbm] at hB; exact hB
  rw [typeLookup_eq]
  refine wpAny_bind (wpAny_mroOf_exc hC ?_)
  rw [lookupAlong_cons]
  refine wpAny_bind (wpAny_classOwn_exc hC hn ?_)
  rw [h1, lookupAlong_cons]
  refine wpAny_bind (wpAny_classOwn_cls hU hnU ?_)
  cases hv : mU name with
  | some v => rw [hv] at hq; exact wpAny_pure hq
  | none => rw [hv] at hq; rw [hrest]; exact wpAny_pure hq
theorem check_new_two (F : ExcBaseFacts B newId initId bmB) {rest : List Value} {Q : Unit → Shared → Prop} (hC : h.get? C = some (excClassObj nm q C N bs (.ref U :: bmB) hdct sn sub ab col dd k0 k1 k2 k3 k5 newId))
    (hq : Q () ⟨h, g, d, t, os⟩) : wpAny M A (checkBuiltinCall newId ⟨.ref C :: rest, []⟩) Q E ⟨h, g, d, t, os⟩ := by
  have hcont : (Value.ref C :: .ref U :: bmB).contains (.type B) = true := by rw [List.contains_cons, hTy F.hasB, Bool.or_true]
  have hstar := F.noStar
  simp only [checkBuiltinCall, F.newKind, F.newSplit, F.newRow]
  repeat (first | refine wpAny_loadPart_at hC ?_ | (refine wpAny_isSubtype_exc hC ?_; rw [hcont]) | refine wpAny_staticBase_exc hC ?_ | refine wpAny_madeBy_exc hC ?_ | simp only [bne_self_eq_false, Bool.false_eq_true, if_false] | wp_step)
  exact hq
end
section
variable {prog : Program} {w : World} {A : Around} {E : Value → Shared → Prop} {R : Result → Shared → Prop} {h : Heap} {g : Array GenState} {d : Drawn} {t : Nat} {os : OsState}
variable {nm q : Str} {C U N : Addr} {bs bmB : List Value} {hdct : Bool} {sn : List Str} {sub : List Value} {ab : Bool} {col : Option Bool} {dd dU : Option Addr} {k0 k1 k2 k3 k5 : Option Value} {B newId initId sa owner : String} {cU : Value} {cdU : ClassData} {slU : Array (Option Value)} {mN mU : Str → Option Value}
theorem new_two (F : ExcBaseFacts B newId initId bmB) {rest : List Value} (hC : h.get? C = some (excClassObj nm q C N bs (.ref U :: bmB) hdct sn sub ab col dd k0 k1 k2 k3 k5 newId))
    (hq : R (.ok (.ret (.ref (h.objs.size + 1)))) ⟨(h.push { cls := .type "tuple", data := .seq rest.toArray }).push
      { cls := .ref C, data := .fields #[.ref h.objs.size, .none, .none, .none, .bool false, .none] }, g, d, t, os⟩) (hrest : rest.length ≤ sizeLine := by size_fits) :
    codeAny (model prog w) A (.builtin newId ⟨.ref C :: rest, []⟩) R ⟨h, g, d, t, os⟩ := by
  have hends := F.ends
  have hcB : (Value.ref C :: .ref U :: bmB).contains (.type B) = true := by rw [List.contains_cons, hTy F.hasB, Bool.or_true]
  have hcA : (Value.ref C :: .ref U :: bmB).contains (.type "AttributeError") = false := by rw [List.contains_cons, hTy F.noAttr]; rfl
  have hcN : (Value.ref C :: .ref U :: bmB).contains (.type "NameError") = false := by rw [List.contains_cons, hTy F.noName]; rfl
  refine codeAny_builtinAt F.entry ?_
  unfold Builtin.«BaseException.__new__»
  refine PySem.wpAt_bind ?_
  show PySem.wpAt _ _ _ (stack >>= _) _ _ _
  refine PySem.wpAt_bind (PySem.wpAt_stack fun p below => PySem.wpAt_of_wpAny ?_)
  wp_walk
  refine PySem.wpAt_of_wpAny ?_
  rw [F.owner]
  repeat (first | with_reducible refine wpAny_madeHere_exc F.canon hC ?_ | with_reducible refine wpAny_loadPart_at hC ?_ | (with_reducible refine wpAny_isSubtype_exc hC ?_; first | rw [hcB] | rw [hcA] | rw [hcN]) | wp_step)
  show R _ _
  rw [Heap.size_push]
  exact hq
theorem type_call_two (F : ExcBaseFacts B newId initId bmB) {rest : List Value} {fI : Addr} {oI : Obj} {Q : Fin → Shared → Prop}
    (hC : h.get? C = some (excClassObj nm q C N bs (.ref U :: bmB) hdct sn sub ab col dd k0 k1 k2 k3 k5 newId)) (hn : h.Ns N mN) (hU : h.get? U = some { cls := cU, dict := dU, data := .cls cdU, slots := slU }) (hnU : h.Ns cdU.ns mU) (h1 : mN "__init__" = none) (hi : mU "__init__" = some (.ref fI))
    (hfI : h.get? fI = some oI) (hfc : oI.cls = .type "function")
    (hq : ∀ h' e, Heap.MadeExcOf h h' e (.ref C) rest →
      wpAny (model prog w) A (call (.ref fI) (.ref e :: rest)) (fun r s' => r = .none ∧ Q (.done (.ret (.ref e))) s') E ⟨h', g, d, t, os⟩) (hrest : rest.length ≤ sizeLine := by size_fits) :
    wpAny (model prog w) A (Builtin.«type.__call__» ⟨.ref C :: rest, []⟩) Q E ⟨h, g, d, t, os⟩ := by
  repeat (first | with_reducible refine wpAny_loadPart_at hC ?_ | with_reducible refine wpAny_madeBy_exc hC ?_ | wp_step)
  refine codeAny_call_builtin_code (Code.quiet_builtin _ F.quiet) (check_new_two F hC ?_)
  refine new_two F hC ?_ hrest
  show wpAny _ _ _ _ _ _
  have up : ∀ b o, h.get? b = some o → ((h.push { cls := .type "tuple", data := .seq rest.toArray }).push { cls := .ref C, data := .fields #[.ref h.objs.size, .none, .none, .none, .bool false, .none] }).get? b = some o :=
    fun b o hb => Heap.get?_push_of_some _ (Heap.get?_push_of_some _ hb)
  have hC₁ := up _ _ hC
  have hU₁ := up _ _ hU
  have hfI₁ := up _ _ hfI
  have hn₁ := hn.at' fun o => up _ o
  have hnU₁ := hnU.at' fun o => up _ o
  have hget : ((h.push { cls := .type "tuple", data := .seq rest.toArray }).push
      { cls := .ref C, data := .fields #[.ref h.objs.size, .none, .none, .none, .bool false, .none] }).get? (h.objs.size + 1) = some
      { cls := .ref C, data := .fields #[.ref h.objs.size, .none, .none, .none, .bool false, .none] } := by heap_get
  have hcC : (Value.ref C :: .ref U :: bmB).contains (.ref C) = true := by simp
  unfold isInstance
  repeat (first | with_reducible refine wpAny_loadPart_at hget ?_ | (with_reducible refine wpAny_isSubtype_exc hC₁ ?_; rw [hcC]) | wp_step)
  show wpAny _ _ (typeLookup (.ref C) _) _ _ _
  refine look_two hC₁ hn₁ hU₁ hnU₁ h1 F.mroIs F.init.lookup ?_
  rw [hi]
  refine wpAny_holding (wpAny_bind ?_)
  unfold bindSpecial
  refine wpAny_bind (wpAny_typeOf (T := "function") ⟨_, hfI₁, hfc⟩ ?_)
  rw [if_pos (by decide)]
  refine wpAny_pure (wpAny_bind (wpAny_mono (hq _ (h.objs.size + 1) ⟨up, Heap.get?_none_of_le (Nat.le_succ _), h.objs.size, hget, Heap.get?_none_of_le (Nat.le_refl _), ?_⟩) (fun r s' hr => ?_) fun _ _ x => x))
  · exact Heap.get?_push_of_some _ (Heap.get?_push_at rfl rfl)
  · obtain ⟨rfl, hQ⟩ := hr
    wp_walk
    exact hQ
theorem call_two (F : ExcBaseFacts B newId initId bmB) {rest : List Value} {fI : Addr} {oI : Obj} {Q : Value → Shared → Prop}
    (hC : h.get? C = some (excClassObj nm q C N bs (.ref U :: bmB) hdct sn sub ab col dd k0 k1 k2 k3 k5 newId)) (hn : h.Ns N mN) (hU : h.get? U = some { cls := cU, dict := dU, data := .cls cdU, slots := slU }) (hnU : h.Ns cdU.ns mU) (h1 : mN "__init__" = none) (hi : mU "__init__" = some (.ref fI))
    (hfI : h.get? fI = some oI) (hfc : oI.cls = .type "function")
    (hq : ∀ h' e, Heap.MadeExcOf h h' e (.ref C) rest →
      wpAny (model prog w) (A.under (.builtin "type.__call__" ⟨.ref C :: rest, []⟩)) (call (.ref fI) (.ref e :: rest)) (fun r s' => r = .none ∧ Q (.ref e) s') E ⟨h', g, d, t, os⟩) (hrest : rest.length ≤ sizeLine := by size_fits) :
    wpAny (model prog w) A (call (.ref C) rest) Q E ⟨h, g, d, t, os⟩ := by
  have f1 := tc_lookup
  have f2 := tc_bind (.ref C)
  have hT : (⟨h, g, d, t, os⟩ : Shared).TypeIs (.ref C) "type" := ⟨_, hC, rfl⟩
  refine wpAny_call (codeAny_of_tree ?_)
  show wpAny _ _ (callAny (.ref C) _) _ _ _
  repeat (any_goals (first | assumption | with_reducible refine wpAny_loadPart_at hC ?_ | wp_step))
  refine ⟨rfl, ?_⟩
  refine codeAny_call_builtin_at (Code.quiet_builtin _ (by decide +kernel)) entry_typeCall (wpAny_check_type_call_sub hC (type_call_two (hrest := hrest) F hC hn hU hnU h1 hi hfI hfc fun h' e hm => ?_))
  exact hq h' e hm
variable {x : Addr} {o : Obj} {name : Str} {v : Value}
theorem check_sa_two {M : Model} {nameV : Value} {Q : Unit → Shared → Prop} (SF : StoreFacts B bmB sa owner)
    (hC : h.get? C = some (excClassObj nm q C N bs (.ref U :: bmB) true sn sub ab col dd k0 k1 k2 k3 k5 newId)) (hx : h.get? x = some o) (hc : o.cls = .ref C) (hq : Q () ⟨h, g, d, t, os⟩) :
    wpAny M A (checkBuiltinCall sa ⟨[.ref x, nameV, v], []⟩) Q E ⟨h, g, d, t, os⟩ := by
  have hcB : (Value.ref C :: .ref U :: bmB).contains (.type owner) = true := by rw [List.contains_cons, hTy SF.hasOwner, Bool.or_true]
  have ha := SF.args (.ref x) nameV v
  simp only [checkBuiltinCall, SF.kind, SF.split]
  refine wpAny_bind ?_
  · unfold isInstance
    repeat (first | (with_reducible refine wpAny_loadPart_at hx ?_; rw [hc]) | (with_reducible refine wpAny_isSubtype_exc hC ?_; rw [hcB]) | wp_step)
    cases hsig : Manifest.signature? sa with
    | none => exact wpAny_pure hq
    | some sig =>
      simp only [argsOk, hsig] at ha
      have h2 : Bind.checkArgs sa sig ⟨[.ref x, nameV, v], []⟩ = pure () := ha
      show wpAny M A (Bind.checkArgs sa sig ⟨[.ref x, nameV, v], []⟩) Q E _
      rw [h2]; exact wpAny_pure hq
theorem store_entry_two {tk : Tok} {Q : Fin → Shared → Prop} (SF : StoreFacts B bmB sa owner)
    (hC : h.get? C = some (excClassObj nm q C N bs (.ref U :: bmB) true sn sub ab col dd k0 k1 k2 k3 k5 newId)) (hn : h.Ns N mN) (hU : h.get? U = some { cls := cU, dict := dU, data := .cls cdU, slots := slU }) (hnU : h.Ns cdU.ns mU) (hna : mN name = none) (hnb : mU name = none)
    (hB : typeLookup (.type B) name = pure none) (hx : h.get? x = some o) (hc : o.cls = .ref C) (hnc : ∀ c, o.data ≠ .cls c) (hdn : o.dict = none)
    (hq : ∀ h' tk', (∃ dx, h'.get? x = some { o with dict := some dx }) → (∀ b ob, b ≠ x → h.get? b = some ob → h'.get? b = some ob) → Q (.done (.ret .none)) ⟨h', g, d, tk', os⟩) :
    wpAny (model prog w) A (Builtin.«object.__setattr__» ⟨[.ref x, .str name tk, v], []⟩) Q E ⟨h, g, d, t, os⟩ := by
  have hpass := SF.passes (.ref x)
  unfold Builtin.«object.__setattr__»
  repeat (first | rw [refuse_eq] | (rw [refuseLoop_ref, refuseLoop_ref, hpass]) | (with_reducible refine wpAny_loadPart_at hx ?_; rw [hc]) | with_reducible refine wpAny_mroOf_exc hC ?_ | (with_reducible refine look_two hC hn hU hnU hna SF.mro hB ?_; rw [hnb]) | wp_step)
  rw [hdn, if_neg (by simp [typeHasDict])]
  split
  · rename_i hcd
    cases hcd
  split
  · rename_i c hcd
    exact absurd hcd (hnc c)
  · have hx₁ : (h.push { cls := .type "dict", data := .dict #[] }).get? x = some o := Heap.get?_push_of_some _ hx
    have hxs : x ≠ h.objs.size := Nat.ne_of_lt (Heap.lt_size hx)
    refine wpAny_bind (wpAny_alloc' ?_)
    refine wpAny_bind (wpAny_update' hx₁ ?_)
    refine wpAny_pure ?_
    have hgd : ((h.push { cls := .type "dict", data := .dict #[] }).update x fun o => { cls := o.cls, dict := some h.objs.size, data := o.data, slots := o.slots }).get? h.objs.size
        = some { cls := .type "dict", data := .dict #[] } :=
      (Heap.get?_update_ne _ _ _ _ hxs.symm).trans (Heap.get?_push_at rfl rfl)
    have hnd : ((h.push { cls := .type "dict", data := .dict #[] }).update x fun o => { cls := o.cls, dict := some h.objs.size, data := o.data, slots := o.slots }).Ns h.objs.size (fun _ => none) :=
      ⟨_, #[], _, hgd, rfl, fun e he => absurd he (by simp), fun _ => rfl⟩
    show wpAny _ _ (storeInDict h.objs.size (.str name tk) name v) _ _ _
    unfold storeInDict newKeyGuard
    refine wpAny_bind (wpAny_pure (wpAny_bind (wpAny_nsSet1 (Heap.Ns1.of_empty hnd) fun h' hn' hs => ?_)))
    obtain ⟨oD, esD, epD, hoD, hdD, hcD⟩ := hn'.count (Within.cons name v Within.nil)
    refine wpAny_bind (wpAny_lookBehind hoD (by rw [hdD]; exact pastItsLine_dict (Nat.le_trans hcD (by rw [List.length_cons, List.length_nil, sizeLine_eq]; (first | exact Int.natCast_nonneg _ | lia | omega)))) ?_)
    wp_walk
    refine hq h' _ ⟨h.objs.size, ?_⟩ fun b ob hbx hb => ?_
    · refine (hs.2 x hxs).trans (Heap.get?_update_self _ hx₁ ?_)
      have hfr := (Heap.get?_some_iff.mp hx).2
      obtain ⟨oc, od, odt, osl⟩ := o
      cases odt <;> first | rfl | exact hfr
    · exact (hs.2 b (Nat.ne_of_lt (Heap.lt_size hb))).trans ((Heap.get?_update_ne _ _ _ _ hbx).trans (Heap.get?_push_of_some _ hb))
theorem store_attr_two {Q : Unit → Shared → Prop} (SF : StoreFacts B bmB sa owner)
    (hC : h.get? C = some (excClassObj nm q C N bs (.ref U :: bmB) true sn sub ab col dd k0 k1 k2 k3 k5 newId)) (hn : h.Ns N mN) (hU : h.get? U = some { cls := cU, dict := dU, data := .cls cdU, slots := slU }) (hnU : h.Ns cdU.ns mU) (hns : mN "__setattr__" = none) (hnsU : mU "__setattr__" = none) (hna : mN name = none) (hnb : mU name = none)
    (hB : typeLookup (.type B) name = pure none) (hx : h.get? x = some o) (hc : o.cls = .ref C) (hnc : ∀ c, o.data ≠ .cls c) (hdn : o.dict = none)
    (hq : ∀ h' tk', (∃ dx, h'.get? x = some { o with dict := some dx }) → (∀ b ob, b ≠ x → h.get? b = some ob → h'.get? b = some ob) → Q () ⟨h', g, d, tk', os⟩) :
    wpAny (model prog w) A (setAttr (.ref x) name v) Q E ⟨h, g, d, t, os⟩ := by
  have f3 := SF.slot.bind (.ref x)
  unfold setAttr callSpecial? specialOf
  repeat (any_goals (first | assumption | (with_reducible refine wpAny_loadPart_at hx ?_; rw [hc]) | (with_reducible refine look_two hC hn hU hnU hns SF.mro SF.slot.lookup ?_; rw [hnsU]) | wp_step))
  refine codeAny_call_builtin SF.slot.plain SF.entry (check_sa_two SF hC hx hc (store_entry_two SF hC hn hU hnU hna hnb hB hx hc hnc hdn fun h' tk' I' hk => ?_))
  repeat (any_goals (first | assumption | wp_step))
  exact hq h' tk' I' hk
end

noncomputable def initBody : List Stmt := match pw.main.body[(7 : Nat)]? with
  | some (.ClassDef _ _ _ (.FunctionDef _ _ body _ _ _ _ _ _ _ :: _) _ _ _ _ _ _ _) => body
  | _ => []
noncomputable def initPars : Arguments := match pw.main.body[(7 : Nat)]? with
  | some (.ClassDef _ _ _ (.FunctionDef _ args _ _ _ _ _ _ _ _ :: _) _ _ _ _ _ _ _) => args
  | _ => default
noncomputable def initScope : Scope := match pw.main.body[(7 : Nat)]? with
  | some (.ClassDef _ _ _ (.FunctionDef _ _ _ _ _ _ scope _ _ _ :: _) _ _ _ _ _ _ _) => scope
  | _ => default
noncomputable abbrev initFd : FuncData := fnOf (PySem.Str.ofString "__init__") (PySem.Str.ofString "UniError.__init__") initPars initBody initScope (.ref 22) .none .none (.str (PySem.Str.ofString "unicore.base") 187) none (.ref 28) .none
theorem ns_of {h : Heap} {a : Addr} {o : Obj} (ho : h.get? a = some o) (x : (match o.data with | .dict es _ => es.all (fun e => match e.key with | .str _ _ => true | _ => false) | _ => false) = true) : h.Ns a (h.nsMap a) := by
  refine Heap.Ns.of_isNs ?_
  unfold Heap.isNs
  rw [ho]
  exact x
theorem nsMap_of {h : Heap} {a : Addr} {o : Obj} {name : Str} {y : Option Value} (ho : h.get? a = some o) (x : (match o.data with | .dict es _ => nsFind es name | _ => none) = y) : h.nsMap a name = y := by
  unfold Heap.nsMap
  rw [ho]
  exact x
section
variable {prog : Program} {w : World} {A : Around} {E : Value → Shared → Prop} {P : Params} {s : Shared}
theorem k45 : (frag P).lookup 45 = some (fo45 P) := by kernel_rfl
theorem k44 : (frag P).lookup 44 = some (fo44 P) := by kernel_rfl
theorem k32 : (frag P).lookup 32 = some (fo32 P) := by kernel_rfl
theorem k31 : (frag P).lookup 31 = some (fo31 P) := by kernel_rfl
theorem k29 : (frag P).lookup 29 = some ⟨.type "function", none, .func initFd, #[]⟩ := by kernel_rfl
/-- the exception's __init__ -/
theorem init_call (X : (frag P).In s.heap) (hl : s.heap.NoLimit) (hroom : A.depth < recursionLimit) {e : Addr} {oe : Obj} {V : Value} {Q : Value → Shared → Prop} (he : s.heap.get? e = some oe) (hc : oe.cls = .ref 45) (hd : ∀ c, oe.data ≠ .cls c) (hn : oe.dict = none)
    (hq : ∀ h' tk, (∀ b o, b ≠ e → s.heap.get? b = some o → h'.get? b = some o) → (∃ dx, h'.get? e = some { oe with dict := some dx }) → Q .none { s with heap := h', toks := tk }) :
    wpAny (model prog w) A (call (.ref 29) [.ref e, V]) Q E s := by
  refine wpAny_call (codeAny_call_function (fd := initFd) (body := initBody) hroom (X _ _ k29) rfl (by decide +kernel) (by decide +kernel) rfl (codeRec_of X (by kernel_rfl)) ?_)
  have hb : BindsTo s initFd ⟨[.ref e, V], []⟩ [(PySem.Str.ofString "self", .ref e), (PySem.Str.ofString "told", V)] :=
    .of_defaults (T := 22) (items := #[.none]) (n := 0) rfl (X 22 (fo22 P) (by kernel_rfl)) rfl rfl (by kernel_rfl)
  refine hb _ _ _ _ (wpAny_newFunctionEnv (by decide +kernel) (fun y hy => ?_) (fun h₁ hns hsb => ⟨hl.fresh _ hsb, codeAny_func ?_⟩) (by decide +kernel))
  · simp only [List.mem_cons, List.not_mem_nil, or_false] at hy
    rcases hy with rfl | rfl
    · show initScope.names.lookup (PySem.Str.ofString "self") = _
      decide +kernel
    · show initScope.names.lookup (PySem.Str.ofString "told") = _
      decide +kernel
  have hk₁ : ∀ b o, s.heap.get? b = some o → h₁.get? b = some o := fun b o q => hsb.extBut b o (Nat.ne_of_lt (Heap.lt_size q)) (Heap.get?_push_of_some _ q)
  have X₁ := X.keeps hk₁
  have he₁ := hk₁ _ _ he
  obtain ⟨p1, p2, p3, p4, hbody⟩ : ∃ p1 p2 p3 p4, initBody = [.Assign [.Attribute (.Name (PySem.Str.ofString "self") p1) (PySem.Str.ofString "told") p2] (.Name (PySem.Str.ofString "told") p3) p4] := ⟨_, _, _, _, rfl⟩
  rw [hbody]
  refine wpAny_execs_cons (plainObj_wpAny_Assign_Attribute (wpAny_Name (wpAny_loadName_local (v := V) ?_ ?_ hns ?_ (wpAny_Name (wpAny_loadName_local (v := .ref e) ?_ ?_ hns ?_ ?_)))))
  · show initScope.kind = _
    decide +kernel
  · show initScope.names.lookup (PySem.Str.ofString "told") = _
    decide +kernel
  · rfl
  · show initScope.kind = _
    decide +kernel
  · show initScope.names.lookup (PySem.Str.ofString "self") = _
    decide +kernel
  · rfl
  refine store_attr_two PySem.F.store_Exception (X₁ _ _ k45) (ns_of (X₁ _ _ k44) (by kernel_rfl)) (X₁ _ _ k32) (ns_of (X₁ _ _ k31) (by kernel_rfl)) (nsMap_of (X₁ _ _ k44) (by kernel_rfl)) (nsMap_of (X₁ _ _ k31) (by kernel_rfl)) (nsMap_of (X₁ _ _ k44) (by kernel_rfl)) (nsMap_of (X₁ _ _ k31) (by kernel_rfl))
    (by rw [typeLookup_type, builtinLookup_eq_fast]; kernel_rfl) he₁ hc hd hn fun h' tk' I' hk => wpAny_execs_nil ?_
  exact hq h' tk' (fun b o hb q => hk b o hb (hk₁ _ _ q)) I'
/-- the exception made -/
theorem bad_call (X : (frag P).In s.heap) (hl : s.heap.NoLimit) (hroom : A.depth + 1 < recursionLimit) {V : Value} {Q : Value → Shared → Prop}
    (hq : ∀ h' tk e t, (∀ b o, s.heap.get? b = some o → h'.get? b = some o) → s.heap.get? e = none → (∃ dx, h'.get? e = some { cls := .ref 45, dict := some dx, data := .fields #[.ref t, .none, .none, .none, .bool false, .none] }) → Q (.ref e) { s with heap := h', toks := tk }) :
    wpAny (model prog w) A (call (.ref 45) [V]) Q E s := by
  obtain ⟨h, g, d, t, os⟩ := s
  refine call_two PySem.F.excBase_Exception (X _ _ k45) (ns_of (X _ _ k44) (by kernel_rfl)) (X _ _ k32) (ns_of (X _ _ k31) (by kernel_rfl)) (nsMap_of (X _ _ k44) (by kernel_rfl)) (nsMap_of (X _ _ k31) (by kernel_rfl)) (X _ _ k29) rfl fun h' e hm => ?_
  obtain ⟨t0, he, hnt, ht⟩ := hm.there
  refine init_call (X.keeps hm.keeps) ?_ ?_ he rfl (fun c q => by cases q) rfl fun h'' tk hk hx => ⟨rfl, hq h'' tk e t0 (fun b o q => hk b o (fun q' => ?_) (hm.keeps _ _ q)) hm.new hx⟩
  · exact hl.keeps hm.keeps
  · first
    | exact hroom
    | exact Nat.lt_of_succ_lt hroom
  · rw [q', hm.new] at q; cases q
end

section
variable {M : Model} {A : Around} {E : Value → Shared → Prop} {s : Shared} {env : Env}
variable {nm q : Str} {C N : Addr} {bs bm : List Value} {hdct : Bool} {sn : List Str} {sub : List Value} {ab : Bool} {col : Option Bool} {dd : Option Addr} {k0 k1 k2 k3 k5 : Option Value} {newId : String}
theorem raise_two {x : Sem Value} {Q : Flow → Shared → Prop} (hbase : bm.contains (.type "BaseException") = true) (hh : A.handled = none)
    (h : wpAny M A x (fun v s₁ => ∃ e t od, v = .ref e ∧ s₁.heap.get? C = some (excClassObj nm q C N bs bm hdct sn sub ab col dd k0 k1 k2 k3 k5 newId) ∧
      s₁.heap.get? e = some { cls := .ref C, dict := od, data := .fields #[.ref t, .none, .none, .none, .bool false, .none] } ∧ E (.ref e) s₁) E s) :
    wpAny M A (raiseStmt env (some x) none) Q E s := by
  have hcB : (Value.ref C :: bm).contains (.type "BaseException") = true := by rw [List.contains_cons, hbase, Bool.or_true]
  unfold raiseStmt
  refine wpAny_bind (wpAny_mono h (fun v s₁ h₁ => ?_) fun _ _ x => x)
  obtain ⟨e, t, od, rfl, hC, he, hE⟩ := h₁
  obtain ⟨hp, g, d, tk, os⟩ := s₁
  repeat (first | with_reducible refine wpAny_loadPart_at he ?_ | with_reducible refine wpAny_loadPart_at hC ?_ | (with_reducible refine wpAny_isSubtype_exc hC ?_; rw [hcB]) | wp_step)
  exact wpAny_raiseNew_none hh hE
end
theorem looks_cls {M : Model} {h : Heap} {nm q : Str} {C N : Addr} {bs bm : List Value} {hdct : Bool} {sn : List Str} {sub : List Value} {ab : Bool} {col : Option Bool} {dd : Option Addr} {k0 k1 k2 k3 k5 : Option Value} {newId : String}
    (hC : h.get? C = some (excClassObj nm q C N bs bm hdct sn sub ab col dd k0 k1 k2 k3 k5 newId)) : Looks M h (keeperOf (.ref C)) .machine := by
  intro A Q E s hk q
  obtain ⟨hp, g, d, tk, os⟩ := s
  exact wpAny_keeperOf_exc (hk _ _ hC) q
/-- a new object is held -/
theorem Sim.holdNew {G : Gd} {F : List (Addr × Obj)} {σ : St} {e : En} {h h₁ : Heap} (S₁ : Sim G F σ e h₁) (S : Sim G F σ e h) {a : Addr} {O : Obj} (ha : h₁.get? a = none) (n1 : h.get? a = some O) : Sim G ((a, O) :: F) σ e h ∧ ∀ p ∈ F, p.1 ≠ a := by
  obtain ⟨m, ⟨H, uH, Fm⟩, _⟩ := S₁.fr
  have hF : ∀ p ∈ F, p.1 ≠ a := fun p hp q => by
    have := (S₁.fo p hp).1
    rw [q, ha] at this; cases this
  refine ⟨⟨S.fr, S.ns, S.ap, S.ob, fun p hp => ?_⟩, hF⟩
  rcases List.mem_cons.mp hp with rfl | hp
  · refine ⟨n1, fun q => ?_, fun q => ?_, uH.fresh ?_, ?_⟩
    · obtain ⟨o, _, _, q', _⟩ := Fm.ns
      rw [← show a = G.L from q, ha] at q'; cases q'
    · obtain ⟨mC, ⟨o, _, _, q', _⟩, _⟩ := S₁.ns
      rw [← show a = G.env.locals from q, ha] at q'; cases q'
    · cases q : H.get? a with
      | none => rfl
      | some o => have := Fm.keep _ _ q; rw [ha] at this; cases this
    · cases q : σ a with
      | none => rfl
      | some o =>
        obtain ⟨O', q', _⟩ := S₁.at q
        rw [ha] at q'; cases q'
  · exact S.fo p hp
section
variable {P : Params} {cf : Cfg} {cl : Bool} {D : Nat} {G : Gd} {fr : Frm} {F : List (Addr × Obj)} {e : En} {σ : St} {s : Shared} {L : Lvl} {E : Value → Shared → Prop}
noncomputable abbrev excO (od : Option Addr) (t : Addr) : Obj := { cls := .ref 45, dict := od, data := .fields #[.ref t, .none, .none, .none, .bool false, .none] }
theorem sRaise (hK : cf.K = frag P) (H : Snd cf false D L) (ok : Ok cf (D + 1) G fr) (ok' : Ok cf D G fr) {n : Str} {np cpos pos : Pos} {x : PySem.Expr} {Q : Flow → Shared → Prop} {R : St → Prop} (S : Sim G F σ e s.heap)
    (hn : noStar x = true) (h : L.E fr (.Name n np) e σ fun v σ => v = .ref 45 ∧ evArgs L fr [x] e σ fun vs σ => ∃ v, vs = [v] ∧ R σ)
    (hE : ∀ h' tk σ' ex t od, Sim G ((ex, excO od t) :: F) σ' e h' → (∀ p ∈ F, p.1 ≠ ex) → R σ' → E (.ref ex) { s with heap := h', toks := tk }) :
    wpAny (model G.prog G.w) G.A (exec (.Raise (some (.Call (.Name n np) [x] [] cpos)) none pos) G.env) Q E s := by
  rw [arm_exec_Raise]
  refine wpAny_bind (wpAny_standAt ?_)
  have key : wpC false (model G.prog G.w) G.A (eval (.Call (.Name n np) [x] [] cpos) G.env) (fun v s₁ => ∃ h' tk σ' ex t od, v = .ref ex ∧ s₁ = { s with heap := h', toks := tk } ∧ Sim G ((ex, excO od t) :: F) σ' e h' ∧ (∀ p ∈ F, p.1 ≠ ex) ∧ R σ') s := by
    refine xCallExpr rfl (xMono (H.E ok' S h) fun V s₁ h₁ => ?_)
    obtain ⟨h', tk, σ₁, rfl, S₁, q1, q⟩ := h₁
    obtain rfl : V = .ref 45 := un_of (v := .ref 45) q1
    have hna : [x].all noStar = true := by rw [List.all_cons, hn]; rfl
    refine xCallWith hna (xMono (sArgs H ok' hna (s := { s with heap := h', toks := tk }) S₁ q) fun Vs s₃ h₃ => ?_)
    obtain ⟨h'', tk', σ₂, rfl, S₂, q2⟩ := h₃
    have X₂ : (frag P).In h'' := hK ▸ ok.X.keeps (S₂.bs ok)
    refine ⟨⟨.machine, .inr rfl, looks_cls (X₂ _ _ k45)⟩, ?_⟩
    obtain ⟨v, hv, q2⟩ := q2
    obtain ⟨V, rfl⟩ : ∃ V, Vs = [V] := by
      cases Vs with
      | nil => cases hv
      | cons V r =>
        cases r with
        | nil => exact ⟨V, rfl⟩
        | cons => cases hv
    refine xAny (bad_call (s := { s with heap := h'', toks := tk' }) X₂ (ok.T.nolimit.keeps (S₂.bs ok)) (by have := ok.hd; (first | exact Int.natCast_nonneg _ | lia | omega)) fun h₃ tk₃ ex t hk hex hx => ?_)
    obtain ⟨dx, hx⟩ := hx
    obtain ⟨S₃, hF⟩ := S₂.holdNew (S₂.grow hk) hex hx
    exact ⟨h₃, tk₃, σ₂, ex, t, some dx, rfl, rfl, S₃, hF, q2⟩
  have ht := fun Q => raise_two (M := model G.prog G.w) (A := G.A) (E := E) (s := s) (env := G.env) (C := 45) (bm := [.ref 32, .type "Exception", .type "BaseException", .type "object"]) (nm := (PySem.Str.ofString "BadEncoding")) (q := (PySem.Str.ofString "BadEncoding")) (N := 44) (bs := [.ref 32]) (hdct := true) (sn := []) (sub := []) (ab := false) (col := none) (dd := none)
    (k0 := some (.ref 36)) (k1 := none) (k2 := some (.str (PySem.Str.ofString "BadEncoding") 230)) (k3 := some (.str (PySem.Str.ofString "BadEncoding") 238)) (k5 := some (.bool true)) (newId := "Exception.__new__") (x := do let v ← eval (.Call (.Name n np) [x] [] cpos) G.env; standAt pos; pure v) (Q := Q) (by decide +kernel) ok.hh
  refine ht Q (wpAny_bind (wpAny_mono (xToAny key) (fun v s₃ h₃ => wpAny_bind (wpAny_standAt (wpAny_pure ?_))) fun _ _ f => f.elim))
  obtain ⟨h', tk, σ', ex, t, od, rfl, rfl, S', hF, hR⟩ := h₃
  have X' : (frag P).In h' := hK ▸ ok.X.keeps (S'.bs ok)
  exact ⟨ex, t, od, rfl, X' _ _ k45, (S'.fo _ (.head _)).1, hE h' tk σ' ex t od S' hF hR⟩
end

section
variable {M : Model} {cf : Cfg} {D : Nat} {G : Gd} {fr : Frm} {F : List (Addr × Obj)} {e : En} {σ : St} {s : Shared} {A : Around} {E : Value → Shared → Prop}
/-- the slots of the frames are turned -/
theorem Sim.slots (ok : Ok cf D G fr) {h h₁ : Heap} (S : Sim G F σ e h) (hs : Heap.SlotsOnly ((G.env₀ :: G.outer).filterMap (·.frame)) h h₁) : Sim G F σ e h₁ := by
  obtain ⟨m, ⟨H, uH, Fm⟩, hm⟩ := S.fr
  obtain ⟨mC, NC, hC⟩ := S.ns
  have mW : (G.env₀ :: G.outer).filterMap (·.frame) = G.L :: G.outer.filterMap (·.frame) := by rw [List.filterMap_cons, ok.hf]
  rw [mW] at hs
  have noW : ∀ b, G.h₀.get? b = none → b ∉ G.outer.filterMap (·.frame) := fun b hb hm => by
    obtain ⟨_, o, q, _⟩ := ok.B.frames.mem hm
    rw [hb] at q; cases q
  obtain ⟨H₂, p1, p2, p3⟩ := patch H h₁ (G.outer.filterMap (·.frame)) fun b _ o q => hs.2.2 b o (Fm.keep _ _ q)
  have up₂ : Up G.h₀ G.outer H₂ := by
    refine ⟨p1.1.trans uH.sz, fun b hb => (p1.2.1 b hb).trans (uH.same b hb), fun b o q => ?_, fun b q => p2 b (uH.none b q)⟩
    obtain ⟨sl, q1⟩ := uH.slot b o q
    obtain ⟨sl', q2⟩ := p1.2.2 b _ q1
    exact ⟨sl', q2⟩
  have keep : ∀ b o, H₂.get? b = some o → h₁.get? b = some o := fun b o q => by
    by_cases hb : b ∈ G.outer.filterMap (·.frame)
    · exact p3 b hb o q
    · rw [p1.2.1 b hb] at q
      refine (hs.2.1 b fun hm => ?_).trans (Fm.keep _ _ q)
      rcases List.mem_cons.mp hm with rfl | hm
      · exact absurd (Nat.lt_of_lt_of_le (Heap.lt_size q) Fm.above) (Nat.lt_irrefl _)
      · exact hb hm
  have off : ∀ b, b ≠ G.L → G.h₀.get? b = none → h₁.get? b = h.get? b := fun b h1 h2 => hs.2.1 b fun hm => by
    rcases List.mem_cons.mp hm with q | hm
    · exact h1 q
    · exact noW b h2 hm
  refine ⟨⟨m, ⟨H₂, up₂, ns_slots Fm.ns fun o q => hs.2.2 _ o q, keep, by rw [p1.1]; exact Fm.above⟩, hm⟩, ⟨mC, ns_slots NC fun o q => hs.2.2 _ o q, hC⟩, S.ap, fun a o q => ?_, fun p hp => ?_⟩
  · exact (S.ob a o q).turn fun O q h1 _ h2 => (off a h1 h2).trans q
  · obtain ⟨h1, h2, h3, h4, h5⟩ := S.fo p hp
    exact ⟨(off _ h2 h4).trans h1, h2, h3, h4, h5⟩
theorem Sim.frames (ok : Ok cf D G fr) {h : Heap} (S : Sim G F σ e h) : h.FunFrames G.base (G.env₀ :: G.outer) := by
  obtain ⟨m, ⟨H, uH, Fm⟩, hm⟩ := S.fr
  exact (pushX (uH.below ok.B) Fm ok.hf ok.h0).frames
/-- an exception in flight -/
noncomputable def Fly (G : Gd) (F : List (Addr × Obj)) (σ : St) (e : En) (h : Heap) (ex : Addr) (fl : Value) : Prop :=
  ∃ Oe vs T OT ts, Sim G ((ex, Oe) :: (T, OT) :: F) σ e h ∧ ex ≠ T ∧ (∀ p ∈ F, p.1 ≠ ex ∧ p.1 ≠ T) ∧ Oe.cls = .ref 45 ∧ Oe.data = .fields vs ∧ vs[1]? = some (.ref T) ∧ OT.data = .fields ts ∧ ts[3]? = some fl
theorem fEntry (ok : Ok cf D G fr) {head : Value} {hadNext : Bool} {ex : Addr} {Oe : Obj} {vs : Array Value} {Q : Unit → Shared → Prop} (S : Sim G ((ex, Oe) :: F) σ e s.heap) (hF : ∀ p ∈ F, p.1 ≠ ex) (hc : Oe.cls = .ref 45) (hd : Oe.data = .fields vs) (hsz : 1 < vs.size)
    (hQ : ∀ h', Fly G F σ e h' ex (rawInt G.L) → Q () { s with heap := h' }) :
    wpAny M G.A (do let a ← frameOf G.env₀; let pl ← entryPlaceOf G.L hadNext; let b ← EntryCells.newEntry head a .none (rawInt G.L) .none pl; setField (.ref ex) 1 b) Q E s := by
  refine wpAny_bind (wpAny_frameOf_fun ok.hA (S.frames ok) ok.hf fun h₁ hs₁ => ?_)
  have S₁ := S.slots ok hs₁
  refine wpAny_bind (wpAny_entryPlaceOf fun pl hpl => ?_)
  unfold EntryCells.newEntry newFields
  refine wpAny_bind (wpAny_newObj_type ?_ (hpl.sizeOk5 _ _ _ _ _))
  obtain ⟨S₂, hF₂⟩ := S₁.hold (O := { cls := .type "traceback", dict := none, data := .fields ([head, .ref G.L, .none, rawInt G.L, .none] ++ (if pl.isEmpty then List.replicate 6 Value.none else pl)).toArray }) rfl
  have hTe : ex ≠ h₁.objs.size := hF₂ _ (.head _)
  have S₃ := S₂.perm (F' := (ex, Oe) :: (h₁.objs.size, { cls := .type "traceback", dict := none, data := .fields ([head, .ref G.L, .none, rawInt G.L, .none] ++ (if pl.isEmpty then List.replicate 6 Value.none else pl)).toArray }) :: F) fun p hp => by
    simp only [List.mem_cons] at hp ⊢
    rcases hp with h | h | h
    · exact .inr (.inl h)
    · exact .inl h
    · exact .inr (.inr h)
  refine wpAny_setField (S₃.fo _ (.head _)).1 hd hsz (hQ _ ?_)
  have hd₃ := Obj.data_mapFields hd (·.setIfInBounds 1 (Value.ref h₁.objs.size))
  have S₄ := S₃.turnF (h' := (h₁.push { cls := .type "traceback", dict := none, data := .fields ([head, .ref G.L, .none, rawInt G.L, .none] ++ (if pl.isEmpty then List.replicate 6 Value.none else pl)).toArray }).update ex (Obj.mapFields (·.setIfInBounds 1 (Value.ref h₁.objs.size)))) (fun p hp => by
      rcases List.mem_cons.mp hp with rfl | hp
      · exact Ne.symm hTe
      · exact hF p hp) (Heap.SameBut.update _ _ _) (Heap.get?_update_self _ (S₃.fo _ (.head _)).1 (Obj.isFreed_of_fields hd₃))
  exact ⟨_, _, _, _, _, S₄, hTe, fun p hp => ⟨hF p hp, hF₂ p (.tail _ hp)⟩, (Obj.cls_mapFields _ _).trans hc, hd₃, by simp [hsz], rfl, by first | (simp; done) | (rcases hpl with rfl | ⟨_, _, _, _, _, _, _, rfl⟩ <;> simp)⟩
/-- it leaves its first frame's statement -/
theorem fNote0 (ok : Ok cf D G fr) (he : G.env₀ = G.env) {ex t : Addr} {od : Option Addr} {Q : Unit → Shared → Prop} (S : Sim G ((ex, excO od t) :: F) σ e s.heap) (hF : ∀ p ∈ F, p.1 ≠ ex)
    (hQ : ∀ h', Fly G F σ e h' ex (rawInt G.L) → Q () { s with heap := h' }) : wpAny M G.A (noteFrame (.ref ex) G.env) Q E s := by
  rw [← he]
  unfold noteFrame
  simp only [ok.hf]
  refine wpAny_bind (wpAny_field (S.fo _ (.head _)).1 rfl (x := .none) rfl ?_)
  rw [if_neg (by decide)]
  exact fEntry ok S hF rfl rfl (by simp) hQ
theorem fNote (ok : Ok cf D G fr) (he : G.env₀ = G.env) {ex : Addr} {Q : Unit → Shared → Prop} (S : Fly G F σ e s.heap ex .none)
    (hQ : ∀ h', Fly G F σ e h' ex (rawInt G.L) → Q () { s with heap := h' }) : wpAny M G.A (noteFrame (.ref ex) G.env) Q E s := by
  obtain ⟨Oe, vs, T, OT, ts, S, hT, hF, hc, hd, h1, hdT, h3⟩ := S
  rw [← he]
  unfold noteFrame
  simp only [ok.hf]
  refine wpAny_bind (wpAny_field (S.fo _ (.head _)).1 hd h1 ?_)
  rw [if_pos (show (Value.ref T != Value.none) = true from by simp)]
  refine wpAny_bind (wpAny_field (S.fo (T, OT) (.tail _ (.head _))).1 hdT h3 ?_)
  rw [if_neg (show ¬ ((Value.none == rawInt G.L) = true) from by simp [rawInt])]
  have hsz3 : 3 < ts.size := (Array.getElem?_eq_some_iff.mp h3).1
  refine wpAny_bind (wpAny_setField (S.fo (T, OT) (.tail _ (.head _))).1 hdT hsz3 ?_)
  have swap : ∀ {a b : Addr × Obj} {F : List (Addr × Obj)} {h : Heap}, Sim G (a :: b :: F) σ e h → Sim G (b :: a :: F) σ e h := fun S => S.perm fun p hp => by
    simp only [List.mem_cons] at hp ⊢
    rcases hp with h | h | h
    · exact .inr (.inl h)
    · exact .inl h
    · exact .inr (.inr h)
  have hd₃ := Obj.data_mapFields hdT (·.setIfInBounds 3 Value.none)
  have S₂ := (swap S).turnF (h' := s.heap.update T (Obj.mapFields (·.setIfInBounds 3 Value.none))) (fun p hp => by
      rcases List.mem_cons.mp hp with rfl | hp
      · exact hT
      · exact (hF p hp).2) (Heap.SameBut.update _ _ _) (Heap.get?_update_self _ (S.fo (T, OT) (.tail _ (.head _))).1 (Obj.isFreed_of_fields hd₃))
  refine fEntry ok (s := { s with heap := s.heap.update T (Obj.mapFields (·.setIfInBounds 3 Value.none)) }) ((swap S₂).perm (F' := (ex, Oe) :: F) fun p hp => ?_) (fun p hp => (hF p hp).1) hc hd (Array.getElem?_eq_some_iff.mp h1).1 hQ
  simp only [List.mem_cons] at hp ⊢
  rcases hp with h | h
  · exact .inl h
  · exact .inr (.inr h)
theorem fAgain (ok : Ok cf D G fr) (he : G.env₀ = G.env) {ex : Addr} {Q : Unit → Shared → Prop} (S : Fly G F σ e s.heap ex (rawInt G.L)) (hQ : Q () s) : wpAny M A (noteFrame (.ref ex) G.env) Q E s := by
  obtain ⟨Oe, vs, T, OT, ts, S, hT, hF, hc, hd, h1, hdT, h3⟩ := S
  rw [← he]
  unfold noteFrame
  simp only [ok.hf]
  refine wpAny_bind (wpAny_field (S.fo _ (.head _)).1 hd h1 ?_)
  rw [if_pos (show (Value.ref T != Value.none) = true from by simp)]
  refine wpAny_bind (wpAny_field (S.fo (T, OT) (.tail _ (.head _))).1 hdT h3 ?_)
  rw [if_pos (show (rawInt G.L == rawInt G.L) = true from by simp)]
  exact wpAny_pure hQ
theorem fSet {ex : Addr} {fl : Value} {f : Option Addr} {Q : Unit → Shared → Prop} (S : Fly G F σ e s.heap ex fl) (hQ : ∀ h', Fly G F σ e h' ex (f.elim .none fun f => rawInt f) → Q () { s with heap := h' }) : wpAny M A (setFlight (.ref ex) f) Q E s := by
  obtain ⟨Oe, vs, T, OT, ts, S, hT, hF, hc, hd, h1, hdT, h3⟩ := S
  have hsz3 : 3 < ts.size := (Array.getElem?_eq_some_iff.mp h3).1
  unfold setFlight
  refine wpAny_bind (wpAny_field (S.fo _ (.head _)).1 hd h1 ?_)
  rw [if_pos (show (Value.ref T != Value.none) = true from by simp)]
  have swap : ∀ {a b : Addr × Obj} {F : List (Addr × Obj)} {h : Heap}, Sim G (a :: b :: F) σ e h → Sim G (b :: a :: F) σ e h := fun S => S.perm fun p hp => by
    simp only [List.mem_cons] at hp ⊢
    rcases hp with h | h | h
    · exact .inr (.inl h)
    · exact .inl h
    · exact .inr (.inr h)
  have hd₃ := Obj.data_mapFields hdT (·.setIfInBounds 3 (f.elim Value.none fun f => rawInt f))
  refine wpAny_setField (S.fo (T, OT) (.tail _ (.head _))).1 hdT hsz3 (hQ _ ?_)
  have S₂ := (swap S).turnF (h' := s.heap.update T (Obj.mapFields (·.setIfInBounds 3 (f.elim Value.none fun f => rawInt f)))) (fun p hp => by
      rcases List.mem_cons.mp hp with rfl | hp
      · exact hT
      · exact (hF p hp).2) (Heap.SameBut.update _ _ _) (Heap.get?_update_self _ (S.fo (T, OT) (.tail _ (.head _))).1 (Obj.isFreed_of_fields hd₃))
  exact ⟨_, _, _, _, _, swap S₂, hT, hF, hc, hd, h1, hd₃, by simp [hsz3]⟩
/-- what a loop in the frame raised -/
theorem fBack {ex : Addr} {fl : Value} {env : Env} (S : Fly G F σ e s.heap ex fl) (hQ : ∀ h', Fly G F σ e h' ex (env.frame.elim .none fun f => rawInt f) → E (.ref ex) { s with heap := h' }) : cameBackBy M A env E (.ref ex) s := by
  have S0 := S
  obtain ⟨Oe, vs, T, OT, ts, S, hT, hF, hc, hd, h1, hdT, h3⟩ := S
  unfold cameBackBy
  refine wpAny_bind (wpAny_field (S.fo _ (.head _)).1 hd h1 ?_)
  rw [if_neg (show ¬ ((Value.ref T == Value.none) = true) from by simp)]
  exact fSet S0 hQ
theorem fLeave (ok : Ok cf D G fr) (he : G.env₀ = G.env) {ex : Addr} {Q : Unit → Shared → Prop} (S : Fly G F σ e s.heap ex (rawInt G.L)) (hQ : ∀ h', Fly G F σ e h' ex .none → Q () { s with heap := h' }) : wpAny M A (leaving G.env (.ref ex)) Q E s := by
  unfold leaving
  exact wpAny_bind (fAgain ok he S (fSet S hQ))
end

/-- a def's call that raises -/
noncomputable def ConE (cf : Cfg) (D : Nat) (a : Addr) (vs : List PV) (σ : St) (R : St → Prop) : Prop :=
  PySem.W.fnIn cf.K a = true ∧ ∀ (G : Gd) (fr : Frm) (e : En) (s : Shared) (Vs : List Value), Ok cf D G fr → Vs.map er = vs → Sim G [] σ e s.heap →
    wpAny (model G.prog G.w) G.A (call (.ref a) Vs) (fun _ _ => False) (fun x s' => ∃ ex h tk σ', x = .ref ex ∧ s' = { s with heap := h, toks := tk } ∧ Fly G [] σ' e h ex .none ∧ R σ') s
section
variable {P : Params} {cf : Cfg} {D : Nat} {fr : Frm} {σ : St} {L : Lvl} {G : Gd} {e : En} {s : Shared}
theorem con_ofE {a : Addr} {vs : List PV} {R : St → Prop} {oc : Value} {od : Option Addr} {osl : Array (Option Value)} {name qual : Str} {params : Arguments} {body : List Stmt} {scope : Scope} {dV kV doc pm cdv ct : Value} {an : Option Addr} {ns : List Str}
    (ho : cf.K.lookup a = some ⟨oc, od, .func (fnOf name qual params body scope dV kV doc pm an cdv ct), osl⟩) (hfn : PySem.W.fnIn cf.K a = true) (hcd : codeIn cf.K cdv qual = true)
    (hfr : frOk cf.K scope fr = true) (hlen : vs.length = ns.length) (hnd : ns.Nodup) (hloc : ∀ y ∈ ns, scope.names.lookup y = some .local)
    (hbind : ∀ (s : Shared) (Vs : List Value), Vs.length = ns.length → cf.K.In s.heap → BindsTo s (fnOf name qual params body scope dV kV doc pm an cdv ct) ⟨Vs, []⟩ (ns.zip Vs))
    (h : ∀ (G : Gd) (s : Shared), Ok cf D G fr → G.env₀ = G.env → Sim G [] σ (argsE ns vs) s.heap →
      wpAny (model G.prog G.w) G.A (execs body G.env) (fun _ _ => False) (fun x s' => ∃ ex h tk e' σ', x = .ref ex ∧ s' = { s with heap := h, toks := tk } ∧ Fly G [] σ' e' h ex (rawInt G.L) ∧ R σ') s) : ConE cf (D + 1) a vs σ R := by
  refine ⟨hfn, fun G fr' e s Vs ok hVs S => ?_⟩
  subst hVs
  rw [List.length_map] at hlen
  obtain ⟨f1, f2, f3, f4, f5, f6, f7⟩ := frOk_e hfr
  have hX : cf.K.In s.heap := ok.X.keeps (S.bs ok)
  refine wpAny_call (codeAny_call_function (fd := fnOf name qual params body scope dV kV doc pm an cdv ct) (body := body) (by have := ok.hd; (first | exact Int.natCast_nonneg _ | lia | omega)) (hX _ _ ho) rfl f3 f2 rfl (codeRec_of hX hcd) ?_)
  have hz := zip_fst hlen
  refine hbind s Vs hlen hX _ _ _ _ (wpAny_newFunctionEnv f5 (fun y hy => hloc _ (hz ▸ List.mem_map_of_mem (f := (·.1)) hy)) (fun h₁ hns hsb => ⟨((ok.T.nolimit.keeps (S.bs ok)).fresh _ hsb), codeAny_func ?_⟩) f1)
  obtain ⟨G', hG', ok', S', back⟩ := S.entry (qual := qual) (cdv := cdv) (a := a) ok hfr hlen hnd rfl hns hsb
  have hee : G'.env₀ = G'.env := by rw [hG']
  have key := h G' { s with heap := h₁, toks := s.toks + (ns.zip Vs).length } ok' hee S'
  have hA : G'.A = G.A.deeper (envOf qual scope s.heap.objs.size a cdv) := by rw [hG']
  have hE : G'.env = envOf qual scope s.heap.objs.size a cdv := by rw [hG']
  rw [hA, hE, show G'.prog = G.prog by rw [hG'], show G'.w = G.w by rw [hG']] at key
  refine wpAny_mono key (fun _ _ f => f.elim) fun x s' hx => ?_
  obtain ⟨ex, h', tk, e', σ', rfl, rfl, S₂, q⟩ := hx
  have fin := fLeave (M := model G.prog G.w) (A := G.A.deeper (envOf qual scope s.heap.objs.size a cdv)) (E := fun _ _ => False) (s := { s with heap := h', toks := tk }) ok' hee S₂ (Q := fun _ s'' => ∃ h'', s'' = { s with heap := h'', toks := tk } ∧ Fly G' [] σ' e' h'' ex .none) fun h'' S₃ => ⟨h'', rfl, S₃⟩
  rw [hE] at fin
  refine wpAny_mono fin (fun _ s'' hx => ?_) fun _ _ f => f.elim
  obtain ⟨h'', rfl, Oe, ws, T, OT, ts, S₃, hT, _, hc, hd, h1, hdT, h3⟩ := hx
  exact ⟨ex, h'', tk, σ', rfl, rfl, ⟨Oe, ws, T, OT, ts, back _ _ _ _ S₃, hT, (fun p hp => by cases hp), hc, hd, h1, hdT, h3⟩, q⟩
theorem nxF {f : Flow} (q : erF f = .next) : f = .next := by cases f <;> first | rfl | cases q
/-- a turn of a loop that may raise -/
theorem sDecTurn (hK : cf.K = frag P) (H : Snd cf false D L) (ok : Ok cf (D + 1) G fr) (ok' : Ok cf D G fr) {a1 a3 : Stmt} {t2 x : PySem.Expr} {n : Str} {np cpos rpos ipos : Pos} {R : St → Prop} {J : En → St → Prop} {Q : Flow → Shared → Prop} {E : Value → Shared → Prop} (S : Sim G [] σ e s.heap) (hn : noStar x = true)
    (h : L.S fr a1 e σ fun f e σ => f = .next ∧ L.T fr t2 e σ fun b σ => ifB b (L.E fr (.Name n np) e σ fun v σ => v = .ref 45 ∧ evArgs L fr [x] e σ fun vs σ => ∃ v, vs = [v] ∧ R σ) (L.S fr a3 e σ fun f e σ => f = .next ∧ J e σ))
    (hQ : ∀ h tk e σ, Sim G [] σ e h → J e σ → Q .next { s with heap := h, toks := tk })
    (hE : ∀ h tk e σ ex t od, Sim G [(ex, excO od t)] σ e h → R σ → E (.ref ex) { s with heap := h, toks := tk }) :
    wpAny (model G.prog G.w) G.A (execs [a1, .If t2 [.Raise (some (.Call (.Name n np) [x] [] cpos)) none rpos] [] ipos, a3] G.env) Q E s := by
  refine wpAny_execs_cons (wpAny_mono (xToAny (H.S ok' S h)) (fun f s₃ h₃ => ?_) fun _ _ f => f.elim)
  obtain ⟨h'', tk'', e₂, σ₂, rfl, S₂, q, q2⟩ := h₃
  obtain rfl := nxF q
  refine wpAny_execs_cons (wpAny_If (wpAny_mono (xToAny (H.T ok' (s := { s with heap := h'', toks := tk'' }) S₂ q2)) (fun b s₄ h₄ => ?_) fun _ _ f => f.elim))
  obtain ⟨h3, tk3, σ₃, rfl, S₃, q3⟩ := h₄
  cases b with
  | true =>
    rw [if_pos rfl]
    exact wpAny_execs_cons (sRaise hK H ok ok' (s := { s with heap := h3, toks := tk3 }) S₃ hn (q3.1 rfl) fun h4 tk4 σ4 ex t od S₄ hF hR => hE _ _ _ _ _ _ _ S₄ hR)
  | false =>
    rw [if_neg Bool.false_ne_true]
    refine wpAny_execs_nil (wpAny_execs_cons (wpAny_mono (xToAny (H.S ok' (s := { s with heap := h3, toks := tk3 }) S₃ (q3.2 rfl))) (fun f s₃ h₃ => ?_) fun _ _ f => f.elim))
    obtain ⟨h4, tk4, e4, σ4, rfl, S₄, q, hJ⟩ := h₃
    obtain rfl := nxF q
    exact wpAny_execs_nil (hQ _ _ _ _ S₄ hJ)
noncomputable def DInv (G : Gd) (s : Shared) (I : Nat → En → St → Prop) (n : Nat) (s' : Shared) : Prop := ∃ e σ h tk, I n e σ ∧ s' = { s with heap := h, toks := tk } ∧ Sim G [] σ e h
noncomputable def DEnd (G : Gd) (s : Shared) (R : St → Prop) (x : Value) (s' : Shared) : Prop := ∃ ex h tk e' σ', x = .ref ex ∧ s' = { s with heap := h, toks := tk } ∧ Fly G [] σ' e' h ex (rawInt G.L) ∧ R σ'
theorem sDecLoop (hK : cf.K = frag P) (H : Snd cf false D L) (ok : Ok cf (D + 1) G fr) (ok' : Ok cf D G fr) (he : G.env₀ = G.env) {a1 a3 : Stmt} {test t2 x : PySem.Expr} {n : Str} {np cpos rpos ipos pos : Pos} {R : St → Prop} {Q : Flow → Shared → Prop} {k : Nat} (hn : noStar x = true) (I : Nat → En → St → Prop)
    (turn : ∀ k e σ, I k e σ → L.T fr test e σ fun b σ => ifB b
      (L.S fr a1 e σ fun f e σ => f = .next ∧ L.T fr t2 e σ fun b σ => ifB b (L.E fr (.Name n np) e σ fun v σ => v = .ref 45 ∧ evArgs L fr [x] e σ fun vs σ => ∃ v, vs = [v] ∧ R σ)
        (L.S fr a3 e σ fun f e σ => f = .next ∧ ∃ m e', m < k ∧ wk e' e ∧ I m e' σ)) False) {s' : Shared} (h0 : DInv G s I k s') :
    wpAny (model G.prog G.w) G.A (exec (.While test [a1, .If t2 [.Raise (some (.Call (.Name n np) [x] [] cpos)) none rpos] [] ipos, a3] [] pos) G.env) Q (DEnd G s R) s' := by
  refine wpAny_While (codeAny_whileLoop (DInv G s I) ?_ k h0)
  rintro k s' ⟨e, σ, h, tk, hI, rfl, S⟩
  refine wpAny_mono (xToAny (H.T ok' (s := { s with heap := h, toks := tk }) S (turn k e σ hI))) (fun b s₂ h₂ => ?_) fun _ _ f => f.elim
  obtain ⟨h', tk', σ₁, rfl, S₁, q⟩ := h₂
  cases b with
  | false => exact (q.2 rfl).elim
  | true =>
    rw [if_pos rfl]
    refine sDecTurn hK H ok ok' (s := { s with heap := h', toks := tk' }) S₁ hn (q.1 rfl) (fun h4 tk4 e4 σ4 S₄ hJ => ?_) fun h4 tk4 e4 σ4 ex t od S₄ hR => ?_
    · obtain ⟨m, e5, hm, hw, hI⟩ := hJ
      exact ⟨m, hm, e5, σ4, h4, tk4, hI, rfl, S₄.weak hw⟩
    · refine wpAny_mono (fNote0 (M := model G.prog G.w) (E := fun _ _ => False) (s := { s with heap := h4, toks := tk4 }) ok he S₄ (fun p hp => nomatch hp) fun h5 S₅ => ?_) (fun _ _ x => x) fun _ _ f => f.elim
      refine fBack (s := { s with heap := h5, toks := tk4 }) S₅ fun h6 S₆ => ?_
      rw [← he, ok.hf] at S₆
      exact ⟨ex, h6, tk4, _, _, rfl, rfl, S₆, hR⟩
/-- a loop that raises at last -/
theorem sDec (hK : cf.K = frag P) (H : Snd cf false D L) (ok : Ok cf (D + 1) G fr) (ok' : Ok cf D G fr) (he : G.env₀ = G.env) {st1 a1 a3 st3 : Stmt} {test t2 x : PySem.Expr} {n : Str} {np cpos rpos ipos pos : Pos} {R : St → Prop} (S : Sim G [] σ e s.heap) (hn : noStar x = true)
    (h : L.S fr st1 e σ fun f e σ => f = .next ∧ ∃ I : Nat → En → St → Prop, (∃ n e', wk e' e ∧ I n e' σ) ∧ ∀ k e σ, I k e σ → L.T fr test e σ fun b σ => ifB b
      (L.S fr a1 e σ fun f e σ => f = .next ∧ L.T fr t2 e σ fun b σ => ifB b (L.E fr (.Name n np) e σ fun v σ => v = .ref 45 ∧ evArgs L fr [x] e σ fun vs σ => ∃ v, vs = [v] ∧ R σ)
        (L.S fr a3 e σ fun f e σ => f = .next ∧ ∃ m e', m < k ∧ wk e' e ∧ I m e' σ)) False) :
    wpAny (model G.prog G.w) G.A (execs [st1, .While test [a1, .If t2 [.Raise (some (.Call (.Name n np) [x] [] cpos)) none rpos] [] ipos, a3] [] pos, st3] G.env) (fun _ _ => False) (DEnd G s R) s := by
  refine wpAny_execs_cons (wpAny_mono (xToAny (H.S ok' S h)) (fun f s₁ h₁ => ?_) fun _ _ f => f.elim)
  obtain ⟨h', tk, e₁, σ₁, rfl, S₁, q, I, ⟨k, e₂, hw, h0⟩, turn⟩ := h₁
  obtain rfl := nxF q
  exact wpAny_execs_cons (sDecLoop hK H ok ok' he hn I turn (k := k) ⟨e₂, σ₁, h', tk, h0, rfl, S₁.weak hw⟩)
/-- the same, the calls named -/
theorem sDecC {lvl : Nat} (hK : cf.K = frag P) (ok : Ok cf (D + 1) G fr) (he : G.env₀ = G.env) {st1 a1 a3 st3 : Stmt} {test t2 x : PySem.Expr} {n : Str} {np cpos rpos ipos pos : Pos} {R : St → Prop} (S : Sim G [] σ e s.heap) (hn : noStar x = true)
    (h : ∀ C : Addr → List PV → St → (PV → St → Prop) → Prop, (∀ {a vs σ Q}, Con cf false D a vs σ Q → C a vs σ Q) → (lv false C lvl).S fr st1 e σ fun f e σ => f = .next ∧ ∃ I : Nat → En → St → Prop, (∃ n e', wk e' e ∧ I n e' σ) ∧ ∀ k e σ, I k e σ → (lv false C lvl).T fr test e σ fun b σ => ifB b
      ((lv false C lvl).S fr a1 e σ fun f e σ => f = .next ∧ (lv false C lvl).T fr t2 e σ fun b σ => ifB b ((lv false C lvl).E fr (.Name n np) e σ fun v σ => v = .ref 45 ∧ evArgs (lv false C lvl) fr [x] e σ fun vs σ => ∃ v, vs = [v] ∧ R σ)
        ((lv false C lvl).S fr a3 e σ fun f e σ => f = .next ∧ ∃ m e', m < k ∧ wk e' e ∧ I m e' σ)) False) :
    wpAny (model G.prog G.w) G.A (execs [st1, .While test [a1, .If t2 [.Raise (some (.Call (.Name n np) [x] [] cpos)) none rpos] [] ipos, a3] [] pos, st3] G.env) (fun _ _ => False) (DEnd G s R) s :=
  sDec hK (snd_lv lvl) ok (ok.down (Nat.le_succ _)) he S hn (h _ fun h => h)
end

section
variable {P : Params} {cf : Cfg} {cl : Bool} {D : Nat} {σ : St} {Q : PV → St → Prop}
theorem c186 (hK : cf.K = frag P) {l : List Int} (hl' : l.length ≤ 65535) (hfine : (rd l 0).2 = true) (h : ∀ t σ', Ext σ σ' → σ t = none → σ' t = some (.list ((rd l 0).1.map optV)) → Q (.ref t) σ') : Con cf cl (D + 5) 186 [.byt l] σ Q := by
  have hl : l.length ≤ 65536 := by (first | exact Int.natCast_nonneg _ | lia | omega)
  refine con186 (n := 12) hK _ fun C hC => ?_
  refine stp rfl fun r0 K0 hr0 hn0 ht0 hc0 => ?_
  refine ⟨Nat.le_of_ble_eq_true rfl, new_i fun t σ₁ htn hta hx1 ho1 => ?_⟩
  refine ⟨Nat.le_of_ble_eq_true rfl, new_i fun g σ₂ hgn hga hx2 ho2 => ?_⟩
  conv => whnf
  first | refine mS (hga) ?_ | rw [hga]
  refine ⟨rfl, ?_⟩
  conv => whnf
  refine hn0 _ _ (stp hr0 fun r0 K0 hr0 hn0 ht0 hc0 => ?_)
  refine whileI (fun n en σ' => ∃ (k : Nat) (cs : List (Option Int)), n = l.length - k ∧ en = [(key "octets", .byt l), (key "text", .ref t), (key "at", .int k)] ∧ Ext σ σ' ∧ σ' t = some (.list (cs.map optV)) ∧ k ≤ l.length ∧ cs.length ≤ k ∧ (rd l 0).1 = cs ++ (rd l k).1 ∧ (rd l k).2 = true) l.length [(key "octets", .byt l), (key "text", .ref t), (key "at", .int 0)] ?_ ?_ ?_
  · exact ⟨rfl, rfl, rfl, trivial⟩
  · exact ⟨0, [], rfl, rfl, hx1.trans hx2, hx2 _ _ hta, Nat.zero_le _, Nat.le_refl _, rfl, hfine⟩
  rintro b' hr' n en σ' KL hnL htL hcL ⟨k, cs, rfl, rfl, hx, ht, hkl, hck, hrd, hrf⟩
  refine ⟨hl, ?_⟩
  refine ⟨fun hc => ?_, fun hc => ?_⟩
  · have hk : k < l.length := by have := of_decide_eq_true hc; (first | exact Int.natCast_nonneg _ | lia | omega)
    obtain ⟨s1, s2, s3⟩ := stepL_ok hk
    rw [rd_step hk] at hrd hrf
    obtain ⟨hf1, hf2⟩ := Bool.and_eq_true_iff.mp hrf
    refine stp hr' fun r1 K1 hr1 hn1 ht1 hc1 => ?_
    refine hC ((c179 (D := D) hK hl hk fun u b f fs σ₃ hx3 hb0 hf0 hu hb hf hfs hfl => ?_).up)
    rw [hf1] at hfs
    have hfs := List.isEmpty_iff.mp hfs
    subst hfs
    have ht3 := hx3 _ _ ht
    have htb : t ≠ b := fun q => by rw [← q, ht] at hb0; cases hb0
    conv => whnf
    first | refine mS (hu) ?_ | rw [hu]
    refine ⟨rfl, ?_⟩
    refine hn1 _ _ (stp hr1 fun r1 K1 hr1 hn1 ht1 hc1 => ?_)
    refine ⟨Nat.le_of_ble_eq_true rfl, new_i fun g2 σ₄ hgn hga hx4 ho4 => ?_⟩
    conv => whnf
    first | refine mS (hx4 _ _ hf) ?_ | rw [hx4 _ _ hf]
    conv => whnf
    first | refine mS (hga) ?_ | rw [hga]
    refine ⟨fun _ => ⟨rfl, rfl⟩, ?_⟩
    refine ⟨fun hc => (nomatch hc), fun _ => ?_⟩
    refine nib rfl ?_
    refine hn1 _ _ (stp hr1 fun r1 K1 hr1 hn1 ht1 hc1 => ?_); conv => whnf
    first | refine mS (hx4 _ _ ht3) ?_ | rw [hx4 _ _ ht3]
    refine ⟨htb, ?_⟩
    conv => whnf
    first | refine mS (hx4 _ _ ht3) ?_ | rw [hx4 _ _ ht3]
    conv => whnf
    first | refine mS (hx4 _ _ hb) ?_ | rw [hx4 _ _ hb]
    refine ⟨by simp only [List.length_map]; (first | exact Int.natCast_nonneg _ | lia | omega), rfl, ?_⟩
    generalize hu' : upd _ _ _ = σ₅
    refine hn1 _ _ (nib hr1 ?_)
    refine hnL _ _ ⟨l.length - (stepL l k).2.2, [(key "octets", .byt l), (key "text", .ref t), (key "at", .int ((stepL l k).2.2 : Nat))], by (first | exact Int.natCast_nonneg _ | lia | omega), ⟨rfl, rfl, rfl, trivial⟩, (stepL l k).2.2, cs ++ (stepL l k).1, rfl, rfl, hu' ▸ ((hx.trans hx3).trans hx4).put htn, ?_, s2, by rw [List.length_append]; (first | exact Int.natCast_nonneg _ | lia | omega), ?_, hf2⟩
    · rw [← hu', upd_same, List.map_append]
    · rw [hrd, List.append_assoc]
  · have hk : l.length ≤ k := by have := of_decide_eq_false hc; (first | exact Int.natCast_nonneg _ | lia | omega)
    refine hn0 _ _ (stp hr0 fun r0 K0 hr0 hn0 ht0 hc0 => ?_); conv => whnf
    refine ht0 _ _ _ ?_
    refine h t σ' hx htn ?_
    rw [hrd, rd_end hk, List.append_nil]
    exact ht
end

section
variable {P : Params} {cf : Cfg} {D : Nat} {σ : St}
theorem e186 (hK : cf.K = frag P) {l : List Int} (hl : l.length ≤ 65536) (hbad : (rd l 0).2 = false) : ConE cf (D + 6) 186 [.byt l] σ (Ext σ) := by
  refine con_ofE (name := nameAt 42) (qual := nameAt 42) (params := parsAt 42) (body := bodyOf 42) (scope := scopeAt 42) (dV := (.none)) (kV := .none) (doc := .none) (pm := (.str (PySem.Str.ofString "unicore.utf7") 297)) (cdv := .ref 185) (ct := .none) (an := none) (ns := ns186) (oc := .type "function") (od := none) (osl := #[]) (fr := fr186)
    (by rw [hK]; kernel_rfl) (by rw [hK]; kernel_rfl) (by rw [hK]; kernel_rfl) (by rw [hK]; kernel_rfl) rfl (by decide +kernel) (by decide +kernel) (fun s Vs hV hX => by obtain ⟨a, rfl⟩ := len1 hV; exact .of_eq (by kernel_rfl)) fun G s ok he S => ?_
  refine sDecC (D := D + 4) (lvl := 12) hK ok he S rfl fun C hC => ?_
  refine ⟨Nat.le_of_ble_eq_true rfl, new_i fun t σ₁ htn hta hx1 ho1 => ?_⟩
  refine ⟨Nat.le_of_ble_eq_true rfl, new_i fun g σ₂ hgn hga hx2 ho2 => ?_⟩
  conv => whnf
  first | refine mS (hga) ?_ | rw [hga]
  refine ⟨rfl, ?_⟩
  refine ⟨rfl, fun n en σ' => ∃ (k : Nat) (cs : List (Option Int)), n = l.length - k ∧ en = [(key "octets", .byt l), (key "text", .ref t), (key "at", .int k)] ∧ Ext σ σ' ∧ σ' t = some (.list (cs.map optV)) ∧ k ≤ l.length ∧ cs.length ≤ k ∧ (rd l k).2 = false, ⟨l.length, [(key "octets", .byt l), (key "text", .ref t), (key "at", .int 0)], ⟨rfl, rfl, rfl, trivial⟩, 0, [], rfl, rfl, hx1.trans hx2, hx2 _ _ hta, Nat.zero_le _, Nat.le_refl _, hbad⟩, ?_⟩
  rintro n en σ' ⟨k, cs, rfl, rfl, hx, ht, hkl, hck, hrf⟩
  refine ⟨hl, ?_⟩
  refine ⟨fun hc => ?_, fun hc => ?_⟩
  · have hk : k < l.length := by have := of_decide_eq_true hc; (first | exact Int.natCast_nonneg _ | lia | omega)
    obtain ⟨s1, s2, s3⟩ := stepL_ok hk
    rw [rd_step hk] at hrf
    refine hC ((c179 (D := D) hK hl hk fun u b f fs σ₃ hx3 hb0 hf0 hu hb hf hfs hfl => ?_).up)
    have ht3 := hx3 _ _ ht
    have htb : t ≠ b := fun q => by rw [← q, ht] at hb0; cases hb0
    conv => whnf
    first | refine mS (hu) ?_ | rw [hu]
    refine ⟨rfl, ?_⟩
    refine ⟨rfl, ?_⟩
    refine ⟨Nat.le_of_ble_eq_true rfl, new_i fun g2 σ₄ hgn hga hx4 ho4 => ?_⟩
    conv => whnf
    first | refine mS (hx4 _ _ hf) ?_ | rw [hx4 _ _ hf]
    conv => whnf
    first | refine mS (hga) ?_ | rw [hga]
    refine ⟨fun q => ?_, ?_⟩
    · have : fs = [] := List.length_eq_zero_iff.mp q
      subst this
      exact ⟨rfl, rfl⟩
    conv => whnf
    cases fs with
    | nil =>
      refine ⟨fun hc => (nomatch hc), fun _ => ?_⟩
      conv => whnf
      first | refine mS (hx4 _ _ ht3) ?_ | rw [hx4 _ _ ht3]
      refine ⟨htb, ?_⟩
      conv => whnf
      first | refine mS (hx4 _ _ ht3) ?_ | rw [hx4 _ _ ht3]
      conv => whnf
      first | refine mS (hx4 _ _ hb) ?_ | rw [hx4 _ _ hb]
      refine ⟨by simp only [List.length_map]; (first | exact Int.natCast_nonneg _ | lia | omega), rfl, ?_⟩
      generalize hu' : upd _ _ _ = σ₅
      refine ⟨rfl, l.length - (stepL l k).2.2, [(key "octets", .byt l), (key "text", .ref t), (key "at", .int ((stepL l k).2.2 : Nat))], by (first | exact Int.natCast_nonneg _ | lia | omega), ⟨rfl, rfl, rfl, trivial⟩, (stepL l k).2.2, cs ++ (stepL l k).1, rfl, rfl, hu' ▸ ((hx.trans hx3).trans hx4).put htn, ?_, s2, by rw [List.length_append]; (first | exact Int.natCast_nonneg _ | lia | omega), ?_⟩
      · rw [← hu', upd_same, List.map_append]
      · rw [← hfs] at hrf
        exact hrf
    | cons f0 fr' =>
      refine ⟨fun _ => ?_, fun hc => (nomatch hc)⟩
      refine ⟨rfl, ?_⟩
      conv => whnf
      first | refine mS (hx4 _ _ hf) ?_ | rw [hx4 _ _ hf]
      refine ⟨by decide, by decide, ?_⟩
      conv => whnf
      exact ⟨f0, rfl, (hx.trans hx3).trans hx4⟩
  · have hk : l.length ≤ k := by have := of_decide_eq_false hc; (first | exact Int.natCast_nonneg _ | lia | omega)
    rw [rd_end hk] at hrf
    cases hrf
end

section
variable {M : Model} {A : Around} {E : Value → Shared → Prop} {s : Shared} {env : Env}
theorem rEvalArgs {f : Value} {x : Sem Value} {r : List (Bool × Sem Value)} (h : wpAny M A x (fun _ _ => False) E s) : wpAny M A (evalArgs f true ((false, x) :: r) []) (fun _ _ => False) E s := by
  unfold evalArgs
  show wpAny M A (spliced ((false, x) :: r) >>= _) _ E s
  rw [spliced]
  exact wpAny_bind (wpAny_bind (wpAny_mono h (fun _ _ f => f.elim) fun _ _ x => x))
/-- an argument raises -/
theorem rCall {n : Str} {np pos : Pos} {x : PySem.Expr} (hn : noStar x = true) (h : wpAny M A (eval (.Name n np) env) (fun _ s₁ => wpAny M A (eval x env) (fun _ _ => False) E s₁) E s) :
    wpAny M A (eval (.Call (.Name n np) [x] [] pos) env) (fun _ _ => False) E s := by
  refine wpAny_Call_ofName (wpAny_mono h (fun f s₁ h₁ => ?_) fun _ _ x => x)
  rw [starEach_cons hn]
  unfold callWith
  exact wpAny_bind (wpAny_holding (wpAny_mono (rEvalArgs h₁) (fun _ _ f => f.elim) fun _ _ x => x))
/-- the call raises -/
theorem rCall2 {n : Str} {np pos : Pos} {args : List PySem.Expr} (hn : args.all noStar = true) (h : wpAny M A (eval (.Name n np) env) (fun f s₁ => wpC false M A (spliced (backTo pos (starEach args env))) (fun vs s₂ => Looks M s₂.heap (keeperOf f) .frame ∧ wpAny M A (call f vs []) (fun _ _ => False) E s₂) s₁) E s) :
    wpAny M A (eval (.Call (.Name n np) args [] pos) env) (fun _ _ => False) E s := by
  refine wpAny_Call_ofName (wpAny_mono h (fun f s₁ h₁ => ?_) fun _ _ x => x)
  have hp : (backTo pos (starEach args env)).any (·.1) = false := by rw [backTo_any]; exact starEach_plain args hn
  have h' : wpC false M A (evalArgs f true (backTo pos (starEach args env)) []) (fun a s₁ => Looks M s₁.heap (keeperOf f) .frame ∧ wpAny M A (call f a.pos a.kw) (fun _ _ => False) E s₁) s₁ := xEvalArgs hp h₁
  unfold callWith
  refine wpAny_bind (wpAny_holding (wpAny_mono (xToAny h') (fun a s₂ h₂ => wpAny_bind (wpAny_standAt ?_)) fun _ _ f => f.elim))
  obtain ⟨L, h₂⟩ := h₂
  have hq : ((backTo pos (starEach args env)).any (·.1) || (backToKw pos (keywordEach [] env)).any (·.1.isNone)) = false := by
    rw [hp]; rfl
  simp only [hq]
  refine wpAny_bind (L.here ?_)
  have kp : ∀ vs, wpAny M A (Sem.keep vs (call f a.pos a.kw)) (fun _ _ => False) E s₂ := fun vs Γ p hΓ => by rw [Sem.wp_keep]; exact h₂ Γ p hΓ
  dsimp only
  split
  · exact wpAny_bind (wpAny_mono h₂ (fun _ _ f => f.elim) fun _ _ x => x)
  · unfold callMarked
    exact wpAny_bind (wpAny_mono (kp _) (fun _ _ f => f.elim) fun _ _ x => x)
end
theorem xWeak {cl : Bool} {α : Type} {M : Model} {A : Around} {t : Sem α} {Q : α → Shared → Prop} {s : Shared} (h : wpC false M A t Q s) : wpC cl M A t Q s := fun Γ p hΓ _ => h Γ p hΓ fun e => nomatch e
theorem Con.weak {cf : Cfg} {cl : Bool} {D : Nat} {a : Addr} {vs : List PV} {σ : St} {Q : PV → St → Prop} (h : Con cf false D a vs σ Q) : Con cf cl D a vs σ Q := ⟨h.1, fun G fr F e s Vs ok hV S => xWeak (h.2 G fr F e s Vs ok hV S)⟩

section
variable {P : Params} {cf : Cfg} {D : Nat} {G : Gd} {fr : Frm} {σ : St} {e : En} {s : Shared} {L : Lvl}
/-- the suite's call raises -/
theorem sRaised (H : Snd cf false D L) (ok : Ok cf D G fr) {x : PySem.Expr} {ln dn : Str} {lp dp p1 p2 : Pos} {R : St → Prop} {E : Value → Shared → Prop} (S : Sim G [] σ e s.heap) (hx : noStar x = true)
    (h : L.E fr (.Name ln lp) e σ fun _ σ => L.E fr (.Name dn dp) e σ fun v σ => v = .ref 186 ∧ evArgs L fr [x] e σ fun vs σ => ConE cf D 186 vs σ R)
    (hE : ∀ ex h tk σ', Fly G [] σ' e h ex .none → R σ' → E (.ref ex) { s with heap := h, toks := tk }) :
    wpAny (model G.prog G.w) G.A (eval (.Call (.Name ln lp) [.Call (.Name dn dp) [x] [] p2] [] p1) G.env) (fun _ _ => False) E s := by
  have hna : [x].all noStar = true := by rw [List.all_cons, hx]; rfl
  refine rCall rfl (wpAny_mono (xToAny (H.E ok S h)) (fun V s₂ h₂ => ?_) fun _ _ f => f.elim)
  obtain ⟨h2, tk2, σ₂, rfl, S₂, q⟩ := h₂
  refine rCall2 hna (wpAny_mono (xToAny (H.E ok (s := { s with heap := h2, toks := tk2 }) S₂ q)) (fun V s₂ h₂ => ?_) fun _ _ f => f.elim)
  obtain ⟨h3, tk3, σ₃, rfl, S₃, q1, q2⟩ := h₂
  obtain rfl : V = .ref 186 := un_of (v := .ref 186) q1
  refine xMono (sArgs H ok hna (s := { s with heap := h3, toks := tk3 }) S₃ q2) fun Vs s₄ h₄ => ?_
  obtain ⟨h4, tk4, σ₄, rfl, S₄, q3⟩ := h₄
  refine ⟨looks_frame (ok.X.keeps (S₄.bs ok)) q3.1, ?_⟩
  refine wpAny_mono (q3.2 G fr e { s with heap := h4, toks := tk4 } Vs ok rfl S₄) (fun _ _ f => f) fun x s' hx => ?_
  obtain ⟨ex, h5, tk5, σ5, rfl, rfl, S5, q5⟩ := hx
  exact hE ex h5 tk5 σ5 S5 q5
/-- the clause that takes it -/
theorem sClause (hK : cf.K = frag P) (ok : Ok cf D G fr) {y hn : Str} {hp bp cp ap hpos : Pos} {cn : Nat} {ex : Addr} {J : En → St → Prop} {Q : Flow → Shared → Prop} {E : Value → Shared → Prop} (S : Fly G [] σ e s.heap ex .none)
    (hg : getN fr (key hn) e σ fun v => v = .ref 45) (hset : setN fr (key y) .none e σ J) (hQ : ∀ h tk e σ, Sim G [] σ e h → J e σ → Q .next { s with heap := h, toks := tk }) :
    wpAny (model G.prog G.w) G.A (handleBy (.ref ex) G.env [.ExceptHandler (some (.Name hn hp)) none [.Assign [.Name y bp] (.Constant .none cn cp) ap] hpos]) Q E s := by
  obtain ⟨Oe, ws, T, OT, ts, S5, hT, hF, hc, hd, h1, hdT, h3⟩ := id S
  have he4 := (S5.fo _ (.head _)).1
  have X4 : (frag P).In s.heap := hK ▸ ok.X.keeps (S5.bs ok)
  obtain ⟨hdb, hld⟩ := sLoadA (prog := G.prog) (w := G.w) (A := G.A.mark (some (.ref ex))) (E := notedBy (model G.prog G.w) (G.A.mark (some (.ref ex))) G.env fun x s₂ => cameBackBy (model G.prog G.w) G.A G.env E x s₂) ok S5 hg
  refine wpAny_handleBy_cons (codeAny_handlers_test (wpAny_Name (wpAny_mono hld (fun V s₅ h₅ => ?_) fun _ _ x => x) hdb)) (by intro q; cases q)
  obtain ⟨rfl, q⟩ := h₅
  obtain rfl : V = .ref 45 := un_of (v := .ref 45) q
  obtain ⟨hp0, gg, dd, tk0, os⟩ := s₅
  refine wpAny_excMatches_sub_self (X4 _ _ k45) he4 hc (by decide +kernel) ?_
  refine codeAny_handlers_suite (fSet S fun h6 S₆ => ?_)
  obtain ⟨Oe6, ws6, T6, OT6, ts6, S6, _⟩ := S₆
  refine wpAny_execs_cons (wpAny_Assign_Name (wpAny_Constant_none (wpAny_mono (sStoreA (s := ⟨h6, gg, dd, tk0, os⟩) (V := .none) ok S6 hset) (fun _ s₇ h₇ => ?_) fun _ _ x => x)))
  obtain ⟨h7, tk7, e7, σ7, rfl, S7, q7⟩ := h₇
  exact wpAny_execs_nil (hQ _ _ _ _ S7.drop.drop q7)
theorem sLast (H : Snd cf false D L) (ok : Ok cf D G fr) {st3 : Stmt} {Q : Fl → En → St → Prop} {h7 : Heap} {tk7 : Nat} (S : Sim G [] σ e h7) (h : L.S fr st3 e σ fun f e σ => ∃ v, f = .ret v ∧ Q f e σ) :
    wpAny (model G.prog G.w) G.A (execs [st3] G.env) (Sst G [] Q s) (fun _ _ => False) { s with heap := h7, toks := tk7 } := by
  refine wpAny_execs_cons (wpAny_mono (xToAny (H.S ok (s := { s with heap := h7, toks := tk7 }) S h)) (fun f s₈ h₈ => ?_) fun _ _ f => f.elim)
  obtain ⟨h8, tk8, e8, σ8, rfl, S8, v, qf, q8⟩ := h₈
  have hfin : Sst G [] Q s f { s with heap := h8, toks := tk8 } := ⟨h8, tk8, e8, σ8, rfl, S8, q8⟩
  cases f with
  | next => cases qf
  | ret v => exact hfin
  | brk => exact hfin
  | cont => exact hfin
/-- a try whose suite raises -/
theorem sTryE (hK : cf.K = frag P) (H : Snd cf false D L) (ok : Ok cf D G fr) (he : G.env₀ = G.env) {st1 st3 : Stmt} {x : PySem.Expr} {y ln dn hn : Str} {yp lp dp hp bp cp ap p0 p1 p2 hpos pos : Pos} {cn : Nat} {Q : Fl → En → St → Prop} (S : Sim G [] σ e s.heap) (hx : noStar x = true)
    (h : L.S fr st1 e σ fun f e σ => f = .next ∧ L.E fr (.Name ln lp) e σ fun _ σ => L.E fr (.Name dn dp) e σ fun v σ => v = .ref 186 ∧ evArgs L fr [x] e σ fun vs σ => ConE cf D 186 vs σ fun σ =>
      getN fr (key hn) e σ (fun v => v = .ref 45) ∧ setN fr (key y) .none e σ fun e σ => L.S fr st3 e σ fun f e σ => ∃ v, f = .ret v ∧ Q f e σ) :
    wpC false (model G.prog G.w) G.A (execs [st1, .Try [.Assign [.Name y yp] (.Call (.Name ln lp) [.Call (.Name dn dp) [x] [] p2] [] p1) p0] [.ExceptHandler (some (.Name hn hp)) none [.Assign [.Name y bp] (.Constant .none cn cp) ap] hpos] [] [] pos, st3] G.env) (Sst G [] Q s) s := by
  refine xAny (wpAny_execs_cons (wpAny_mono (xToAny (H.S ok S h)) (fun f s₁ h₁ => ?_) fun _ _ f => f.elim))
  obtain ⟨h', tk, e₁, σ₁, rfl, S₁, q, h₁⟩ := h₁
  obtain rfl := nxF q
  refine wpAny_execs_cons (wpAny_Try_except (wpAny_execs_cons (wpAny_Assign_Name (wpAny_mono (sRaised H ok (s := { s with heap := h', toks := tk }) S₁ hx h₁ fun ex h2 tk2 σ₂ S₂ hR => ?_) (fun _ _ f => f.elim) fun _ _ x => x))))
  obtain ⟨hg, hset⟩ := hR
  refine fNote (s := { s with heap := h2, toks := tk2 }) ok he S₂ fun h3 S₃ => ?_
  refine fSet (s := { s with heap := h3, toks := tk2 }) S₃ fun h4 S₄ => ?_
  exact sClause hK ok (s := { s with heap := h4, toks := tk2 }) S₄ hg hset fun h7 tk7 e7 σ7 S7 q7 => sLast H ok S7 q7
/-- a try whose suite raises nothing -/
theorem sTryN (H : Snd cf false D L) (ok : Ok cf D G fr) {st1 tb st3 : Stmt} {hd : ExceptHandler} {pos : Pos} {Q : Fl → En → St → Prop} (S : Sim G [] σ e s.heap)
    (h : L.S fr st1 e σ fun f e σ => f = .next ∧ L.S fr tb e σ fun f e σ => f = .next ∧ L.S fr st3 e σ fun f e σ => ∃ v, f = .ret v ∧ Q f e σ) :
    wpC false (model G.prog G.w) G.A (execs [st1, .Try [tb] [hd] [] [] pos, st3] G.env) (Sst G [] Q s) s := by
  refine xAny (wpAny_execs_cons (wpAny_mono (xToAny (H.S ok S h)) (fun f s₁ h₁ => ?_) fun _ _ f => f.elim))
  obtain ⟨h', tk, e₁, σ₁, rfl, S₁, q, h₁⟩ := h₁
  obtain rfl := nxF q
  refine wpAny_execs_cons (wpAny_Try_except (wpAny_execs_cons (wpAny_mono (xToAny (H.S ok (s := { s with heap := h', toks := tk }) S₁ h₁)) (fun f s₂ h₂ => ?_) fun _ _ f => f.elim)))
  obtain ⟨h2, tk2, e₂, σ₂, rfl, S₂, q, h₂⟩ := h₂
  obtain rfl := nxF q
  exact wpAny_execs_nil (wpAny_execs_nil (sLast H ok S₂ h₂))
end

section
variable {P : Params} {cf : Cfg} {D : Nat} {G : Gd} {fr : Frm} {σ : St} {e : En} {s : Shared}
theorem ConE.imp {a : Addr} {vs : List PV} {R R' : St → Prop} (c : ConE cf D a vs σ R) (h : ∀ σ, R σ → R' σ) : ConE cf D a vs σ R' :=
  ⟨c.1, fun G fr e s Vs ok hV S => wpAny_mono (c.2 G fr e s Vs ok hV S) (fun _ _ f => f) fun x s' hr => by
    obtain ⟨ex, h', tk, σ', e1, e2, S', q⟩ := hr
    exact ⟨ex, h', tk, σ', e1, e2, S', h _ q⟩⟩
theorem sTryNC {lvl : Nat} (ok : Ok cf D G fr) {st1 tb st3 : Stmt} {hd : ExceptHandler} {pos : Pos} {Q : Fl → En → St → Prop} (S : Sim G [] σ e s.heap)
    (h : ∀ C : Addr → List PV → St → (PV → St → Prop) → Prop, (∀ {a vs σ Q}, Con cf false D a vs σ Q → C a vs σ Q) → (lv false C lvl).S fr st1 e σ fun f e σ => f = .next ∧ (lv false C lvl).S fr tb e σ fun f e σ => f = .next ∧ (lv false C lvl).S fr st3 e σ fun f e σ => ∃ v, f = .ret v ∧ Q f e σ) :
    wpC false (model G.prog G.w) G.A (execs [st1, .Try [tb] [hd] [] [] pos, st3] G.env) (Sst G [] Q s) s := sTryN (snd_lv lvl) ok S (h _ fun h => h)
theorem sTryEC {lvl : Nat} (hK : cf.K = frag P) (ok : Ok cf D G fr) (he : G.env₀ = G.env) {st1 st3 : Stmt} {x : PySem.Expr} {y ln dn hn : Str} {yp lp dp hp bp cp ap p0 p1 p2 hpos pos : Pos} {cn : Nat} {Q : Fl → En → St → Prop} (S : Sim G [] σ e s.heap) (hx : noStar x = true)
    (h : ∀ (C : Addr → List PV → St → (PV → St → Prop) → Prop) (CE : List PV → St → (St → Prop) → Prop), (∀ {vs σ R}, ConE cf D 186 vs σ R → CE vs σ R) → (lv false C lvl).S fr st1 e σ fun f e σ => f = .next ∧ (lv false C lvl).E fr (.Name ln lp) e σ fun _ σ => (lv false C lvl).E fr (.Name dn dp) e σ fun v σ => v = .ref 186 ∧ evArgs (lv false C lvl) fr [x] e σ fun vs σ => CE vs σ fun σ =>
      getN fr (key hn) e σ (fun v => v = .ref 45) ∧ setN fr (key y) .none e σ fun e σ => (lv false C lvl).S fr st3 e σ fun f e σ => ∃ v, f = .ret v ∧ Q f e σ) :
    wpC false (model G.prog G.w) G.A (execs [st1, .Try [.Assign [.Name y yp] (.Call (.Name ln lp) [.Call (.Name dn dp) [x] [] p2] [] p1) p0] [.ExceptHandler (some (.Name hn hp)) none [.Assign [.Name y bp] (.Constant .none cn cp) ap] hpos] [] [] pos, st3] G.env) (Sst G [] Q s) s :=
  sTryE hK (snd_lv lvl) ok he S hx (h _ (ConE cf D 186) fun h => h)
end
theorem runFine_e {N : Int} {n : Nat} (h : runFine N n = true) : (runCodes N n).map optV = ((runCodes N n).map rep).map .int := by
  obtain ⟨h1, h2⟩ := Bool.and_eq_true_iff.mp h
  unfold runCodes
  rw [h1, if_pos rfl, List.append_nil, List.map_map]
  refine List.map_congr_left fun c hc => ?_
  have := List.all_eq_true.mp h2 c hc
  cases c with
  | none => cases this
  | some v => rfl
theorem stepL_e {l : List Int} {k : Nat} (h : (stepL l k).2.1 = true) : (stepL l k).1.map optV = ((stepL l k).1.map rep).map .int := by
  unfold stepL at h ⊢
  split
  · rfl
  · rename_i c hc
    rw [hc] at h
    dsimp only at h
    split
    · rename_i q
      rw [if_pos q] at h
      split
      · rename_i q2
        rw [if_pos q2] at h
        split
        · rfl
        · rename_i q3
          rw [if_neg q3] at h; cases h
      · rename_i q2
        rw [if_neg q2] at h
        exact runFine_e h
    · rename_i q
      rw [if_neg q] at h
      split
      · rfl
      · rename_i q3
        rw [if_neg q3] at h; cases h
theorem rd_e {l : List Int} : ∀ (n k : Nat), (readG n l k).2 = true → (readG n l k).1.map optV = ((readG n l k).1.map rep).map .int
  | 0, _, _ => rfl
  | n + 1, k, h => by
    unfold readG at h ⊢
    by_cases hk : k < l.length
    · rw [if_pos hk] at h ⊢
      obtain ⟨h1, h2⟩ := Bool.and_eq_true_iff.mp h
      dsimp only
      rw [List.map_append, List.map_append, List.map_append, stepL_e h1, rd_e n _ h2]
    · rw [if_neg hk]; rfl
theorem readG_len {l : List Int} : ∀ (n k : Nat), (readG n l k).1.length ≤ l.length - k
  | 0, _ => Nat.zero_le _
  | n + 1, k => by
    unfold readG
    by_cases hk : k < l.length
    · obtain ⟨s1, s2, s3⟩ := stepL_ok hk
      have := readG_len (l := l) n (stepL l k).2.2
      rw [if_pos hk]
      dsimp only
      rw [List.length_append]
      (first | exact Int.natCast_nonneg _ | lia | omega)
    · rw [if_neg hk]; exact Nat.zero_le _
theorem rd_len (l : List Int) (k : Nat) : (rd l k).1.length ≤ l.length - k := readG_len _ _
section
variable {P : Params} {cf : Cfg} {cl : Bool} {D : Nat} {σ : St} {Q : PV → St → Prop}
theorem c261 (hK : cf.K = frag P) {l : List Int} (hl : l.length ≤ 65535) (h1 : (rd l 0).2 = true → ∀ t σ', Ext σ σ' → σ' t = some (.list (((rd l 0).1.map rep).map .int)) → Q (.ref t) σ')
    (h2 : (rd l 0).2 = false → ∀ σ', Ext σ σ' → Q .none σ') : Con cf cl (D + 7) 261 [.byt l] σ Q := by
  refine Con.weak (con_ofX (name := nameAt 58) (qual := nameAt 58) (params := parsAt 58) (body := bodyOf 58) (scope := scopeAt 58) (dV := (.none)) (kV := .none) (doc := .none) (pm := (.str (PySem.Str.ofString "law_on0365_01") 492)) (cdv := .ref 260) (ct := .none) (an := none) (ns := ns261) (oc := .type "function") (od := none) (osl := #[]) (fr := fr261)
    (by rw [hK]; kernel_rfl) (by rw [hK]; kernel_rfl) (by rw [hK]; kernel_rfl) (by rw [hK]; kernel_rfl) rfl (by decide +kernel) (by decide +kernel) (fun s Vs hV hX => by obtain ⟨a, rfl⟩ := len1 hV; exact .of_eq (by kernel_rfl)) fun G s ok he _ S => ?_)
  cases hf : (rd l 0).2 with
  | true =>
    refine sTryNC (D := D + 6) (lvl := 12) ok S fun C hC => ?_
    refine ⟨rfl, ?_⟩
    refine hC ((c186 (D := D) hK hl hf fun t σ₁ hx1 htn hta => ?_).up)
    rw [show (rd l 0).1.map optV = ((rd l 0).1.map rep).map .int from rd_e _ _ hf] at hta
    have hlen : (rd l 0).1.length ≤ 65536 := by have := rd_len l 0; (first | exact Int.natCast_nonneg _ | lia | omega)
    conv => whnf
    first | refine mS (hta) ?_ | rw [hta]
    refine ⟨by rw [List.length_map, List.length_map]; exact hlen, new_i fun t2 σ₂ htn2 hta2 hx2 ho2 => ?_⟩
    refine ⟨rfl, ?_⟩
    conv => whnf
    exact ⟨_, rfl, h1 hf t2 σ₂ (hx1.trans hx2) hta2⟩
  | false =>
    refine sTryEC (D := D + 6) (lvl := 12) hK ok he S rfl fun C CE hCE => ?_
    refine ⟨rfl, ?_⟩
    refine ⟨rfl, ?_⟩
    conv => whnf
    refine hCE ((e186 (D := D) hK (by (first | exact Int.natCast_nonneg _ | lia | omega)) hf).imp fun σ' hx => ⟨?_, ?_⟩)
    · conv => whnf
    · conv => whnf
      exact ⟨_, rfl, h2 hf σ' hx⟩
end

section
variable {P : Params} {cf : Cfg} {cl : Bool} {D : Nat} {σ : St} {Q : PV → St → Prop}
theorem c268 (hK : cf.K = frag P) {l : List Int} (hl : l.length ≤ 600) (hby : ∀ c ∈ l, 0 ≤ c ∧ c < 256) (h : ∀ σ', Ext σ σ' → Q (.bool true) σ') : Con cf cl (D + 8) 268 [.byt l] σ Q := by
  refine con268 (n := 13) hK _ fun C hC => ?_
  have hlen := rd_len l 0
  refine stp rfl fun r0 K0 hr0 hn0 ht0 hc0 => ?_
  refine hC ((c254 (D := D) hK hl hby fun t b σ₁ hx1 hbn ht hb => ?_).up)
  conv => whnf
  first | refine mS (ht) ?_ | rw [ht]
  refine ⟨rfl, ?_⟩
  conv => whnf
  refine hn0 _ _ (stp hr0 fun r0 K0 hr0 hn0 ht0 hc0 => ?_)
  refine lvS (ifX false (Ext σ₁) (fun K hK' => ?_) (fun q => nomatch q) fun _ σ₂ hx2 => ?_)
  · refine lvT (tOr rfl fun q hq => ?_)
    refine hC ((c191 (D := D) hK (by (first | exact Int.natCast_nonneg _ | lia | omega)) fun t2 σ₂ hx2 htn2 hta2 => ?_).up)
    conv => whnf
    first | refine mS (hta2) ?_ | rw [hta2]
    refine ⟨by rw [List.length_map, List.length_map]; (first | exact Int.natCast_nonneg _ | lia | omega), new_i fun t3 σ₃ htn3 hta3 hx3 ho3 => ?_⟩
    conv => whnf
    first | refine mS (hta3) ?_ | rw [hta3]
    conv => whnf
    first | refine mS (hx3 _ _ (hx2 _ _ hb)) ?_ | rw [hx3 _ _ (hx2 _ _ hb)]
    refine ⟨fun _ => ⟨allI_map _, allI_map _⟩, ?_⟩
    rw [decide_eq_true rfl]
    refine ⟨fun hc => (nomatch hc), fun _ => ?_⟩
    refine tOr hq fun q hq => ?_
    refine hC ((c198 (D := D) hK (by (first | exact Int.natCast_nonneg _ | lia | omega)) fun σ₄ hx4 => ?_).up)
    conv => whnf
    rw [show (true ^^ decide ((rd l 0).2 = (rd l 0).2)) = false by rw [decide_eq_true rfl]; rfl]
    refine ⟨fun hc => (nomatch hc), fun _ => ?_⟩
    refine tOrZ hq ?_
    exact hK' _ ((hx2.trans hx3).trans hx4)
  · refine nib rfl ?_
    refine hn0 _ _ (stp hr0 fun r0 K0 hr0 hn0 ht0 hc0 => ?_); conv => whnf
    have hb2 := hx2 _ _ hb
    refine hC ((c261 (D := D) hK (by (first | exact Int.natCast_nonneg _ | lia | omega)) (fun hf t σ₃ hx3 hta => ?_) fun hf σ₃ hx3 => ?_).up)
    · rw [hf]
      refine ⟨fun _ => ?_, fun hc => (nomatch hc)⟩
      conv => whnf
      first | refine mS (hta) ?_ | rw [hta]
      conv => whnf
      first | refine mS (hx3 _ _ hb2) ?_ | rw [hx3 _ _ hb2]
      refine ⟨fun _ => ⟨allI_map _, allI_map _⟩, ?_⟩
      rw [show (false ^^ decide (((rd l 0).1.map rep).map PV.int = ((rd l 0).1.map rep).map PV.int)) = true by rw [decide_eq_true rfl]; rfl]
      refine ht0 _ _ _ ?_
      exact h σ₃ ((hx1.trans hx2).trans hx3)
    · rw [hf]
      refine ⟨fun hc => (nomatch hc), fun _ => ?_⟩
      refine ⟨rfl, ?_⟩
      refine ht0 _ _ _ ?_
      exact h σ₃ ((hx1.trans hx2).trans hx3)
end

/-- where the codes of a text begin -/
noncomputable def begins (ps : List (List Int)) : List Nat := (List.range ps.length).map fun k => (ps.take k).flatten.length
theorem begins_cons (p : List Int) (r : List (List Int)) : begins (p :: r) = 0 :: (begins r).map (· + p.length) := by
  unfold begins
  rw [List.length_cons, List.range_succ_eq_map, List.map_cons, List.map_map, List.map_map]
  congr 1
  refine List.map_congr_left fun k _ => ?_
  show ((p :: r).take (k + 1)).flatten.length = _
  rw [List.take_succ_cons, List.flatten_cons, List.length_append]
  show _ = (r.take k).flatten.length + p.length
  (first | exact Int.natCast_nonneg _ | lia | omega)
theorem one_lead {w : List Int} (h : oneCode w) (k : Nat) : ((w.take k).filter lead).length = if 0 < k then 1 else 0 := by
  obtain ⟨x, r, rfl, hx, hr, _⟩ := h
  cases k with
  | zero => rfl
  | succ k =>
    rw [List.take_succ_cons, List.filter_cons, if_pos hx, if_pos (Nat.succ_pos _), List.length_cons]
    have : (r.take k).filter lead = [] := by
      rw [List.filter_eq_nil_iff]
      intro y hy
      rw [hr y (List.mem_of_mem_take hy)]
      exact Bool.false_ne_true
    rw [this]
    rfl
theorem idx_law : ∀ {ps : List (List Int)} (_ : ∀ p ∈ ps, oneCode p) (k : Nat), ((ps.flatten.take k).filter lead).length = ((begins ps).filter fun b => decide (b < k)).length
  | [], _, k => by simp [begins]
  | p :: r, h, k => by
    have ih := idx_law (ps := r) (fun q hq => h q (.tail _ hq)) (k - p.length)
    rw [begins_cons, List.flatten_cons, List.take_append, List.filter_append, List.length_append, one_lead (h p (.head _)), ih, List.filter_cons, List.filter_map, ]
    have e : ((fun b => decide (b < k)) ∘ fun x => x + p.length) = fun b => decide (b < k - p.length) := by
      funext b
      show decide (b + p.length < k) = _
      exact decide_eq_decide.mpr (by (first | exact Int.natCast_nonneg _ | lia | omega))
    rw [e]
    by_cases hk : 0 < k
    · rw [if_pos hk, if_pos (decide_eq_true hk), List.length_cons, List.length_map]
      (first | exact Int.natCast_nonneg _ | lia | omega)
    · rw [if_neg hk, if_neg (by simpa using hk), List.length_map]
      (first | exact Int.natCast_nonneg _ | lia | omega)

theorem reads_ints {R : WRecords} {cl : Str → Option Addr} {h : Heap} : ∀ (vs : List Value) {xs : List WData} {as : List Addr}, ReadsAllW R cl h vs xs as → WShape.hasItems R xs .int = true → ∃ l : List Int, vs.map er = l.map .int ∧ l.length = xs.length := by
  intro vs
  induction vs with
  | nil =>
    intro xs as hr hx
    cases hr
    exact ⟨[], rfl, rfl⟩
  | cons v vs ih =>
    intro xs as hr hx
    cases hr with
    | cons r rs =>
      obtain ⟨h1, h2⟩ := Bool.and_eq_true_iff.mp (show (WShape.has R _ .int && WShape.hasItems R _ .int) = true from hx)
      obtain ⟨l, e1, e2⟩ := ih rs h2
      obtain ⟨i, rfl⟩ := hasW_int h1
      cases r with
      | int i t => exact ⟨i :: l, by rw [List.map_cons, e1]; rfl, by rw [List.length_cons, e2, List.length_cons]⟩
theorem script_of {cl : Str → Option Addr} {h : Heap} {args : List WData} {vals : List Value} {as : List Addr} (hpre : row.claim.pre args = true) (hr : ReadsAllW row.records cl h vals args as) :
    ∃ (a : Addr) (l : List Int) (Vs : List Value) (n : Nat) (O : Obj), vals = [.ref a] ∧ h.get? a = some O ∧ O.cls = .type "list" ∧ O.data = .seq Vs.toArray n ∧ Vs.map er = l.map .int ∧ l.length ≤ 63 := by
  obtain ⟨h1, h2⟩ := pre_splitW (r := row.toRowW) hpre
  have h1 : WShape.hasAll row.records args [.list .int] = true := h1
  obtain ⟨d, r, rfl, h3, h4⟩ := hasAllW_cons h1
  obtain rfl := hasAllW_nil h4
  obtain ⟨xs, rfl, h5⟩ := hasW_list h3
  cases hr with
  | cons r rs =>
    cases rs
    cases r with
    | list ho hc hd hv =>
      rename_i a o vs n as
      obtain ⟨l, e1, e2⟩ := reads_ints _ hv h5
      refine ⟨a, l, vs.toList, n, o, rfl, ho, hc, by rw [hd], e1, ?_⟩
      have h2 : (WTm.and (.not (.lt (.lit (.int 63)) (.len (.arg 0)))) (.lit (.bool true))).holds row.records { args := [.list xs] } = true := h2
      by_cases hq : (63 : Int) < xs.length
      · exfalso
        have : (WTm.and (.not (.lt (.lit (.int 63)) (.len (.arg 0)))) (.lit (.bool true))).holds row.records { args := [.list xs] } = false := by
          have e : WTm.value row.records (.not (.lt (.lit (.int 63)) (.len (.arg 0)))) { args := [.list xs] } = some (.bool (!decide ((63 : Int) < xs.length))) := rfl
          rw [decide_eq_true hq] at e
          unfold WTm.holds WTm.value
          rw [e]
          rfl
        rw [this] at h2; cases h2
      · rw [e2]; (first | exact Int.natCast_nonneg _ | lia | omega)

noncomputable def lotsOf (o : Obj) : List (List Int) := match o.data with
  | .seq vs _ => vs.toList.map fun v => match er v with | .byt l => l | _ => []
  | _ => []
noncomputable def codesOf (o : Obj) : List Int := match o.data with
  | .seq vs _ => vs.toList.map fun v => match er v with | .int i => i | _ => 0
  | _ => []
noncomputable def itsOf (o : Obj) : List Value := match o.data with
  | .seq vs _ => vs.toList
  | _ => []
noncomputable def fr280c (c1 c2 : Addr) : Frm := ⟨fr280.loc, fr280.glo, [(key (PySem.Str.ofString "deck"), c1), (key (PySem.Str.ofString "at"), c2)]⟩
noncomputable abbrev lawFd : FuncData := fnOf (nameAt 61) (nameAt 61) (parsAt 61) (bodyOf 61) (scopeAt 61) .none .none .none (.str (PySem.Str.ofString "law_on0365_01") 492) none (.ref 279) .none
noncomputable def allN : List Str := [PySem.Str.ofString "REPLACEMENT", PySem.Str.ofString "int", PySem.Str.ofString "_law_lots", PySem.Str.ofString "_law_draw", PySem.Str.ofString "_law_some", PySem.Str.ofString "_law_codes", PySem.Str.ofString "_law_written"]
section
variable {P : Params}
theorem k280 : (frag P).lookup 280 = some ⟨.type "function", none, .func lawFd, #[]⟩ := by kernel_rfl
theorem k206 : (frag P).lookup 206 = some (fo206 P) := by kernel_rfl
theorem k207 : (frag P).lookup 207 = some (fo207 P) := by kernel_rfl
theorem lots_is : fo206 P = tupOf (itsOf (fo206 P)).toArray ∧ (itsOf (fo206 P)).map er = (lotsOf (fo206 P)).map .byt := ⟨by kernel_rfl, by kernel_rfl⟩
theorem codes_is : fo207 P = tupOf (itsOf (fo207 P)).toArray ∧ (itsOf (fo207 P)).map er = (codesOf (fo207 P)).map .int := ⟨by kernel_rfl, by kernel_rfl⟩
theorem lots_ok : ((lotsOf (fo206 P)).all fun l => decide (l.length ≤ 8) && l.all fun c => decide (0 ≤ c) && decide (c < 256)) = true := by kernel_rfl
theorem lots_len : (lotsOf (fo206 P)).length = 27 := by kernel_rfl
theorem codes_ok : ((codesOf (fo207 P)).all isScal) = true := by kernel_rfl
theorem codes_len : (codesOf (fo207 P)).length = 14 := by kernel_rfl
theorem law_loc : (fr280.loc.all fun k => (scopeAt 61).names.any fun p => decide (key p.1 = k) && decide ((scopeAt 61).names.lookup p.1 = some .local) && !(p.1 == ("__debug__" : Str))) = true := by kernel_rfl
theorem law_glo : (fr280.glo.all fun q => (scopeAt 61).names.any fun p => decide (key p.1 = q.1) && decide ((scopeAt 61).names.lookup p.1 = some .globalImplicit) && !(p.1 == ("__debug__" : Str)) && gloOk (frag P) p.1 q.2) = true := by kernel_rfl
theorem law_all : (allG.all fun q => allN.any fun x => decide (key x = q.1) && !(x == ("__debug__" : Str)) && gloOk (frag P) x q.2) = true := by kernel_rfl
theorem law_cells (L : Nat) : cellsFrom (L + 1) (scopeAt 61).names [] = [(PySem.Str.ofString "at", L + 2), (PySem.Str.ofString "deck", L + 1)] := by kernel_rfl
theorem gloOk_e {K : Frag} {x : Str} {v : PV} (q4 : gloOk K x v = true) : (∃ V, nsIn K mainGlobals x = some (some V) ∧ er V = v) ∨ (nsIn K mainGlobals x = some none ∧ x ≠ ("__name__" : Str) ∧ ∃ V, bootBuiltins x = some V ∧ er V = v) := by
  unfold gloOk at q4
  split at q4
  · rename_i V hV
    exact .inl ⟨V, hV, by simpa using q4⟩
  · rename_i hV
    simp only [Bool.and_eq_true, Bool.not_eq_true'] at q4
    obtain ⟨q5, q6⟩ := q4
    refine .inr ⟨hV, fun q => by rw [q] at q5; simp at q5, ?_⟩
    split at q6
    · rename_i V hb
      exact ⟨V, hb, by simpa using q6⟩
    · cases q6
  · cases q4
theorem glob_ok : GlobOk (frag P) := fun x v hx hl => by
  have h := law_all (P := P)
  simp only [List.all_eq_true, List.any_eq_true, Bool.and_eq_true, decide_eq_true_eq, Bool.not_eq_true'] at h
  obtain ⟨y, _, ⟨q1, q2⟩, q3⟩ := h _ (look_in hl)
  obtain rfl := key_inj hx q1.symm
  exact ⟨q2, gloOk_e q3⟩
end

theorem ne_add {a L : Nat} (h : a < L) (k : Nat) : L + k ≠ a := by (first | exact Int.natCast_nonneg _ | lia | omega)
theorem ne_self {e L : Nat} (h : e = L) (k : Nat) : L + (k + 1) ≠ e := by (first | exact Int.natCast_nonneg _ | lia | omega)
noncomputable def cfOf (w : World) (s₀ : Shared) (mg mb : Str → Option Value) : Cfg := ⟨frag w.params, view pw [61], looseW (view pw [61]) pw.boundNames, ExcName.means s₀.heap, mg, mb⟩
theorem law_call {w : World} {s₀ s₁ : Shared} {mg mb : Str → Option Value} (Gr : GroundL w s₀ mg mb s₁.heap) (X : (frag w.params).In s₁.heap) {a : Addr} {l : List Int} {Vs : List Value} {n lvl : Nat} {O : Obj}
    (ho : s₁.heap.get? a = some O) (hc : O.cls = .type "list") (hd : O.data = .seq Vs.toArray n) (hv : Vs.map er = l.map .int)
    (h : ∀ (c1 c2 : Addr) (σ : St), c1 ≠ c2 → σ a = some (.flist (l.map .int)) → σ 206 = some (.ftup ((lotsOf (fo206 w.params)).map .byt)) → σ 207 = some (.ftup ((codesOf (fo207 w.params)).map .int)) → σ c1 = some (.cel none) → σ c2 = some (.cel none) →
      blk (lv true (Con (cfOf w s₀ mg mb) true 12) lvl) (fr280c c1 c2) (bodyOf 61) [(key (PySem.Str.ofString "script"), .ref a)] σ (retF fun v _ => v = .bool true)) :
    wpC true (model pw w) callerA (PySem.call (.ref 280) [.ref a]) (fun v s' => v = .bool true ∧ ∃ h' tk, s' = { s₁ with heap := h', toks := tk } ∧ ∀ b o, s₁.heap.get? b = some o → h'.get? b = some o) s₁ := by
  refine xCall (codeC_call_function (fd := lawFd) (body := bodyOf 61) (by decide +kernel) (X _ _ k280) rfl (by decide +kernel) (by decide +kernel) rfl (codeRec_of X (by kernel_rfl)) ?_)
  have hb : BindsTo s₁ lawFd ⟨[.ref a], []⟩ [(PySem.Str.ofString "script", .ref a)] := .of_eq (by kernel_rfl)
  have hsc : (scopeAt 61).names.lookup (PySem.Str.ofString "script") = some .local := by kernel_rfl
  refine hb _ _ _ _ (wpAny_newFunctionEnv_cells (by decide +kernel) (fun y hy => ?_) fun env he s' x => ⟨Gr.T.nolimit.keeps x.toInCall.keep, codeC_func ?_⟩)
  · obtain rfl := List.mem_singleton.mp hy
    exact .inl hsc
  have hcells : env.cells = [(PySem.Str.ofString "at", s₁.heap.objs.size + 2), (PySem.Str.ofString "deck", s₁.heap.objs.size + 1)] := by rw [he]; exact law_cells _
  have hL : env.locals = s₁.heap.objs.size := by rw [he]; rfl
  have hfrm : env.frame = some s₁.heap.objs.size := by rw [he]; rfl
  have hscope : env.scope = scopeAt 61 := by rw [he]; rfl
  have hkind : ∀ y, env.kindOf y = (scopeAt 61).names.lookup y := fun y => by rw [he]; rfl
  have hglob : env.globals = mainGlobals := by rw [he]; rfl
  have hbui : env.builtins = builtinsNs := by rw [he]; rfl
  clear he
  obtain ⟨h', tk, hs'⟩ := x.toInCall.same
  subst hs'
  have hkeep := x.toInCall.keep
  have hns := x.toInCall.ns
  have n1 : ∀ b o, s₁.heap.get? b = some o → b < s₁.heap.objs.size := fun b o q => Heap.lt_size q
  have hL0 : ∀ b, s₁.heap.objs.size ≤ b → s₁.heap.get? b = none := fun b hb => Heap.get?_none_of_le hb
  have hbc : bindC env.kindOf [(PySem.Str.ofString "script", .ref a)] (fun _ => none) = fun _ => none := by
    unfold bindC bindC
    rw [if_pos (by rw [hkind]; exact hsc)]
  have hcl := x.cell
  rw [hbc, hcells] at hcl
  obtain ⟨o2, p1, p2⟩ : h'.IsCell (s₁.heap.objs.size + 2) none := hcl (PySem.Str.ofString "at") _ rfl
  obtain ⟨o1, p3, p4⟩ : h'.IsCell (s₁.heap.objs.size + 1) none := hcl (PySem.Str.ofString "deck") _ rfl
  have hm : bindL env.kindOf [(PySem.Str.ofString "script", .ref a)] (fun _ => none) (PySem.Str.ofString "script") = some (.ref a) := by
    unfold bindL bindL
    rw [if_pos (by rw [hkind]; exact hsc)]
    exact if_pos rfl
  generalize hLL : s₁.heap.objs.size = LL at *
  let G : Gd := ⟨pw, w, callerA.deeper env, callerA, s₁.heap, s₁.heap, LL, env, env, [], fun _ => none, s₁.heap⟩
  let fr := fr280c (LL + 1) (LL + 2)
  have cel : ∀ y c, key y ≠ 0 → look fr.cel (key y) = some c → (y = PySem.Str.ofString "deck" ∧ c = LL + 1) ∨ (y = PySem.Str.ofString "at" ∧ c = LL + 2) := fun y c hy hl => by
    rcases List.mem_cons.mp (look_in hl) with q | q
    · obtain ⟨q1, q2⟩ := Prod.mk.inj q
      exact .inl ⟨key_inj hy q1, q2⟩
    · obtain ⟨q1, q2⟩ := Prod.mk.inj (List.mem_singleton.mp q)
      exact .inr ⟨key_inj hy q1, q2⟩
  have ok : Ok (cfOf w s₀ mg mb) 12 G fr := by
    have hA : G.A.frames = some (G.env₀ :: G.outer) := Around.frames_deeper rfl
    refine ⟨below_caller _, X, Gr.T, hA, hfrm, by show env.scope.kind = _; rw [hscope]; decide +kernel, rfl, rfl, ?_, ?_, by show env.scope.kind = _; rw [hscope]; decide +kernel, hglob, hbui, fun y hy _ hl => ?_, fun y v hy _ _ hl => ?_, fun y c hy hl => ?_, fun _ _ q => q, glob_ok⟩
    · show callerA.depth + 1 + 12 < recursionLimit
      decide +kernel
    · show callerA.units + 3 + 8 * 12 + 64 < cLine
      decide +kernel
    · have h := law_loc
      simp only [List.all_eq_true, List.any_eq_true, Bool.and_eq_true, decide_eq_true_eq, Bool.not_eq_true'] at h
      obtain ⟨p, hp, ⟨q1, q2⟩, q3⟩ := h _ (mem_in hl)
      obtain rfl := key_inj hy q1.symm
      exact ⟨(hkind _).trans q2, q3⟩
    · have h := law_glo (P := w.params)
      simp only [List.all_eq_true, List.any_eq_true, Bool.and_eq_true, decide_eq_true_eq, Bool.not_eq_true'] at h
      obtain ⟨p, hp, ⟨⟨q1, q2⟩, q3⟩, q4⟩ := h _ (look_in hl)
      obtain rfl := key_inj hy q1.symm
      exact ⟨(hkind _).trans q2, q3, gloOk_e q4⟩
    · rcases cel y c hy hl with ⟨rfl, rfl⟩ | ⟨rfl, rfl⟩
      · exact ⟨(hkind _).trans (by kernel_rfl), by show env.cells.lookup _ = _; rw [hcells]; rfl, by decide +kernel⟩
      · exact ⟨(hkind _).trans (by kernel_rfl), by show env.cells.lookup _ = _; rw [hcells]; rfl, by decide +kernel⟩
  let σ : St := fun b => if b = a then some (.flist (l.map .int)) else if b = 206 then some (.ftup ((lotsOf (fo206 w.params)).map .byt)) else if b = 207 then some (.ftup ((codesOf (fo207 w.params)).map .int)) else if b = LL + 1 then some (.cel none) else if b = LL + 2 then some (.cel none) else none
  have x206 := X _ _ k206
  have x207 := X _ _ k207
  have ha6 : 206 ≠ a := fun q => by rw [← q, x206] at ho; cases ho; exact absurd (show Value.type "tuple" = Value.type "list" from hc) (by decide)
  have ha7 : 207 ≠ a := fun q => by rw [← q, x207] at ho; cases ho; exact absurd (show Value.type "tuple" = Value.type "list" from hc) (by decide)
  have hlt := n1 _ _ ho
  have hlt6 := n1 _ _ x206
  have hlt7 := n1 _ _ x207
  have S : Sim G [] σ [(key (PySem.Str.ofString "script"), .ref a)] h' := by
    refine ⟨⟨_, ⟨s₁.heap, .refl, hL ▸ hns, hkeep, by show s₁.heap.objs.size ≤ LL; (first | exact Int.natCast_nonneg _ | lia | omega)⟩, fun q => absurd hL q⟩, ⟨_, hns, fun y v hy hl => ?_⟩, fun q => absurd hL q, fun b o q => ?_, fun p hp => nomatch hp⟩
    · rcases List.mem_singleton.mp (look_in hl) with q
      obtain ⟨q1, q2⟩ := Prod.mk.inj q
      obtain rfl := key_inj hy q1
      subst q2
      exact ⟨_, hm, rfl⟩
    · have own : ∀ {b o O'}, s₁.heap.get? b = some O' → isO G o O' → isF o = true → good G h' b o := fun {b o O'} h1 h2 h3 => ⟨O', h2, .inl ⟨h3, h1, fun H u => by rw [u.same _ (by simp [G])]; exact h1⟩⟩
      have σd : (if b = a then some (.flist (l.map .int)) else if b = 206 then some (.ftup ((lotsOf (fo206 w.params)).map .byt)) else if b = 207 then some (.ftup ((codesOf (fo207 w.params)).map .int)) else if b = LL + 1 then some (.cel none) else if b = LL + 2 then some (.cel none) else none) = some o := q
      split at σd
      · rename_i q'
        subst q'; cases σd
        exact own ho ⟨hc, Vs, n, hd, hv⟩ rfl
      split at σd
      · rename_i q'
        subst q'; cases σd
        exact own x206 ⟨_, lots_is.1, lots_is.2⟩ rfl
      split at σd
      · rename_i q'
        subst q'; cases σd
        exact own x207 ⟨_, codes_is.1, codes_is.2⟩ rfl
      split at σd
      · rename_i q'
        subst q'; cases σd
        exact ⟨o1, ⟨none, p4, rfl⟩, .inr ⟨rfl, p3, by show (LL + 1 : Nat) ≠ LL; (first | exact Int.natCast_nonneg _ | lia | omega), ne_self hL 0, Heap.get?_none_of_le (by show s₁.heap.objs.size ≤ LL + 1; (first | exact Int.natCast_nonneg _ | lia | omega))⟩⟩
      split at σd
      · rename_i q'
        subst q'; cases σd
        exact ⟨o2, ⟨none, p2, rfl⟩, .inr ⟨rfl, p1, by show (LL + 2 : Nat) ≠ LL; (first | exact Int.natCast_nonneg _ | lia | omega), ne_self hL 1, Heap.get?_none_of_le (by show s₁.heap.objs.size ≤ LL + 2; (first | exact Int.natCast_nonneg _ | lia | omega))⟩⟩
      · cases σd
  have key := sBlk (G := G) (s := { s₁ with heap := h', toks := tk }) (snd_lv lvl) ok S (h (LL + 1) (LL + 2) σ (by show (LL + 1 : Nat) ≠ LL + 2; (first | exact Int.natCast_nonneg _ | lia | omega)) (if_pos rfl) (by show (if 206 = a then _ else _) = _; rw [if_neg ha6]; rfl) (by show (if 207 = a then _ else _) = _; rw [if_neg ha7]; rfl) ?_ ?_)
  · refine xMono key fun f s' hs' => ?_
    obtain ⟨h'', tk', e', σ', rfl, S₂, q⟩ := hs'
    have hb := S₂.bs ok
    cases f with
    | ret v =>
      obtain rfl : v = .bool true := un_of (v := .bool true) q
      exact ⟨_, rfl, rfl, h'', tk', rfl, hb⟩
    | next => cases q
    | brk => exact (q : False).elim
    | cont => exact (q : False).elim
  · show (if LL + 1 = a then _ else _) = _
    rw [if_neg (ne_add hlt 1), if_neg (ne_add hlt6 1), if_neg (ne_add hlt7 1), if_pos rfl]
  · show (if LL + 2 = a then _ else _) = _
    rw [if_neg (ne_add hlt 2), if_neg (ne_add hlt6 2), if_neg (ne_add hlt7 2), if_neg (fun q => by have q : (LL + 2 : Nat) = LL + 1 := q; (first | exact Int.natCast_nonneg _ | lia | omega)), if_pos rfl]

/-- what stands while the law draws -/
structure LawSt (P : Params) (c1 c2 d c : Addr) (σ : St) : Prop where
  dk : Deck σ d c
  k1 : σ c1 = some (.cel (some (.ref d)))
  k2 : ∃ v, σ c2 = some (.cel v)
  lots : σ 206 = some (.ftup ((lotsOf (fo206 P)).map .byt))
  codes : σ 207 = some (.ftup ((codesOf (fo207 P)).map .int))
section
variable {P : Params} {c1 c2 d c : Addr} {σ σ' : St}
theorem Deck.ext (h : Deck σ d c) (hx : Ext σ σ') : Deck σ' d c := by
  obtain ⟨l, m, h1, h2, h3⟩ := h
  exact ⟨l, m, hx _ _ h1, hx _ _ h2, h3⟩
theorem LawSt.ext (h : LawSt P c1 c2 d c σ) (hx : Ext σ σ') : LawSt P c1 c2 d c σ' :=
  ⟨h.dk.ext hx, hx _ _ h.k1, let ⟨v, q⟩ := h.k2; ⟨v, hx _ _ q⟩, hx _ _ h.lots, hx _ _ h.codes⟩
theorem LawSt.dext (h : LawSt P c1 c2 d c σ) (hx : DExt d c σ σ') (hd : Deck σ' d c) : LawSt P c1 c2 d c σ' := by
  obtain ⟨l, m, h1, h2, h3⟩ := h.dk
  have nd : ∀ b o, σ b = some o → (∀ l, o ≠ .dct l) → b ≠ d := fun b o q q' q'' => by rw [q'', h1] at q; cases q; exact q' _ rfl
  have nc : ∀ b o, σ b = some o → (∀ l, o ≠ .list l) → b ≠ c := fun b o q q' q'' => by rw [q'', h2] at q; cases q; exact q' _ rfl
  have k : ∀ b o, σ b = some o → (∀ l, o ≠ .dct l) → (∀ l, o ≠ .list l) → σ' b = some o := fun b o q q1 q2 => hx b o (nd b o q q1) (nc b o q q2) q
  refine ⟨hd, k _ _ h.k1 (fun _ => AO.noConfusion) (fun _ => AO.noConfusion), ?_, k _ _ h.lots (fun _ => AO.noConfusion) (fun _ => AO.noConfusion), k _ _ h.codes (fun _ => AO.noConfusion) (fun _ => AO.noConfusion)⟩
  obtain ⟨v, q⟩ := h.k2
  exact ⟨v, k _ _ q (fun _ => AO.noConfusion) (fun _ => AO.noConfusion)⟩
end
theorem allOf_byt : ∀ l : List (List Int), allOf bytOf (l.map PV.byt) = some l
  | [] => rfl
  | a :: r => by
    show (some a).bind (fun i => (allOf bytOf (r.map PV.byt)).map (i :: ·)) = _
    rw [allOf_byt r]
    rfl
theorem flat_len {k : Nat} : ∀ {ls : List (List Int)}, (∀ l ∈ ls, l.length ≤ k) → ls.flatten.length ≤ k * ls.length
  | [], _ => Nat.zero_le _
  | l :: r, h => by
    have h1 := h l (.head _)
    have h2 := flat_len (k := k) (ls := r) fun x hx => h x (.tail _ hx)
    rw [List.flatten_cons, List.length_append, List.length_cons, Nat.mul_succ]
    (first | exact Int.natCast_nonneg _ | lia | omega)
theorem lot_ok {P : Params} {x : Nat} (hx : x < 27) : ∃ l, (lotsOf (fo206 P))[x]? = some l ∧ l.length ≤ 8 ∧ ∀ c ∈ l, 0 ≤ c ∧ c < 256 := by
  have hl := lots_len (P := P)
  have hx' : x < (lotsOf (fo206 P)).length := by (first | exact Int.natCast_nonneg _ | lia | omega)
  refine ⟨(lotsOf (fo206 P))[x], List.getElem?_eq_getElem hx', ?_⟩
  have h := List.all_eq_true.mp (lots_ok (P := P)) _ (List.getElem_mem hx')
  simp only [Bool.and_eq_true, decide_eq_true_eq, List.all_eq_true] at h
  exact h
theorem code_ok {P : Params} {x : Nat} (hx : x < 14) : ∃ l, (codesOf (fo207 P))[x]? = some l ∧ isScal l = true := by
  have hl := codes_len (P := P)
  have hx' : x < (codesOf (fo207 P)).length := by (first | exact Int.natCast_nonneg _ | lia | omega)
  exact ⟨(codesOf (fo207 P))[x], List.getElem?_eq_getElem hx', List.all_eq_true.mp (codes_ok (P := P)) _ (List.getElem_mem hx')⟩
noncomputable def IRow (P : Params) (c1 c2 d c : Addr) (v : Nat) (i : Nat) (vs : List PV) (σ : St) : Prop := i ≤ v ∧ LawSt P c1 c2 d c σ ∧ ∃ ls : List (List Int), vs = ls.map .byt ∧ ls.length = i ∧ ∀ l ∈ ls, l.length ≤ 8 ∧ ∀ x ∈ l, 0 ≤ x ∧ x < 256
noncomputable def ISome (P : Params) (c1 c2 d c : Addr) (v : Nat) (i : Nat) (vs : List PV) (σ : St) : Prop := i ≤ v ∧ LawSt P c1 c2 d c σ ∧ ∃ ls : List Int, vs = ls.map .int ∧ ls.length = i ∧ ∀ x ∈ ls, 0 ≤ x ∧ x < 256
noncomputable def IText (P : Params) (c1 c2 d c : Addr) (v : Nat) (i : Nat) (vs : List PV) (σ : St) : Prop := i ≤ v ∧ LawSt P c1 c2 d c σ ∧ ∃ ls : List Int, vs = ls.map .int ∧ ls.length = i ∧ ∀ x ∈ ls, isScal x = true
noncomputable def IParts (σ₆ : St) (n : Nat) (i : Nat) (vs : List PV) (σ : St) : Prop := i ≤ n ∧ Ext σ₆ σ ∧ ∃ ps : List (List Int), vs = ps.map .byt ∧ ps.length = i ∧ ∀ p ∈ ps, oneCode p
noncomputable def IOne (bg : List Nat) (σ₁ : St) (i : Nat) (j : Nat) (vs : List PV) (σ : St) : Prop := j ≤ bg.length ∧ σ = σ₁ ∧ vs = ((bg.take j).filter fun b => decide (b < i)).map fun n => .int (n : Nat)
noncomputable def eBeg (pa g : Addr) : En := [(key (PySem.Str.ofString "parts"), .ref pa), (key (PySem.Str.ofString "begins"), .ref g)]
noncomputable def IBeg (ps : List (List Int)) (pa g c2 : Addr) (i : Nat) (e : En) (σ : St) : Prop := i ≤ ps.length ∧ e = eBeg pa g ∧ σ pa = some (.list (ps.map .byt)) ∧ σ g = some (.list (((begins ps).take i).map fun n => .int (n : Nat))) ∧ ∃ v, σ c2 = some (.cel v)
noncomputable def eAt (g : Addr) (whole : List Int) : En := [(key (PySem.Str.ofString "begins"), .ref g), (key (PySem.Str.ofString "whole"), .byt whole)]
noncomputable def IAt (whole : List Int) (bg : List Nat) (g c2 : Addr) (i : Nat) (e : En) (σ : St) : Prop := i ≤ whole.length + 3 ∧ e = eAt g whole ∧ σ g = some (.list (bg.map fun n => .int (n : Nat))) ∧ ∃ v, σ c2 = some (.cel v)
section
variable {P : Params} {cf : Cfg} {c1 c2 a : Addr} {σ : St}
theorem law_body (hK : cf.K = frag P) {l : List Int} (hl : l.length ≤ 63) (hc12 : c1 ≠ c2) (ha : σ a = some (.flist (l.map .int))) (hlo : σ 206 = some (.ftup ((lotsOf (fo206 P)).map .byt))) (hco : σ 207 = some (.ftup ((codesOf (fo207 P)).map .int)))
    (hk1 : σ c1 = some (.cel none)) (hk2 : σ c2 = some (.cel none)) (C : Addr → List PV → St → (PV → St → Prop) → Prop) (hC : ∀ {a vs σ Q}, Con cf true 12 a vs σ Q → C a vs σ Q) :
    blk (lv true C 14) (fr280c c1 c2) (bodyOf 61) [(key (PySem.Str.ofString "script"), .ref a)] σ (retF fun v _ => v = .bool true) := by
  refine stp rfl fun r0 K0 hr0 hn0 ht0 hc0 => ?_
  refine hC ((c212 (D := 0) hK ha hl fun d c σ₁ hx1 hdn hcn hdk => ?_).up)
  conv => whnf
  first | refine mS (hx1 _ _ hk1) ?_ | rw [hx1 _ _ hk1]
  conv => whnf
  generalize hu : upd _ _ _ = σ₂
  have L2 : LawSt P c1 c2 d c σ₂ := by
    obtain ⟨ls, m, h1, h2, h3⟩ := hdk
    have hd1 : d ≠ c1 := fun q => by rw [q, hk1] at hdn; cases hdn
    have hc1 : c ≠ c1 := fun q => by rw [q, hk1] at hcn; cases hcn
    have h21 : c2 ≠ c1 := Ne.symm hc12
    have h61 : 206 ≠ c1 := fun q => by rw [← q, hlo] at hk1; cases hk1
    have h71 : 207 ≠ c1 := fun q => by rw [← q, hco] at hk1; cases hk1
    rw [← hu]
    exact ⟨⟨ls, m, by rw [upd_ne hd1]; exact h1, by rw [upd_ne hc1]; exact h2, h3⟩, upd_same, ⟨_, by rw [upd_ne h21]; exact hx1 _ _ hk2⟩, by rw [upd_ne h61]; exact hx1 _ _ hlo, by rw [upd_ne h71]; exact hx1 _ _ hco⟩
  clear hu hx1 hdn hcn hdk ha hlo hco hk1 hk2
  refine hn0 _ _ (stp hr0 fun r0 K0 hr0 hn0 ht0 hc0 => ?_); conv => whnf
  first | refine mS (L2.k1) ?_ | rw [L2.k1]
  refine hC ((c219 (D := 0) hK L2.dk (by decide) fun v σ₃ hv0 hv7 hdk hx3 => ?_).up)
  have L3 := L2.dext hx3 hdk
  clear hx3 hdk L2
  refine ⟨hv0, by (first | exact Int.natCast_nonneg _ | lia | omega), new_i fun r σ₄ hrn hra hx4 ho4 => ?_⟩
  have L4 := L3.ext hx4
  obtain ⟨v, rfl⟩ := Int.eq_ofNat_of_zero_le hv0
  rw [Int.toNat_natCast] at hra
  clear hx4 L3 hrn ho4
  conv => whnf
  first | refine mS (hra) ?_ | rw [hra]
  refine ⟨by (first | exact Int.natCast_nonneg _ | lia | omega), ?_⟩
  refine ⟨v, IRow P c1 c2 d c v, ⟨Nat.zero_le _, L4, [], rfl, rfl, fun l hl => nomatch hl⟩, ?_⟩
  clear L4 hra
  rintro i vs σ ⟨hi, L, ls, rfl, hls, hlb⟩
  refine ⟨hi, by rw [List.length_map]; (first | exact Int.natCast_nonneg _ | lia | omega), by (first | exact Int.natCast_nonneg _ | lia | omega), ?_⟩
  conv => whnf
  by_cases hiv : i < v
  · rw [if_pos hiv]
    conv => whnf
    first | refine mS (L.k1) ?_ | rw [L.k1]
    refine hC ((c219 (D := 0) hK L.dk (by decide) fun x σ₅ hx0 hx27 hdk hx5 => ?_).up)
    have L5 := L.dext hx5 hdk
    obtain ⟨x, rfl⟩ := Int.eq_ofNat_of_zero_le hx0
    conv => whnf
    first | refine mS (L5.lots) ?_ | rw [L5.lots]
    refine ⟨by (first | exact Int.natCast_nonneg _ | lia | omega), by omega, ?_⟩
    obtain ⟨q, hq, hq1, hq2⟩ := lot_ok (P := P) (x := x) (by (first | exact Int.natCast_nonneg _ | lia | omega))
    have hq' : ((lotsOf (fo206 P)).map PV.byt)[Int.toNat (x : Int)]? = some (.byt q) := by rw [Int.toNat_natCast, List.getElem?_map, hq]; rfl
    first | refine mS (hq') ?_ | rw [hq']
    refine ⟨hiv, L5, ls ++ [q], by rw [List.map_append]; rfl, by rw [List.length_append, hls]; rfl, fun l hl => ?_⟩
    rcases List.mem_append.mp hl with hl | hl
    · exact hlb l hl
    · rcases List.mem_singleton.mp hl with rfl
      exact ⟨hq1, hq2⟩
  rw [if_neg hiv]
  have hfl := flat_len fun l hl => (hlb l hl).1
  have hfb : ∀ x ∈ ls.flatten, 0 ≤ x ∧ x < 256 := fun x hx => by
    obtain ⟨l, h1, h2⟩ := List.mem_flatten.mp hx
    exact (hlb l h1).2 x h2
  have hfl : ls.flatten.length ≤ 100 := by (first | exact Int.natCast_nonneg _ | lia | omega)
  conv => whnf
  intro t ht
  generalize hu : upd _ _ _ = σ₅
  have L5 := L.ext (hu ▸ Ext.new ht : Ext σ σ₅)
  have ht5 : σ₅ t = some (.list (ls.map .byt)) := by rw [← hu, upd_same]
  clear hu ht L
  conv => whnf
  first | refine mS (ht5) ?_ | rw [ht5]
  refine ⟨rfl, by rw [List.length_map]; (first | exact Int.natCast_nonneg _ | lia | omega), ?_⟩
  have hall := allOf_byt ls
  first | refine mS (hall) ?_ | rw [hall]
  refine ⟨by (first | exact Int.natCast_nonneg _ | lia | omega), ?_⟩
  generalize ls.flatten = rowb at hfl hfb
  clear hall ht5 hlb hls hiv hi
  conv => whnf
  refine hn0 _ _ (stp hr0 fun r0 K0 hr0 hn0 ht0 hc0 => ?_); conv => whnf
  first | refine mS (L5.k1) ?_ | rw [L5.k1]
  refine hC ((c219 (D := 0) hK L5.dk (by decide) fun v σ₃ hv0 hv7 hdk hx3 => ?_).up)
  have L3 := L5.dext hx3 hdk
  clear hx3 hdk L5
  refine ⟨hv0, by (first | exact Int.natCast_nonneg _ | lia | omega), new_i fun r σ₄ hrn hra hx4 ho4 => ?_⟩
  have L4 := L3.ext hx4
  obtain ⟨v, rfl⟩ := Int.eq_ofNat_of_zero_le hv0
  rw [Int.toNat_natCast] at hra
  clear hx4 L3 hrn ho4
  conv => whnf
  first | refine mS (hra) ?_ | rw [hra]
  refine ⟨by (first | exact Int.natCast_nonneg _ | lia | omega), ?_⟩
  refine ⟨v, ISome P c1 c2 d c v, ⟨Nat.zero_le _, L4, [], rfl, rfl, fun l hl => nomatch hl⟩, ?_⟩
  clear L4 hra
  rintro i vs σ ⟨hi, L, ls, rfl, hls, hlb⟩
  refine ⟨hi, by rw [List.length_map]; (first | exact Int.natCast_nonneg _ | lia | omega), by (first | exact Int.natCast_nonneg _ | lia | omega), ?_⟩
  conv => whnf
  by_cases hiv : i < v
  · rw [if_pos hiv]
    conv => whnf
    first | refine mS (L.k1) ?_ | rw [L.k1]
    refine hC ((c219 (D := 0) hK L.dk (by decide) fun x σ₅ hx0 hx27 hdk hx5 => ?_).up)
    have L5 := L.dext hx5 hdk
    obtain ⟨x, rfl⟩ := Int.eq_ofNat_of_zero_le hx0
    refine ⟨by (first | exact Int.natCast_nonneg _ | lia | omega), by decide, ?_⟩
    have hso : ∃ y, ([43, 45, 65, 66, 50, 68, 51, 103, 48, 89, 107, 47, 32, 126, 33, 195, 97, 57, 61] : List Int)[x]? = some y ∧ 0 ≤ y ∧ y < 256 := by
      have : ∀ x < 19, ∃ y, ([43, 45, 65, 66, 50, 68, 51, 103, 48, 89, 107, 47, 32, 126, 33, 195, 97, 57, 61] : List Int)[x]? = some y ∧ 0 ≤ y ∧ y < 256 := fun x hx => by
        have hx' : x < ([43, 45, 65, 66, 50, 68, 51, 103, 48, 89, 107, 47, 32, 126, 33, 195, 97, 57, 61] : List Int).length := hx
        refine ⟨_, List.getElem?_eq_getElem hx', ?_⟩
        have h := List.all_eq_true.mp (show (([43, 45, 65, 66, 50, 68, 51, 103, 48, 89, 107, 47, 32, 126, 33, 195, 97, 57, 61] : List Int).all fun y => decide (0 ≤ y) && decide (y < 256)) = true by decide +kernel) _ (List.getElem_mem hx')
        simpa using h
      exact this x (by (first | exact Int.natCast_nonneg _ | lia | omega))
    obtain ⟨q, hq, hq1, hq2⟩ := hso
    rw [Int.toNat_natCast]
    first | refine mS (hq) ?_ | rw [hq]
    refine ⟨hiv, L5, ls ++ [q], by rw [List.map_append]; rfl, by rw [List.length_append, hls]; rfl, fun l hl => ?_⟩
    rcases List.mem_append.mp hl with hl | hl
    · exact hlb l hl
    · rcases List.mem_singleton.mp hl with rfl
      exact ⟨hq1, hq2⟩
  rw [if_neg hiv]
  conv => whnf
  intro t ht
  generalize hu : upd _ _ _ = σ₅
  have L5 := L.ext (hu ▸ Ext.new ht : Ext σ σ₅)
  have ht5 : σ₅ t = some (.list (ls.map .int)) := by rw [← hu, upd_same]
  clear hu ht L
  conv => whnf
  first | refine mS (ht5) ?_ | rw [ht5]
  conv => whnf
  have hall := allOf_map ls
  first | refine mS (hall) ?_ | rw [hall]
  refine ⟨by (first | exact Int.natCast_nonneg _ | lia | omega), hlb, ?_⟩
  have hsl : ls.length ≤ 12 := by (first | exact Int.natCast_nonneg _ | lia | omega)
  clear hall ht5 hls hiv hi hv0 hv7
  conv => whnf
  refine hn0 _ _ (stp hr0 fun r0 K0 hr0 hn0 ht0 hc0 => ?_); conv => whnf
  first | refine mS (L5.k1) ?_ | rw [L5.k1]
  refine hC ((c219 (D := 0) hK L5.dk (by decide) fun v σ₃ hv0 hv7 hdk hx3 => ?_).up)
  have L3 := L5.dext hx3 hdk
  clear hx3 hdk L5
  refine ⟨hv0, by (first | exact Int.natCast_nonneg _ | lia | omega), new_i fun r σ₄ hrn hra hx4 ho4 => ?_⟩
  have L4 := L3.ext hx4
  obtain ⟨v, rfl⟩ := Int.eq_ofNat_of_zero_le hv0
  rw [Int.toNat_natCast] at hra
  clear hx4 L3 hrn ho4
  conv => whnf
  first | refine mS (hra) ?_ | rw [hra]
  refine ⟨by (first | exact Int.natCast_nonneg _ | lia | omega), ?_⟩
  refine ⟨v, IText P c1 c2 d c v, ⟨Nat.zero_le _, L4, [], rfl, rfl, fun l hl => nomatch hl⟩, ?_⟩
  clear L4 hra
  rintro i vs σ ⟨hi, L, txt, rfl, htxt, hts⟩
  refine ⟨hi, by rw [List.length_map]; (first | exact Int.natCast_nonneg _ | lia | omega), by (first | exact Int.natCast_nonneg _ | lia | omega), ?_⟩
  conv => whnf
  by_cases hiv : i < v
  · rw [if_pos hiv]
    conv => whnf
    first | refine mS (L.k1) ?_ | rw [L.k1]
    refine hC ((c219 (D := 0) hK L.dk (by decide) fun x σ₅ hx0 hx27 hdk hx5 => ?_).up)
    have L5 := L.dext hx5 hdk
    obtain ⟨x, rfl⟩ := Int.eq_ofNat_of_zero_le hx0
    conv => whnf
    first | refine mS (L5.codes) ?_ | rw [L5.codes]
    refine ⟨by (first | exact Int.natCast_nonneg _ | lia | omega), by omega, ?_⟩
    obtain ⟨q, hq, hq1⟩ := code_ok (P := P) (x := x) (by (first | exact Int.natCast_nonneg _ | lia | omega))
    have hq' : ((codesOf (fo207 P)).map PV.int)[Int.toNat (x : Int)]? = some (.int q) := by rw [Int.toNat_natCast, List.getElem?_map, hq]; rfl
    first | refine mS (hq') ?_ | rw [hq']
    refine ⟨hiv, L5, txt ++ [q], by rw [List.map_append]; rfl, by rw [List.length_append, htxt]; rfl, fun l hl => ?_⟩
    rcases List.mem_append.mp hl with hl | hl
    · exact hts l hl
    · rcases List.mem_singleton.mp hl with rfl
      exact hq1
  rw [if_neg hiv]
  have htl : txt.length ≤ 6 := by (first | exact Int.natCast_nonneg _ | lia | omega)
  clear htxt hiv hi hv0 hv7
  conv => whnf
  intro t ht
  generalize hu : upd _ _ _ = σ₅
  have L5 := L.ext (hu ▸ Ext.new ht : Ext σ σ₅)
  have ht5 : σ₅ t = some (.list (txt.map .int)) := by rw [← hu, upd_same]
  have htd : t ≠ d := fun q => by obtain ⟨_, _, q1, _⟩ := L.dk; rw [q, q1] at ht; cases ht
  have htc : t ≠ c := fun q => by obtain ⟨_, _, _, q1, _⟩ := L.dk; rw [q, q1] at ht; cases ht
  clear hu ht L
  conv => whnf
  refine hn0 _ _ (stp hr0 fun r0 K0 hr0 hn0 ht0 hc0 => ?_); conv => whnf
  first | refine mS (L5.k1) ?_ | rw [L5.k1]
  refine hC ((c219 (D := 0) hK L5.dk (by decide) fun v σ₃ hv0 hv7 hdk hx3 => ?_).up)
  have L3 := L5.dext hx3 hdk
  have ht3 := hx3 _ _ htd htc ht5
  clear hx3 hdk L5 ht5 htd htc
  refine hC ((c151 (D := 0) hK ht3 (by (first | exact Int.natCast_nonneg _ | lia | omega)) hts fun w σ₄ hx4 hrw hwl hwb => ?_).up)
  have L4 := L3.ext hx4
  have ht4 := hx4 _ _ ht3
  clear L3 ht3 hv0 hv7 hx4
  conv => whnf
  have hK2 : ∃ v, σ₄ c2 = some (.cel v) := L4.k2
  clear L4
  refine hn0 _ _ (stp hr0 fun r0 K0 hr0 hn0 ht0 hc0 => ?_)
  refine lvS (ifX false (Ext σ₄) (fun K hK' => ?_) (fun q => nomatch q) fun _ σ₅ hx5 => ?_)
  · refine lvT (tOr rfl fun q hq => ?_)
    refine hC ((c268 (D := 0) hK (by (first | exact Int.natCast_nonneg _ | lia | omega)) hfb fun σ₅ hx5 => ?_).up)
    refine ⟨fun hc => (nomatch hc), fun _ => ?_⟩
    refine tOr hq fun q hq => ?_
    refine hC ((c268 (D := 0) hK (by (first | exact Int.natCast_nonneg _ | lia | omega)) hlb fun σ₆ hx6 => ?_).up)
    refine ⟨fun hc => (nomatch hc), fun _ => ?_⟩
    refine tOr hq fun q hq => ?_
    refine hC ((c268 (D := 0) hK (by (first | exact Int.natCast_nonneg _ | lia | omega)) hwb fun σ₇ hx7 => ?_).up)
    refine ⟨fun hc => (nomatch hc), fun _ => ?_⟩
    refine tOrZ hq ?_
    exact hK' _ ((hx5.trans hx6).trans hx7)
  have ht5 := hx5 _ _ ht4
  have hK3 : ∃ v, σ₅ c2 = some (.cel v) := let ⟨v, q⟩ := hK2; ⟨v, hx5 _ _ q⟩
  clear hx5 hK2 ht4 hfb hfl hlb hsl
  refine nib rfl ?_
  refine hn0 _ _ (stp hr0 fun r0 K0 hr0 hn0 ht0 hc0 => ?_)
  refine lvS (ifX false (Ext σ₅) (fun K hK' => ?_) (fun q => nomatch q) fun _ σ₆ hx6 => ?_)
  · refine lvT (tOr rfl fun q hq => ?_)
    refine hC ((c198 (D := 0) hK (by (first | exact Int.natCast_nonneg _ | lia | omega)) fun σ₆ hx6 => ?_).up)
    rw [hrw]
    refine ⟨fun hc => (nomatch hc), fun _ => ?_⟩
    refine tOr hq fun q hq => ?_
    refine hC ((c191 (D := 0) hK (by (first | exact Int.natCast_nonneg _ | lia | omega)) fun u σ₇ hx7 hun hua => ?_).up)
    rw [hrw] at hua
    have hua : σ₇ u = some (.list (txt.map .int)) := by
      rw [hua]
      have e : (txt.map some).map rep = txt := by rw [List.map_map]; exact List.map_id txt
      show some (AO.list (((txt.map some).map rep).map .int)) = _
      rw [e]
    conv => whnf
    first | refine mS (hua) ?_ | rw [hua]
    refine ⟨by rw [List.length_map]; (first | exact Int.natCast_nonneg _ | lia | omega), new_i fun t3 σ₈ htn3 hta3 hx8 ho8 => ?_⟩
    conv => whnf
    first | refine mS (hta3) ?_ | rw [hta3]
    conv => whnf
    first | refine mS (hx8 _ _ (hx7 _ _ (hx6 _ _ ht5))) ?_ | rw [hx8 _ _ (hx7 _ _ (hx6 _ _ ht5))]
    refine ⟨fun _ => ⟨allI_map _, allI_map _⟩, ?_⟩
    rw [decide_eq_true rfl]
    refine ⟨fun hc => (nomatch hc), fun _ => ?_⟩
    refine tOrZ hq ?_
    exact hK' _ ((hx6.trans hx7).trans hx8)
  have ht6 := hx6 _ _ ht5
  have hK4 : ∃ v, σ₆ c2 = some (.cel v) := let ⟨v, q⟩ := hK3; ⟨v, hx6 _ _ q⟩
  clear hx6 hK3 ht5 hrw hwl hwb
  have hsc : ∀ x ∈ txt, 0 ≤ x ∧ x ≤ 1114111 := fun x hx => ⟨(isScal_e (hts x hx)).1, (isScal_e (hts x hx)).2.1⟩
  clear hts
  refine nib rfl ?_
  refine hn0 _ _ (stp hr0 fun r0 K0 hr0 hn0 ht0 hc0 => ?_); conv => whnf
  first | refine mS (ht6) ?_ | rw [ht6]
  refine ⟨txt.length, IParts σ₆ txt.length, ⟨Nat.zero_le _, .rfl, [], rfl, rfl, fun l hl => nomatch hl⟩, ?_⟩
  rintro i vs σ ⟨hi, hx, ps, rfl, hps, hpo⟩
  refine ⟨hi, by rw [List.length_map]; (first | exact Int.natCast_nonneg _ | lia | omega), by (first | exact Int.natCast_nonneg _ | lia | omega), ?_⟩
  conv => whnf
  first | refine mS (hx _ _ ht6) ?_ | rw [hx _ _ ht6]
  conv => whnf
  rw [List.getElem?_map]
  cases hti : txt[i]? with
  | some x =>
    have hil : i < txt.length := (List.getElem?_eq_some_iff.mp hti).1
    obtain ⟨x0, x1⟩ := hsc x (by rw [← (List.getElem?_eq_some_iff.mp hti).2]; exact List.getElem_mem _)
    refine hC ((c275 (D := 0) hK x0 x1 fun p σ₇ hx7 hp => ?_).up)
    refine ⟨hil, hx.trans hx7, ps ++ [p], by rw [List.map_append]; rfl, by rw [List.length_append, hps]; rfl, fun l hl => ?_⟩
    rcases List.mem_append.mp hl with hl | hl
    · exact hpo l hl
    · rcases List.mem_singleton.mp hl with rfl
      exact hp
  | none =>
  have hpl : ps.length ≤ 6 := by (first | exact Int.natCast_nonneg _ | lia | omega)
  have hK5 : ∃ v, σ c2 = some (.cel v) := let ⟨v, q⟩ := hK4; ⟨v, hx _ _ q⟩
  clear hti hps hi hx hK4 ht6 hsc
  conv => whnf
  intro pa hpa
  generalize hu : upd _ _ _ = σ₇
  have hx7 : Ext σ σ₇ := hu ▸ Ext.new hpa
  have hpa7 : σ₇ pa = some (.list (ps.map .byt)) := by rw [← hu, upd_same]
  have hK6 : ∃ v, σ₇ c2 = some (.cel v) := let ⟨v, q⟩ := hK5; ⟨v, hx7 _ _ q⟩
  clear hu hx7 hpa hK5
  refine ⟨Nat.le_of_ble_eq_true rfl, new_i fun g σ₈ hgn hga hx8 ho8 => ?_⟩
  refine ⟨Nat.le_of_ble_eq_true rfl, new_i fun tu σ₉ htun htua hx9 ho9 => ?_⟩
  conv => whnf
  first | refine mS (htua) ?_ | rw [htua]
  refine ⟨rfl, ?_⟩
  conv => whnf
  have hx79 := hx8.trans hx9
  have hpa9 := hx79 _ _ hpa7
  have hga9 := hx9 _ _ hga
  refine hn0 _ _ (stp hr0 fun r0 K0 hr0 hn0 ht0 hc0 => ?_)
  refine forV (fun s' σ' => s' = .rng ps.length ∧ Ext σ₉ σ') (fun K hK' => ?_) ?_
  · conv => whnf
    first | refine mS (hpa9) ?_ | rw [hpa9]
    refine ⟨by rw [List.length_map]; (first | exact Int.natCast_nonneg _ | lia | omega), ?_⟩
    refine ⟨by (first | exact Int.natCast_nonneg _ | lia | omega), by rw [List.length_map]; (first | exact Int.natCast_nonneg _ | lia | omega), new_i fun r σ₃ hrn hra hx3 ho3 => ?_⟩
    refine hK' _ _ (srcR (n := ps.length) (by rw [hra, List.length_map]; rfl) (by (first | exact Int.natCast_nonneg _ | lia | omega)) ⟨rfl, hx3⟩)
  rintro _ σ' ⟨rfl, hx'⟩
  have hpa' := hx' _ _ hpa9
  have hga' := hx' _ _ hga9
  have hK7 : ∃ v, σ' c2 = some (.cel v) := let ⟨v, q⟩ := hK6; ⟨v, hx' _ _ (hx79 _ _ q)⟩
  have hgp : g ≠ pa := fun q => by rw [q, hpa7] at hgn; cases hgn
  clear hx' hx79 hpa9 hga9 hK6 hx8 hx9 htua htun hgn hga hpa7
  have hg2 : g ≠ c2 := fun q => by obtain ⟨v, q'⟩ := hK7; rw [← q, hga'] at q'; cases q'
  have hp2 : pa ≠ c2 := fun q => by obtain ⟨v, q'⟩ := hK7; rw [← q, hpa'] at q'; cases q'
  have hpf : ∀ (m : Nat), (ps.take m).flatten.length ≤ 24 := fun m => by
    have h1 := flat_len (k := 4) (ls := ps.take m) fun l hl => by
      obtain ⟨x, r, _, _, _, h4, _⟩ := hpo l (List.mem_of_mem_take hl)
      exact h4
    rw [List.length_take] at h1
    (first | exact Int.natCast_nonneg _ | lia | omega)
  refine forI ps.length (IBeg ps pa g c2)
    (eBeg pa g) ⟨rfl, rfl, trivial⟩ ⟨Nat.zero_le _, rfl, hpa', hga', hK7⟩ ?_
  clear hpa' hga' hK7
  rintro b' hr' i e σ KL hnL htL hcL ⟨hi, rfl, hpa, hga, hK7⟩
  refine ⟨hi, ?_⟩
  conv => whnf
  by_cases hil : i < ps.length
  · rw [if_pos hil]
    conv => whnf
    refine stp hr' fun r1 K1 hr1 hn1 ht1 hc1 => ?_
    conv => whnf
    first | refine mS (hga) ?_ | rw [hga]
    refine ⟨by (first | exact Int.natCast_nonneg _ | lia | omega), ?_⟩
    conv => whnf
    first | refine mS (hpa) ?_ | rw [hpa]
    refine ⟨by rw [List.length_map]; (first | exact Int.natCast_nonneg _ | lia | omega), ?_⟩
    rw [show cut (ps.map PV.byt) none (some (i : Int)) = (ps.take i).map .byt by rw [List.map_take]; show (ps.map PV.byt).take (Int.toNat (i : Int)) = _; rw [Int.toNat_natCast]]
    refine new_i fun u σ₁ hun hua hx1 ho1 => ?_
    have hga1 := hx1 _ _ hga
    have hpa1 := hx1 _ _ hpa
    have hK8 : ∃ v, σ₁ c2 = some (.cel v) := let ⟨v, q⟩ := hK7; ⟨v, hx1 _ _ q⟩
    conv => whnf
    first | refine mS (hua) ?_ | rw [hua]
    refine ⟨rfl, by rw [List.length_map, List.length_take]; (first | exact Int.natCast_nonneg _ | lia | omega), ?_⟩
    have hall := allOf_byt (ps.take i)
    first | refine mS (hall) ?_ | rw [hall]
    refine ⟨by have := hpf i; (first | exact Int.natCast_nonneg _ | lia | omega), ?_⟩
    refine ⟨by have := hpf i; (first | exact Int.natCast_nonneg _ | lia | omega), ?_⟩
    conv => whnf
    first | refine mS (hga1) ?_ | rw [hga1]
    refine ⟨by rw [List.length_map, List.length_take]; (first | exact Int.natCast_nonneg _ | lia | omega), rfl, ?_⟩
    generalize hu : upd _ _ _ = σ₂
    refine hn1 _ _ (nib hr1 ?_)
    refine hnL _ _ ⟨(eBeg pa g), ⟨rfl, rfl, trivial⟩, hil, rfl, by rw [← hu, upd_ne (Ne.symm hgp)]; exact hpa1, ?_, let ⟨v, q⟩ := hK8; ⟨v, by rw [← hu, upd_ne (Ne.symm hg2)]; exact q⟩⟩
    have hbi : (begins ps)[i]? = some (ps.take i).flatten.length := by
      unfold begins
      rw [List.getElem?_map, List.getElem?_range hil]
      rfl
    rw [← hu, upd_same, List.take_add_one, hbi, List.map_append]
    rfl
  rw [if_neg hil]
  have : i = ps.length := by (first | exact Int.natCast_nonneg _ | lia | omega)
  subst this
  rw [List.take_of_length_le (by unfold begins; rw [List.length_map, List.length_range]; exact Nat.le_refl _)] at hga
  conv => whnf
  refine hn0 _ _ (stp hr0 fun r0 K0 hr0 hn0 ht0 hc0 => ?_); conv => whnf
  first | refine mS (hpa) ?_ | rw [hpa]
  refine ⟨rfl, by rw [List.length_map]; (first | exact Int.natCast_nonneg _ | lia | omega), ?_⟩
  have hall := allOf_byt ps
  first | refine mS (hall) ?_ | rw [hall]
  conv => whnf
  have hfl := hpf ps.length
  rw [List.take_length] at hfl
  refine ⟨by (first | exact Int.natCast_nonneg _ | lia | omega), ?_⟩
  conv => whnf
  have hbl : (begins ps).length ≤ 6 := by unfold begins; rw [List.length_map, List.length_range]; exact hpl
  have hidx := fun k => idx_law hpo k
  generalize ps.flatten = whole at hfl hidx
  generalize begins ps = bg at hbl hidx hga
  clear hall hpf hpl hpo hpa
  refine hn0 _ _ (stp hr0 fun r0 K0 hr0 hn0 ht0 hc0 => ?_)
  refine forV (fun s' σ' => s' = .rng (whole.length + 3) ∧ Ext σ σ') (fun K hK' => ?_) ?_
  · conv => whnf
    refine ⟨by (first | exact Int.natCast_nonneg _ | lia | omega), ?_⟩
    refine ⟨by (first | exact Int.natCast_nonneg _ | lia | omega), by omega, new_i fun r σ₃ hrn hra hx3 ho3 => ?_⟩
    refine hK' _ _ (srcR (n := whole.length + 3) (by rw [hra, show ((whole.length : Int) + 3).toNat = whole.length + 3 by (first | exact Int.natCast_nonneg _ | lia | omega)]) (by (first | exact Int.natCast_nonneg _ | lia | omega)) ⟨rfl, hx3⟩)
  rintro _ σ' ⟨rfl, hx'⟩
  have hga' := hx' _ _ hga
  have hK8 : ∃ v, σ' c2 = some (.cel v) := let ⟨v, q⟩ := hK7; ⟨v, hx' _ _ q⟩
  clear hx' hga hK7
  refine forI (whole.length + 3) (IAt whole bg g c2)
    (eAt g whole) ⟨rfl, rfl, trivial⟩ ⟨Nat.zero_le _, rfl, hga', hK8⟩ ?_
  clear hga' hK8
  rintro b' hr' i e σ KL hnL htL hcL ⟨hi, rfl, hga, v, hK7⟩
  refine ⟨hi, ?_⟩
  conv => whnf
  by_cases hil : i < whole.length + 3
  · rw [if_pos hil]
    conv => whnf
    first | refine mS (hK7) ?_ | rw [hK7]
    conv => whnf
    generalize hu : upd _ _ _ = σ₁
    have hga1 : σ₁ g = some (.list (bg.map fun n => .int (n : Nat))) := by rw [← hu, upd_ne hg2]; exact hga
    have hK8 : σ₁ c2 = some (.cel (some (.int i))) := by rw [← hu, upd_same]
    clear hu hga hK7
    refine stp hr' fun r1 K1 hr1 hn1 ht1 hc1 => ?_
    conv => whnf
    first | refine mS (hK8) ?_ | rw [hK8]
    refine hC ((c205 (D := 0) hK (k := i) (by (first | exact Int.natCast_nonneg _ | lia | omega)) ?_).up)
    rw [hidx i]
    conv => whnf
    first | refine mS (hga1) ?_ | rw [hga1]
    refine ⟨bg.length, IOne bg σ₁ i, ⟨Nat.zero_le _, rfl, rfl⟩, ?_⟩
    rintro j vs σ ⟨hj, rfl, rfl⟩
    refine ⟨hj, by rw [List.length_map]; exact Nat.le_trans (List.length_filter_le _ _) (by rw [List.length_take]; (first | exact Int.natCast_nonneg _ | lia | omega)), by (first | exact Int.natCast_nonneg _ | lia | omega), ?_⟩
    conv => whnf
    first | refine mS (hga1) ?_ | rw [hga1]
    conv => whnf
    rw [List.getElem?_map]
    cases hbj : bg[j]? with
    | some b =>
      have hjl : j < bg.length := (List.getElem?_eq_some_iff.mp hbj).1
      have htk : ((bg.take (j + 1)).filter fun b => decide (b < i)) = ((bg.take j).filter fun b => decide (b < i)) ++ (if b < i then [b] else []) := by
        rw [List.take_add_one, hbj, List.filter_append]
        congr 1
        show [b].filter (fun b => decide (b < i)) = _
        rw [List.filter_cons]
        by_cases q : b < i
        · rw [if_pos q, if_pos (decide_eq_true q)]; rfl
        · rw [if_neg q, if_neg (by simpa using q)]; rfl
      conv => whnf
      first | refine mS (hK8) ?_ | rw [hK8]
      refine ⟨fun hc => ?_, fun hc => ?_⟩
      · have hbi : b < i := by have := of_decide_eq_true hc; (first | exact Int.natCast_nonneg _ | lia | omega)
        refine ⟨hjl, rfl, ?_⟩
        rw [htk, if_pos hbi, List.map_append]
        rfl
      · have hbi : ¬ b < i := by have := of_decide_eq_false hc; (first | exact Int.natCast_nonneg _ | lia | omega)
        refine ⟨hjl, rfl, ?_⟩
        rw [htk, if_neg hbi, List.append_nil]
    | none =>
      have hjl : j = bg.length := by rw [List.getElem?_eq_none_iff] at hbj; (first | exact Int.natCast_nonneg _ | lia | omega)
      subst hjl
      rw [List.take_length]
      have hfl2 : (bg.filter fun b => decide (b < i)).length ≤ 6 := Nat.le_trans (List.length_filter_le _ _) hbl
      generalize (bg.filter fun b => decide (b < i)) = fb at hfl2
      conv => whnf
      intro u hun
      generalize hu : upd _ _ _ = σ₂
      have hx2 : Ext σ σ₂ := hu ▸ Ext.new hun
      have hua : σ₂ u = some (.list (fb.map fun n => .int (n : Nat))) := by rw [← hu, upd_same]
      clear hu hun
      conv => whnf
      first | refine mS (hua) ?_ | rw [hua]
      refine ⟨by rw [List.length_map]; (first | exact Int.natCast_nonneg _ | lia | omega), ?_⟩
      rw [List.length_map]
      conv => whnf
      rw [decide_eq_true rfl]
      refine ⟨fun hc => (nomatch hc), fun _ => ?_⟩
      refine nib rfl ?_
      refine hn1 _ _ (nib hr1 ?_)
      exact hnL _ _ ⟨(eAt g whole), ⟨rfl, rfl, trivial⟩, hil, rfl, hx2 _ _ hga1, _, hx2 _ _ hK8⟩
  rw [if_neg hil]
  conv => whnf
  refine hn0 _ _ (stp hr0 fun r0 K0 hr0 hn0 ht0 hc0 => ?_); conv => whnf
  refine ht0 _ _ _ ?_
  rfl
end

theorem law_holds : PySem.Challenge.rw_on0365_01.Holds := by
  refine hd fun w s₀ s₁ mg mb G X hg args vals as hpre hlay hreads hwell hmod => ?_
  obtain ⟨a, l, Vs, n, O, rfl, ho, hc, hd, hv, hl⟩ := script_of hpre hreads
  refine xMono (law_call (lvl := 14) G X ho hc hd hv fun c1 c2 σ hc12 ha hlo hco hk1 hk2 => law_body rfl hl hc12 ha hlo hco hk1 hk2 _ fun h => h) fun v s' h => ?_
  obtain ⟨rfl, h', tk, rfl, hk⟩ := h
  refine ⟨.inl ⟨.bool true, .bool true, [], rfl, fun cls => ?_, .bool true, ?_, fun _ => ⟨List.nodup_nil, fun a ha => nomatch ha⟩⟩, .of_keep hk, rfl, .of_eq hg⟩
  · rfl
  · refine postC_of (r := row.toRowW) (X := PySem.W.same (.bool true) (.bool true)) ?_ ?_ ?_
    · show WShape.has row.records (.bool true) .bool = true
      rfl
    · show WTm.value row.records (.eq .res (.lit (.bool true))) _ = _
      rfl
    · simp [PySem.W.same]

end Mine
set_option maxRecDepth 100000 in
set_option maxHeartbeats 8000000 in
theorem PySem.Challenge.cw_on0365_01_holds : PySem.Challenge.rw_on0365_01.Holds := by
  exact Mine.law_holds
