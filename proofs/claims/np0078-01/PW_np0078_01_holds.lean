import PyProof.Rows.All
import Wide.All
import OpenK.AllK
import Wide.FinOn
import PySem.Challenge.RW_np0078_01
open PySem PySem.W PyProof.Rows
set_option Elab.async false
set_option maxRecDepth 100000
set_option linter.unusedVariables false
set_option linter.unusedSimpArgs false
set_option maxHeartbeats 8000000
set_option compiler.extract_closed false
namespace Mine
section
abbrev hdPw : Program := PySem.Challenge.pw_np0078_01
def hdTopRunT (tb : String → Option Builtin) (p : Program) (w : World) (n₀ : Nat) (ann : Option Value) : Nat → SharedT → Thread → Option SharedT
  | 0, _, _ => none
  | n + 1, s, t => match through t with
    | true => some s
    | false => match stepOk n₀ ann t with
      | false => none
      | true => match stepT (denote tb) p w s t with
        | some (s', t') => hdTopRunT tb p w n₀ ann n s' t'
        | none => none
theorem hdTopRun_of {tb : String → Option Builtin} {p : Program} {w : World} {n₀ : Nat} {ann : Option Value} : ∀ {n : Nat} {s s' : SharedT} {t : Thread},
    hdTopRunT tb p w n₀ ann n s t = some s' → topRun tb p w n₀ ann n s.abs t = some s'.abs
  | 0, _, _, _, h => by cases h
  | n + 1, s, s', t, h => by
    unfold hdTopRunT at h
    unfold topRun
    cases he : through t with
    | true => rw [he] at h; cases h; rfl
    | false =>
      rw [he] at h
      cases hk : stepOk n₀ ann t with
      | false => rw [hk] at h; cases h
      | true =>
        rw [hk] at h
        cases hs : stepT (denote tb) p w s t with
        | none => rw [hs] at h; cases h
        | some r => obtain ⟨s₂, t₂⟩ := r; rw [hs] at h; rw [stepT_spec hs]; exact hdTopRun_of h
/-- the tree of a list of objects -/
def hdTree : List Obj → Nat → BT → BT
  | [], _, t => t
  | o :: l, n, t => hdTree l (n + 1) (t.ins n o)
noncomputable def hdBootT (P : Params) : BT := hdTree (boot_heap P).objs.toList 0 .nil
theorem hdBoot_abs (P : Params) : absHeap (hdBootT P) 11 (boot_heap P).life = boot_heap P := by kernel_rfl
theorem hdBoot_size (P : Params) : ((boot_heap P).isNs mainGlobals, (boot_heap P).objs.size, (boot_heap P).nsMap mainGlobals "__annotations__") = (true, 11, some (.ref 6)) := by kernel_rfl
noncomputable def hdBootS (w : World) (os : OsState) : SharedT := ⟨hdBootT w.params, 11, (boot_heap w.params).life, Array.mk [], boot_drawn, boot_toks, os⟩
noncomputable def hdRun (w : World) (os : OsState) : Option SharedT := hdTopRunT treeTable hdPw w 11 (some (.ref 6)) 7358 (hdBootS w os) (topStub hdPw)
def hdLk (p : Program) (H₀ : Heap) (s : Shared) : Bool :=
  staticsOk (importedModules p.main.body) H₀ s.heap && namesBound p s.heap && gensDone s && laidKept H₀ s.heap
theorem hdLeft_of_tree {p q : Program} {loose : List Str} {Xt : Shared → Bool} {α : Type} {Yf : Shared → α} {Ya : World → α} {g0 : Bool} {N m : Nat} {ann : Option Value} {S₀ : World → OsState → SharedT}
    {H₀ : Params → Heap} {g₀ : Array GenState} {d₀ : Drawn} {k₀ : Nat} (hg : g₀.size = 0)
    (open_ : ∀ w : World, (fencedOpening treeTable p w N).map (fun s => (s.heap, s.gens, s.drawn, s.toks)) = some (H₀ w.params, g₀, d₀, k₀))
    (size : ∀ P, ((H₀ P).isNs mainGlobals, (H₀ P).objs.size, (H₀ P).nsMap mainGlobals "__annotations__") = (true, m, ann))
    (abs : ∀ w os, (S₀ w os).abs = ⟨H₀ w.params, g₀, d₀, k₀, os⟩)
    (h0 : ∀ w os, (hdTopRunT treeTable p w m ann N (S₀ w os) (topStub p)).map (fun s => hdLk p (H₀ w.params) s.abs) = some true)
    (h1 : ∀ w os, (hdTopRunT treeTable p w m ann N (S₀ w os) (topStub p)).map (fun s => openSeen q loose (importedModules p.main.body) Xt g0 s.abs) = some (openGood q loose))
    (h2 : ∀ w os, (hdTopRunT treeTable p w m ann N (S₀ w os) (topStub p)).map (fun s => Yf s.abs) = some (Ya w)) : LeftO p q loose Xt Yf Ya N g0 := fun w => by
  obtain ⟨⟨h, gs, d, k, os⟩, e, e'⟩ := Option.map_eq_some_iff.mp (open_ w)
  obtain ⟨rfl, rfl, rfl, rfl⟩ : h = H₀ w.params ∧ gs = g₀ ∧ d = d₀ ∧ k = k₀ := by simpa using e'
  have z := size w.params
  obtain ⟨z1, z2, z3⟩ : _ ∧ _ ∧ _ := by simpa only [Prod.mk.injEq] using z
  obtain ⟨s₁, r1, l1⟩ := Option.map_eq_some_iff.mp (h0 w os)
  obtain ⟨s₂, r2, l2⟩ := Option.map_eq_some_iff.mp (h1 w os)
  obtain ⟨s₃, r3, l3⟩ := Option.map_eq_some_iff.mp (h2 w os)
  rw [r1] at r2 r3
  cases r2
  cases r3
  have r := hdTopRun_of r1
  rw [abs w os] at r
  have t : topFrom treeTable p w N ⟨H₀ w.params, gs, d, k, os⟩ = some s₁.abs := by
    unfold topFrom
    dsimp only
    rw [z1, z2, z3, r, hg]
    unfold hdLk at l1
    show (match staticsOk (importedModules p.main.body) (H₀ w.params) s₁.abs.heap && namesBound p s₁.abs.heap && gensDone s₁.abs && laidKept (H₀ w.params) s₁.abs.heap with | true => _ | false => _) = _
    rw [l1]
  unfold openEnds
  rw [e]
  show (topFrom treeTable p w N _).map _ = _
  rw [t]
  exact congrArg some (Prod.ext l2 l3)
theorem hdOpen_names : opening hdPw = plainProg hdPw.main.scope.names := by kernel_rfl
theorem hdOpen_fence : ∀ s, fenceModules? hdPw s = some s := by intro s; kernel_rfl
theorem hdBootS_abs (w : World) (os : OsState) : (hdBootS w os).abs = ⟨boot_heap w.params, Array.mk [], boot_drawn, boot_toks, os⟩ := by
  show Shared.mk (absHeap (hdBootT w.params) 11 (boot_heap w.params).life) _ _ _ _ = _
  rw [hdBoot_abs]
  rfl
theorem hdLeft_pw {q : Program} {loose : List Str} {Xt : Shared → Bool} {α : Type} {Yf : Shared → α} {Ya : World → α} {g0 : Bool}
    (h0 : ∀ w os, (hdRun w os).map (fun s => hdLk hdPw (boot_heap w.params) s.abs) = some true)
    (h1 : ∀ w os, (hdRun w os).map (fun s => openSeen q loose (importedModules hdPw.main.body) Xt g0 s.abs) = some (openGood q loose))
    (h2 : ∀ w os, (hdRun w os).map (fun s => Yf s.abs) = some (Ya w)) : LeftO hdPw q loose Xt Yf Ya 7358 g0 :=
  hdLeft_of_tree rfl (boot_open hdOpen_names rfl hdOpen_fence) hdBoot_size hdBootS_abs h0 h1 h2
def hdSt (i : Nat) : Option Stmt := hdPw.main.body[i]?
def hdSti (i j : Nat) : Option Stmt := match hdPw.main.body[i]? with
  | some (.ClassDef _ _ _ b _ _ _ _ _ _ _) => b[j]?
  | _ => none
abbrev hdFn {n : Str} {a : Arguments} {b : List Stmt} {ds : List Expr} {rt : Option Expr} {tp : List TypeParam} {sc : Scope} {ts : Option Scope} {q : Str} {ps : Pos} (qual : Str) (dV kV doc pm cd ct : Value) {st : Option Stmt}
    (_ : st = some (.FunctionDef n a b ds rt tp sc ts q ps)) : Obj := ⟨.type "function", none, .func (fnOf n qual a b sc dV kV doc pm none cd ct), #[]⟩
noncomputable def hdKp : Params → Frag := fun P =>
  (nat_lit 2, ⟨.none, none, .dict #[⟨PyData.keyHash P (.ofString "type.__subclasses__.Exception.0"), .str (.ofString "type.__subclasses__.Exception.0") 338, .int 103 0⟩, ⟨PyData.keyHash P (.ofString "type.__subclasses__.Exception.n"), .str (.ofString "type.__subclasses__.Exception.n") 339, .int 1 0⟩] 2, #[]⟩) ::
   (nat_lit 3, ⟨.type "dict", none, .dict #[⟨PyData.keyHash P (.ofString "__name__"), .str (.ofString "__name__") 165, .str (.ofString "law_np0078_01") 900⟩, ⟨PyData.keyHash P (.ofString "__doc__"), .str (.ofString "__doc__") 166, .none⟩, ⟨PyData.keyHash P (.ofString "__package__"), .str (.ofString "__package__") 167, .none⟩, ⟨PyData.keyHash P (.ofString "__loader__"), .str (.ofString "__loader__") 168, .builtin "__main__.__loader__#opaque"⟩, ⟨PyData.keyHash P (.ofString "__spec__"), .str (.ofString "__spec__") 169, .none⟩, ⟨PyData.keyHash P (.ofString "__annotations__"), .str (.ofString "__annotations__") 170, .ref 6⟩, ⟨PyData.keyHash P (.ofString "__builtins__"), .str (.ofString "__builtins__") 171, .ref 4⟩, ⟨PyData.keyHash P (.ofString "__file__"), .str (.ofString "__file__") 173, .str (.ofString "/claim/cut.py") 172⟩, ⟨PyData.keyHash P (.ofString "__cached__"), .str (.ofString "__cached__") 174, .none⟩, ⟨PyData.keyHash P (.ofString "_wall"), .str (.ofString "_wall") 193, .ref 21⟩, ⟨PyData.keyHash P (.ofString "ParseState"), .str (.ofString "ParseState") 280, .ref 68⟩, ⟨PyData.keyHash P (.ofString "state_of"), .str (.ofString "state_of") 299, .ref 79⟩, ⟨PyData.keyHash P (.ofString "told_state"), .str (.ofString "told_state") 308, .ref 86⟩, ⟨PyData.keyHash P (.ofString "LispSignal"), .str (.ofString "LispSignal") 341, .ref 103⟩, ⟨PyData.keyHash P (.ofString "WHITESPACE"), .str (.ofString "WHITESPACE") 345, .str (.ofString " ") 344⟩, ⟨PyData.keyHash P (.ofString "WORD"), .str (.ofString "WORD") 347, .str (.ofString "w") 346⟩, ⟨PyData.keyHash P (.ofString "SYMBOL"), .str (.ofString "SYMBOL") 349, .str (.ofString "_") 348⟩, ⟨PyData.keyHash P (.ofString "PUNCTUATION"), .str (.ofString "PUNCTUATION") 351, .str (.ofString ".") 350⟩, ⟨PyData.keyHash P (.ofString "OPENS"), .str (.ofString "OPENS") 353, .str (.ofString "(") 352⟩, ⟨PyData.keyHash P (.ofString "CLOSES"), .str (.ofString "CLOSES") 355, .str (.ofString ")") 354⟩, ⟨PyData.keyHash P (.ofString "PREFIX"), .str (.ofString "PREFIX") 357, .str (.ofString "'") 356⟩, ⟨PyData.keyHash P (.ofString "STRING"), .str (.ofString "STRING") 359, .str (.ofString "\"") 358⟩, ⟨PyData.keyHash P (.ofString "ESCAPE"), .str (.ofString "ESCAPE") 361, .str (.ofString "\\") 360⟩, ⟨PyData.keyHash P (.ofString "QUOTES"), .str (.ofString "QUOTES") 363, .str (.ofString "/") 362⟩, ⟨PyData.keyHash P (.ofString "BEGINS"), .str (.ofString "BEGINS") 365, .str (.ofString "<") 364⟩, ⟨PyData.keyHash P (.ofString "ENDS"), .str (.ofString "ENDS") 367, .str (.ofString ">") 366⟩, ⟨PyData.keyHash P (.ofString "INHERITS"), .str (.ofString "INHERITS") 369, .str (.ofString "@") 368⟩, ⟨PyData.keyHash P (.ofString "COMMENT_FENCE"), .str (.ofString "COMMENT_FENCE") 371, .str (.ofString "!") 370⟩, ⟨PyData.keyHash P (.ofString "STRING_FENCE"), .str (.ofString "STRING_FENCE") 373, .str (.ofString "|") 372⟩, ⟨PyData.keyHash P (.ofString "KINDS"), .str (.ofString "KINDS") 375, .str (.ofString " w_.()'\"\\/$<>@!|") 374⟩, ⟨PyData.keyHash P (.ofString "FLAGS"), .str (.ofString "FLAGS") 377, .str (.ofString "1234bcnp") 376⟩, ⟨PyData.keyHash P (.ofString "Syntax"), .str (.ofString "Syntax") 439, .ref 151⟩, ⟨PyData.keyHash P (.ofString "sorted_flags"), .str (.ofString "sorted_flags") 445, .ref 160⟩, ⟨PyData.keyHash P (.ofString "read_syntax"), .str (.ofString "read_syntax") 451, .ref 165⟩, ⟨PyData.keyHash P (.ofString "SyntaxTable"), .str (.ofString "SyntaxTable") 543, .ref 232⟩, ⟨PyData.keyHash P (.ofString "Mark"), .str (.ofString "Mark") 580, .ref 253⟩, ⟨PyData.keyHash P (.ofString "syntax_at"), .str (.ofString "syntax_at") 590, .ref 264⟩, ⟨PyData.keyHash P (.ofString "pair_style"), .str (.ofString "pair_style") 599, .ref 271⟩, ⟨PyData.keyHash P (.ofString "begin_mark"), .str (.ofString "begin_mark") 610, .ref 278⟩, ⟨PyData.keyHash P (.ofString "end_mark"), .str (.ofString "end_mark") 621, .ref 285⟩, ⟨PyData.keyHash P (.ofString "fits"), .str (.ofString "fits") 631, .ref 292⟩, ⟨PyData.keyHash P (.ofString "Walk"), .str (.ofString "Walk") 818, .ref 428⟩, ⟨PyData.keyHash P (.ofString "begins_expression"), .str (.ofString "begins_expression") 826, .ref 439⟩, ⟨PyData.keyHash P (.ofString "parse_partial"), .str (.ofString "parse_partial") 843, .ref 447⟩, ⟨PyData.keyHash P (.ofString "TextRow"), .str (.ofString "TextRow") 899, .ref 486⟩, ⟨PyData.keyHash P (.ofString "_law_deck"), .str (.ofString "_law_deck") 907, .ref 495⟩, ⟨PyData.keyHash P (.ofString "_law_draw"), .str (.ofString "_law_draw") 917, .ref 502⟩, ⟨PyData.keyHash P (.ofString "_law_many"), .str (.ofString "_law_many") 923, .ref 507⟩, ⟨PyData.keyHash P (.ofString "_law_table"), .str (.ofString "_law_table") 935, .ref 514⟩, ⟨PyData.keyHash P (.ofString "_law_states"), .str (.ofString "_law_states") 941, .ref 519⟩, ⟨PyData.keyHash P (.ofString "_law_first"), .str (.ofString "_law_first") 950, .ref 526⟩, ⟨PyData.keyHash P (.ofString "_law_stops"), .str (.ofString "_law_stops") 964, .ref 533⟩, ⟨PyData.keyHash P (.ofString "_law_told"), .str (.ofString "_law_told") 975, .ref 540⟩, ⟨PyData.keyHash P (.ofString "law"), .str (.ofString "law") 981, .ref 545⟩] 54, #[]⟩) ::
   (nat_lit 20, ⟨.type "code", none, .fields #[.str (.ofString "_wall") 187, .str (.ofString "_wall") 188, .str (.ofString "/claim/cut.py") 189, .int 1 0, .int 1 0, .int 0 0, .int 0 0, .int 3 0, .ref 15, .bool true, .int 181 0, .ref 16, .none, .ref 17, .ref 18, .ref 19, .int 191 0, .int 1 0, .str (.ofString "/claim/cut.py") 192], #[]⟩) ::
   (nat_lit 21, hdFn (.ofString "_wall") .none .none .none (.str (.ofString "__main__") 164) (.ref 20) .none (Eq.refl (hdSt 0))) ::
   (nat_lit 29, ⟨.type "tuple", none, .seq #[] 0, #[]⟩) ::
   (nat_lit 30, ⟨.type "tuple", none, .seq #[.ref 29, .int 0 208, .int 0 209, .none, .none, .none, .int 0 210, .str (.ofString "") 211, .bool false, .none, .bool false, .str (.ofString "") 212] 0, #[]⟩) ::
   (nat_lit 36, ⟨.type "code", none, .fields #[.str (.ofString "__init__") 213, .str (.ofString "ParseState.__init__") 214, .str (.ofString "/claim/cut.py") 215, .int 7 0, .int 13 0, .int 0 0, .int 0 0, .int 3 0, .ref 31, .bool true, .int 181 0, .ref 32, .none, .ref 33, .ref 34, .ref 35, .int 229 0, .int 7 0, .str (.ofString "/claim/cut.py") 230], #[]⟩) ::
   (nat_lit 37, hdFn (.ofString "ParseState.__init__") (.ref 30) .none .none (.str (.ofString "emacs.parsestate") 194) (.ref 36) .none (Eq.refl (hdSti 2 0))) ::
   (nat_lit 43, ⟨.type "code", none, .fields #[.str (.ofString "depth") 232, .str (.ofString "ParseState.depth") 233, .str (.ofString "/claim/cut.py") 234, .int 21 0, .int 1 0, .int 0 0, .int 0 0, .int 3 0, .ref 38, .bool true, .int 181 0, .ref 39, .none, .ref 40, .ref 41, .ref 42, .int 236 0, .int 21 0, .str (.ofString "/claim/cut.py") 237], #[]⟩) ::
   (nat_lit 44, hdFn (.ofString "ParseState.depth") .none .none .none (.str (.ofString "emacs.parsestate") 194) (.ref 43) .none (Eq.refl (hdSti 2 1))) ::
   (nat_lit 50, ⟨.type "code", none, .fields #[.str (.ofString "innermost") 239, .str (.ofString "ParseState.innermost") 240, .str (.ofString "/claim/cut.py") 241, .int 24 0, .int 1 0, .int 0 0, .int 0 0, .int 3 0, .ref 45, .bool true, .int 181 0, .ref 46, .none, .ref 47, .ref 48, .ref 49, .int 243 0, .int 24 0, .str (.ofString "/claim/cut.py") 244], #[]⟩) ::
   (nat_lit 51, hdFn (.ofString "ParseState.innermost") .none .none .none (.str (.ofString "emacs.parsestate") 194) (.ref 50) .none (Eq.refl (hdSti 2 2))) ::
   (nat_lit 57, ⟨.type "code", none, .fields #[.str (.ofString "is_plain") 246, .str (.ofString "ParseState.is_plain") 247, .str (.ofString "/claim/cut.py") 248, .int 27 0, .int 1 0, .int 0 0, .int 0 0, .int 3 0, .ref 52, .bool true, .int 181 0, .ref 53, .none, .ref 54, .ref 55, .ref 56, .int 250 0, .int 27 0, .str (.ofString "/claim/cut.py") 251], #[]⟩) ::
   (nat_lit 58, hdFn (.ofString "ParseState.is_plain") .none .none .none (.str (.ofString "emacs.parsestate") 194) (.ref 57) .none (Eq.refl (hdSti 2 3))) ::
   (nat_lit 64, ⟨.type "code", none, .fields #[.str (.ofString "items") 253, .str (.ofString "ParseState.items") 254, .str (.ofString "/claim/cut.py") 255, .int 30 0, .int 1 0, .int 0 0, .int 0 0, .int 3 0, .ref 59, .bool true, .int 181 0, .ref 60, .none, .ref 61, .ref 62, .ref 63, .int 258 0, .int 30 0, .str (.ofString "/claim/cut.py") 259], #[]⟩) ::
   (nat_lit 65, hdFn (.ofString "ParseState.items") .none .none .none (.str (.ofString "emacs.parsestate") 194) (.ref 64) .none (Eq.refl (hdSti 2 4))) ::
   (nat_lit 67, ⟨.type "dict", none, .dict #[⟨PyData.keyHash P (.ofString "__module__"), .str (.ofString "__module__") 203, .str (.ofString "emacs.parsestate") 194⟩, ⟨PyData.keyHash P (.ofString "__firstlineno__"), .str (.ofString "__firstlineno__") 207, .int 5 206⟩, ⟨PyData.keyHash P (.ofString "__init__"), .str (.ofString "__init__") 231, .ref 37⟩, ⟨PyData.keyHash P (.ofString "depth"), .str (.ofString "depth") 238, .ref 44⟩, ⟨PyData.keyHash P (.ofString "innermost"), .str (.ofString "innermost") 245, .ref 51⟩, ⟨PyData.keyHash P (.ofString "is_plain"), .str (.ofString "is_plain") 252, .ref 58⟩, ⟨PyData.keyHash P (.ofString "items"), .str (.ofString "items") 260, .ref 65⟩, ⟨PyData.keyHash P (.ofString "__static_attributes__"), .str (.ofString "__static_attributes__") 273, .ref 66⟩, ⟨PyData.keyHash P (.ofString "__dict__"), .str (.ofString "__dict__") 275, .ref 69⟩, ⟨PyData.keyHash P (.ofString "__weakref__"), .str (.ofString "__weakref__") 277, .ref 70⟩, ⟨PyData.keyHash P (.ofString "__doc__"), .str (.ofString "__doc__") 278, .none⟩] 4, #[]⟩) ::
   (nat_lit 68, ⟨.type "type", none, .cls ⟨(.ofString "ParseState"), [.type "object"], [.ref 68, .type "object"], 67, (.ofString "ParseState"), true, [], [], false, none, false⟩, #[none, none, some (.str (.ofString "ParseState") 196), some (.str (.ofString "ParseState") 204), some (.builtin "object.__new__"), some (.bool true)]⟩) ::
   (nat_lit 78, ⟨.type "code", none, .fields #[.str (.ofString "state_of") 281, .str (.ofString "state_of") 282, .str (.ofString "/claim/cut.py") 283, .int 33 0, .int 1 0, .int 0 0, .int 0 0, .int 3 0, .ref 73, .bool true, .int 181 0, .ref 74, .none, .ref 75, .ref 76, .ref 77, .int 297 0, .int 33 0, .str (.ofString "/claim/cut.py") 298], #[]⟩) ::
   (nat_lit 79, hdFn (.ofString "state_of") .none .none .none (.str (.ofString "emacs.parsestate") 194) (.ref 78) .none (Eq.refl (hdSt 3))) ::
   (nat_lit 85, ⟨.type "code", none, .fields #[.str (.ofString "told_state") 300, .str (.ofString "told_state") 301, .str (.ofString "/claim/cut.py") 302, .int 36 0, .int 1 0, .int 0 0, .int 0 0, .int 3 0, .ref 80, .bool true, .int 181 0, .ref 81, .none, .ref 82, .ref 83, .ref 84, .int 306 0, .int 36 0, .str (.ofString "/claim/cut.py") 307], #[]⟩) ::
   (nat_lit 86, hdFn (.ofString "told_state") .none .none .none (.str (.ofString "emacs.parsestate") 194) (.ref 85) .none (Eq.refl (hdSt 4))) ::
   (nat_lit 99, ⟨.type "code", none, .fields #[.str (.ofString "__init__") 323, .str (.ofString "LispSignal.__init__") 324, .str (.ofString "/claim/cut.py") 325, .int 43 0, .int 3 0, .int 0 0, .int 0 0, .int 3 0, .ref 94, .bool true, .int 181 0, .ref 95, .none, .ref 96, .ref 97, .ref 98, .int 329 0, .int 43 0, .str (.ofString "/claim/cut.py") 330], #[]⟩) ::
   (nat_lit 100, hdFn (.ofString "LispSignal.__init__") .none .none .none (.str (.ofString "emacs.errors") 309) (.ref 99) .none (Eq.refl (hdSti 6 0))) ::
   (nat_lit 102, ⟨.type "dict", none, .dict #[⟨PyData.keyHash P (.ofString "__module__"), .str (.ofString "__module__") 318, .str (.ofString "emacs.errors") 309⟩, ⟨PyData.keyHash P (.ofString "__firstlineno__"), .str (.ofString "__firstlineno__") 322, .int 41 321⟩, ⟨PyData.keyHash P (.ofString "__init__"), .str (.ofString "__init__") 331, .ref 100⟩, ⟨PyData.keyHash P (.ofString "__static_attributes__"), .str (.ofString "__static_attributes__") 334, .ref 101⟩, ⟨PyData.keyHash P (.ofString "__weakref__"), .str (.ofString "__weakref__") 336, .ref 104⟩, ⟨PyData.keyHash P (.ofString "__doc__"), .str (.ofString "__doc__") 337, .none⟩] 3, #[]⟩) ::
   (nat_lit 103, ⟨.type "type", none, .cls ⟨(.ofString "LispSignal"), [.type "Exception"], [.ref 103, .type "Exception", .type "BaseException", .type "object"], 102, (.ofString "LispSignal"), true, [], [], false, none, false⟩, #[some (.ref 87), none, some (.str (.ofString "LispSignal") 311), some (.str (.ofString "LispSignal") 319), some (.builtin "Exception.__new__"), some (.bool true)]⟩) ::
   (nat_lit 119, ⟨.type "code", none, .fields #[.str (.ofString "__init__") 390, .str (.ofString "Syntax.__init__") 391, .str (.ofString "/claim/cut.py") 392, .int 66 0, .int 4 0, .int 0 0, .int 0 0, .int 3 0, .ref 114, .bool true, .int 181 0, .ref 115, .none, .ref 116, .ref 117, .ref 118, .int 397 0, .int 66 0, .str (.ofString "/claim/cut.py") 398], #[]⟩) ::
   (nat_lit 120, hdFn (.ofString "Syntax.__init__") .none .none .none (.str (.ofString "emacs.syntax") 342) (.ref 119) .none (Eq.refl (hdSti 25 0))) ::
   (nat_lit 126, ⟨.type "code", none, .fields #[.str (.ofString "has") 400, .str (.ofString "Syntax.has") 401, .str (.ofString "/claim/cut.py") 402, .int 71 0, .int 2 0, .int 0 0, .int 0 0, .int 3 0, .ref 121, .bool true, .int 181 0, .ref 122, .none, .ref 123, .ref 124, .ref 125, .int 405 0, .int 71 0, .str (.ofString "/claim/cut.py") 406], #[]⟩) ::
   (nat_lit 127, hdFn (.ofString "Syntax.has") .none .none .none (.str (.ofString "emacs.syntax") 342) (.ref 126) .none (Eq.refl (hdSti 25 1))) ::
   (nat_lit 133, ⟨.type "code", none, .fields #[.str (.ofString "is_escape") 408, .str (.ofString "Syntax.is_escape") 409, .str (.ofString "/claim/cut.py") 410, .int 74 0, .int 1 0, .int 0 0, .int 0 0, .int 3 0, .ref 128, .bool true, .int 181 0, .ref 129, .none, .ref 130, .ref 131, .ref 132, .int 412 0, .int 74 0, .str (.ofString "/claim/cut.py") 413], #[]⟩) ::
   (nat_lit 134, hdFn (.ofString "Syntax.is_escape") .none .none .none (.str (.ofString "emacs.syntax") 342) (.ref 133) .none (Eq.refl (hdSti 25 2))) ::
   (nat_lit 140, ⟨.type "code", none, .fields #[.str (.ofString "is_word_part") 415, .str (.ofString "Syntax.is_word_part") 416, .str (.ofString "/claim/cut.py") 417, .int 77 0, .int 1 0, .int 0 0, .int 0 0, .int 3 0, .ref 135, .bool true, .int 181 0, .ref 136, .none, .ref 137, .ref 138, .ref 139, .int 419 0, .int 77 0, .str (.ofString "/claim/cut.py") 420], #[]⟩) ::
   (nat_lit 141, hdFn (.ofString "Syntax.is_word_part") .none .none .none (.str (.ofString "emacs.syntax") 342) (.ref 140) .none (Eq.refl (hdSti 25 3))) ::
   (nat_lit 147, ⟨.type "code", none, .fields #[.str (.ofString "style") 422, .str (.ofString "Syntax.style") 423, .str (.ofString "/claim/cut.py") 424, .int 80 0, .int 1 0, .int 0 0, .int 0 0, .int 3 0, .ref 142, .bool true, .int 181 0, .ref 143, .none, .ref 144, .ref 145, .ref 146, .int 426 0, .int 80 0, .str (.ofString "/claim/cut.py") 427], #[]⟩) ::
   (nat_lit 148, hdFn (.ofString "Syntax.style") .none .none .none (.str (.ofString "emacs.syntax") 342) (.ref 147) .none (Eq.refl (hdSti 25 4))) ::
   (nat_lit 150, ⟨.type "dict", none, .dict #[⟨PyData.keyHash P (.ofString "__module__"), .str (.ofString "__module__") 385, .str (.ofString "emacs.syntax") 342⟩, ⟨PyData.keyHash P (.ofString "__firstlineno__"), .str (.ofString "__firstlineno__") 389, .int 64 388⟩, ⟨PyData.keyHash P (.ofString "__init__"), .str (.ofString "__init__") 399, .ref 120⟩, ⟨PyData.keyHash P (.ofString "has"), .str (.ofString "has") 407, .ref 127⟩, ⟨PyData.keyHash P (.ofString "is_escape"), .str (.ofString "is_escape") 414, .ref 134⟩, ⟨PyData.keyHash P (.ofString "is_word_part"), .str (.ofString "is_word_part") 421, .ref 141⟩, ⟨PyData.keyHash P (.ofString "style"), .str (.ofString "style") 428, .ref 148⟩, ⟨PyData.keyHash P (.ofString "__static_attributes__"), .str (.ofString "__static_attributes__") 432, .ref 149⟩, ⟨PyData.keyHash P (.ofString "__dict__"), .str (.ofString "__dict__") 434, .ref 152⟩, ⟨PyData.keyHash P (.ofString "__weakref__"), .str (.ofString "__weakref__") 436, .ref 153⟩, ⟨PyData.keyHash P (.ofString "__doc__"), .str (.ofString "__doc__") 437, .none⟩] 4, #[]⟩) ::
   (nat_lit 151, ⟨.type "type", none, .cls ⟨(.ofString "Syntax"), [.type "object"], [.ref 151, .type "object"], 150, (.ofString "Syntax"), true, [], [], false, none, false⟩, #[none, none, some (.str (.ofString "Syntax") 378), some (.str (.ofString "Syntax") 386), some (.builtin "object.__new__"), some (.bool true)]⟩) ::
   (nat_lit 159, ⟨.type "code", none, .fields #[.str (.ofString "sorted_flags") 440, .str (.ofString "sorted_flags") 441, .str (.ofString "/claim/cut.py") 442, .int 82 0, .int 1 0, .int 0 0, .int 0 0, .int 3 0, .ref 156, .bool true, .int 181 0, .ref 157, .none, .none, .none, .ref 158, .int 443 0, .int 82 0, .str (.ofString "/claim/cut.py") 444], #[]⟩) ::
   (nat_lit 160, hdFn (.ofString "sorted_flags") .none .none .none (.str (.ofString "emacs.syntax") 342) (.ref 159) .none (Eq.refl (hdSt 26))) ::
   (nat_lit 164, ⟨.type "code", none, .fields #[.str (.ofString "read_syntax") 446, .str (.ofString "read_syntax") 447, .str (.ofString "/claim/cut.py") 448, .int 84 0, .int 1 0, .int 0 0, .int 0 0, .int 3 0, .ref 161, .bool true, .int 181 0, .ref 162, .none, .none, .none, .ref 163, .int 449 0, .int 84 0, .str (.ofString "/claim/cut.py") 450], #[]⟩) ::
   (nat_lit 165, hdFn (.ofString "read_syntax") .none .none .none (.str (.ofString "emacs.syntax") 342) (.ref 164) .none (Eq.refl (hdSt 27))) ::
   (nat_lit 173, ⟨.type "tuple", none, .seq #[.none] 0, #[]⟩) ::
   (nat_lit 179, ⟨.type "code", none, .fields #[.str (.ofString "__init__") 464, .str (.ofString "SyntaxTable.__init__") 465, .str (.ofString "/claim/cut.py") 466, .int 95 0, .int 2 0, .int 0 0, .int 0 0, .int 3 0, .ref 174, .bool true, .int 181 0, .ref 175, .none, .ref 176, .ref 177, .ref 178, .int 469 0, .int 95 0, .str (.ofString "/claim/cut.py") 470], #[]⟩) ::
   (nat_lit 180, hdFn (.ofString "SyntaxTable.__init__") (.ref 173) .none .none (.str (.ofString "emacs.syntax") 342) (.ref 179) .none (Eq.refl (hdSti 28 0))) ::
   (nat_lit 186, ⟨.type "code", none, .fields #[.str (.ofString "modify") 472, .str (.ofString "SyntaxTable.modify") 473, .str (.ofString "/claim/cut.py") 474, .int 99 0, .int 3 0, .int 0 0, .int 0 0, .int 3 0, .ref 181, .bool true, .int 181 0, .ref 182, .none, .ref 183, .ref 184, .ref 185, .int 478 0, .int 99 0, .str (.ofString "/claim/cut.py") 479], #[]⟩) ::
   (nat_lit 187, hdFn (.ofString "SyntaxTable.modify") .none .none .none (.str (.ofString "emacs.syntax") 342) (.ref 186) .none (Eq.refl (hdSti 28 1))) ::
   (nat_lit 193, ⟨.type "code", none, .fields #[.str (.ofString "modify_all") 481, .str (.ofString "SyntaxTable.modify_all") 482, .str (.ofString "/claim/cut.py") 483, .int 102 0, .int 3 0, .int 0 0, .int 0 0, .int 3 0, .ref 188, .bool true, .int 181 0, .ref 189, .none, .ref 190, .ref 191, .ref 192, .int 487 0, .int 102 0, .str (.ofString "/claim/cut.py") 488], #[]⟩) ::
   (nat_lit 194, hdFn (.ofString "SyntaxTable.modify_all") .none .none .none (.str (.ofString "emacs.syntax") 342) (.ref 193) .none (Eq.refl (hdSti 28 2))) ::
   (nat_lit 200, ⟨.type "code", none, .fields #[.str (.ofString "modify_range") 490, .str (.ofString "SyntaxTable.modify_range") 491, .str (.ofString "/claim/cut.py") 492, .int 105 0, .int 4 0, .int 0 0, .int 0 0, .int 3 0, .ref 195, .bool true, .int 181 0, .ref 196, .none, .ref 197, .ref 198, .ref 199, .int 497 0, .int 105 0, .str (.ofString "/claim/cut.py") 498], #[]⟩) ::
   (nat_lit 201, hdFn (.ofString "SyntaxTable.modify_range") .none .none .none (.str (.ofString "emacs.syntax") 342) (.ref 200) .none (Eq.refl (hdSti 28 3))) ::
   (nat_lit 207, ⟨.type "code", none, .fields #[.str (.ofString "own") 500, .str (.ofString "SyntaxTable.own") 501, .str (.ofString "/claim/cut.py") 502, .int 108 0, .int 2 0, .int 0 0, .int 0 0, .int 3 0, .ref 202, .bool true, .int 181 0, .ref 203, .none, .ref 204, .ref 205, .ref 206, .int 506 0, .int 108 0, .str (.ofString "/claim/cut.py") 507], #[]⟩) ::
   (nat_lit 208, hdFn (.ofString "SyntaxTable.own") .none .none .none (.str (.ofString "emacs.syntax") 342) (.ref 207) .none (Eq.refl (hdSti 28 4))) ::
   (nat_lit 214, ⟨.type "code", none, .fields #[.str (.ofString "at") 509, .str (.ofString "SyntaxTable.at") 510, .str (.ofString "/claim/cut.py") 511, .int 112 0, .int 2 0, .int 0 0, .int 0 0, .int 3 0, .ref 209, .bool true, .int 181 0, .ref 210, .none, .ref 211, .ref 212, .ref 213, .int 516 0, .int 112 0, .str (.ofString "/claim/cut.py") 517], #[]⟩) ::
   (nat_lit 215, hdFn (.ofString "SyntaxTable.at") .none .none .none (.str (.ofString "emacs.syntax") 342) (.ref 214) .none (Eq.refl (hdSti 28 5))) ::
   (nat_lit 221, ⟨.type "code", none, .fields #[.str (.ofString "kind_of") 519, .str (.ofString "SyntaxTable.kind_of") 520, .str (.ofString "/claim/cut.py") 521, .int 121 0, .int 2 0, .int 0 0, .int 0 0, .int 3 0, .ref 216, .bool true, .int 181 0, .ref 217, .none, .ref 218, .ref 219, .ref 220, .int 524 0, .int 121 0, .str (.ofString "/claim/cut.py") 525], #[]⟩) ::
   (nat_lit 222, hdFn (.ofString "SyntaxTable.kind_of") .none .none .none (.str (.ofString "emacs.syntax") 342) (.ref 221) .none (Eq.refl (hdSti 28 6))) ::
   (nat_lit 228, ⟨.type "code", none, .fields #[.str (.ofString "copy") 527, .str (.ofString "SyntaxTable.copy") 528, .str (.ofString "/claim/cut.py") 529, .int 124 0, .int 1 0, .int 0 0, .int 0 0, .int 3 0, .ref 223, .bool true, .int 181 0, .ref 224, .none, .ref 225, .ref 226, .ref 227, .int 531 0, .int 124 0, .str (.ofString "/claim/cut.py") 532], #[]⟩) ::
   (nat_lit 229, hdFn (.ofString "SyntaxTable.copy") .none .none .none (.str (.ofString "emacs.syntax") 342) (.ref 228) .none (Eq.refl (hdSti 28 7))) ::
   (nat_lit 231, ⟨.type "dict", none, .dict #[⟨PyData.keyHash P (.ofString "__module__"), .str (.ofString "__module__") 459, .str (.ofString "emacs.syntax") 342⟩, ⟨PyData.keyHash P (.ofString "__firstlineno__"), .str (.ofString "__firstlineno__") 463, .int 93 462⟩, ⟨PyData.keyHash P (.ofString "__init__"), .str (.ofString "__init__") 471, .ref 180⟩, ⟨PyData.keyHash P (.ofString "modify"), .str (.ofString "modify") 480, .ref 187⟩, ⟨PyData.keyHash P (.ofString "modify_all"), .str (.ofString "modify_all") 489, .ref 194⟩, ⟨PyData.keyHash P (.ofString "modify_range"), .str (.ofString "modify_range") 499, .ref 201⟩, ⟨PyData.keyHash P (.ofString "own"), .str (.ofString "own") 508, .ref 208⟩, ⟨PyData.keyHash P (.ofString "at"), .str (.ofString "at") 518, .ref 215⟩, ⟨PyData.keyHash P (.ofString "kind_of"), .str (.ofString "kind_of") 526, .ref 222⟩, ⟨PyData.keyHash P (.ofString "copy"), .str (.ofString "copy") 533, .ref 229⟩, ⟨PyData.keyHash P (.ofString "__static_attributes__"), .str (.ofString "__static_attributes__") 536, .ref 230⟩, ⟨PyData.keyHash P (.ofString "__dict__"), .str (.ofString "__dict__") 538, .ref 233⟩, ⟨PyData.keyHash P (.ofString "__weakref__"), .str (.ofString "__weakref__") 540, .ref 234⟩, ⟨PyData.keyHash P (.ofString "__doc__"), .str (.ofString "__doc__") 541, .none⟩] 4, #[]⟩) ::
   (nat_lit 232, ⟨.type "type", none, .cls ⟨(.ofString "SyntaxTable"), [.type "object"], [.ref 232, .type "object"], 231, (.ofString "SyntaxTable"), true, [], [], false, none, false⟩, #[none, none, some (.str (.ofString "SyntaxTable") 452), some (.str (.ofString "SyntaxTable") 460), some (.builtin "object.__new__"), some (.bool true)]⟩) ::
   (nat_lit 249, ⟨.type "code", none, .fields #[.str (.ofString "__init__") 558, .str (.ofString "Mark.__init__") 559, .str (.ofString "/claim/cut.py") 560, .int 129 0, .int 5 0, .int 0 0, .int 0 0, .int 3 0, .ref 244, .bool true, .int 181 0, .ref 245, .none, .ref 246, .ref 247, .ref 248, .int 566 0, .int 129 0, .str (.ofString "/claim/cut.py") 567], #[]⟩) ::
   (nat_lit 250, hdFn (.ofString "Mark.__init__") .none .none .none (.str (.ofString "emacs.syntaxpairs") 544) (.ref 249) .none (Eq.refl (hdSti 30 0))) ::
   (nat_lit 252, ⟨.type "dict", none, .dict #[⟨PyData.keyHash P (.ofString "__module__"), .str (.ofString "__module__") 553, .str (.ofString "emacs.syntaxpairs") 544⟩, ⟨PyData.keyHash P (.ofString "__firstlineno__"), .str (.ofString "__firstlineno__") 557, .int 127 556⟩, ⟨PyData.keyHash P (.ofString "__init__"), .str (.ofString "__init__") 568, .ref 250⟩, ⟨PyData.keyHash P (.ofString "__static_attributes__"), .str (.ofString "__static_attributes__") 573, .ref 251⟩, ⟨PyData.keyHash P (.ofString "__dict__"), .str (.ofString "__dict__") 575, .ref 254⟩, ⟨PyData.keyHash P (.ofString "__weakref__"), .str (.ofString "__weakref__") 577, .ref 255⟩, ⟨PyData.keyHash P (.ofString "__doc__"), .str (.ofString "__doc__") 578, .none⟩] 4, #[]⟩) ::
   (nat_lit 253, ⟨.type "type", none, .cls ⟨(.ofString "Mark"), [.type "object"], [.ref 253, .type "object"], 252, (.ofString "Mark"), true, [], [], false, none, false⟩, #[none, none, some (.str (.ofString "Mark") 546), some (.str (.ofString "Mark") 554), some (.builtin "object.__new__"), some (.bool true)]⟩) ::
   (nat_lit 263, ⟨.type "code", none, .fields #[.str (.ofString "syntax_at") 581, .str (.ofString "syntax_at") 582, .str (.ofString "/claim/cut.py") 583, .int 134 0, .int 3 0, .int 0 0, .int 0 0, .int 3 0, .ref 258, .bool true, .int 181 0, .ref 259, .none, .ref 260, .ref 261, .ref 262, .int 588 0, .int 134 0, .str (.ofString "/claim/cut.py") 589], #[]⟩) ::
   (nat_lit 264, hdFn (.ofString "syntax_at") .none .none .none (.str (.ofString "emacs.syntaxpairs") 544) (.ref 263) .none (Eq.refl (hdSt 31))) ::
   (nat_lit 270, ⟨.type "code", none, .fields #[.str (.ofString "pair_style") 591, .str (.ofString "pair_style") 592, .str (.ofString "/claim/cut.py") 593, .int 137 0, .int 2 0, .int 0 0, .int 0 0, .int 3 0, .ref 265, .bool true, .int 181 0, .ref 266, .none, .ref 267, .ref 268, .ref 269, .int 597 0, .int 137 0, .str (.ofString "/claim/cut.py") 598], #[]⟩) ::
   (nat_lit 271, hdFn (.ofString "pair_style") .none .none .none (.str (.ofString "emacs.syntaxpairs") 544) (.ref 270) .none (Eq.refl (hdSt 32))) ::
   (nat_lit 277, ⟨.type "code", none, .fields #[.str (.ofString "begin_mark") 600, .str (.ofString "begin_mark") 601, .str (.ofString "/claim/cut.py") 602, .int 140 0, .int 3 0, .int 0 0, .int 0 0, .int 3 0, .ref 272, .bool true, .int 181 0, .ref 273, .none, .ref 274, .ref 275, .ref 276, .int 608 0, .int 140 0, .str (.ofString "/claim/cut.py") 609], #[]⟩) ::
   (nat_lit 278, hdFn (.ofString "begin_mark") .none .none .none (.str (.ofString "emacs.syntaxpairs") 544) (.ref 277) .none (Eq.refl (hdSt 33))) ::
   (nat_lit 284, ⟨.type "code", none, .fields #[.str (.ofString "end_mark") 611, .str (.ofString "end_mark") 612, .str (.ofString "/claim/cut.py") 613, .int 149 0, .int 3 0, .int 0 0, .int 0 0, .int 3 0, .ref 279, .bool true, .int 181 0, .ref 280, .none, .ref 281, .ref 282, .ref 283, .int 619 0, .int 149 0, .str (.ofString "/claim/cut.py") 620], #[]⟩) ::
   (nat_lit 285, hdFn (.ofString "end_mark") .none .none .none (.str (.ofString "emacs.syntaxpairs") 544) (.ref 284) .none (Eq.refl (hdSt 34))) ::
   (nat_lit 291, ⟨.type "code", none, .fields #[.str (.ofString "fits") 622, .str (.ofString "fits") 623, .str (.ofString "/claim/cut.py") 624, .int 158 0, .int 4 0, .int 0 0, .int 0 0, .int 3 0, .ref 286, .bool true, .int 181 0, .ref 287, .none, .ref 288, .ref 289, .ref 290, .int 629 0, .int 158 0, .str (.ofString "/claim/cut.py") 630], #[]⟩) ::
   (nat_lit 292, hdFn (.ofString "fits") .none .none .none (.str (.ofString "emacs.syntaxpairs") 544) (.ref 291) .none (Eq.refl (hdSt 35))) ::
   (nat_lit 305, ⟨.type "code", none, .fields #[.str (.ofString "__init__") 646, .str (.ofString "Walk.__init__") 647, .str (.ofString "/claim/cut.py") 648, .int 165 0, .int 5 0, .int 0 0, .int 0 0, .int 3 0, .ref 300, .bool true, .int 181 0, .ref 301, .none, .ref 302, .ref 303, .ref 304, .int 654 0, .int 165 0, .str (.ofString "/claim/cut.py") 655], #[]⟩) ::
   (nat_lit 306, hdFn (.ofString "Walk.__init__") .none .none .none (.str (.ofString "emacs.parse") 632) (.ref 305) .none (Eq.refl (hdSti 37 0))) ::
   (nat_lit 312, ⟨.type "code", none, .fields #[.str (.ofString "state") 657, .str (.ofString "Walk.state") 658, .str (.ofString "/claim/cut.py") 659, .int 182 0, .int 1 0, .int 0 0, .int 0 0, .int 3 0, .ref 307, .bool true, .int 181 0, .ref 308, .none, .ref 309, .ref 310, .ref 311, .int 662 0, .int 182 0, .str (.ofString "/claim/cut.py") 663], #[]⟩) ::
   (nat_lit 313, hdFn (.ofString "Walk.state") .none .none .none (.str (.ofString "emacs.parse") 632) (.ref 312) .none (Eq.refl (hdSti 37 1))) ::
   (nat_lit 319, ⟨.type "code", none, .fields #[.str (.ofString "depth") 665, .str (.ofString "Walk.depth") 666, .str (.ofString "/claim/cut.py") 667, .int 186 0, .int 1 0, .int 0 0, .int 0 0, .int 3 0, .ref 314, .bool true, .int 181 0, .ref 315, .none, .ref 316, .ref 317, .ref 318, .int 669 0, .int 186 0, .str (.ofString "/claim/cut.py") 670], #[]⟩) ::
   (nat_lit 320, hdFn (.ofString "Walk.depth") .none .none .none (.str (.ofString "emacs.parse") 632) (.ref 319) .none (Eq.refl (hdSti 37 2))) ::
   (nat_lit 326, ⟨.type "code", none, .fields #[.str (.ofString "end_word") 672, .str (.ofString "Walk.end_word") 673, .str (.ofString "/claim/cut.py") 674, .int 189 0, .int 1 0, .int 0 0, .int 0 0, .int 3 0, .ref 321, .bool true, .int 181 0, .ref 322, .none, .ref 323, .ref 324, .ref 325, .int 676 0, .int 189 0, .str (.ofString "/claim/cut.py") 677], #[]⟩) ::
   (nat_lit 327, hdFn (.ofString "Walk.end_word") .none .none .none (.str (.ofString "emacs.parse") 632) (.ref 326) .none (Eq.refl (hdSti 37 3))) ::
   (nat_lit 333, ⟨.type "code", none, .fields #[.str (.ofString "begin_word") 679, .str (.ofString "Walk.begin_word") 680, .str (.ofString "/claim/cut.py") 681, .int 194 0, .int 1 0, .int 0 0, .int 0 0, .int 3 0, .ref 328, .bool true, .int 181 0, .ref 329, .none, .ref 330, .ref 331, .ref 332, .int 683 0, .int 194 0, .str (.ofString "/claim/cut.py") 684], #[]⟩) ::
   (nat_lit 334, hdFn (.ofString "Walk.begin_word") .none .none .none (.str (.ofString "emacs.parse") 632) (.ref 333) .none (Eq.refl (hdSti 37 4))) ::
   (nat_lit 340, ⟨.type "code", none, .fields #[.str (.ofString "open_at") 686, .str (.ofString "Walk.open_at") 687, .str (.ofString "/claim/cut.py") 688, .int 198 0, .int 2 0, .int 0 0, .int 0 0, .int 3 0, .ref 335, .bool true, .int 181 0, .ref 336, .none, .ref 337, .ref 338, .ref 339, .int 691 0, .int 198 0, .str (.ofString "/claim/cut.py") 692], #[]⟩) ::
   (nat_lit 341, hdFn (.ofString "Walk.open_at") .none .none .none (.str (.ofString "emacs.parse") 632) (.ref 340) .none (Eq.refl (hdSti 37 5))) ::
   (nat_lit 347, ⟨.type "code", none, .fields #[.str (.ofString "close") 694, .str (.ofString "Walk.close") 695, .str (.ofString "/claim/cut.py") 696, .int 203 0, .int 1 0, .int 0 0, .int 0 0, .int 3 0, .ref 342, .bool true, .int 181 0, .ref 343, .none, .ref 344, .ref 345, .ref 346, .int 698 0, .int 203 0, .str (.ofString "/claim/cut.py") 699], #[]⟩) ::
   (nat_lit 348, hdFn (.ofString "Walk.close") .none .none .none (.str (.ofString "emacs.parse") 632) (.ref 347) .none (Eq.refl (hdSti 37 6))) ::
   (nat_lit 354, ⟨.type "code", none, .fields #[.str (.ofString "begin_comment") 701, .str (.ofString "Walk.begin_comment") 702, .str (.ofString "/claim/cut.py") 703, .int 212 0, .int 3 0, .int 0 0, .int 0 0, .int 3 0, .ref 349, .bool true, .int 181 0, .ref 350, .none, .ref 351, .ref 352, .ref 353, .int 707 0, .int 212 0, .str (.ofString "/claim/cut.py") 708], #[]⟩) ::
   (nat_lit 355, hdFn (.ofString "Walk.begin_comment") .none .none .none (.str (.ofString "emacs.parse") 632) (.ref 354) .none (Eq.refl (hdSti 37 7))) ::
   (nat_lit 361, ⟨.type "code", none, .fields #[.str (.ofString "leave_comment") 710, .str (.ofString "Walk.leave_comment") 711, .str (.ofString "/claim/cut.py") 712, .int 219 0, .int 1 0, .int 0 0, .int 0 0, .int 3 0, .ref 356, .bool true, .int 181 0, .ref 357, .none, .ref 358, .ref 359, .ref 360, .int 714 0, .int 219 0, .str (.ofString "/claim/cut.py") 715], #[]⟩) ::
   (nat_lit 362, hdFn (.ofString "Walk.leave_comment") .none .none .none (.str (.ofString "emacs.parse") 632) (.ref 361) .none (Eq.refl (hdSti 37 8))) ::
   (nat_lit 368, ⟨.type "code", none, .fields #[.str (.ofString "begin_string") 717, .str (.ofString "Walk.begin_string") 718, .str (.ofString "/claim/cut.py") 719, .int 228 0, .int 2 0, .int 0 0, .int 0 0, .int 3 0, .ref 363, .bool true, .int 181 0, .ref 364, .none, .ref 365, .ref 366, .ref 367, .int 722 0, .int 228 0, .str (.ofString "/claim/cut.py") 723], #[]⟩) ::
   (nat_lit 369, hdFn (.ofString "Walk.begin_string") .none .none .none (.str (.ofString "emacs.parse") 632) (.ref 368) .none (Eq.refl (hdSti 37 9))) ::
   (nat_lit 375, ⟨.type "code", none, .fields #[.str (.ofString "end_string") 725, .str (.ofString "Walk.end_string") 726, .str (.ofString "/claim/cut.py") 727, .int 233 0, .int 1 0, .int 0 0, .int 0 0, .int 3 0, .ref 370, .bool true, .int 181 0, .ref 371, .none, .ref 372, .ref 373, .ref 374, .int 729 0, .int 233 0, .str (.ofString "/claim/cut.py") 730], #[]⟩) ::
   (nat_lit 376, hdFn (.ofString "Walk.end_string") .none .none .none (.str (.ofString "emacs.parse") 632) (.ref 375) .none (Eq.refl (hdSti 37 10))) ::
   (nat_lit 382, ⟨.type "code", none, .fields #[.str (.ofString "take") 732, .str (.ofString "Walk.take") 733, .str (.ofString "/claim/cut.py") 734, .int 238 0, .int 4 0, .int 0 0, .int 0 0, .int 3 0, .ref 377, .bool true, .int 181 0, .ref 378, .none, .ref 379, .ref 380, .ref 381, .int 739 0, .int 238 0, .str (.ofString "/claim/cut.py") 740], #[]⟩) ::
   (nat_lit 383, hdFn (.ofString "Walk.take") .none .none .none (.str (.ofString "emacs.parse") 632) (.ref 382) .none (Eq.refl (hdSti 37 11))) ::
   (nat_lit 389, ⟨.type "code", none, .fields #[.str (.ofString "step_in_comment") 742, .str (.ofString "Walk.step_in_comment") 743, .str (.ofString "/claim/cut.py") 744, .int 246 0, .int 2 0, .int 0 0, .int 0 0, .int 3 0, .ref 384, .bool true, .int 181 0, .ref 385, .none, .ref 386, .ref 387, .ref 388, .int 749 0, .int 246 0, .str (.ofString "/claim/cut.py") 750], #[]⟩) ::
   (nat_lit 390, hdFn (.ofString "Walk.step_in_comment") .none .none .none (.str (.ofString "emacs.parse") 632) (.ref 389) .none (Eq.refl (hdSti 37 12))) ::
   (nat_lit 396, ⟨.type "code", none, .fields #[.str (.ofString "step_in_string") 752, .str (.ofString "Walk.step_in_string") 753, .str (.ofString "/claim/cut.py") 754, .int 259 0, .int 1 0, .int 0 0, .int 0 0, .int 3 0, .ref 391, .bool true, .int 181 0, .ref 392, .none, .ref 393, .ref 394, .ref 395, .int 758 0, .int 259 0, .str (.ofString "/claim/cut.py") 759], #[]⟩) ::
   (nat_lit 397, hdFn (.ofString "Walk.step_in_string") .none .none .none (.str (.ofString "emacs.parse") 632) (.ref 396) .none (Eq.refl (hdSti 37 13))) ::
   (nat_lit 403, ⟨.type "code", none, .fields #[.str (.ofString "finish_half") 761, .str (.ofString "Walk.finish_half") 762, .str (.ofString "/claim/cut.py") 763, .int 270 0, .int 1 0, .int 0 0, .int 0 0, .int 3 0, .ref 398, .bool true, .int 181 0, .ref 399, .none, .ref 400, .ref 401, .ref 402, .int 766 0, .int 270 0, .str (.ofString "/claim/cut.py") 767], #[]⟩) ::
   (nat_lit 404, hdFn (.ofString "Walk.finish_half") .none .none .none (.str (.ofString "emacs.parse") 632) (.ref 403) .none (Eq.refl (hdSti 37 14))) ::
   (nat_lit 410, ⟨.type "code", none, .fields #[.str (.ofString "step_plain") 769, .str (.ofString "Walk.step_plain") 770, .str (.ofString "/claim/cut.py") 771, .int 281 0, .int 2 0, .int 0 0, .int 0 0, .int 3 0, .ref 405, .bool true, .int 181 0, .ref 406, .none, .ref 407, .ref 408, .ref 409, .int 777 0, .int 281 0, .str (.ofString "/claim/cut.py") 778], #[]⟩) ::
   (nat_lit 411, hdFn (.ofString "Walk.step_plain") .none .none .none (.str (.ofString "emacs.parse") 632) (.ref 410) .none (Eq.refl (hdSti 37 15))) ::
   (nat_lit 417, ⟨.type "code", none, .fields #[.str (.ofString "step_by_kind") 780, .str (.ofString "Walk.step_by_kind") 781, .str (.ofString "/claim/cut.py") 782, .int 299 0, .int 2 0, .int 0 0, .int 0 0, .int 3 0, .ref 412, .bool true, .int 181 0, .ref 413, .none, .ref 414, .ref 415, .ref 416, .int 785 0, .int 299 0, .str (.ofString "/claim/cut.py") 786], #[]⟩) ::
   (nat_lit 418, hdFn (.ofString "Walk.step_by_kind") .none .none .none (.str (.ofString "emacs.parse") 632) (.ref 417) .none (Eq.refl (hdSti 37 16))) ::
   (nat_lit 424, ⟨.type "code", none, .fields #[.str (.ofString "step") 788, .str (.ofString "Walk.step") 789, .str (.ofString "/claim/cut.py") 790, .int 316 0, .int 2 0, .int 0 0, .int 0 0, .int 3 0, .ref 419, .bool true, .int 181 0, .ref 420, .none, .ref 421, .ref 422, .ref 423, .int 793 0, .int 316 0, .str (.ofString "/claim/cut.py") 794], #[]⟩) ::
   (nat_lit 425, hdFn (.ofString "Walk.step") .none .none .none (.str (.ofString "emacs.parse") 632) (.ref 424) .none (Eq.refl (hdSti 37 17))) ::
   (nat_lit 427, ⟨.type "dict", none, .dict #[⟨PyData.keyHash P (.ofString "__module__"), .str (.ofString "__module__") 641, .str (.ofString "emacs.parse") 632⟩, ⟨PyData.keyHash P (.ofString "__firstlineno__"), .str (.ofString "__firstlineno__") 645, .int 163 644⟩, ⟨PyData.keyHash P (.ofString "__init__"), .str (.ofString "__init__") 656, .ref 306⟩, ⟨PyData.keyHash P (.ofString "state"), .str (.ofString "state") 664, .ref 313⟩, ⟨PyData.keyHash P (.ofString "depth"), .str (.ofString "depth") 671, .ref 320⟩, ⟨PyData.keyHash P (.ofString "end_word"), .str (.ofString "end_word") 678, .ref 327⟩, ⟨PyData.keyHash P (.ofString "begin_word"), .str (.ofString "begin_word") 685, .ref 334⟩, ⟨PyData.keyHash P (.ofString "open_at"), .str (.ofString "open_at") 693, .ref 341⟩, ⟨PyData.keyHash P (.ofString "close"), .str (.ofString "close") 700, .ref 348⟩, ⟨PyData.keyHash P (.ofString "begin_comment"), .str (.ofString "begin_comment") 709, .ref 355⟩, ⟨PyData.keyHash P (.ofString "leave_comment"), .str (.ofString "leave_comment") 716, .ref 362⟩, ⟨PyData.keyHash P (.ofString "begin_string"), .str (.ofString "begin_string") 724, .ref 369⟩, ⟨PyData.keyHash P (.ofString "end_string"), .str (.ofString "end_string") 731, .ref 376⟩, ⟨PyData.keyHash P (.ofString "take"), .str (.ofString "take") 741, .ref 383⟩, ⟨PyData.keyHash P (.ofString "step_in_comment"), .str (.ofString "step_in_comment") 751, .ref 390⟩, ⟨PyData.keyHash P (.ofString "step_in_string"), .str (.ofString "step_in_string") 760, .ref 397⟩, ⟨PyData.keyHash P (.ofString "finish_half"), .str (.ofString "finish_half") 768, .ref 404⟩, ⟨PyData.keyHash P (.ofString "step_plain"), .str (.ofString "step_plain") 779, .ref 411⟩, ⟨PyData.keyHash P (.ofString "step_by_kind"), .str (.ofString "step_by_kind") 787, .ref 418⟩, ⟨PyData.keyHash P (.ofString "step"), .str (.ofString "step") 795, .ref 425⟩, ⟨PyData.keyHash P (.ofString "__static_attributes__"), .str (.ofString "__static_attributes__") 811, .ref 426⟩, ⟨PyData.keyHash P (.ofString "__dict__"), .str (.ofString "__dict__") 813, .ref 429⟩, ⟨PyData.keyHash P (.ofString "__weakref__"), .str (.ofString "__weakref__") 815, .ref 430⟩, ⟨PyData.keyHash P (.ofString "__doc__"), .str (.ofString "__doc__") 816, .none⟩] 4, #[]⟩) ::
   (nat_lit 428, ⟨.type "type", none, .cls ⟨(.ofString "Walk"), [.type "object"], [.ref 428, .type "object"], 427, (.ofString "Walk"), true, [], [], false, none, false⟩, #[none, none, some (.str (.ofString "Walk") 634), some (.str (.ofString "Walk") 642), some (.builtin "object.__new__"), some (.bool true)]⟩) ::
   (nat_lit 438, ⟨.type "code", none, .fields #[.str (.ofString "begins_expression") 819, .str (.ofString "begins_expression") 820, .str (.ofString "/claim/cut.py") 821, .int 325 0, .int 1 0, .int 0 0, .int 0 0, .int 3 0, .ref 433, .bool true, .int 181 0, .ref 434, .none, .ref 435, .ref 436, .ref 437, .int 824 0, .int 325 0, .str (.ofString "/claim/cut.py") 825], #[]⟩) ::
   (nat_lit 439, hdFn (.ofString "begins_expression") .none .none .none (.str (.ofString "emacs.parse") 632) (.ref 438) .none (Eq.refl (hdSt 38))) ::
   (nat_lit 440, ⟨.type "tuple", none, .seq #[.none, .none, .bool false, .bool false] 0, #[]⟩) ::
   (nat_lit 446, ⟨.type "code", none, .fields #[.str (.ofString "parse_partial") 827, .str (.ofString "parse_partial") 828, .str (.ofString "/claim/cut.py") 829, .int 334 0, .int 8 0, .int 0 0, .int 0 0, .int 3 0, .ref 441, .bool true, .int 181 0, .ref 442, .none, .ref 443, .ref 444, .ref 445, .int 841 0, .int 334 0, .str (.ofString "/claim/cut.py") 842], #[]⟩) ::
   (nat_lit 447, hdFn (.ofString "parse_partial") (.ref 440) .none .none (.str (.ofString "emacs.parse") 632) (.ref 446) .none (Eq.refl (hdSt 39))) ::
   (nat_lit 455, ⟨.type "tuple", none, .seq #[.int 1 858] 0, #[]⟩) ::
   (nat_lit 461, ⟨.type "code", none, .fields #[.str (.ofString "__init__") 859, .str (.ofString "TextRow.__init__") 860, .str (.ofString "/claim/cut.py") 861, .int 349 0, .int 3 0, .int 0 0, .int 0 0, .int 3 0, .ref 456, .bool true, .int 181 0, .ref 457, .none, .ref 458, .ref 459, .ref 460, .int 865 0, .int 349 0, .str (.ofString "/claim/cut.py") 866], #[]⟩) ::
   (nat_lit 462, hdFn (.ofString "TextRow.__init__") (.ref 455) .none .none (.str (.ofString "emacs.textrow") 844) (.ref 461) .none (Eq.refl (hdSti 41 0))) ::
   (nat_lit 468, ⟨.type "code", none, .fields #[.str (.ofString "begin") 868, .str (.ofString "TextRow.begin") 869, .str (.ofString "/claim/cut.py") 870, .int 353 0, .int 1 0, .int 0 0, .int 0 0, .int 3 0, .ref 463, .bool true, .int 181 0, .ref 464, .none, .ref 465, .ref 466, .ref 467, .int 872 0, .int 353 0, .str (.ofString "/claim/cut.py") 873], #[]⟩) ::
   (nat_lit 469, hdFn (.ofString "TextRow.begin") .none .none .none (.str (.ofString "emacs.textrow") 844) (.ref 468) .none (Eq.refl (hdSti 41 1))) ::
   (nat_lit 475, ⟨.type "code", none, .fields #[.str (.ofString "end") 875, .str (.ofString "TextRow.end") 876, .str (.ofString "/claim/cut.py") 877, .int 356 0, .int 1 0, .int 0 0, .int 0 0, .int 3 0, .ref 470, .bool true, .int 181 0, .ref 471, .none, .ref 472, .ref 473, .ref 474, .int 879 0, .int 356 0, .str (.ofString "/claim/cut.py") 880], #[]⟩) ::
   (nat_lit 476, hdFn (.ofString "TextRow.end") .none .none .none (.str (.ofString "emacs.textrow") 844) (.ref 475) .none (Eq.refl (hdSti 41 2))) ::
   (nat_lit 482, ⟨.type "code", none, .fields #[.str (.ofString "code_at") 882, .str (.ofString "TextRow.code_at") 883, .str (.ofString "/claim/cut.py") 884, .int 359 0, .int 2 0, .int 0 0, .int 0 0, .int 3 0, .ref 477, .bool true, .int 181 0, .ref 478, .none, .ref 479, .ref 480, .ref 481, .int 887 0, .int 359 0, .str (.ofString "/claim/cut.py") 888], #[]⟩) ::
   (nat_lit 483, hdFn (.ofString "TextRow.code_at") .none .none .none (.str (.ofString "emacs.textrow") 844) (.ref 482) .none (Eq.refl (hdSti 41 3))) ::
   (nat_lit 485, ⟨.type "dict", none, .dict #[⟨PyData.keyHash P (.ofString "__module__"), .str (.ofString "__module__") 853, .str (.ofString "emacs.textrow") 844⟩, ⟨PyData.keyHash P (.ofString "__firstlineno__"), .str (.ofString "__firstlineno__") 857, .int 347 856⟩, ⟨PyData.keyHash P (.ofString "__init__"), .str (.ofString "__init__") 867, .ref 462⟩, ⟨PyData.keyHash P (.ofString "begin"), .str (.ofString "begin") 874, .ref 469⟩, ⟨PyData.keyHash P (.ofString "end"), .str (.ofString "end") 881, .ref 476⟩, ⟨PyData.keyHash P (.ofString "code_at"), .str (.ofString "code_at") 889, .ref 483⟩, ⟨PyData.keyHash P (.ofString "__static_attributes__"), .str (.ofString "__static_attributes__") 892, .ref 484⟩, ⟨PyData.keyHash P (.ofString "__dict__"), .str (.ofString "__dict__") 894, .ref 487⟩, ⟨PyData.keyHash P (.ofString "__weakref__"), .str (.ofString "__weakref__") 896, .ref 488⟩, ⟨PyData.keyHash P (.ofString "__doc__"), .str (.ofString "__doc__") 897, .none⟩] 4, #[]⟩) ::
   (nat_lit 486, ⟨.type "type", none, .cls ⟨(.ofString "TextRow"), [.type "object"], [.ref 486, .type "object"], 485, (.ofString "TextRow"), true, [], [], false, none, false⟩, #[none, none, some (.str (.ofString "TextRow") 846), some (.str (.ofString "TextRow") 854), some (.builtin "object.__new__"), some (.bool true)]⟩) ::
   (nat_lit 494, ⟨.type "code", none, .fields #[.str (.ofString "_law_deck") 902, .str (.ofString "_law_deck") 903, .str (.ofString "/claim/cut.py") 904, .int 364 0, .int 1 0, .int 0 0, .int 0 0, .int 3 0, .ref 491, .bool true, .int 181 0, .ref 492, .none, .none, .none, .ref 493, .int 905 0, .int 364 0, .str (.ofString "/claim/cut.py") 906], #[]⟩) ::
   (nat_lit 495, hdFn (.ofString "_law_deck") .none .none .none (.str (.ofString "law_np0078_01") 900) (.ref 494) .none (Eq.refl (hdSt 43))) ::
   (nat_lit 501, ⟨.type "code", none, .fields #[.str (.ofString "_law_draw") 908, .str (.ofString "_law_draw") 909, .str (.ofString "/claim/cut.py") 910, .int 367 0, .int 2 0, .int 0 0, .int 0 0, .int 3 0, .ref 496, .bool true, .int 181 0, .ref 497, .none, .ref 498, .ref 499, .ref 500, .int 915 0, .int 367 0, .str (.ofString "/claim/cut.py") 916], #[]⟩) ::
   (nat_lit 502, hdFn (.ofString "_law_draw") .none .none .none (.str (.ofString "law_np0078_01") 900) (.ref 501) .none (Eq.refl (hdSt 44))) ::
   (nat_lit 506, ⟨.type "code", none, .fields #[.str (.ofString "_law_many") 918, .str (.ofString "_law_many") 919, .str (.ofString "/claim/cut.py") 920, .int 378 0, .int 3 0, .int 0 0, .int 0 0, .int 3 0, .ref 503, .bool true, .int 181 0, .ref 504, .none, .none, .none, .ref 505, .int 921 0, .int 378 0, .str (.ofString "/claim/cut.py") 922], #[]⟩) ::
   (nat_lit 507, hdFn (.ofString "_law_many") .none .none .none (.str (.ofString "law_np0078_01") 900) (.ref 506) .none (Eq.refl (hdSt 45))) ::
   (nat_lit 513, ⟨.type "code", none, .fields #[.str (.ofString "_law_table") 924, .str (.ofString "_law_table") 925, .str (.ofString "/claim/cut.py") 926, .int 383 0, .int 1 0, .int 0 0, .int 0 0, .int 3 0, .ref 508, .bool true, .int 181 0, .ref 509, .none, .ref 510, .ref 511, .ref 512, .int 933 0, .int 383 0, .str (.ofString "/claim/cut.py") 934], #[]⟩) ::
   (nat_lit 514, hdFn (.ofString "_law_table") .none .none .none (.str (.ofString "law_np0078_01") 900) (.ref 513) .none (Eq.refl (hdSt 46))) ::
   (nat_lit 518, ⟨.type "code", none, .fields #[.str (.ofString "_law_states") 936, .str (.ofString "_law_states") 937, .str (.ofString "/claim/cut.py") 938, .int 390 0, .int 2 0, .int 0 0, .int 0 0, .int 3 0, .ref 515, .bool true, .int 181 0, .ref 516, .none, .none, .none, .ref 517, .int 939 0, .int 390 0, .str (.ofString "/claim/cut.py") 940], #[]⟩) ::
   (nat_lit 519, hdFn (.ofString "_law_states") .none .none .none (.str (.ofString "law_np0078_01") 900) (.ref 518) .none (Eq.refl (hdSt 47))) ::
   (nat_lit 525, ⟨.type "code", none, .fields #[.str (.ofString "_law_first") 942, .str (.ofString "_law_first") 943, .str (.ofString "/claim/cut.py") 944, .int 392 0, .int 2 0, .int 0 0, .int 0 0, .int 3 0, .ref 520, .bool true, .int 181 0, .ref 521, .none, .ref 522, .ref 523, .ref 524, .int 948 0, .int 392 0, .str (.ofString "/claim/cut.py") 949], #[]⟩) ::
   (nat_lit 526, hdFn (.ofString "_law_first") .none .none .none (.str (.ofString "law_np0078_01") 900) (.ref 525) .none (Eq.refl (hdSt 48))) ::
   (nat_lit 532, ⟨.type "code", none, .fields #[.str (.ofString "_law_stops") 951, .str (.ofString "_law_stops") 952, .str (.ofString "/claim/cut.py") 953, .int 397 0, .int 4 0, .int 0 0, .int 0 0, .int 3 0, .ref 527, .bool true, .int 181 0, .ref 528, .none, .ref 529, .ref 530, .ref 531, .int 962 0, .int 397 0, .str (.ofString "/claim/cut.py") 963], #[]⟩) ::
   (nat_lit 533, hdFn (.ofString "_law_stops") .none .none .none (.str (.ofString "law_np0078_01") 900) (.ref 532) .none (Eq.refl (hdSt 49))) ::
   (nat_lit 539, ⟨.type "code", none, .fields #[.str (.ofString "_law_told") 965, .str (.ofString "_law_told") 966, .str (.ofString "/claim/cut.py") 967, .int 405 0, .int 1 0, .int 0 0, .int 0 0, .int 3 0, .ref 534, .bool true, .int 181 0, .ref 535, .none, .ref 536, .ref 537, .ref 538, .int 973 0, .int 405 0, .str (.ofString "/claim/cut.py") 974], #[]⟩) ::
   (nat_lit 540, hdFn (.ofString "_law_told") .none .none .none (.str (.ofString "law_np0078_01") 900) (.ref 539) .none (Eq.refl (hdSt 50))) ::
   (nat_lit 544, ⟨.type "code", none, .fields #[.str (.ofString "law") 976, .str (.ofString "law") 977, .str (.ofString "/claim/cut.py") 978, .int 412 0, .int 1 0, .int 0 0, .int 0 0, .int 3 0, .ref 541, .bool true, .int 181 0, .ref 542, .none, .none, .none, .ref 543, .int 979 0, .int 412 0, .str (.ofString "/claim/cut.py") 980], #[]⟩) ::
   (nat_lit 545, hdFn (.ofString "law") .none .none .none (.str (.ofString "law_np0078_01") 900) (.ref 544) .none (Eq.refl (hdSt 51))) :: []
def hdKas : List Addr := [2, 3, 20, 21, 29, 30, 36, 37, 43, 44, 50, 51, 57, 58, 64, 65, 67, 68, 78, 79, 85, 86, 99, 100, 102, 103, 119, 120, 126, 127, 133, 134, 140, 141, 147, 148, 150, 151, 159, 160, 164, 165, 173, 179, 180, 186, 187, 193, 194, 200, 201, 207, 208, 214, 215, 221, 222, 228, 229, 231, 232, 249, 250, 252, 253, 263, 264, 270, 271, 277, 278, 284, 285, 291, 292, 305, 306, 312, 313, 319, 320, 326, 327, 333, 334, 340, 341, 347, 348, 354, 355, 361, 362, 368, 369, 375, 376, 382, 383, 389, 390, 396, 397, 403, 404, 410, 411, 417, 418, 424, 425, 427, 428, 438, 439, 440, 446, 447, 455, 461, 462, 468, 469, 475, 476, 482, 483, 485, 486, 494, 495, 501, 502, 506, 507, 513, 514, 518, 519, 525, 526, 532, 533, 539, 540, 544, 545]
theorem hdKas_eq : ∀ P, hdKas = (hdKp P).map (·.1) := by intro P; kernel_rfl
def hdQv : Program := view hdPw [49, 51]
def hdLo : List Str := hdPw.boundNames.filter fun n => n != ("law" : Str) && n != ("_law_stops" : Str)
abbrev hdRr := PySem.Challenge.rw_np0078_01.row.toRowW
noncomputable abbrev hdHk : Hook := kHook hdKp hdKas hdKas_eq
theorem hdLeft_all : ∀ w os, (hdRun w os).map (fun s => (hdLk hdPw (boot_heap w.params) s.abs, openSeen hdQv hdLo (importedModules hdPw.main.body) (fun s => xlAt hdQv [] s && recOk hdRr.records s) true s.abs, Hook.obs hdHk s.abs)) =
    some (true, openGood hdQv hdLo, Hook.val hdHk w) := by intro w os; kernel_rfl
theorem hdMap_fst {α β γ : Type} {o : Option α} {f : α → β} {g : α → γ} {b : β} {c : γ} (h : o.map (fun s => (f s, g s)) = some (b, c)) : o.map f = some b ∧ o.map g = some c := by
  cases o with
  | none => cases h
  | some s => injection h with h; injection h with h1 h2; subst h1 h2; exact ⟨rfl, rfl⟩
theorem hdLeft : LeftO hdPw hdQv hdLo (fun s => xlAt hdQv [] s && recOk hdRr.records s) (Hook.obs hdHk) (Hook.val hdHk) 7358 :=
  hdLeft_pw (fun w os => (hdMap_fst (hdLeft_all w os)).1) (fun w os => (hdMap_fst (hdMap_fst (hdLeft_all w os)).2).1) (fun w os => (hdMap_fst (hdMap_fst (hdLeft_all w os)).2).2)
theorem law_said : OpenLaw.wellSaid PySem.Challenge.rw_np0078_01 = true := by decide +kernel
end
open PySem.Spec PySem.Calls
set_option maxHeartbeats 4000000
/-! part Fw -/
section
set_option hygiene true
/-- the rest of a block behind a name of its own: X after the statement, Q where it leaves -/
def Ent (X : Shared → Prop) (Q R : Flow → Shared → Prop) : Prop :=
  (∀ s', X s' → R .next s') ∧ (∀ v s', Q (.ret v) s' → R (.ret v) s') ∧ (∀ s', Q .brk s' → R .brk s') ∧ (∀ s', Q .cont s' → R .cont s')
theorem Ent.next {X : Shared → Prop} {Q R : Flow → Shared → Prop} {s' : Shared} (h : Ent X Q R) (x : X s') : R .next s' := h.1 _ x
theorem Ent.ret {X : Shared → Prop} {Q R : Flow → Shared → Prop} {v : Value} {s' : Shared} (h : Ent X Q R) (x : Q (.ret v) s') : R (.ret v) s' := h.2.1 _ _ x
theorem Ent.brk {X : Shared → Prop} {Q R : Flow → Shared → Prop} {s' : Shared} (h : Ent X Q R) (x : Q .brk s') : R .brk s' := h.2.2.1 _ x
theorem Ent.cont {X : Shared → Prop} {Q R : Flow → Shared → Prop} {s' : Shared} (h : Ent X Q R) (x : Q .cont s') : R .cont s' := h.2.2.2 _ x
theorem execs_gen {M : Model} {A : Around} {E : Value → Shared → Prop} {s : Shared} {env : Env} {st : Stmt} {rest : List Stmt} {Q : Flow → Shared → Prop}
    (h : ∀ R : Flow → Shared → Prop, Ent (fun s' => wpAny M A (execs rest env) Q E s') Q R → wpAny M A (exec st env) R E s) : wpAny M A (execs (st :: rest) env) Q E s :=
  wpAny_execs_cons (h _ ⟨fun _ x => x, fun _ _ x => x, fun _ x => x, fun _ x => x⟩)
/-- a continuation behind a name of its own -/
def EntV {α : Type} (Q R : α → Shared → Prop) : Prop := ∀ v s', Q v s' → R v s'
theorem EntV.use {α : Type} {Q R : α → Shared → Prop} {v : α} {s' : Shared} (h : EntV Q R) (x : Q v s') : R v s' := h _ _ x
theorem gen_post {α : Type} {M : Model} {A : Around} {t : Sem α} {Q : α → Shared → Prop} {E : Value → Shared → Prop} {s : Shared} (h : ∀ R : α → Shared → Prop, EntV Q R → wpAny M A t R E s) : wpAny M A t Q E s := h Q fun _ _ x => x
theorem if_gen {M : Model} {A : Around} {E : Value → Shared → Prop} {s : Shared} {env : Env} {test : Expr} {body orelse : List Stmt} {pos : Pos} {Q : Flow → Shared → Prop}
    (h : ∀ R : Bool → Shared → Prop, EntV (fun b s₂ => if b then wpAny M A (execs body env) Q E s₂ else wpAny M A (execs orelse env) Q E s₂) R → wpAny M A (isTrue test env (eval test env)) R E s) : wpAny M A (exec (.If test body orelse pos) env) Q E s :=
  wpAny_If (h _ fun _ _ x => x)
abbrev Led := List (Addr × Obj)
noncomputable abbrev prg : Program := PySem.Challenge.rw_np0078_01.row.prog
structure Inv (z : Shared) (g : Heap) (L : Addr) (m : Str → Option Value) (own : Led) (s : Shared) : Prop where
  F : Fr g L s.heap m
  N : News g L s.heap own
  nd : (own.map (·.1)).Nodup
  same : s.gens = z.gens ∧ s.drawn = z.drawn ∧ s.os = z.os
def Cx (w : World) (A : Around) (env : Env) (g : Heap) (L : Addr) (n : Nat) : Prop :=
  ∃ (A₀ : Around) (base : Heap) (outer : List Env) (pp : Program) (ls : List Str) (mean : ExcName → Option Value) (mg mb : Str → Option Value),
    Below A₀ base outer g ∧ (hdKp w.params).In g ∧ Top pp ls mean mg mb g ∧ A.frames = some (env :: outer) ∧ env.frame = some L ∧
    env.scope.kind = .function ∧ A.handled = none ∧ A.depth + 2 * n < recursionLimit ∧ A.units + 8 * n + 100 < cLine
abbrev Sub (g g' : Heap) : Prop := ∀ b o, g.get? b = some o → g'.get? b = some o
theorem Cx.K {w A env g L n} (C : Cx w A env g L n) : (hdKp w.params).In g := let ⟨_, _, _, _, _, _, _, _, _, h, _⟩ := C; h
theorem Cx.top {w A env g L n} (C : Cx w A env g L n) : ∃ pp ls mg mb, TopRead pp ls mg mb g := let ⟨_, _, _, pp, ls, _, mg, mb, _, _, T, _⟩ := C; ⟨pp, ls, mg, mb, topRead_of T⟩
theorem Cx.noHandled {w A env g L n} (C : Cx w A env g L n) : A.handled = none := let ⟨_, _, _, _, _, _, _, _, _, _, _, _, _, _, h, _⟩ := C; h
theorem Cx.units {w A env g L n} (C : Cx w A env g L n) : A.units + 8 * n + 100 < cLine := by obtain ⟨_, _, _, _, _, _, _, _, _, _, _, _, _, _, _, _, h⟩ := C; exact h
theorem Cx.less {w A env g L n k} (C : Cx w A env g L n) (hk : k ≤ n) : Cx w A env g L k := by
  obtain ⟨A₀, base, outer, pp, ls, mean, mg, mb, h1, h2, h3, h4, h5, h6, h7, h8, h9⟩ := C
  exact ⟨A₀, base, outer, pp, ls, mean, mg, mb, h1, h2, h3, h4, h5, h6, h7, by omega, by omega⟩
theorem Inv.perm {z g L m own own' s} (I : Inv z g L m own s) (p : own.Perm own') : Inv z g L m own' s :=
  ⟨I.F, fun q hq => I.N q (p.mem_iff.mpr hq), (p.map _).nodup_iff.mp I.nd, I.same⟩
theorem Inv.sub {z g L m own own' s} (I : Inv z g L m own s) (p : own'.Sublist own) : Inv z g L m own' s :=
  ⟨I.F, fun q hq => I.N q (p.subset hq), I.nd.sublist (p.map _), I.same⟩
theorem Inv.take {z g L m a b s} (I : Inv z g L m (a ++ b) s) : Inv z g L m a s := I.sub (List.sublist_append_left _ _)
theorem Inv.rot {z g L m a b c s} (I : Inv z g L m (a ++ (b ++ c)) s) : Inv z g L m (b ++ (a ++ c)) s :=
  I.perm (by rw [← List.append_assoc, ← List.append_assoc]; exact List.perm_append_comm.append_right c)
theorem Inv.get {z g L m own s a o} (I : Inv z g L m own s) (hm : (a, o) ∈ own) : s.heap.get? a = some o := (I.N _ hm).1
theorem Inv.kp {z g L m own s a o} (I : Inv z g L m own s) (e : g.get? a = some o) : s.heap.get? a = some o := I.F.keep _ _ e
theorem Inv.tok {z g L m own s} (I : Inv z g L m own s) (tk : Nat) : Inv z g L m own { s with toks := tk } := ⟨I.F, I.N, I.nd, I.same⟩
theorem Inv.mk' {z g L m own own' s h'} (I : Inv z g L m own s) (tk : Nat) (F : Fr g L h' m) (N : News g L h' own') (nd : (own'.map (·.1)).Nodup) : Inv z g L m own' { s with heap := h', toks := tk } := ⟨F, N, nd, I.same⟩
/-- the rest stands in the ghost; put together again at the leave -/
def Leave (z : Shared) (g : Heap) (L : Addr) (m : Str → Option Value) (rest : Led) (g' : Heap) (L' : Addr) (R : Value → Shared → Prop) (v : Value) (s' : Shared) : Prop :=
  ∃ m' own' more, Inv z g' L' m' (own' ++ more) s' ∧ (Inv z g L m (own' ++ rest) s' → R v s')
theorem callC {z : Shared} {w : World} {A : Around} {env : Env} {g : Heap} {L : Addr} {n : Nat} {m : Str → Option Value} {own rest : Led} {s : Shared} {R : Result → Shared → Prop}
    {name qual : Str} {params : Arguments} {body : List Stmt} {scope : Scope} {dV kV doc pm cdv ct oc : Value} {an od : Option Addr} {osl : Array (Option Value)} {f : Addr} {pos : List Value} {kw : List (Str × Value)} {binds : List (Str × Value)}
    (C : Cx w A env g L (n + 1)) (I : Inv z g L m (own ++ rest) s)
    (ho : (hdKp w.params).lookup f = some ⟨oc, od, .func (fnOf name qual params body scope dV kV doc pm an cdv ct), osl⟩) (hcd : codeIn (hdKp w.params) cdv qual = true)
    (hbind : BindsTo s (fnOf name qual params body scope dV kV doc pm an cdv ct) ⟨pos, kw⟩ binds) (hloc : ∀ y ∈ binds, scope.names.lookup y.1 = some .local)
    (hco : scope.isCoroutine = false) (hgen : scope.isGenerator = false) (hk : scope.kind = .function) (hcell : ∀ x ∈ scope.names, x.2 ≠ .cell)
    (h : ∀ A' g' L' s₁, Cx w A' (envX qual scope L' f cdv []) g' L' n → Inv z g' L' (fun y => binds.reverse.lookup y) (own ++ []) s₁ → Sub g g' → (∀ p ∈ rest, g'.get? p.1 = some p.2) →
      wpAny (model prg w) A' (execs body (envX qual scope L' f cdv [])) (fun fl s' => Leave z g L m rest g' L' (fun v s'' => R (.ok (.ret v)) s'') (match fl with | .ret v => v | _ => .none) s') (fun _ _ => False) s₁) :
    codeAny (model prg w) A (.call (.ref f) ⟨pos, kw⟩) R s := by
  obtain ⟨A₀, base, outer, pp, ls, mean, mg, mb, B, X, T, hA, hf, hke, hh, hd, hu⟩ := C
  obtain ⟨F, N, nd, same⟩ := I
  have X' := X.keeps F.keep
  refine codeAny_call_def (fd := fnOf name qual params body scope dV kV doc pm an cdv ct) (body := body) (binds := binds) (by omega) (X' _ _ ho) rfl (T.nolimit.keeps F.keep) (codeRec_of X' hcd) rfl hbind hcell hloc (fun h₁ hns hk₁ => ?_) hco hgen hk
  have nm : ∀ b o, g.get? b = some o → b ∉ own.map (·.1) := fun b o e q => by
    obtain ⟨p, hp, rfl⟩ := List.mem_map.mp q
    rw [(N p (List.mem_append_left _ hp)).2.2] at e; cases e
  have st : Sub g (hideAll s.heap (own.map (·.1))) := fun b o e => hideAll_get _ (F.keep b o e) (nm b o e)
  obtain ⟨oL, es, ep, hL, hLd, hLk, hLf⟩ := F.ns
  have nL : L ∉ own.map (·.1) := fun q => by
    obtain ⟨p, hp, e⟩ := List.mem_map.mp q
    exact (N p (List.mem_append_left _ hp)).2.1 e
  have hLg := hideAll_get (own.map (·.1)) hL nL
  have B₁ := pushX B F hf hke
  have B₂ : Below A base (env :: outer) (hideAll s.heap (own.map (·.1))) := ⟨hA, fun b o e => st b o (B.stays b o e), funFrames_hideAll B₁.frames fun env' he b hb hf' => by
    cases he with
    | head => exact nL ((Option.some.inj (hf.symm.trans hf') : L = b) ▸ hb)
    | tail _ he =>
      obtain ⟨L₁, o₁, hf₁, ho₁⟩ := funFrames_in B.frames env' he
      rw [hf₁] at hf'
      exact nm L₁ o₁ ho₁ ((Option.some.inj hf' : L₁ = b) ▸ hb)⟩
  have nd' := List.map_append ▸ nd
  have hrest : ∀ p ∈ rest, (hideAll s.heap (own.map (·.1))).get? p.1 = some p.2 := fun p hp =>
    hideAll_get _ (N p (List.mem_append_right _ hp)).1 fun q => (List.nodup_append.mp nd').2.2 p.1 q p.1 (List.mem_map_of_mem hp) rfl
  refine wpAny_mono (h (A.deeper (envX qual scope s.heap.objs.size f cdv [])) (hideAll s.heap (own.map (·.1))) s.heap.objs.size { s with heap := h₁, toks := _ }
    ⟨A, base, env :: outer, pp, ls, mean, mg, mb, B₂, X.keeps st, T.keeps st, Around.frames_deeper hA, rfl, hk, hh, by rw [depth_deeper]; omega, by rw [units_deeper]; omega⟩
    (by rw [List.append_nil]; exact ⟨⟨hns, fun b o e => hk₁ b o (of_hideAll _ e), Nat.le_of_eq (hideAll_size _ _)⟩,
      (fun p hp => ⟨hk₁ _ _ (N p (List.mem_append_left _ hp)).1, Nat.ne_of_lt (Heap.lt_size (N p (List.mem_append_left _ hp)).1), hideAll_none _ (List.mem_map_of_mem hp)⟩), (List.nodup_append.mp nd').1, same⟩) st hrest) (fun fl s' hl => ?_) (fun _ _ y => y.elim)
  obtain ⟨m', own', more, J, k⟩ := hl
  obtain ⟨F', N', nd'', same'⟩ := J.take
  refine k ⟨⟨⟨oL, es, ep, F'.keep L oL hLg, hLd, hLk, hLf⟩, fun b o e => F'.keep b o (st b o e), F.above⟩, ?_, ?_, same'⟩
  · intro p hp
    rcases List.mem_append.mp hp with hp | hp
    · refine ⟨(N' p hp).1, fun q => ?_, ?_⟩
      · have := (N' p hp).2.2; rw [q, hLg] at this; cases this
      · cases q : g.get? p.1 with
        | none => rfl
        | some o => have := (N' p hp).2.2; rw [st _ _ q] at this; cases this
    · exact ⟨F'.keep _ _ (hrest p hp), (N p (List.mem_append_right _ hp)).2⟩
  · rw [List.map_append]
    refine List.nodup_append.mpr ⟨nd'', (List.nodup_append.mp nd').2.1, fun a ha b hb e => ?_⟩
    subst e
    obtain ⟨p, hp, rfl⟩ := List.mem_map.mp ha
    obtain ⟨q, hq, e⟩ := List.mem_map.mp hb
    have := (N' p hp).2.2
    rw [← e, hrest q hq] at this; cases this
theorem callO {z : Shared} {w : World} {A : Around} {env : Env} {g : Heap} {L : Addr} {n : Nat} {m : Str → Option Value} {own rest : Led} {s : Shared} {Q : Value → Shared → Prop} {E : Value → Shared → Prop}
    {name qual : Str} {params : Arguments} {body : List Stmt} {scope : Scope} {dV kV doc pm cdv ct oc : Value} {an od : Option Addr} {osl : Array (Option Value)} {f : Addr} {pos : List Value} {kw : List (Str × Value)} {binds : List (Str × Value)}
    (C : Cx w A env g L (n + 1)) (I : Inv z g L m (own ++ rest) s)
    (ho : (hdKp w.params).lookup f = some ⟨oc, od, .func (fnOf name qual params body scope dV kV doc pm an cdv ct), osl⟩) (hcd : codeIn (hdKp w.params) cdv qual = true)
    (hbind : BindsTo s (fnOf name qual params body scope dV kV doc pm an cdv ct) ⟨pos, kw⟩ binds) (hloc : ∀ y ∈ binds, scope.names.lookup y.1 = some .local)
    (hco : scope.isCoroutine = false) (hgen : scope.isGenerator = false) (hk : scope.kind = .function) (hcell : ∀ x ∈ scope.names, x.2 ≠ .cell)
    (h : ∀ A' g' L' s₁, Cx w A' (envX qual scope L' f cdv []) g' L' n → Inv z g' L' (fun y => binds.reverse.lookup y) (own ++ []) s₁ → Sub g g' → (∀ p ∈ rest, g'.get? p.1 = some p.2) →
      wpAny (model prg w) A' (execs body (envX qual scope L' f cdv [])) (fun fl s' => Leave z g L m rest g' L' Q (match fl with | .ret v => v | _ => .none) s') (fun _ _ => False) s₁) :
    wpAny (model prg w) A (call (.ref f) pos kw) Q E s :=
  wpAny_call (callC C I ho hcd hbind hloc hco hgen hk hcell h)
theorem Cx.make {w A env g L n Cl pos kw} (C : Cx w A env g L (n + 1)) : Cx w (A.under (.builtin "type.__call__" ⟨.ref Cl :: pos, kw⟩)) env g L n := by
  obtain ⟨A₀, base, outer, pp, ls, mean, mg, mb, h1, h2, h3, h4, h5, h6, h7, h8, h9⟩ := C
  exact ⟨A₀, base, outer, pp, ls, mean, mg, mb, h1, h2, h3, h4, h5, h6, h7, by rw [depth_under_kw]; omega, by
    have : (A.under (.builtin "type.__call__" ⟨.ref Cl :: pos, kw⟩)).units = A.units + 1 := rfl
    rw [this]; omega⟩
theorem makeO {z : Shared} {w : World} {A : Around} {env : Env} {g : Heap} {L : Addr} {n : Nat} {m : Str → Option Value} {rest : Led} {s : Shared} {Q : Value → Shared → Prop} {E : Value → Shared → Prop}
    {name qual : Str} {params : Arguments} {body : List Stmt} {scope : Scope} {dV kV doc pm cdv ct oc : Value} {an od : Option Addr} {osl : Array (Option Value)} {f Cl : Addr} {pos : List Value} {kw : List (Str × Value)} {binds : Value → List (Str × Value)}
    (C : Cx w A env g L (n + 2)) (I : Inv z g L m rest s)
    (hm : makesIn (hdKp w.params) Cl = true) (hi : findIn (hdKp w.params) (.ref Cl) "__init__" = some (some (.ref f))) (hf : isFn (hdKp w.params) (.ref f) = true)
    (ho : (hdKp w.params).lookup f = some ⟨oc, od, .func (fnOf name qual params body scope dV kV doc pm an cdv ct), osl⟩) (hcd : codeIn (hdKp w.params) cdv qual = true)
    (hbind : ∀ x s', (hdKp w.params).In s'.heap → BindsTo s' (fnOf name qual params body scope dV kV doc pm an cdv ct) ⟨x :: pos, kw⟩ (binds x)) (hloc : ∀ x, ∀ y ∈ binds x, scope.names.lookup y.1 = some .local)
    (hco : scope.isCoroutine = false) (hgen : scope.isGenerator = false) (hk : scope.kind = .function) (hcell : ∀ x ∈ scope.names, x.2 ≠ .cell)
    (h : ∀ x dx A' g' L' s₁, Cx w A' (envX qual scope L' f cdv []) g' L' n → Inv z g' L' (fun y => (binds (.ref x)).reverse.lookup y) ([(x, instObj Cl dx), (dx, dictOf [] 0)] ++ []) s₁ → Sub g g' → (∀ p ∈ rest, g'.get? p.1 = some p.2) →
      wpAny (model prg w) A' (execs body (envX qual scope L' f cdv []))
        (fun fl s' => Leave z g L m rest g' L' (fun v s'' => v = .none ∧ Q (.ref x) s'') (match fl with | .ret v => v | _ => .none) s') (fun _ _ => False) s₁) :
    wpAny (model prg w) A (call (.ref Cl) pos kw) Q E s := by
  refine call_cls I.F C.K I.N hm hi hf fun x dx h' F' N' l1 l2 => ?_
  have I' : Inv z g L m ([(x, instObj Cl dx), (dx, dictOf [] 0)] ++ rest) { s with heap := h' } := ⟨F', N', by
    simp only [List.cons_append, List.nil_append, List.map_cons, List.nodup_cons, List.mem_cons, List.mem_map, not_or, not_exists, not_and]
    exact ⟨⟨Nat.ne_of_gt l2, fun p hp e => absurd (l1 p hp) (by rw [e]; exact Nat.lt_asymm l2)⟩, fun p hp e => absurd (l1 p hp) (by rw [e]; exact Nat.lt_irrefl _), I.nd⟩, I.same⟩
  refine callC (n := n) C.make I' ho hcd (hbind _ _ (C.K.keeps F'.keep)) (hloc _) hco hgen hk hcell fun A' g' L' s₁ C' I'' sb hr => ?_
  refine wpAny_mono (h x dx A' g' L' s₁ C' I'' sb hr) (fun fl s' hl => ?_) fun _ _ y => y
  obtain ⟨m', own', more, J, k⟩ := hl
  exact ⟨m', own', more, J, fun J' => k J'⟩
end
/-! part Ab -/
section
set_option hygiene true
/-- a mark -/
structure Mk where
  len : Int
  style : Str
  nests : Bool
  fence : Bool
/-- a syntax: its kind, its flags -/
structure Sy where
  kind : Str
  flags : Str
def Sy.has (y : Sy) (f : Str) : Bool := !(Builtin.Str.occurrences y.flags f 0 y.flags.length 1).isEmpty
def Sy.isEscape (y : Sy) : Bool := y.kind == Str.ofString "\\" || y.kind == Str.ofString "/"
def Sy.isWord (y : Sy) : Bool := y.kind == Str.ofString "w" || y.kind == Str.ofString "_"
def Sy.style (y : Sy) : Str := (if y.has "b" then Str.ofString "b" else Str.ofString "") ++ (if y.has "c" then Str.ofString "c" else Str.ofString "")
def pairStyle (t o : Sy) : Str := (if t.has "b" then Str.ofString "b" else Str.ofString "") ++ (if t.has "c" || o.has "c" then Str.ofString "c" else Str.ofString "")
/-- the text (its first place, its codes) and the table -/
structure Ct where
  b : Int
  cs : List Int
  tb : Int → Sy
def Ct.e (c : Ct) : Int := c.b + c.cs.length
def Ct.cod (c : Ct) (p : Int) : Int := if c.b ≤ p ∧ p < c.b + c.cs.length then c.cs.getD (p - c.b).toNat 0 else -1
def Ct.sy (c : Ct) (p : Int) : Option Sy := if c.cod p < 0 then none else some (c.tb (c.cod p))
def Ct.bm (c : Ct) (p : Int) : Option Mk := match c.sy p with
  | none => none
  | some y =>
    match (match c.sy (p + 1) with | some o => if y.has "1" && o.has "2" then some (⟨2, pairStyle o y, y.has "n" || o.has "n", false⟩ : Mk) else none | none => none) with
    | some m => some m
    | none => if y.kind == Str.ofString "<" then some ⟨1, y.style, y.has "n", false⟩ else if y.kind == Str.ofString "!" then some ⟨1, Str.ofString "", false, true⟩ else none
def Ct.em (c : Ct) (p : Int) : Option Mk := match c.sy p with
  | none => none
  | some y =>
    match (match c.sy (p + 1) with | some o => if y.has "3" && o.has "4" then some (⟨2, pairStyle y o, y.has "n" || o.has "n", false⟩ : Mk) else none | none => none) with
    | some m => some m
    | none => if y.kind == Str.ofString ">" then some ⟨1, y.style, y.has "n", false⟩ else if y.kind == Str.ofString "!" then some ⟨1, Str.ofString "", false, true⟩ else none
def fitsF (m : Option Mk) (style : Str) (nests fence : Bool) : Bool := match m with
  | none => false
  | some m => if m.fence != fence then false else fence || (m.style == style && m.nests == nests)
/-- the walk's state -/
structure St where
  place : Int
  opens : List Int
  below : Int
  least : Int
  whole : Option Int
  word : Option Int
  string : Option Int
  comment : Int
  style : Str
  nests : Bool
  start : Option Int
  quoted : Bool
  half : Str
def St.s_place (s : St) (i : Int) : St := { s with place := i }
def St.s_opens (s : St) (i : List Int) : St := { s with opens := i }
def St.s_below (s : St) (i : Int) : St := { s with below := i }
def St.s_least (s : St) (i : Int) : St := { s with least := i }
def St.s_whole (s : St) (i : Option Int) : St := { s with whole := i }
def St.s_word (s : St) (i : Option Int) : St := { s with word := i }
def St.s_string (s : St) (i : Option Int) : St := { s with string := i }
def St.s_comment (s : St) (i : Int) : St := { s with comment := i }
def St.s_style (s : St) (i : Str) : St := { s with style := i }
def St.s_nests (s : St) (i : Bool) : St := { s with nests := i }
def St.s_start (s : St) (i : Option Int) : St := { s with start := i }
def St.s_quoted (s : St) (i : Bool) : St := { s with quoted := i }
def St.s_half (s : St) (i : Str) : St := { s with half := i }
def St.depth (s : St) : Int := (s.opens.length : Int) - s.below
def St.endWord (s : St) : St := match s.word with | some i => { s with whole := some i, word := none } | none => s
theorem endWord_place (s : St) : s.endWord.place = s.place := by unfold St.endWord; split <;> rfl
theorem endWord_opens (s : St) : s.endWord.opens = s.opens := by unfold St.endWord; split <;> rfl
theorem endWord_below (s : St) : s.endWord.below = s.below := by unfold St.endWord; split <;> rfl
theorem endWord_least (s : St) : s.endWord.least = s.least := by unfold St.endWord; split <;> rfl
theorem endWord_string (s : St) : s.endWord.string = s.string := by unfold St.endWord; split <;> rfl
theorem endWord_comment (s : St) : s.endWord.comment = s.comment := by unfold St.endWord; split <;> rfl
theorem endWord_style (s : St) : s.endWord.style = s.style := by unfold St.endWord; split <;> rfl
theorem endWord_nests (s : St) : s.endWord.nests = s.nests := by unfold St.endWord; split <;> rfl
theorem endWord_start (s : St) : s.endWord.start = s.start := by unfold St.endWord; split <;> rfl
theorem endWord_quoted (s : St) : s.endWord.quoted = s.quoted := by unfold St.endWord; split <;> rfl
theorem endWord_half (s : St) : s.endWord.half = s.half := by unfold St.endWord; split <;> rfl
def St.beginWord (s : St) : St := match s.word with | none => { s with word := some s.place } | some _ => s
def St.openAt (s : St) (p : Int) : St := { s.endWord with opens := s.opens ++ [p], whole := none }
def St.close1 (s : St) : St := if s.opens = [] then { s with below := s.below + 1, whole := none } else { s with whole := some (s.opens.getLastD 0), opens := s.opens.dropLast }
def St.close (s : St) : St := let t := s.endWord.close1; { t with least := min t.least t.depth }
def St.beginComment (s : St) (m : Mk) (p : Int) : St := { s.endWord with comment := if m.fence then -1 else 1, style := m.style, nests := m.nests, start := some p }
def St.leaveComment (s : St) : St := if 1 < s.comment then { s with comment := s.comment - 1 } else { s with comment := 0, style := Str.ofString "", nests := false, start := none }
def St.beginString (s : St) (i : Int) : St := { s.endWord with string := some i, start := some s.place }
def St.endString (s : St) : St := { s with whole := s.start, string := none, start := none }
/-- take: whole, or a half of it -/
def St.takes (s : St) (m : Mk) (limit : Int) : Bool := !(m.len == 2 && decide (limit ≤ s.place + 1))
def St.take (s : St) (m : Mk) (word : Str) (limit : Int) : St := if s.takes m limit then { s with place := s.place + m.len } else { s with place := s.place + 1, half := word }
theorem fitsF_none (a : Str) (b c : Bool) : fitsF none a b c = false := rfl
theorem take_opens (s : St) (m : Mk) (w : Str) (l : Int) : (s.take m w l).opens = s.opens := by unfold St.take; split <;> rfl
theorem take_below (s : St) (m : Mk) (w : Str) (l : Int) : (s.take m w l).below = s.below := by unfold St.take; split <;> rfl
theorem take_least (s : St) (m : Mk) (w : Str) (l : Int) : (s.take m w l).least = s.least := by unfold St.take; split <;> rfl
theorem take_whole (s : St) (m : Mk) (w : Str) (l : Int) : (s.take m w l).whole = s.whole := by unfold St.take; split <;> rfl
theorem take_word (s : St) (m : Mk) (w : Str) (l : Int) : (s.take m w l).word = s.word := by unfold St.take; split <;> rfl
theorem take_string (s : St) (m : Mk) (w : Str) (l : Int) : (s.take m w l).string = s.string := by unfold St.take; split <;> rfl
theorem take_comment (s : St) (m : Mk) (w : Str) (l : Int) : (s.take m w l).comment = s.comment := by unfold St.take; split <;> rfl
theorem take_style (s : St) (m : Mk) (w : Str) (l : Int) : (s.take m w l).style = s.style := by unfold St.take; split <;> rfl
theorem take_nests (s : St) (m : Mk) (w : Str) (l : Int) : (s.take m w l).nests = s.nests := by unfold St.take; split <;> rfl
theorem take_start (s : St) (m : Mk) (w : Str) (l : Int) : (s.take m w l).start = s.start := by unfold St.take; split <;> rfl
theorem take_quoted (s : St) (m : Mk) (w : Str) (l : Int) : (s.take m w l).quoted = s.quoted := by unfold St.take; split <;> rfl
def St.inComment (c : Ct) (s : St) (limit : Int) : St :=
  if fitsF (c.em s.place) s.style s.nests (decide (s.comment < 0)) then
    match c.em s.place with
    | some m => if s.takes m limit then (s.take m "end" limit).leaveComment else s.take m "end" limit
    | none => s
  else if s.nests && fitsF (c.bm s.place) s.style true false then
    match c.bm s.place with
    | some m => if s.takes m limit then { s.take m "nest" limit with comment := s.comment + 1 } else s.take m "nest" limit
    | none => s
  else { s with place := s.place + 1 }
def St.inString (c : Ct) (s : St) : St :=
  let t := if s.quoted then { s with quoted := false }
    else if (c.tb (c.cod s.place)).isEscape then { s with quoted := true }
    else if (s.string == some 0 && (c.tb (c.cod s.place)).kind == Str.ofString "|") || (some (c.cod s.place) == s.string && (c.tb (c.cod s.place)).kind == Str.ofString "\"") then s.endString
    else s
  { t with place := t.place + 1 }
def St.finishHalf (c : Ct) (s : St) : St :=
  let z := { s with half := Str.ofString "" }
  let t := if s.half == Str.ofString "begin" then (match c.bm (s.place - 1) with | some m => z.beginComment m (s.place - 1) | none => z)
    else if s.half == Str.ofString "nest" then { z with comment := z.comment + 1 }
    else z.leaveComment
  { t with place := t.place + 1 }
def St.byKind (c : Ct) (s : St) (y : Sy) : St :=
  if y.isEscape then { s.beginWord with quoted := true }
  else if y.isWord then s.beginWord
  else if y.kind == Str.ofString "(" then s.openAt s.place
  else if y.kind == Str.ofString ")" then s.close
  else if y.kind == Str.ofString "\"" then s.beginString (c.cod s.place)
  else if y.kind == Str.ofString "|" then s.beginString 0
  else if y.kind != Str.ofString "'" then s.endWord
  else s
def St.plain (c : Ct) (s : St) (limit : Int) : St :=
  if s.quoted then { s with quoted := false, place := s.place + 1 }
  else match c.bm s.place with
    | some m => if s.takes m limit then (s.take m "begin" limit).beginComment m s.place else (s.take m "begin" limit).endWord
    | none =>
      let t := if (c.tb (c.cod s.place)).has "p" then s else s.byKind c (c.tb (c.cod s.place))
      { t with place := t.place + 1 }
def St.step (c : Ct) (s : St) (limit : Int) : St :=
  if s.half != Str.ofString "" then s.finishHalf c
  else if s.comment != 0 then s.inComment c limit
  else if s.string.isSome then s.inString c
  else s.plain c limit
def St0 : St := { place := 0, opens := [], below := 0, least := 0, whole := none, word := none, string := none, comment := 0, style := Str.ofString "", nests := false, start := none, quoted := false, half := Str.ofString "" }
end
/-! part Ru -/
section
set_option hygiene true
/-! ## an object's dict as a table of names -/
inductive Ents : List DictEntry → List (Str × Value) → Prop
  | nil : Ents [] []
  | cons {es fs} (h : Int) (x : Str) (t : Tok) (v : Value) (r : Ents es fs) : Ents (⟨h, .str x t, v⟩ :: es) ((x, v) :: fs)
def fget (name : Str) : List (Str × Value) → Option Value
  | [] => none
  | (x, v) :: r => if x == name then some v else fget name r
def fset (name : Str) (w : Value) : List (Str × Value) → List (Str × Value)
  | [] => [(name, w)]
  | (x, v) :: r => if x == name then (x, w) :: r else (x, v) :: fset name w r
theorem Ents.noRef {es fs} (h : Ents es fs) : es.any (·.refKey) = false := by
  induction h with
  | nil => rfl
  | cons h x t v r ih => rw [List.any_cons, ih]; rfl
theorem Ents.get' {es fs} (h : Ents es fs) (name : Str) : (es.find? (·.key.isStr name)).map (·.val) = fget name fs := by
  induction h with
  | nil => rfl
  | cons h x t v r ih =>
    show ((match x == name with | true => some (⟨h, .str x t, v⟩ : DictEntry) | false => _).map _) = (if x == name then some v else _)
    cases x == name with
    | true => rfl
    | false => exact ih
theorem Ents.get {es fs} (h : Ents es fs) (name : Str) : getL name es = some (fget name fs) := by
  have q := h.get' name
  unfold getL
  cases e : es.find? (·.key.isStr name) with
  | some x => rw [e] at q; rw [← q]; rfl
  | none => rw [e] at q; rw [← q]; simp [h.noRef]
theorem Ents.put {es fs} (h : Ents es fs) (name : Str) (k : Int) (t : Tok) (w : Value) : Ents (putL name k (.str name t) w es) (fset name w fs) := by
  induction h with
  | nil => exact .cons k name t w .nil
  | cons h x t' v r ih =>
    show Ents (if x == name then _ else _) (if x == name then _ else _)
    by_cases q : (x == name) = true
    · rw [if_pos q, if_pos q]; exact .cons _ _ _ _ r
    · rw [if_neg q, if_neg q]; exact .cons _ _ _ _ ih
theorem Ents.length {es fs} (h : Ents es fs) : es.length = fs.length := by
  induction h with
  | nil => rfl
  | cons h x t v r ih => simp [ih]
def DictO (o : Obj) (fs : List (Str × Value)) : Prop := ∃ es n, o = dictOf es n ∧ Ents es fs
theorem DictO.nil : DictO (dictOf [] 0) [] := ⟨[], 0, rfl, .nil⟩
/-! ## names -/
section
variable {z : Shared} {w : World} {A : Around} {env : Env} {g : Heap} {L : Addr} {n : Nat} {m : Str → Option Value} {own rest : Led} {s : Shared} {E : Value → Shared → Prop}
theorem r_loc {M : Model} {cn : Str} {cs : Scope} {a : Addr} {ccd : Value} {cl : List (Str × Addr)} {x : Str} {pos : Pos} {v : Value} {Q : Value → Shared → Prop}
    (I : Inv z g L m own s) (hv : m x = some v) (hk : cs.kind = .function) (hx : (envX cn cs L a ccd cl).kindOf x = some .local) (hd : (x == ("__debug__" : Str)) = false) (h : Q v s) :
    wpAny M A (eval (.Name x pos) (envX cn cs L a ccd cl)) Q E s := nameX_L I.F hv h hk hx hd
theorem r_glob {M : Model} {cn : Str} {cs : Scope} {a : Addr} {ccd : Value} {cl : List (Str × Addr)} {x : Str} {pos : Pos} {v : Value} {Q : Value → Shared → Prop}
    (C : Cx w A env g L n) (I : Inv z g L m own s) (e : nsIn (hdKp w.params) mainGlobals x = some (some v)) (hk : cs.kind = .function) (hx : (envX cn cs L a ccd cl).kindOf x = some .globalImplicit) (hd : (x == ("__debug__" : Str)) = false) (h : Q v s) :
    wpAny M A (eval (.Name x pos) (envX cn cs L a ccd cl)) Q E s := let ⟨_, _, _, _, T⟩ := C.top; nameX_K I.F C.K T e h hk hx hd
theorem r_blt {M : Model} {cn : Str} {cs : Scope} {a : Addr} {ccd : Value} {cl : List (Str × Addr)} {x : Str} {pos : Pos} {v : Value} {Q : Value → Shared → Prop}
    (C : Cx w A env g L n) (I : Inv z g L m own s) (e : nsIn (hdKp w.params) mainGlobals x = some none) (hv : bootBuiltins x = some v) (hn : x ≠ "__name__") (hk : cs.kind = .function) (hx : (envX cn cs L a ccd cl).kindOf x = some .globalImplicit) (hd : (x == ("__debug__" : Str)) = false) (h : Q v s) :
    wpAny M A (eval (.Name x pos) (envX cn cs L a ccd cl)) Q E s := let ⟨_, _, _, _, T⟩ := C.top; nameX_B I.F C.K T e hv hn h hk hx hd
theorem r_sto {M : Model} {cn : Str} {cs : Scope} {a : Addr} {ccd : Value} {cl : List (Str × Addr)} {x : Str} {v : Value} {Q : Unit → Shared → Prop}
    (I : Inv z g L m own s) (hk : cs.kind = .function) (hx : (envX cn cs L a ccd cl).kindOf x = some .local)
    (h : ∀ s', Inv z g L (fun y => if y = x then some v else m y) own s' → Q () s') : wpAny M A (storeName (envX cn cs L a ccd cl) x v) Q E s :=
  storeX_L I.F I.N (fun h' F' N' => h _ (⟨F', N', I.nd, I.same⟩)) hk hx
/-! ## attributes -/
structure ClsA (w : World) (Cl : Addr) : Prop where
  g : findIn (hdKp w.params) (.ref Cl) "__getattribute__" = some (some (.builtin "object.__getattribute__"))
  g2 : findIn (hdKp w.params) (.ref Cl) "__getattr__" = some none
  d : hasDictIn (hdKp w.params) Cl = true
  s : findIn (hdKp w.params) (.ref Cl) "__setattr__" = some (some (.builtin "object.__setattr__"))
  p : plainOver (hdKp w.params) Cl = true
theorem ClsA.pg {w Cl} (c : ClsA w Cl) (name : Str) : plainGet (hdKp w.params) Cl name = true := by
  unfold plainGet; rw [c.g, c.g2]; rfl
abbrev OwnA (w : World) (Cl : Addr) (name : Str) : Prop := findIn (hdKp w.params) (.ref Cl) name = some none
theorem taker_of {w Cl name} (a : OwnA w Cl name) : takerIn (hdKp w.params) Cl name = some none := by unfold takerIn; rw [a]; rfl
def fnO (o : Obj) : Bool := match o with | ⟨.type "function", _, .func _, _⟩ => true | _ => false
theorem fnO_some {K : Frag} {f : Addr} (h : (K.lookup f).any fnO = true) : ∃ od fd sl, K.lookup f = some ⟨.type "function", od, .func fd, sl⟩ := by
  cases e : K.lookup f with
  | none => rw [e] at h; cases h
  | some o =>
    rw [e] at h
    obtain ⟨c, od, da, sl⟩ := o
    have h' : fnO ⟨c, od, da, sl⟩ = true := h
    unfold fnO at h'
    split at h'
    · rename_i q; cases q; exact ⟨_, _, _, rfl⟩
    · cases h'
theorem isFn_of {K : Frag} {f : Addr} (h : (K.lookup f).any fnO = true) : isFn K (.ref f) = true := by
  obtain ⟨od, fd, sl, e⟩ := fnO_some h
  simp [isFn, typeIn, e]
theorem keep_of {K : Frag} {f : Addr} (h : (K.lookup f).any fnO = true) : keepIn K (.ref f) = true := by
  obtain ⟨od, fd, sl, e⟩ := fnO_some h
  simp [keepIn, e]
structure MethA (w : World) (Cl : Addr) (name : Str) (f : Addr) : Prop where
  a : findIn (hdKp w.params) (.ref Cl) name = some (some (.ref f))
  f : isFn (hdKp w.params) (.ref f) = true
theorem noGet_none (K : Frag) : noGet K none = true := rfl
theorem r_attr {x Cl dx : Addr} {o : Obj} {fs : List (Str × Value)} {name : Str} {v : Value} {b : Bool} {Q : Value → Shared → Prop}
    (C : Cx w A env g L n) (I : Inv z g L m own s) (hx : s.heap.get? x = some (instObj Cl dx)) (hd : s.heap.get? dx = some o) (D : DictO o fs) (hc : ClsA w Cl) (ha : OwnA w Cl name) (hl : fget name fs = some v) (hv : handedIn v = true)
    (h : ∀ s', Inv z g L m own s' → Q v s') : wpAny (model prg w) A (getAttr (.ref x) name b) Q E s := by
  obtain ⟨es, k, rfl, en⟩ := D
  exact get_own I.F C.K ⟨hx, rfl, rfl, hd⟩ (hc.pg _) hc.d ha (noGet_none _) (by rw [en.get, hl]) hv (h _ (I.tok _))
theorem r_meth {x Cl dx f : Addr} {o : Obj} {fs : List (Str × Value)} {name : Str} {pl : Sem Bool} {Q : Value × List Value → Shared → Prop}
    (C : Cx w A env g L n) (I : Inv z g L m own s) (hx : s.heap.get? x = some (instObj Cl dx)) (hd : s.heap.get? dx = some o) (D : DictO o fs) (hc : ClsA w Cl) (ha : MethA w Cl name f) (hl : fget name fs = none)
    (h : Q (.ref f, [.ref x]) s) : wpAny (model prg w) A (getMethod (.ref x) name pl) Q E s := by
  obtain ⟨es, k, rfl, en⟩ := D
  exact method_inst I.F C.K ⟨hx, rfl, rfl, hd⟩ (hc.pg _) ha.a ha.f (by rw [en.get, hl]) h
theorem Upd.mid {d : Addr} {o o' : Obj} : ∀ (pre post : Led), (∀ p ∈ pre, p.1 ≠ d) → (∀ p ∈ post, p.1 ≠ d) → Upd d o o' (pre ++ (d, o) :: post) (pre ++ (d, o') :: post)
  | [], _, _, h => .head h
  | p :: pre, post, h1, h2 => .tail (h1 p (.head _)) (Upd.mid pre post (fun q hq => h1 q (.tail _ hq)) h2)
theorem nd_mid {pre post : Led} {d : Addr} {o : Obj} (h : ((pre ++ (d, o) :: post).map (·.1)).Nodup) : (∀ p ∈ pre, p.1 ≠ d) ∧ (∀ p ∈ post, p.1 ≠ d) := by
  rw [List.map_append, List.map_cons] at h
  have h1 := List.nodup_append.mp h
  refine ⟨fun p hp e => h1.2.2 p.1 (List.mem_map_of_mem hp) d (.head _) e, fun p hp e => ?_⟩
  exact (List.nodup_cons.mp h1.2.1).1 (List.mem_map.mpr ⟨p, hp, e⟩)
theorem nd_chg {pre post : Led} {d : Addr} {o o' : Obj} (h : ((pre ++ (d, o) :: post).map (·.1)).Nodup) : ((pre ++ (d, o') :: post).map (·.1)).Nodup := by simpa using h
theorem r_set {x Cl dx : Addr} {o : Obj} {fs : List (Str × Value)} {name : Str} {v : Value} {pre post : Led} {Q : Unit → Shared → Prop}
    (C : Cx w A env g L n) (I : Inv z g L m (pre ++ (dx, o) :: post) s) (hx : s.heap.get? x = some (instObj Cl dx)) (D : DictO o fs) (hc : ClsA w Cl) (ha : OwnA w Cl name) (hz : fs.length < 100)
    (h : ∀ o' s', DictO o' (fset name v fs) → Inv z g L m (pre ++ (dx, o') :: post) s' → Q () s') : wpAny (model prg w) A (setAttr (.ref x) name v) Q E s := by
  obtain ⟨es, k, rfl, en⟩ := D
  have q := nd_mid I.nd
  have en' := en.put name (PyData.keyHash w.params name) (s.toks + 1) v
  refine set_dict I.F C.K I.N ⟨hx, rfl, rfl, (I.N (dx, dictOf es k) (by simp)).1⟩ rfl hc.s hc.p (taker_of ha) hc.d (by rw [en.get]; rfl) rfl (Upd.mid pre post q.1 q.2) ?_ (fun h' F' N' => h _ _ ⟨_, _, rfl, en'⟩ (I.mk' _ F' N' (nd_chg I.nd)))
  rw [en'.length]
  have : ∀ (fs : List (Str × Value)), (fset name v fs).length ≤ fs.length + 1 := by
    intro fs
    induction fs with
    | nil => simp [fset]
    | cons p r ih => obtain ⟨x, y⟩ := p; simp only [fset]; split <;> simp <;> omega
  have := this fs
  omega
/-! ## what is new goes in front -/
theorem Inv.push {own : Led} (I : Inv z g L m own s) (o : Obj) (tk : Nat) (hf : o.isFreed = false := by rfl) : Inv z g L m ((s.heap.objs.size, o) :: own) { s with heap := s.heap.push o, toks := tk } :=
  I.mk' tk (I.F.push o) (I.N.push I.F o hf) (by
    rw [List.map_cons]
    refine List.nodup_cons.mpr ⟨fun q => ?_, I.nd⟩
    obtain ⟨p, hp, e⟩ := List.mem_map.mp q
    have := Heap.lt_size (I.N p hp).1
    have e' : p.1 = s.heap.objs.size := e
    rw [e'] at this
    exact Nat.lt_irrefl _ this)
end
end
/-! part Wk -/
section
set_option hygiene true
theorem fill0 (w : World) : hdKp w.params = hdKp w.params ∧ PySem.Challenge.rw_np0078_01 = PySem.Challenge.rw_np0078_01 := by
  k_fill
  exact ⟨rfl, rfl⟩
def optV : Option Int → Tok → Value
  | none, _ => .none
  | some i, t => .int i t
theorem handed_opt (o : Option Int) (t : Tok) : handedIn (optV o t) = true := by cases o <;> rfl
def walkF (vw vt lo : Addr) (st : St) (t : Nat → Tok) : List (Str × Value) := [(Str.ofString "view", .ref vw), (Str.ofString "table", .ref vt), (Str.ofString "place", .int st.place (t 2)), (Str.ofString "opens", .ref lo), (Str.ofString "below", .int st.below (t 4)), (Str.ofString "least", .int st.least (t 5)), (Str.ofString "whole", optV st.whole (t 6)), (Str.ofString "word", optV st.word (t 7)), (Str.ofString "string", optV st.string (t 8)), (Str.ofString "comment", .int st.comment (t 9)), (Str.ofString "style", .str st.style (t 10)), (Str.ofString "nests", .bool st.nests), (Str.ofString "start", optV st.start (t 12)), (Str.ofString "quoted", .bool st.quoted), (Str.ofString "half", .str st.half (t 14))]
theorem walkF_len (vw vt lo : Addr) (st : St) (t : Nat → Tok) : (walkF vw vt lo st t).length < 100 := Nat.le_of_ble_eq_true rfl
def upT (t : Nat → Tok) (i : Nat) (u : Tok) : Nat → Tok := fun j => if j = i then u else t j
def Wk (own : Led) (x vw vt lo : Addr) (st : St) : Prop :=
  ∃ dx o k ops t, own = [(x, instObj 428 dx), (dx, o), (lo, listOf ops.toArray k)] ∧ DictO o (walkF vw vt lo st t) ∧ IntsAre ops st.opens
theorem Wk.cast {own : Led} {x vw vt lo : Addr} {st st' : St} (W : Wk own x vw vt lo st) (e : st' = st) : Wk own x vw vt lo st' := e ▸ W
section
variable {z : Shared} {w : World} {A : Around} {env : Env} {g : Heap} {L : Addr} {n : Nat} {m : Str → Option Value} {own rest : Led} {s : Shared} {E : Value → Shared → Prop} {x vw vt lo : Addr} {st : St}
theorem cls_428 (w : World) : ClsA w 428 := ⟨by k_is, by k_is, by k_is, by k_is, by k_is⟩
theorem own_428_view (w : World) : OwnA w 428 "view" := by unfold OwnA; k_is
theorem fget_walk_view (vw vt lo : Addr) (st : St) (t : Nat → Tok) : fget "view" (walkF vw vt lo st t) = some (.ref vw) := by kernel_rfl
theorem wget_view {b : Bool} {Q : Value → Shared → Prop} (C : Cx w A env g L n) (I : Inv z g L m (own ++ rest) s) (W : Wk own x vw vt lo st) (h : ∀ s', Inv z g L m (own ++ rest) s' → Q (.ref vw) s') :
    wpAny (model prg w) A (getAttr (.ref x) "view" b) Q E s := by
  obtain ⟨dx, o, k, ops, t, rfl, D, _⟩ := W
  exact r_attr C I (I.get (.head _)) (I.get (.tail _ (.head _))) D (cls_428 w) (own_428_view w) (fget_walk_view _ _ _ _ _) (rfl) (h)
theorem own_428_table (w : World) : OwnA w 428 "table" := by unfold OwnA; k_is
theorem fget_walk_table (vw vt lo : Addr) (st : St) (t : Nat → Tok) : fget "table" (walkF vw vt lo st t) = some (.ref vt) := by kernel_rfl
theorem wget_table {b : Bool} {Q : Value → Shared → Prop} (C : Cx w A env g L n) (I : Inv z g L m (own ++ rest) s) (W : Wk own x vw vt lo st) (h : ∀ s', Inv z g L m (own ++ rest) s' → Q (.ref vt) s') :
    wpAny (model prg w) A (getAttr (.ref x) "table" b) Q E s := by
  obtain ⟨dx, o, k, ops, t, rfl, D, _⟩ := W
  exact r_attr C I (I.get (.head _)) (I.get (.tail _ (.head _))) D (cls_428 w) (own_428_table w) (fget_walk_table _ _ _ _ _) (rfl) (h)
theorem own_428_place (w : World) : OwnA w 428 "place" := by unfold OwnA; k_is
theorem fget_walk_place (vw vt lo : Addr) (st : St) (t : Nat → Tok) : fget "place" (walkF vw vt lo st t) = some (.int st.place (t 2)) := by kernel_rfl
theorem wget_place {b : Bool} {Q : Value → Shared → Prop} (C : Cx w A env g L n) (I : Inv z g L m (own ++ rest) s) (W : Wk own x vw vt lo st) (h : ∀ u s', Inv z g L m (own ++ rest) s' → Q (.int st.place u) s') :
    wpAny (model prg w) A (getAttr (.ref x) "place" b) Q E s := by
  obtain ⟨dx, o, k, ops, t, rfl, D, _⟩ := W
  exact r_attr C I (I.get (.head _)) (I.get (.tail _ (.head _))) D (cls_428 w) (own_428_place w) (fget_walk_place _ _ _ _ _) (rfl) (h _)
theorem fset_walk_place (vw vt lo : Addr) (st : St) (t : Nat → Tok) {i : Int} {u : Tok} : fset "place" (.int i u) (walkF vw vt lo st t) = walkF vw vt lo (st.s_place i) (upT t 2 u) := by kernel_rfl
theorem wset_place {i : Int} {u : Tok} {v : Value} {Q : Unit → Shared → Prop} (C : Cx w A env g L n) (I : Inv z g L m (own ++ rest) s) (W : Wk own x vw vt lo st) (hv : v = .int i u)
    (h : ∀ own' s', Wk own' x vw vt lo (st.s_place i) → Inv z g L m (own' ++ rest) s' → Q () s') : wpAny (model prg w) A (setAttr (.ref x) "place" v) Q E s := by
  obtain ⟨dx, o, k, ops, t, rfl, D, hi⟩ := W
  subst hv
  refine r_set (pre := [(x, instObj 428 dx)]) (post := (lo, listOf ops.toArray k) :: rest) C I (I.get (.head _)) D (cls_428 w) (own_428_place w) (walkF_len _ _ _ _ _) fun o' s' D' I' => ?_
  rw [fset_walk_place] at D'
  exact h _ s' ⟨dx, o', k, ops, _, rfl, D', hi⟩ I'
theorem own_428_opens (w : World) : OwnA w 428 "opens" := by unfold OwnA; k_is
theorem fget_walk_opens (vw vt lo : Addr) (st : St) (t : Nat → Tok) : fget "opens" (walkF vw vt lo st t) = some (.ref lo) := by kernel_rfl
theorem wget_opens {b : Bool} {Q : Value → Shared → Prop} (C : Cx w A env g L n) (I : Inv z g L m (own ++ rest) s) (W : Wk own x vw vt lo st) (h : ∀ s', Inv z g L m (own ++ rest) s' → Q (.ref lo) s') :
    wpAny (model prg w) A (getAttr (.ref x) "opens" b) Q E s := by
  obtain ⟨dx, o, k, ops, t, rfl, D, _⟩ := W
  exact r_attr C I (I.get (.head _)) (I.get (.tail _ (.head _))) D (cls_428 w) (own_428_opens w) (fget_walk_opens _ _ _ _ _) (rfl) (h)
theorem own_428_below (w : World) : OwnA w 428 "below" := by unfold OwnA; k_is
theorem fget_walk_below (vw vt lo : Addr) (st : St) (t : Nat → Tok) : fget "below" (walkF vw vt lo st t) = some (.int st.below (t 4)) := by kernel_rfl
theorem wget_below {b : Bool} {Q : Value → Shared → Prop} (C : Cx w A env g L n) (I : Inv z g L m (own ++ rest) s) (W : Wk own x vw vt lo st) (h : ∀ u s', Inv z g L m (own ++ rest) s' → Q (.int st.below u) s') :
    wpAny (model prg w) A (getAttr (.ref x) "below" b) Q E s := by
  obtain ⟨dx, o, k, ops, t, rfl, D, _⟩ := W
  exact r_attr C I (I.get (.head _)) (I.get (.tail _ (.head _))) D (cls_428 w) (own_428_below w) (fget_walk_below _ _ _ _ _) (rfl) (h _)
theorem fset_walk_below (vw vt lo : Addr) (st : St) (t : Nat → Tok) {i : Int} {u : Tok} : fset "below" (.int i u) (walkF vw vt lo st t) = walkF vw vt lo (st.s_below i) (upT t 4 u) := by kernel_rfl
theorem wset_below {i : Int} {u : Tok} {v : Value} {Q : Unit → Shared → Prop} (C : Cx w A env g L n) (I : Inv z g L m (own ++ rest) s) (W : Wk own x vw vt lo st) (hv : v = .int i u)
    (h : ∀ own' s', Wk own' x vw vt lo (st.s_below i) → Inv z g L m (own' ++ rest) s' → Q () s') : wpAny (model prg w) A (setAttr (.ref x) "below" v) Q E s := by
  obtain ⟨dx, o, k, ops, t, rfl, D, hi⟩ := W
  subst hv
  refine r_set (pre := [(x, instObj 428 dx)]) (post := (lo, listOf ops.toArray k) :: rest) C I (I.get (.head _)) D (cls_428 w) (own_428_below w) (walkF_len _ _ _ _ _) fun o' s' D' I' => ?_
  rw [fset_walk_below] at D'
  exact h _ s' ⟨dx, o', k, ops, _, rfl, D', hi⟩ I'
theorem own_428_least (w : World) : OwnA w 428 "least" := by unfold OwnA; k_is
theorem fget_walk_least (vw vt lo : Addr) (st : St) (t : Nat → Tok) : fget "least" (walkF vw vt lo st t) = some (.int st.least (t 5)) := by kernel_rfl
theorem wget_least {b : Bool} {Q : Value → Shared → Prop} (C : Cx w A env g L n) (I : Inv z g L m (own ++ rest) s) (W : Wk own x vw vt lo st) (h : ∀ u s', Inv z g L m (own ++ rest) s' → Q (.int st.least u) s') :
    wpAny (model prg w) A (getAttr (.ref x) "least" b) Q E s := by
  obtain ⟨dx, o, k, ops, t, rfl, D, _⟩ := W
  exact r_attr C I (I.get (.head _)) (I.get (.tail _ (.head _))) D (cls_428 w) (own_428_least w) (fget_walk_least _ _ _ _ _) (rfl) (h _)
theorem fset_walk_least (vw vt lo : Addr) (st : St) (t : Nat → Tok) {i : Int} {u : Tok} : fset "least" (.int i u) (walkF vw vt lo st t) = walkF vw vt lo (st.s_least i) (upT t 5 u) := by kernel_rfl
theorem wset_least {i : Int} {u : Tok} {v : Value} {Q : Unit → Shared → Prop} (C : Cx w A env g L n) (I : Inv z g L m (own ++ rest) s) (W : Wk own x vw vt lo st) (hv : v = .int i u)
    (h : ∀ own' s', Wk own' x vw vt lo (st.s_least i) → Inv z g L m (own' ++ rest) s' → Q () s') : wpAny (model prg w) A (setAttr (.ref x) "least" v) Q E s := by
  obtain ⟨dx, o, k, ops, t, rfl, D, hi⟩ := W
  subst hv
  refine r_set (pre := [(x, instObj 428 dx)]) (post := (lo, listOf ops.toArray k) :: rest) C I (I.get (.head _)) D (cls_428 w) (own_428_least w) (walkF_len _ _ _ _ _) fun o' s' D' I' => ?_
  rw [fset_walk_least] at D'
  exact h _ s' ⟨dx, o', k, ops, _, rfl, D', hi⟩ I'
theorem own_428_whole (w : World) : OwnA w 428 "whole" := by unfold OwnA; k_is
theorem fget_walk_whole (vw vt lo : Addr) (st : St) (t : Nat → Tok) : fget "whole" (walkF vw vt lo st t) = some (optV st.whole (t 6)) := by kernel_rfl
theorem wget_whole {b : Bool} {Q : Value → Shared → Prop} (C : Cx w A env g L n) (I : Inv z g L m (own ++ rest) s) (W : Wk own x vw vt lo st) (h : ∀ u s', Inv z g L m (own ++ rest) s' → Q (optV st.whole u) s') :
    wpAny (model prg w) A (getAttr (.ref x) "whole" b) Q E s := by
  obtain ⟨dx, o, k, ops, t, rfl, D, _⟩ := W
  exact r_attr C I (I.get (.head _)) (I.get (.tail _ (.head _))) D (cls_428 w) (own_428_whole w) (fget_walk_whole _ _ _ _ _) (handed_opt _ _) (h _)
theorem fset_walk_whole (vw vt lo : Addr) (st : St) (t : Nat → Tok) {i : Option Int} {u : Tok} : fset "whole" (optV i u) (walkF vw vt lo st t) = walkF vw vt lo (st.s_whole i) (upT t 6 u) := by kernel_rfl
theorem wset_whole {i : Option Int} {u : Tok} {v : Value} {Q : Unit → Shared → Prop} (C : Cx w A env g L n) (I : Inv z g L m (own ++ rest) s) (W : Wk own x vw vt lo st) (hv : v = optV i u)
    (h : ∀ own' s', Wk own' x vw vt lo (st.s_whole i) → Inv z g L m (own' ++ rest) s' → Q () s') : wpAny (model prg w) A (setAttr (.ref x) "whole" v) Q E s := by
  obtain ⟨dx, o, k, ops, t, rfl, D, hi⟩ := W
  subst hv
  refine r_set (pre := [(x, instObj 428 dx)]) (post := (lo, listOf ops.toArray k) :: rest) C I (I.get (.head _)) D (cls_428 w) (own_428_whole w) (walkF_len _ _ _ _ _) fun o' s' D' I' => ?_
  rw [fset_walk_whole] at D'
  exact h _ s' ⟨dx, o', k, ops, _, rfl, D', hi⟩ I'
theorem own_428_word (w : World) : OwnA w 428 "word" := by unfold OwnA; k_is
theorem fget_walk_word (vw vt lo : Addr) (st : St) (t : Nat → Tok) : fget "word" (walkF vw vt lo st t) = some (optV st.word (t 7)) := by kernel_rfl
theorem wget_word {b : Bool} {Q : Value → Shared → Prop} (C : Cx w A env g L n) (I : Inv z g L m (own ++ rest) s) (W : Wk own x vw vt lo st) (h : ∀ u s', Inv z g L m (own ++ rest) s' → Q (optV st.word u) s') :
    wpAny (model prg w) A (getAttr (.ref x) "word" b) Q E s := by
  obtain ⟨dx, o, k, ops, t, rfl, D, _⟩ := W
  exact r_attr C I (I.get (.head _)) (I.get (.tail _ (.head _))) D (cls_428 w) (own_428_word w) (fget_walk_word _ _ _ _ _) (handed_opt _ _) (h _)
theorem fset_walk_word (vw vt lo : Addr) (st : St) (t : Nat → Tok) {i : Option Int} {u : Tok} : fset "word" (optV i u) (walkF vw vt lo st t) = walkF vw vt lo (st.s_word i) (upT t 7 u) := by kernel_rfl
theorem wset_word {i : Option Int} {u : Tok} {v : Value} {Q : Unit → Shared → Prop} (C : Cx w A env g L n) (I : Inv z g L m (own ++ rest) s) (W : Wk own x vw vt lo st) (hv : v = optV i u)
    (h : ∀ own' s', Wk own' x vw vt lo (st.s_word i) → Inv z g L m (own' ++ rest) s' → Q () s') : wpAny (model prg w) A (setAttr (.ref x) "word" v) Q E s := by
  obtain ⟨dx, o, k, ops, t, rfl, D, hi⟩ := W
  subst hv
  refine r_set (pre := [(x, instObj 428 dx)]) (post := (lo, listOf ops.toArray k) :: rest) C I (I.get (.head _)) D (cls_428 w) (own_428_word w) (walkF_len _ _ _ _ _) fun o' s' D' I' => ?_
  rw [fset_walk_word] at D'
  exact h _ s' ⟨dx, o', k, ops, _, rfl, D', hi⟩ I'
theorem own_428_string (w : World) : OwnA w 428 "string" := by unfold OwnA; k_is
theorem fget_walk_string (vw vt lo : Addr) (st : St) (t : Nat → Tok) : fget "string" (walkF vw vt lo st t) = some (optV st.string (t 8)) := by kernel_rfl
theorem wget_string {b : Bool} {Q : Value → Shared → Prop} (C : Cx w A env g L n) (I : Inv z g L m (own ++ rest) s) (W : Wk own x vw vt lo st) (h : ∀ u s', Inv z g L m (own ++ rest) s' → Q (optV st.string u) s') :
    wpAny (model prg w) A (getAttr (.ref x) "string" b) Q E s := by
  obtain ⟨dx, o, k, ops, t, rfl, D, _⟩ := W
  exact r_attr C I (I.get (.head _)) (I.get (.tail _ (.head _))) D (cls_428 w) (own_428_string w) (fget_walk_string _ _ _ _ _) (handed_opt _ _) (h _)
theorem fset_walk_string (vw vt lo : Addr) (st : St) (t : Nat → Tok) {i : Option Int} {u : Tok} : fset "string" (optV i u) (walkF vw vt lo st t) = walkF vw vt lo (st.s_string i) (upT t 8 u) := by kernel_rfl
theorem wset_string {i : Option Int} {u : Tok} {v : Value} {Q : Unit → Shared → Prop} (C : Cx w A env g L n) (I : Inv z g L m (own ++ rest) s) (W : Wk own x vw vt lo st) (hv : v = optV i u)
    (h : ∀ own' s', Wk own' x vw vt lo (st.s_string i) → Inv z g L m (own' ++ rest) s' → Q () s') : wpAny (model prg w) A (setAttr (.ref x) "string" v) Q E s := by
  obtain ⟨dx, o, k, ops, t, rfl, D, hi⟩ := W
  subst hv
  refine r_set (pre := [(x, instObj 428 dx)]) (post := (lo, listOf ops.toArray k) :: rest) C I (I.get (.head _)) D (cls_428 w) (own_428_string w) (walkF_len _ _ _ _ _) fun o' s' D' I' => ?_
  rw [fset_walk_string] at D'
  exact h _ s' ⟨dx, o', k, ops, _, rfl, D', hi⟩ I'
theorem own_428_comment (w : World) : OwnA w 428 "comment" := by unfold OwnA; k_is
theorem fget_walk_comment (vw vt lo : Addr) (st : St) (t : Nat → Tok) : fget "comment" (walkF vw vt lo st t) = some (.int st.comment (t 9)) := by kernel_rfl
theorem wget_comment {b : Bool} {Q : Value → Shared → Prop} (C : Cx w A env g L n) (I : Inv z g L m (own ++ rest) s) (W : Wk own x vw vt lo st) (h : ∀ u s', Inv z g L m (own ++ rest) s' → Q (.int st.comment u) s') :
    wpAny (model prg w) A (getAttr (.ref x) "comment" b) Q E s := by
  obtain ⟨dx, o, k, ops, t, rfl, D, _⟩ := W
  exact r_attr C I (I.get (.head _)) (I.get (.tail _ (.head _))) D (cls_428 w) (own_428_comment w) (fget_walk_comment _ _ _ _ _) (rfl) (h _)
theorem fset_walk_comment (vw vt lo : Addr) (st : St) (t : Nat → Tok) {i : Int} {u : Tok} : fset "comment" (.int i u) (walkF vw vt lo st t) = walkF vw vt lo (st.s_comment i) (upT t 9 u) := by kernel_rfl
theorem wset_comment {i : Int} {u : Tok} {v : Value} {Q : Unit → Shared → Prop} (C : Cx w A env g L n) (I : Inv z g L m (own ++ rest) s) (W : Wk own x vw vt lo st) (hv : v = .int i u)
    (h : ∀ own' s', Wk own' x vw vt lo (st.s_comment i) → Inv z g L m (own' ++ rest) s' → Q () s') : wpAny (model prg w) A (setAttr (.ref x) "comment" v) Q E s := by
  obtain ⟨dx, o, k, ops, t, rfl, D, hi⟩ := W
  subst hv
  refine r_set (pre := [(x, instObj 428 dx)]) (post := (lo, listOf ops.toArray k) :: rest) C I (I.get (.head _)) D (cls_428 w) (own_428_comment w) (walkF_len _ _ _ _ _) fun o' s' D' I' => ?_
  rw [fset_walk_comment] at D'
  exact h _ s' ⟨dx, o', k, ops, _, rfl, D', hi⟩ I'
theorem own_428_style (w : World) : OwnA w 428 "style" := by unfold OwnA; k_is
theorem fget_walk_style (vw vt lo : Addr) (st : St) (t : Nat → Tok) : fget "style" (walkF vw vt lo st t) = some (.str st.style (t 10)) := by kernel_rfl
theorem wget_style {b : Bool} {Q : Value → Shared → Prop} (C : Cx w A env g L n) (I : Inv z g L m (own ++ rest) s) (W : Wk own x vw vt lo st) (h : ∀ u s', Inv z g L m (own ++ rest) s' → Q (.str st.style u) s') :
    wpAny (model prg w) A (getAttr (.ref x) "style" b) Q E s := by
  obtain ⟨dx, o, k, ops, t, rfl, D, _⟩ := W
  exact r_attr C I (I.get (.head _)) (I.get (.tail _ (.head _))) D (cls_428 w) (own_428_style w) (fget_walk_style _ _ _ _ _) (rfl) (h _)
theorem fset_walk_style (vw vt lo : Addr) (st : St) (t : Nat → Tok) {i : Str} {u : Tok} : fset "style" (.str i u) (walkF vw vt lo st t) = walkF vw vt lo (st.s_style i) (upT t 10 u) := by kernel_rfl
theorem wset_style {i : Str} {u : Tok} {v : Value} {Q : Unit → Shared → Prop} (C : Cx w A env g L n) (I : Inv z g L m (own ++ rest) s) (W : Wk own x vw vt lo st) (hv : v = .str i u)
    (h : ∀ own' s', Wk own' x vw vt lo (st.s_style i) → Inv z g L m (own' ++ rest) s' → Q () s') : wpAny (model prg w) A (setAttr (.ref x) "style" v) Q E s := by
  obtain ⟨dx, o, k, ops, t, rfl, D, hi⟩ := W
  subst hv
  refine r_set (pre := [(x, instObj 428 dx)]) (post := (lo, listOf ops.toArray k) :: rest) C I (I.get (.head _)) D (cls_428 w) (own_428_style w) (walkF_len _ _ _ _ _) fun o' s' D' I' => ?_
  rw [fset_walk_style] at D'
  exact h _ s' ⟨dx, o', k, ops, _, rfl, D', hi⟩ I'
theorem own_428_nests (w : World) : OwnA w 428 "nests" := by unfold OwnA; k_is
theorem fget_walk_nests (vw vt lo : Addr) (st : St) (t : Nat → Tok) : fget "nests" (walkF vw vt lo st t) = some (.bool st.nests) := by kernel_rfl
theorem wget_nests {b : Bool} {Q : Value → Shared → Prop} (C : Cx w A env g L n) (I : Inv z g L m (own ++ rest) s) (W : Wk own x vw vt lo st) (h : ∀ s', Inv z g L m (own ++ rest) s' → Q (.bool st.nests) s') :
    wpAny (model prg w) A (getAttr (.ref x) "nests" b) Q E s := by
  obtain ⟨dx, o, k, ops, t, rfl, D, _⟩ := W
  exact r_attr C I (I.get (.head _)) (I.get (.tail _ (.head _))) D (cls_428 w) (own_428_nests w) (fget_walk_nests _ _ _ _ _) (rfl) (h)
theorem fset_walk_nests (vw vt lo : Addr) (st : St) (t : Nat → Tok) {i : Bool} : fset "nests" (.bool i) (walkF vw vt lo st t) = walkF vw vt lo (st.s_nests i) t := by kernel_rfl
theorem wset_nests {i : Bool} {v : Value} {Q : Unit → Shared → Prop} (C : Cx w A env g L n) (I : Inv z g L m (own ++ rest) s) (W : Wk own x vw vt lo st) (hv : v = .bool i)
    (h : ∀ own' s', Wk own' x vw vt lo (st.s_nests i) → Inv z g L m (own' ++ rest) s' → Q () s') : wpAny (model prg w) A (setAttr (.ref x) "nests" v) Q E s := by
  obtain ⟨dx, o, k, ops, t, rfl, D, hi⟩ := W
  subst hv
  refine r_set (pre := [(x, instObj 428 dx)]) (post := (lo, listOf ops.toArray k) :: rest) C I (I.get (.head _)) D (cls_428 w) (own_428_nests w) (walkF_len _ _ _ _ _) fun o' s' D' I' => ?_
  rw [fset_walk_nests] at D'
  exact h _ s' ⟨dx, o', k, ops, _, rfl, D', hi⟩ I'
theorem own_428_start (w : World) : OwnA w 428 "start" := by unfold OwnA; k_is
theorem fget_walk_start (vw vt lo : Addr) (st : St) (t : Nat → Tok) : fget "start" (walkF vw vt lo st t) = some (optV st.start (t 12)) := by kernel_rfl
theorem wget_start {b : Bool} {Q : Value → Shared → Prop} (C : Cx w A env g L n) (I : Inv z g L m (own ++ rest) s) (W : Wk own x vw vt lo st) (h : ∀ u s', Inv z g L m (own ++ rest) s' → Q (optV st.start u) s') :
    wpAny (model prg w) A (getAttr (.ref x) "start" b) Q E s := by
  obtain ⟨dx, o, k, ops, t, rfl, D, _⟩ := W
  exact r_attr C I (I.get (.head _)) (I.get (.tail _ (.head _))) D (cls_428 w) (own_428_start w) (fget_walk_start _ _ _ _ _) (handed_opt _ _) (h _)
theorem fset_walk_start (vw vt lo : Addr) (st : St) (t : Nat → Tok) {i : Option Int} {u : Tok} : fset "start" (optV i u) (walkF vw vt lo st t) = walkF vw vt lo (st.s_start i) (upT t 12 u) := by kernel_rfl
theorem wset_start {i : Option Int} {u : Tok} {v : Value} {Q : Unit → Shared → Prop} (C : Cx w A env g L n) (I : Inv z g L m (own ++ rest) s) (W : Wk own x vw vt lo st) (hv : v = optV i u)
    (h : ∀ own' s', Wk own' x vw vt lo (st.s_start i) → Inv z g L m (own' ++ rest) s' → Q () s') : wpAny (model prg w) A (setAttr (.ref x) "start" v) Q E s := by
  obtain ⟨dx, o, k, ops, t, rfl, D, hi⟩ := W
  subst hv
  refine r_set (pre := [(x, instObj 428 dx)]) (post := (lo, listOf ops.toArray k) :: rest) C I (I.get (.head _)) D (cls_428 w) (own_428_start w) (walkF_len _ _ _ _ _) fun o' s' D' I' => ?_
  rw [fset_walk_start] at D'
  exact h _ s' ⟨dx, o', k, ops, _, rfl, D', hi⟩ I'
theorem own_428_quoted (w : World) : OwnA w 428 "quoted" := by unfold OwnA; k_is
theorem fget_walk_quoted (vw vt lo : Addr) (st : St) (t : Nat → Tok) : fget "quoted" (walkF vw vt lo st t) = some (.bool st.quoted) := by kernel_rfl
theorem wget_quoted {b : Bool} {Q : Value → Shared → Prop} (C : Cx w A env g L n) (I : Inv z g L m (own ++ rest) s) (W : Wk own x vw vt lo st) (h : ∀ s', Inv z g L m (own ++ rest) s' → Q (.bool st.quoted) s') :
    wpAny (model prg w) A (getAttr (.ref x) "quoted" b) Q E s := by
  obtain ⟨dx, o, k, ops, t, rfl, D, _⟩ := W
  exact r_attr C I (I.get (.head _)) (I.get (.tail _ (.head _))) D (cls_428 w) (own_428_quoted w) (fget_walk_quoted _ _ _ _ _) (rfl) (h)
theorem fset_walk_quoted (vw vt lo : Addr) (st : St) (t : Nat → Tok) {i : Bool} : fset "quoted" (.bool i) (walkF vw vt lo st t) = walkF vw vt lo (st.s_quoted i) t := by kernel_rfl
theorem wset_quoted {i : Bool} {v : Value} {Q : Unit → Shared → Prop} (C : Cx w A env g L n) (I : Inv z g L m (own ++ rest) s) (W : Wk own x vw vt lo st) (hv : v = .bool i)
    (h : ∀ own' s', Wk own' x vw vt lo (st.s_quoted i) → Inv z g L m (own' ++ rest) s' → Q () s') : wpAny (model prg w) A (setAttr (.ref x) "quoted" v) Q E s := by
  obtain ⟨dx, o, k, ops, t, rfl, D, hi⟩ := W
  subst hv
  refine r_set (pre := [(x, instObj 428 dx)]) (post := (lo, listOf ops.toArray k) :: rest) C I (I.get (.head _)) D (cls_428 w) (own_428_quoted w) (walkF_len _ _ _ _ _) fun o' s' D' I' => ?_
  rw [fset_walk_quoted] at D'
  exact h _ s' ⟨dx, o', k, ops, _, rfl, D', hi⟩ I'
theorem own_428_half (w : World) : OwnA w 428 "half" := by unfold OwnA; k_is
theorem fget_walk_half (vw vt lo : Addr) (st : St) (t : Nat → Tok) : fget "half" (walkF vw vt lo st t) = some (.str st.half (t 14)) := by kernel_rfl
theorem wget_half {b : Bool} {Q : Value → Shared → Prop} (C : Cx w A env g L n) (I : Inv z g L m (own ++ rest) s) (W : Wk own x vw vt lo st) (h : ∀ u s', Inv z g L m (own ++ rest) s' → Q (.str st.half u) s') :
    wpAny (model prg w) A (getAttr (.ref x) "half" b) Q E s := by
  obtain ⟨dx, o, k, ops, t, rfl, D, _⟩ := W
  exact r_attr C I (I.get (.head _)) (I.get (.tail _ (.head _))) D (cls_428 w) (own_428_half w) (fget_walk_half _ _ _ _ _) (rfl) (h _)
theorem fset_walk_half (vw vt lo : Addr) (st : St) (t : Nat → Tok) {i : Str} {u : Tok} : fset "half" (.str i u) (walkF vw vt lo st t) = walkF vw vt lo (st.s_half i) (upT t 14 u) := by kernel_rfl
theorem wset_half {i : Str} {u : Tok} {v : Value} {Q : Unit → Shared → Prop} (C : Cx w A env g L n) (I : Inv z g L m (own ++ rest) s) (W : Wk own x vw vt lo st) (hv : v = .str i u)
    (h : ∀ own' s', Wk own' x vw vt lo (st.s_half i) → Inv z g L m (own' ++ rest) s' → Q () s') : wpAny (model prg w) A (setAttr (.ref x) "half" v) Q E s := by
  obtain ⟨dx, o, k, ops, t, rfl, D, hi⟩ := W
  subst hv
  refine r_set (pre := [(x, instObj 428 dx)]) (post := (lo, listOf ops.toArray k) :: rest) C I (I.get (.head _)) D (cls_428 w) (own_428_half w) (walkF_len _ _ _ _ _) fun o' s' D' I' => ?_
  rw [fset_walk_half] at D'
  exact h _ s' ⟨dx, o', k, ops, _, rfl, D', hi⟩ I'
theorem fn_313 (w : World) : ((hdKp w.params).lookup 313).any fnO = true := by kernel_rfl
theorem meth_428_state (w : World) : MethA w 428 "state" 313 := ⟨by k_is, isFn_of (fn_313 w)⟩
theorem fgetn_walk_state (vw vt lo : Addr) (st : St) (t : Nat → Tok) : fget "state" (walkF vw vt lo st t) = none := by kernel_rfl
theorem wmeth_state {pl : Sem Bool} {Q : Value × List Value → Shared → Prop} (C : Cx w A env g L n) (I : Inv z g L m (own ++ rest) s) (W : Wk own x vw vt lo st) (h : Q (.ref 313, [.ref x]) s) :
    wpAny (model prg w) A (getMethod (.ref x) "state" pl) Q E s := by
  obtain ⟨dx, o, k, ops, t, rfl, D, _⟩ := W
  exact r_meth C I (I.get (.head _)) (I.get (.tail _ (.head _))) D (cls_428 w) (meth_428_state w) (fgetn_walk_state _ _ _ _ _) h
theorem fn_320 (w : World) : ((hdKp w.params).lookup 320).any fnO = true := by kernel_rfl
theorem meth_428_depth (w : World) : MethA w 428 "depth" 320 := ⟨by k_is, isFn_of (fn_320 w)⟩
theorem fgetn_walk_depth (vw vt lo : Addr) (st : St) (t : Nat → Tok) : fget "depth" (walkF vw vt lo st t) = none := by kernel_rfl
theorem wmeth_depth {pl : Sem Bool} {Q : Value × List Value → Shared → Prop} (C : Cx w A env g L n) (I : Inv z g L m (own ++ rest) s) (W : Wk own x vw vt lo st) (h : Q (.ref 320, [.ref x]) s) :
    wpAny (model prg w) A (getMethod (.ref x) "depth" pl) Q E s := by
  obtain ⟨dx, o, k, ops, t, rfl, D, _⟩ := W
  exact r_meth C I (I.get (.head _)) (I.get (.tail _ (.head _))) D (cls_428 w) (meth_428_depth w) (fgetn_walk_depth _ _ _ _ _) h
theorem fn_327 (w : World) : ((hdKp w.params).lookup 327).any fnO = true := by kernel_rfl
theorem meth_428_end_word (w : World) : MethA w 428 "end_word" 327 := ⟨by k_is, isFn_of (fn_327 w)⟩
theorem fgetn_walk_end_word (vw vt lo : Addr) (st : St) (t : Nat → Tok) : fget "end_word" (walkF vw vt lo st t) = none := by kernel_rfl
theorem wmeth_end_word {pl : Sem Bool} {Q : Value × List Value → Shared → Prop} (C : Cx w A env g L n) (I : Inv z g L m (own ++ rest) s) (W : Wk own x vw vt lo st) (h : Q (.ref 327, [.ref x]) s) :
    wpAny (model prg w) A (getMethod (.ref x) "end_word" pl) Q E s := by
  obtain ⟨dx, o, k, ops, t, rfl, D, _⟩ := W
  exact r_meth C I (I.get (.head _)) (I.get (.tail _ (.head _))) D (cls_428 w) (meth_428_end_word w) (fgetn_walk_end_word _ _ _ _ _) h
theorem fn_334 (w : World) : ((hdKp w.params).lookup 334).any fnO = true := by kernel_rfl
theorem meth_428_begin_word (w : World) : MethA w 428 "begin_word" 334 := ⟨by k_is, isFn_of (fn_334 w)⟩
theorem fgetn_walk_begin_word (vw vt lo : Addr) (st : St) (t : Nat → Tok) : fget "begin_word" (walkF vw vt lo st t) = none := by kernel_rfl
theorem wmeth_begin_word {pl : Sem Bool} {Q : Value × List Value → Shared → Prop} (C : Cx w A env g L n) (I : Inv z g L m (own ++ rest) s) (W : Wk own x vw vt lo st) (h : Q (.ref 334, [.ref x]) s) :
    wpAny (model prg w) A (getMethod (.ref x) "begin_word" pl) Q E s := by
  obtain ⟨dx, o, k, ops, t, rfl, D, _⟩ := W
  exact r_meth C I (I.get (.head _)) (I.get (.tail _ (.head _))) D (cls_428 w) (meth_428_begin_word w) (fgetn_walk_begin_word _ _ _ _ _) h
theorem fn_341 (w : World) : ((hdKp w.params).lookup 341).any fnO = true := by kernel_rfl
theorem meth_428_open_at (w : World) : MethA w 428 "open_at" 341 := ⟨by k_is, isFn_of (fn_341 w)⟩
theorem fgetn_walk_open_at (vw vt lo : Addr) (st : St) (t : Nat → Tok) : fget "open_at" (walkF vw vt lo st t) = none := by kernel_rfl
theorem wmeth_open_at {pl : Sem Bool} {Q : Value × List Value → Shared → Prop} (C : Cx w A env g L n) (I : Inv z g L m (own ++ rest) s) (W : Wk own x vw vt lo st) (h : Q (.ref 341, [.ref x]) s) :
    wpAny (model prg w) A (getMethod (.ref x) "open_at" pl) Q E s := by
  obtain ⟨dx, o, k, ops, t, rfl, D, _⟩ := W
  exact r_meth C I (I.get (.head _)) (I.get (.tail _ (.head _))) D (cls_428 w) (meth_428_open_at w) (fgetn_walk_open_at _ _ _ _ _) h
theorem fn_348 (w : World) : ((hdKp w.params).lookup 348).any fnO = true := by kernel_rfl
theorem meth_428_close (w : World) : MethA w 428 "close" 348 := ⟨by k_is, isFn_of (fn_348 w)⟩
theorem fgetn_walk_close (vw vt lo : Addr) (st : St) (t : Nat → Tok) : fget "close" (walkF vw vt lo st t) = none := by kernel_rfl
theorem wmeth_close {pl : Sem Bool} {Q : Value × List Value → Shared → Prop} (C : Cx w A env g L n) (I : Inv z g L m (own ++ rest) s) (W : Wk own x vw vt lo st) (h : Q (.ref 348, [.ref x]) s) :
    wpAny (model prg w) A (getMethod (.ref x) "close" pl) Q E s := by
  obtain ⟨dx, o, k, ops, t, rfl, D, _⟩ := W
  exact r_meth C I (I.get (.head _)) (I.get (.tail _ (.head _))) D (cls_428 w) (meth_428_close w) (fgetn_walk_close _ _ _ _ _) h
theorem fn_355 (w : World) : ((hdKp w.params).lookup 355).any fnO = true := by kernel_rfl
theorem meth_428_begin_comment (w : World) : MethA w 428 "begin_comment" 355 := ⟨by k_is, isFn_of (fn_355 w)⟩
theorem fgetn_walk_begin_comment (vw vt lo : Addr) (st : St) (t : Nat → Tok) : fget "begin_comment" (walkF vw vt lo st t) = none := by kernel_rfl
theorem wmeth_begin_comment {pl : Sem Bool} {Q : Value × List Value → Shared → Prop} (C : Cx w A env g L n) (I : Inv z g L m (own ++ rest) s) (W : Wk own x vw vt lo st) (h : Q (.ref 355, [.ref x]) s) :
    wpAny (model prg w) A (getMethod (.ref x) "begin_comment" pl) Q E s := by
  obtain ⟨dx, o, k, ops, t, rfl, D, _⟩ := W
  exact r_meth C I (I.get (.head _)) (I.get (.tail _ (.head _))) D (cls_428 w) (meth_428_begin_comment w) (fgetn_walk_begin_comment _ _ _ _ _) h
theorem fn_362 (w : World) : ((hdKp w.params).lookup 362).any fnO = true := by kernel_rfl
theorem meth_428_leave_comment (w : World) : MethA w 428 "leave_comment" 362 := ⟨by k_is, isFn_of (fn_362 w)⟩
theorem fgetn_walk_leave_comment (vw vt lo : Addr) (st : St) (t : Nat → Tok) : fget "leave_comment" (walkF vw vt lo st t) = none := by kernel_rfl
theorem wmeth_leave_comment {pl : Sem Bool} {Q : Value × List Value → Shared → Prop} (C : Cx w A env g L n) (I : Inv z g L m (own ++ rest) s) (W : Wk own x vw vt lo st) (h : Q (.ref 362, [.ref x]) s) :
    wpAny (model prg w) A (getMethod (.ref x) "leave_comment" pl) Q E s := by
  obtain ⟨dx, o, k, ops, t, rfl, D, _⟩ := W
  exact r_meth C I (I.get (.head _)) (I.get (.tail _ (.head _))) D (cls_428 w) (meth_428_leave_comment w) (fgetn_walk_leave_comment _ _ _ _ _) h
theorem fn_369 (w : World) : ((hdKp w.params).lookup 369).any fnO = true := by kernel_rfl
theorem meth_428_begin_string (w : World) : MethA w 428 "begin_string" 369 := ⟨by k_is, isFn_of (fn_369 w)⟩
theorem fgetn_walk_begin_string (vw vt lo : Addr) (st : St) (t : Nat → Tok) : fget "begin_string" (walkF vw vt lo st t) = none := by kernel_rfl
theorem wmeth_begin_string {pl : Sem Bool} {Q : Value × List Value → Shared → Prop} (C : Cx w A env g L n) (I : Inv z g L m (own ++ rest) s) (W : Wk own x vw vt lo st) (h : Q (.ref 369, [.ref x]) s) :
    wpAny (model prg w) A (getMethod (.ref x) "begin_string" pl) Q E s := by
  obtain ⟨dx, o, k, ops, t, rfl, D, _⟩ := W
  exact r_meth C I (I.get (.head _)) (I.get (.tail _ (.head _))) D (cls_428 w) (meth_428_begin_string w) (fgetn_walk_begin_string _ _ _ _ _) h
theorem fn_376 (w : World) : ((hdKp w.params).lookup 376).any fnO = true := by kernel_rfl
theorem meth_428_end_string (w : World) : MethA w 428 "end_string" 376 := ⟨by k_is, isFn_of (fn_376 w)⟩
theorem fgetn_walk_end_string (vw vt lo : Addr) (st : St) (t : Nat → Tok) : fget "end_string" (walkF vw vt lo st t) = none := by kernel_rfl
theorem wmeth_end_string {pl : Sem Bool} {Q : Value × List Value → Shared → Prop} (C : Cx w A env g L n) (I : Inv z g L m (own ++ rest) s) (W : Wk own x vw vt lo st) (h : Q (.ref 376, [.ref x]) s) :
    wpAny (model prg w) A (getMethod (.ref x) "end_string" pl) Q E s := by
  obtain ⟨dx, o, k, ops, t, rfl, D, _⟩ := W
  exact r_meth C I (I.get (.head _)) (I.get (.tail _ (.head _))) D (cls_428 w) (meth_428_end_string w) (fgetn_walk_end_string _ _ _ _ _) h
theorem fn_383 (w : World) : ((hdKp w.params).lookup 383).any fnO = true := by kernel_rfl
theorem meth_428_take (w : World) : MethA w 428 "take" 383 := ⟨by k_is, isFn_of (fn_383 w)⟩
theorem fgetn_walk_take (vw vt lo : Addr) (st : St) (t : Nat → Tok) : fget "take" (walkF vw vt lo st t) = none := by kernel_rfl
theorem wmeth_take {pl : Sem Bool} {Q : Value × List Value → Shared → Prop} (C : Cx w A env g L n) (I : Inv z g L m (own ++ rest) s) (W : Wk own x vw vt lo st) (h : Q (.ref 383, [.ref x]) s) :
    wpAny (model prg w) A (getMethod (.ref x) "take" pl) Q E s := by
  obtain ⟨dx, o, k, ops, t, rfl, D, _⟩ := W
  exact r_meth C I (I.get (.head _)) (I.get (.tail _ (.head _))) D (cls_428 w) (meth_428_take w) (fgetn_walk_take _ _ _ _ _) h
theorem fn_390 (w : World) : ((hdKp w.params).lookup 390).any fnO = true := by kernel_rfl
theorem meth_428_step_in_comment (w : World) : MethA w 428 "step_in_comment" 390 := ⟨by k_is, isFn_of (fn_390 w)⟩
theorem fgetn_walk_step_in_comment (vw vt lo : Addr) (st : St) (t : Nat → Tok) : fget "step_in_comment" (walkF vw vt lo st t) = none := by kernel_rfl
theorem wmeth_step_in_comment {pl : Sem Bool} {Q : Value × List Value → Shared → Prop} (C : Cx w A env g L n) (I : Inv z g L m (own ++ rest) s) (W : Wk own x vw vt lo st) (h : Q (.ref 390, [.ref x]) s) :
    wpAny (model prg w) A (getMethod (.ref x) "step_in_comment" pl) Q E s := by
  obtain ⟨dx, o, k, ops, t, rfl, D, _⟩ := W
  exact r_meth C I (I.get (.head _)) (I.get (.tail _ (.head _))) D (cls_428 w) (meth_428_step_in_comment w) (fgetn_walk_step_in_comment _ _ _ _ _) h
theorem fn_397 (w : World) : ((hdKp w.params).lookup 397).any fnO = true := by kernel_rfl
theorem meth_428_step_in_string (w : World) : MethA w 428 "step_in_string" 397 := ⟨by k_is, isFn_of (fn_397 w)⟩
theorem fgetn_walk_step_in_string (vw vt lo : Addr) (st : St) (t : Nat → Tok) : fget "step_in_string" (walkF vw vt lo st t) = none := by kernel_rfl
theorem wmeth_step_in_string {pl : Sem Bool} {Q : Value × List Value → Shared → Prop} (C : Cx w A env g L n) (I : Inv z g L m (own ++ rest) s) (W : Wk own x vw vt lo st) (h : Q (.ref 397, [.ref x]) s) :
    wpAny (model prg w) A (getMethod (.ref x) "step_in_string" pl) Q E s := by
  obtain ⟨dx, o, k, ops, t, rfl, D, _⟩ := W
  exact r_meth C I (I.get (.head _)) (I.get (.tail _ (.head _))) D (cls_428 w) (meth_428_step_in_string w) (fgetn_walk_step_in_string _ _ _ _ _) h
theorem fn_404 (w : World) : ((hdKp w.params).lookup 404).any fnO = true := by kernel_rfl
theorem meth_428_finish_half (w : World) : MethA w 428 "finish_half" 404 := ⟨by k_is, isFn_of (fn_404 w)⟩
theorem fgetn_walk_finish_half (vw vt lo : Addr) (st : St) (t : Nat → Tok) : fget "finish_half" (walkF vw vt lo st t) = none := by kernel_rfl
theorem wmeth_finish_half {pl : Sem Bool} {Q : Value × List Value → Shared → Prop} (C : Cx w A env g L n) (I : Inv z g L m (own ++ rest) s) (W : Wk own x vw vt lo st) (h : Q (.ref 404, [.ref x]) s) :
    wpAny (model prg w) A (getMethod (.ref x) "finish_half" pl) Q E s := by
  obtain ⟨dx, o, k, ops, t, rfl, D, _⟩ := W
  exact r_meth C I (I.get (.head _)) (I.get (.tail _ (.head _))) D (cls_428 w) (meth_428_finish_half w) (fgetn_walk_finish_half _ _ _ _ _) h
theorem fn_411 (w : World) : ((hdKp w.params).lookup 411).any fnO = true := by kernel_rfl
theorem meth_428_step_plain (w : World) : MethA w 428 "step_plain" 411 := ⟨by k_is, isFn_of (fn_411 w)⟩
theorem fgetn_walk_step_plain (vw vt lo : Addr) (st : St) (t : Nat → Tok) : fget "step_plain" (walkF vw vt lo st t) = none := by kernel_rfl
theorem wmeth_step_plain {pl : Sem Bool} {Q : Value × List Value → Shared → Prop} (C : Cx w A env g L n) (I : Inv z g L m (own ++ rest) s) (W : Wk own x vw vt lo st) (h : Q (.ref 411, [.ref x]) s) :
    wpAny (model prg w) A (getMethod (.ref x) "step_plain" pl) Q E s := by
  obtain ⟨dx, o, k, ops, t, rfl, D, _⟩ := W
  exact r_meth C I (I.get (.head _)) (I.get (.tail _ (.head _))) D (cls_428 w) (meth_428_step_plain w) (fgetn_walk_step_plain _ _ _ _ _) h
theorem fn_418 (w : World) : ((hdKp w.params).lookup 418).any fnO = true := by kernel_rfl
theorem meth_428_step_by_kind (w : World) : MethA w 428 "step_by_kind" 418 := ⟨by k_is, isFn_of (fn_418 w)⟩
theorem fgetn_walk_step_by_kind (vw vt lo : Addr) (st : St) (t : Nat → Tok) : fget "step_by_kind" (walkF vw vt lo st t) = none := by kernel_rfl
theorem wmeth_step_by_kind {pl : Sem Bool} {Q : Value × List Value → Shared → Prop} (C : Cx w A env g L n) (I : Inv z g L m (own ++ rest) s) (W : Wk own x vw vt lo st) (h : Q (.ref 418, [.ref x]) s) :
    wpAny (model prg w) A (getMethod (.ref x) "step_by_kind" pl) Q E s := by
  obtain ⟨dx, o, k, ops, t, rfl, D, _⟩ := W
  exact r_meth C I (I.get (.head _)) (I.get (.tail _ (.head _))) D (cls_428 w) (meth_428_step_by_kind w) (fgetn_walk_step_by_kind _ _ _ _ _) h
theorem fn_425 (w : World) : ((hdKp w.params).lookup 425).any fnO = true := by kernel_rfl
theorem meth_428_step (w : World) : MethA w 428 "step" 425 := ⟨by k_is, isFn_of (fn_425 w)⟩
theorem fgetn_walk_step (vw vt lo : Addr) (st : St) (t : Nat → Tok) : fget "step" (walkF vw vt lo st t) = none := by kernel_rfl
theorem wmeth_step {pl : Sem Bool} {Q : Value × List Value → Shared → Prop} (C : Cx w A env g L n) (I : Inv z g L m (own ++ rest) s) (W : Wk own x vw vt lo st) (h : Q (.ref 425, [.ref x]) s) :
    wpAny (model prg w) A (getMethod (.ref x) "step" pl) Q E s := by
  obtain ⟨dx, o, k, ops, t, rfl, D, _⟩ := W
  exact r_meth C I (I.get (.head _)) (I.get (.tail _ (.head _))) D (cls_428 w) (meth_428_step w) (fgetn_walk_step _ _ _ _ _) h
end
end
/-! part Rb -/
section
set_option hygiene true
section
variable {z : Shared} {w : World} {M : Model} {A : Around} {env : Env} {g : Heap} {L : Addr} {n : Nat} {m : Str → Option Value} {own rest : Led} {s : Shared} {E : Value → Shared → Prop} {Q : Value → Shared → Prop} {x vw vt lo : Addr} {st : St}
theorem isnot_opt {o : Option Int} {t : Tok} (h1 : ∀ i, o = some i → Q (.bool true) s) (h2 : o = none → Q (.bool false) s) : wpAny M A (compareOp .IsNot (optV o t) .none) Q E s := by
  cases o with
  | none => exact isnot_none_none (h2 rfl)
  | some i => exact wpAny_isNot_other rfl (by intro e; cases e) (h1 i rfl)
theorem is_opt {o : Option Int} {t : Tok} (h1 : ∀ i, o = some i → Q (.bool false) s) (h2 : o = none → Q (.bool true) s) : wpAny M A (compareOp .Is (optV o t) .none) Q E s := by
  cases o with
  | none => exact is_none_none (h2 rfl)
  | some i => exact wpAny_is_other rfl (by intro e; cases e) (h1 i rfl)
theorem eq_opt {o : Option Int} {i : Int} {t u : Tok} (hs : o.isSome = true) (h : Q (.bool (o == some i)) s) : wpAny (model prg w) A (compareOp .Eq (optV o t) (.int i u)) Q E s := by
  cases o with
  | none => cases hs
  | some j => exact eq_int (by have e : (some j == some i) = (j == i) := by simp
                               rw [e] at h; exact h)
theorem eq_opt' {o : Option Int} {i : Int} {t u : Tok} (hs : o.isSome = true) (h : Q (.bool (some i == o)) s) : wpAny (model prg w) A (compareOp .Eq (.int i u) (optV o t)) Q E s := by
  cases o with
  | none => cases hs
  | some j => exact eq_int (by have e : (some i == some j) = (i == j) := by simp
                               rw [e] at h; exact h)
theorem eq_bool {a b : Bool} (h : Q (.bool (a == b)) s) : wpAny (model prg w) A (compareOp .Eq (.bool a) (.bool b)) Q E s := PyProof.Rows.eq_bool h
theorem ite_tt {p q : Prop} (h : p) : if true = true then p else q := h
theorem ite_ff {p q : Prop} (h : q) : if false = true then p else q := h
theorem ite_bb {b : Bool} {p q : Prop} (h1 : b = true → p) (h2 : b = false → q) : if b = true then p else q := by cases b with | true => exact h1 rfl | false => exact h2 rfl
theorem ite_tt' {b : Bool} {p q : Prop} (e : b = true) (h : p) : if b = true then p else q := by subst e; exact h
theorem ite_ff' {b : Bool} {p q : Prop} (e : b = false) (h : q) : if b = true then p else q := by subst e; exact h
theorem ite_dd {c : Prop} [Decidable c] {p q : Prop} (h1 : c → p) (h2 : ¬ c → q) : if decide c = true then p else q := by
  by_cases hc : c
  · rw [if_pos (decide_eq_true hc)]; exact h1 hc
  · rw [if_neg (by rw [decide_eq_false hc]; exact Bool.false_ne_true)]; exact h2 hc
theorem ite_nb {b : Bool} {p q : Prop} (h : if b = true then q else p) : if (!b) = true then p else q := by cases b <;> exact h
/-! steps that take a mark of their own -/
theorem cInt {i : Int} {k : Nat} {pos : Pos} (I : Inv z g L m own s) (h : ∀ s' u, Inv z g L m own s' → Q (.int i u) s') : wpAny M A (eval (.Constant (.int i) k pos) env) Q E s := wpAny_Constant_int (h _ _ (I.tok _))
theorem cStr {x : Str} {k : Nat} {pos : Pos} (I : Inv z g L m own s) (h : ∀ s' u, Inv z g L m own s' → Q (.str x u) s') : wpAny M A (eval (.Constant (.str x) k pos) env) Q E s := Calls.Constant_str (h _ _ (I.tok _))
theorem bAdd {a b : Int} {t u : Tok} (I : Inv z g L m own s) (h : ∀ s' v, Inv z g L m own s' → Q (.int (a + b) v) s') : wpAny (model prg w) A (binaryOp .Add (.int a t) (.int b u)) Q E s := add_int (h _ _ (I.tok _))
theorem bSub {a b : Int} {t u : Tok} (I : Inv z g L m own s) (h : ∀ s' v, Inv z g L m own s' → Q (.int (a - b) v) s') : wpAny (model prg w) A (binaryOp .Sub (.int a t) (.int b u)) Q E s := sub_int (h _ _ (I.tok _))
theorem bCat {a b : Str} {t u : Tok} (I : Inv z g L m own s) (hz : a.length + b.length ≤ sizeLine) (h : ∀ s' v, Inv z g L m own s' → Q (.str (a ++ b) v) s') : wpAny (model prg w) A (binaryOp .Add (.str a t) (.str b u)) Q E s := SBL.add (fun _ _ _ => h _ _ (I.tok _)) hz
theorem uNeg {a : Int} {t : Tok} (I : Inv z g L m own s) (h : ∀ s' v, Inv z g L m own s' → Q (.int (-a) v) s') : wpAny (model prg w) A (unaryOp .USub (.int a t)) Q E s := neg_int (h _ _ (I.tok _))
/-! calls -/
theorem Inv.kin (C : Cx w A env g L n) (I : Inv z g L m own s) : (hdKp w.params).In s.heap := C.K.keeps I.F.keep
theorem cwm0 {pos : Pos} {f : Addr} {v : Value} {env' : Env} (C : Cx w A env g L n) (I : Inv z g L m own s) (hk : ((hdKp w.params).lookup f).any fnO = true) (h : wpAny M A (call (.ref f) [v]) Q E s) :
    wpAny M A (callWith pos (.ref f) [v] (backTo pos (starEach [] env')) []) Q E s := callWith_K0 (I.kin C) (keep_of hk) h
theorem cwf0 {pos : Pos} {f : Addr} {env' : Env} (C : Cx w A env g L n) (I : Inv z g L m own s) (hk : ((hdKp w.params).lookup f).any fnO = true) (h : wpAny M A (call (.ref f) []) Q E s) :
    wpAny M A (callWith pos (.ref f) [] (backTo pos (starEach [] env')) []) Q E s := callWith_K0 (I.kin C) (keep_of hk) h
theorem cwm {pos : Pos} {f : Addr} {v : Value} {env' : Env} {e : Expr} {es : List Expr} (C : Cx w A env g L n) (hk : ((hdKp w.params).lookup f).any fnO = true)
    (he : starEach (e :: es) env' = (false, eval e env') :: starEach es env') (hp : (backTo pos (starEach es env')).any (·.1) = false)
    (h : wpAny M A (spliced (backTo pos (starEach (e :: es) env'))) (fun vs s₁ => (hdKp w.params).In s₁.heap ∧ wpAny M A (call (.ref f) (v :: vs)) Q E s₁) E s) :
    wpAny M A (callWith pos (.ref f) [v] (backTo pos (starEach (e :: es) env')) []) Q E s := callWith_K C.K (keep_of hk) h he hp
theorem cwf {pos : Pos} {f : Addr} {env' : Env} {e : Expr} {es : List Expr} (C : Cx w A env g L n) (hk : ((hdKp w.params).lookup f).any fnO = true)
    (he : starEach (e :: es) env' = (false, eval e env') :: starEach es env') (hp : (backTo pos (starEach es env')).any (·.1) = false)
    (h : wpAny M A (spliced (backTo pos (starEach (e :: es) env'))) (fun vs s₁ => (hdKp w.params).In s₁.heap ∧ wpAny M A (call (.ref f) vs) Q E s₁) E s) :
    wpAny M A (callWith pos (.ref f) [] (backTo pos (starEach (e :: es) env')) []) Q E s := callWith_K C.K (keep_of hk) h he hp
theorem cwc {pos : Pos} {f : Addr} {env' : Env} {e : Expr} {es : List Expr} (C : Cx w A env g L n) (hk : keepIn (hdKp w.params) (.ref f) = true)
    (he : starEach (e :: es) env' = (false, eval e env') :: starEach es env') (hp : (backTo pos (starEach es env')).any (·.1) = false)
    (h : wpAny M A (spliced (backTo pos (starEach (e :: es) env'))) (fun vs s₁ => (hdKp w.params).In s₁.heap ∧ wpAny M A (call (.ref f) vs) Q E s₁) E s) :
    wpAny M A (callWith pos (.ref f) [] (backTo pos (starEach (e :: es) env')) []) Q E s := callWith_K C.K hk h he hp
theorem cbm0 {pos : Pos} {id : String} {v : Value} {env' : Env} (h : wpAny M A (call (.builtin id) [v]) Q E s) : wpAny M A (callWith pos (.builtin id) [v] (backTo pos (starEach [] env')) []) Q E s := callWith_method0 h
theorem cbm {pos : Pos} {id : String} {v : Value} {env' : Env} {e : Expr} {es : List Expr} (he : starEach (e :: es) env' = (false, eval e env') :: starEach es env') (hp : (backTo pos (starEach es env')).any (·.1) = false)
    (h : wpAny M A (spliced (backTo pos (starEach (e :: es) env'))) (fun vs s₁ => wpAny M A (call (.builtin id) (v :: vs)) Q E s₁) E s) : wpAny M A (callWith pos (.builtin id) [v] (backTo pos (starEach (e :: es) env')) []) Q E s := callWith_method1 h he hp
theorem cbf {pos : Pos} {id : String} {env' : Env} {e : Expr} {es : List Expr} (he : starEach (e :: es) env' = (false, eval e env') :: starEach es env') (hp : (backTo pos (starEach es env')).any (·.1) = false)
    (h : wpAny M A (spliced (backTo pos (starEach (e :: es) env'))) (fun vs s₁ => wpAny M A (call (.builtin id) vs) Q E s₁) E s) : wpAny M A (callWith pos (.builtin id) [] (backTo pos (starEach (e :: es) env')) []) Q E s := PyProof.Rows.callWith_builtin1 h he hp
/-! the walk's list -/
theorem wl_mappend {pl : Sem Bool} {Q : Value × List Value → Shared → Prop} (I : Inv z g L m (own ++ rest) s) (W : Wk own x vw vt lo st) (h : Q (.builtin "list.append", [.ref lo]) s) : wpAny (model prg w) A (getMethod (.ref lo) "append" pl) Q E s := by
  obtain ⟨dx, o, k, ops, t, rfl, D, hi⟩ := W
  exact kl_method I.N (.tail _ (.tail _ (.head _))) slot_list_append type_list_append h
theorem wl_mpop {pl : Sem Bool} {Q : Value × List Value → Shared → Prop} (I : Inv z g L m (own ++ rest) s) (W : Wk own x vw vt lo st) (h : Q (.builtin "list.pop", [.ref lo]) s) : wpAny (model prg w) A (getMethod (.ref lo) "pop" pl) Q E s := by
  obtain ⟨dx, o, k, ops, t, rfl, D, hi⟩ := W
  exact kl_method I.N (.tail _ (.tail _ (.head _))) PySem.F.slot_list_pop PySem.F.type_list_pop h
theorem ints_append {vs : List Value} {ns : List Int} (h : IntsAre vs ns) (p : Int) (u : Tok) : IntsAre (vs ++ [.int p u]) (ns ++ [p]) := by
  induction h with
  | nil => exact .cons _ _ .nil
  | cons k t r ih => exact .cons k t ih
theorem walkF_opens (st : St) (t : Nat → Tok) (ns : List Int) : walkF vw vt lo st t = walkF vw vt lo (st.s_opens ns) t := rfl
theorem wl_append {p : Int} {u : Tok} (I : Inv z g L m (own ++ rest) s) (W : Wk own x vw vt lo st) (hz : st.opens.length ≤ 1000)
    (h : ∀ own' s', Wk own' x vw vt lo (st.s_opens (st.opens ++ [p])) → Inv z g L m (own' ++ rest) s' → Q .none s') : wpAny (model prg w) A (call (.builtin "list.append") [.ref lo, .int p u]) Q E s := by
  obtain ⟨dx, o, k, ops, t, rfl, D, hi⟩ := W
  have q := nd_mid (pre := [(x, instObj 428 dx), (dx, o)]) (post := rest) I.nd
  refine append_K (its := ops.toArray) (n := k) I.F I.N (Upd.mid [(x, instObj 428 dx), (dx, o)] rest q.1 q.2) (fun h' F' N' => ?_) (by rw [List.size_toArray, hi.length, PySem.sizeLine_eq]; omega)
  rw [List.push_toArray] at N'
  exact h [(x, instObj 428 dx), (dx, o), (lo, listOf (ops ++ [Value.int p u]).toArray (k + 1))] _ ⟨dx, o, k + 1, ops ++ [Value.int p u], t, rfl, D, ints_append hi p u⟩ (I.mk' _ F' N' (nd_chg (pre := [(x, instObj 428 dx), (dx, o)]) (post := rest) I.nd))
theorem wl_pop (I : Inv z g L m (own ++ rest) s) (W : Wk own x vw vt lo st) (hne : st.opens ≠ []) (hz : st.opens.length ≤ 1000)
    (h : ∀ own' s' u, Wk own' x vw vt lo (st.s_opens st.opens.dropLast) → Inv z g L m (own' ++ rest) s' → Q (.int (st.opens.getLastD 0) u) s') : wpAny (model prg w) A (call (.builtin "list.pop") [.ref lo]) Q E s := by
  obtain ⟨dx, o, k, ops, t, rfl, D, hi⟩ := W
  have q := nd_mid (pre := [(x, instObj 428 dx), (dx, o)]) (post := rest) I.nd
  have hl := hi.length
  refine kpa_pop (us := ops) (n := k) I.F I.N (Upd.mid [(x, instObj 428 dx), (dx, o)] rest q.1 q.2) hi (by rw [hl]; exact List.length_pos_iff.mpr hne) (by rw [hl, PySem.sizeLine_eq]; omega) (fun h' u F' N' hi' => ?_)
  exact h [(x, instObj 428 dx), (dx, o), (lo, listOf ops.dropLast.toArray (k + 1))] _ u ⟨dx, o, k + 1, ops.dropLast, t, rfl, D, hi'⟩ (I.mk' _ F' N' (nd_chg (pre := [(x, instObj 428 dx), (dx, o)]) (post := rest) I.nd))
theorem wl_len (I : Inv z g L m (own ++ rest) s) (W : Wk own x vw vt lo st) (hz : st.opens.length ≤ 1001)
    (h : ∀ s' u, Inv z g L m (own ++ rest) s' → Q (.int (st.opens.length : Int) u) s') : wpAny (model prg w) A (call (.builtin "len") [.ref lo]) Q E s := by
  obtain ⟨dx, o, k, ops, t, rfl, D, hi⟩ := W
  have hl := hi.length
  have e := I.get (.tail _ (.tail _ (.head _)) : (lo, listOf ops.toArray k) ∈ [(x, instObj 428 dx), (dx, o), (lo, listOf ops.toArray k)] ++ rest)
  refine len_list ⟨_, e, rfl, k, rfl⟩ (by rw [List.size_toArray, hl]; omega) ?_
  have h' := h _ (s.toks + 1) (I.tok (s.toks + 1 + 1))
  rw [List.size_toArray, hl]
  exact h'
theorem newNil (I : Inv z g L m own s) (h : ∀ l s', Inv z g L m own s' → s'.heap.IsList l ([] : List Value).toArray → Q (.ref l) s') : wpAny (model prg w) A (newList []) Q E s :=
  newList_K I.F I.N (fun l h' F' N' _ => h l _ (I.mk' _ F' (fun p hp => N' p (.tail _ hp)) I.nd) ⟨_, (N' (l, _) (.head _)).1, rfl, 0, rfl⟩) (Nat.le_of_ble_eq_true rfl)
theorem wl_eqnil {l : Addr} (C : Cx w A env g L n) (I : Inv z g L m (own ++ rest) s) (W : Wk own x vw vt lo st) (hl : s.heap.IsList l ([] : List Value).toArray) (h : Q (.bool (decide (st.opens = []))) s) : wpAny (model prg w) A (compareOp .Eq (.ref lo) (.ref l)) Q E s := by
  obtain ⟨dx, o, k, ops, t, rfl, D, hi⟩ := W
  have e := I.get (.tail _ (.tail _ (.head _)) : (lo, listOf ops.toArray k) ∈ [(x, instObj 428 dx), (dx, o), (lo, listOf ops.toArray k)] ++ rest)
  exact eq_intsK ⟨_, e, rfl, k, rfl⟩ hi hl .nil (by have := C.units; omega) h
theorem rmin {a b : Int} {t u : Tok} (C : Cx w A env g L n) (I : Inv z g L m own s) (h : ∀ s' v, Inv z g L m own s' → Q (.int (min a b) v) s') : wpAny (model prg w) A (call (.builtin "min") [.int a t, .int b u]) Q E s := by
  refine min_two_N C.noHandled I.F I.N fun h' tk F' N' => ?_
  have e : (if b < a then b else a) = min a b := by rw [Int.min_def]; split <;> split <;> omega
  rw [e]
  exact h _ _ (I.mk' _ F' N' I.nd)
end
end
/-! part Ob -/
section
set_option hygiene true
theorem fill_Ob (w : World) : hdKp w.params = hdKp w.params ∧ PySem.Challenge.rw_np0078_01 = PySem.Challenge.rw_np0078_01 := by
  k_fill
  exact ⟨rfl, rfl⟩
abbrev inG (g : Heap) : Addr → Obj → Prop := fun a o => g.get? a = some o
abbrev inGR (g : Heap) (rest : Led) : Addr → Obj → Prop := fun a o => g.get? a = some o ∨ (a, o) ∈ rest
abbrev Reg := Addr → Obj → Prop
def Reg.le (P P' : Reg) : Prop := ∀ a o, P a o → P' a o
theorem le_up {g : Heap} {rest : Led} : Reg.le (inG g) (inGR g rest) := fun _ _ h => .inl h
theorem le_down {g g' : Heap} {rest : Led} (sb : Sub g g') (hr : ∀ p ∈ rest, g'.get? p.1 = some p.2) : Reg.le (inGR g rest) (inG g') := fun a o h => h.elim (sb a o) (hr (a, o))
theorem le_sub {g g' : Heap} (sb : Sub g g') : Reg.le (inG g) (inG g') := fun a o h => sb a o h
def InstP (P : Reg) (a Cl : Addr) (fs : List (Str × Value)) : Prop := ∃ da o, P a (instObj Cl da) ∧ P da o ∧ DictO o fs
theorem InstP.mono {P P' : Reg} {a Cl fs} (h : InstP P a Cl fs) (l : P.le P') : InstP P' a Cl fs := let ⟨da, o, h1, h2, d⟩ := h; ⟨da, o, l _ _ h1, l _ _ h2, d⟩
section
variable {z : Shared} {w : World} {A : Around} {env : Env} {g : Heap} {L : Addr} {n : Nat} {m : Str → Option Value} {own : Led} {s : Shared} {E : Value → Shared → Prop}
theorem i_attr {a Cl : Addr} {fs : List (Str × Value)} {name : Str} {v : Value} {b : Bool} {Q : Value → Shared → Prop}
    (C : Cx w A env g L n) (I : Inv z g L m own s) (V : InstP (inG g) a Cl fs) (hc : ClsA w Cl) (ha : OwnA w Cl name) (hl : fget name fs = some v) (hv : handedIn v = true)
    (h : ∀ s', Inv z g L m own s' → Q v s') : wpAny (model prg w) A (getAttr (.ref a) name b) Q E s := by
  obtain ⟨da, o, h1, h2, d⟩ := V
  exact r_attr C I (I.kp h1) (I.kp h2) d hc ha hl hv h
theorem i_meth {a Cl f : Addr} {fs : List (Str × Value)} {name : Str} {pl : Sem Bool} {Q : Value × List Value → Shared → Prop}
    (C : Cx w A env g L n) (I : Inv z g L m own s) (V : InstP (inG g) a Cl fs) (hc : ClsA w Cl) (ha : MethA w Cl name f) (hl : fget name fs = none)
    (h : Q (.ref f, [.ref a]) s) : wpAny (model prg w) A (getMethod (.ref a) name pl) Q E s := by
  obtain ⟨da, o, h1, h2, d⟩ := V
  exact r_meth C I (I.kp h1) (I.kp h2) d hc ha hl h
theorem Inv.regR (I : Inv z g L m own s) : Reg.le (inGR g own) (fun a o => s.heap.get? a = some o) := fun a o h => h.elim (fun e => I.kp e) (fun e => I.get e)
/-- the same, of what stands in the ledger -/
theorem i_attrR {a Cl : Addr} {fs : List (Str × Value)} {name : Str} {v : Value} {b : Bool} {Q : Value → Shared → Prop}
    (C : Cx w A env g L n) (I : Inv z g L m own s) (V : InstP (inGR g own) a Cl fs) (hc : ClsA w Cl) (ha : OwnA w Cl name) (hl : fget name fs = some v) (hv : handedIn v = true)
    (h : ∀ s', Inv z g L m own s' → Q v s') : wpAny (model prg w) A (getAttr (.ref a) name b) Q E s := by
  obtain ⟨da, o, h1, h2, d⟩ := V
  exact r_attr C I (I.regR _ _ h1) (I.regR _ _ h2) d hc ha hl hv h
theorem i_methR {a Cl f : Addr} {fs : List (Str × Value)} {name : Str} {pl : Sem Bool} {Q : Value × List Value → Shared → Prop}
    (C : Cx w A env g L n) (I : Inv z g L m own s) (V : InstP (inGR g own) a Cl fs) (hc : ClsA w Cl) (ha : MethA w Cl name f) (hl : fget name fs = none)
    (h : Q (.ref f, [.ref a]) s) : wpAny (model prg w) A (getMethod (.ref a) name pl) Q E s := by
  obtain ⟨da, o, h1, h2, d⟩ := V
  exact r_meth C I (I.regR _ _ h1) (I.regR _ _ h2) d hc ha hl h
end
abbrev tupO (vs : Array Value) (k : Nat) : Obj := { cls := .type "tuple", data := .seq vs k }
def markF (k : Mk) (t : Nat → Tok) : List (Str × Value) := [(Str.ofString "length", .int k.len (t 0)), (Str.ofString "style", .str k.style (t 1)), (Str.ofString "nests", .bool k.nests), (Str.ofString "is_fence", .bool k.fence)]
def MarkAt (P : Reg) (a : Addr) (k : Mk) : Prop := (∃ t, InstP P a 253 (markF k t)) ∧ True
theorem cls_253 (w : World) : ClsA w 253 := ⟨by k_is, by k_is, by k_is, by k_is, by k_is⟩
theorem MarkAt.mono {P P' : Reg} {a : Addr} {k : Mk} (h : MarkAt P a k) (l : P.le P') : MarkAt P' a k := let ⟨⟨t, v⟩, _⟩ := h; ⟨⟨t, v.mono l⟩, trivial⟩
section
variable {z : Shared} {w : World} {A : Around} {env : Env} {g : Heap} {L : Addr} {n : Nat} {m : Str → Option Value} {own : Led} {s : Shared} {E : Value → Shared → Prop} {a : Addr} {k : Mk}
theorem own_253_length (w : World) : OwnA w 253 "length" := by unfold OwnA; k_is
theorem fget_mark_length (k : Mk) (t : Nat → Tok) : fget "length" (markF k t) = some (.int k.len (t 0)) := by kernel_rfl
theorem markget_length {b' : Bool} {Q : Value → Shared → Prop} (C : Cx w A env g L n) (I : Inv z g L m own s) (V : MarkAt (inG g) a k) (h : ∀ u s', Inv z g L m own s' → Q (.int k.len u) s') :
    wpAny (model prg w) A (getAttr (.ref a) "length" b') Q E s := let ⟨⟨t, v⟩, _⟩ := V; i_attr C I v (cls_253 w) (own_253_length w) (fget_mark_length _ t) (rfl) (h _)
theorem own_253_style (w : World) : OwnA w 253 "style" := by unfold OwnA; k_is
theorem fget_mark_style (k : Mk) (t : Nat → Tok) : fget "style" (markF k t) = some (.str k.style (t 1)) := by kernel_rfl
theorem markget_style {b' : Bool} {Q : Value → Shared → Prop} (C : Cx w A env g L n) (I : Inv z g L m own s) (V : MarkAt (inG g) a k) (h : ∀ u s', Inv z g L m own s' → Q (.str k.style u) s') :
    wpAny (model prg w) A (getAttr (.ref a) "style" b') Q E s := let ⟨⟨t, v⟩, _⟩ := V; i_attr C I v (cls_253 w) (own_253_style w) (fget_mark_style _ t) (rfl) (h _)
theorem own_253_nests (w : World) : OwnA w 253 "nests" := by unfold OwnA; k_is
theorem fget_mark_nests (k : Mk) (t : Nat → Tok) : fget "nests" (markF k t) = some (.bool k.nests) := by kernel_rfl
theorem markget_nests {b' : Bool} {Q : Value → Shared → Prop} (C : Cx w A env g L n) (I : Inv z g L m own s) (V : MarkAt (inG g) a k) (h : ∀ s', Inv z g L m own s' → Q (.bool k.nests) s') :
    wpAny (model prg w) A (getAttr (.ref a) "nests" b') Q E s := let ⟨⟨t, v⟩, _⟩ := V; i_attr C I v (cls_253 w) (own_253_nests w) (fget_mark_nests _ t) (rfl) (h)
theorem own_253_is_fence (w : World) : OwnA w 253 "is_fence" := by unfold OwnA; k_is
theorem fget_mark_is_fence (k : Mk) (t : Nat → Tok) : fget "is_fence" (markF k t) = some (.bool k.fence) := by kernel_rfl
theorem markget_is_fence {b' : Bool} {Q : Value → Shared → Prop} (C : Cx w A env g L n) (I : Inv z g L m own s) (V : MarkAt (inG g) a k) (h : ∀ s', Inv z g L m own s' → Q (.bool k.fence) s') :
    wpAny (model prg w) A (getAttr (.ref a) "is_fence" b') Q E s := let ⟨⟨t, v⟩, _⟩ := V; i_attr C I v (cls_253 w) (own_253_is_fence w) (fget_mark_is_fence _ t) (rfl) (h)
end
def synF (y : Sy) (t : Nat → Tok) : List (Str × Value) := [(Str.ofString "kind", .str y.kind (t 0)), (Str.ofString "match", .none), (Str.ofString "flags", .str y.flags (t 2))]
def SynAt (P : Reg) (a : Addr) (y : Sy) : Prop := (∃ t, InstP P a 151 (synF y t)) ∧ True
theorem cls_151 (w : World) : ClsA w 151 := ⟨by k_is, by k_is, by k_is, by k_is, by k_is⟩
theorem SynAt.mono {P P' : Reg} {a : Addr} {y : Sy} (h : SynAt P a y) (l : P.le P') : SynAt P' a y := let ⟨⟨t, v⟩, _⟩ := h; ⟨⟨t, v.mono l⟩, trivial⟩
section
variable {z : Shared} {w : World} {A : Around} {env : Env} {g : Heap} {L : Addr} {n : Nat} {m : Str → Option Value} {own : Led} {s : Shared} {E : Value → Shared → Prop} {a : Addr} {y : Sy}
theorem own_151_kind (w : World) : OwnA w 151 "kind" := by unfold OwnA; k_is
theorem fget_syn_kind (y : Sy) (t : Nat → Tok) : fget "kind" (synF y t) = some (.str y.kind (t 0)) := by kernel_rfl
theorem synget_kind {b' : Bool} {Q : Value → Shared → Prop} (C : Cx w A env g L n) (I : Inv z g L m own s) (V : SynAt (inG g) a y) (h : ∀ u s', Inv z g L m own s' → Q (.str y.kind u) s') :
    wpAny (model prg w) A (getAttr (.ref a) "kind" b') Q E s := let ⟨⟨t, v⟩, _⟩ := V; i_attr C I v (cls_151 w) (own_151_kind w) (fget_syn_kind _ t) (rfl) (h _)
theorem own_151_match (w : World) : OwnA w 151 "match" := by unfold OwnA; k_is
theorem fget_syn_match (y : Sy) (t : Nat → Tok) : fget "match" (synF y t) = some (.none) := by kernel_rfl
theorem synget_match {b' : Bool} {Q : Value → Shared → Prop} (C : Cx w A env g L n) (I : Inv z g L m own s) (V : SynAt (inG g) a y) (h : ∀ s', Inv z g L m own s' → Q (.none) s') :
    wpAny (model prg w) A (getAttr (.ref a) "match" b') Q E s := let ⟨⟨t, v⟩, _⟩ := V; i_attr C I v (cls_151 w) (own_151_match w) (fget_syn_match _ t) (rfl) (h)
theorem own_151_flags (w : World) : OwnA w 151 "flags" := by unfold OwnA; k_is
theorem fget_syn_flags (y : Sy) (t : Nat → Tok) : fget "flags" (synF y t) = some (.str y.flags (t 2)) := by kernel_rfl
theorem synget_flags {b' : Bool} {Q : Value → Shared → Prop} (C : Cx w A env g L n) (I : Inv z g L m own s) (V : SynAt (inG g) a y) (h : ∀ u s', Inv z g L m own s' → Q (.str y.flags u) s') :
    wpAny (model prg w) A (getAttr (.ref a) "flags" b') Q E s := let ⟨⟨t, v⟩, _⟩ := V; i_attr C I v (cls_151 w) (own_151_flags w) (fget_syn_flags _ t) (rfl) (h _)
theorem fn_127 (w : World) : ((hdKp w.params).lookup 127).any fnO = true := by kernel_rfl
theorem meth_151_has (w : World) : MethA w 151 "has" 127 := ⟨by k_is, isFn_of (fn_127 w)⟩
theorem fgetn_syn_has (y : Sy) (t : Nat → Tok) : fget "has" (synF y t) = none := by kernel_rfl
theorem synmeth_has {pl : Sem Bool} {Q : Value × List Value → Shared → Prop} (C : Cx w A env g L n) (I : Inv z g L m own s) (V : SynAt (inG g) a y) (h : Q (.ref 127, [.ref a]) s) :
    wpAny (model prg w) A (getMethod (.ref a) "has" pl) Q E s := let ⟨⟨t, v⟩, _⟩ := V; i_meth C I v (cls_151 w) (meth_151_has w) (fgetn_syn_has _ t) h
theorem fn_134 (w : World) : ((hdKp w.params).lookup 134).any fnO = true := by kernel_rfl
theorem meth_151_is_escape (w : World) : MethA w 151 "is_escape" 134 := ⟨by k_is, isFn_of (fn_134 w)⟩
theorem fgetn_syn_is_escape (y : Sy) (t : Nat → Tok) : fget "is_escape" (synF y t) = none := by kernel_rfl
theorem synmeth_is_escape {pl : Sem Bool} {Q : Value × List Value → Shared → Prop} (C : Cx w A env g L n) (I : Inv z g L m own s) (V : SynAt (inG g) a y) (h : Q (.ref 134, [.ref a]) s) :
    wpAny (model prg w) A (getMethod (.ref a) "is_escape" pl) Q E s := let ⟨⟨t, v⟩, _⟩ := V; i_meth C I v (cls_151 w) (meth_151_is_escape w) (fgetn_syn_is_escape _ t) h
theorem fn_141 (w : World) : ((hdKp w.params).lookup 141).any fnO = true := by kernel_rfl
theorem meth_151_is_word_part (w : World) : MethA w 151 "is_word_part" 141 := ⟨by k_is, isFn_of (fn_141 w)⟩
theorem fgetn_syn_is_word_part (y : Sy) (t : Nat → Tok) : fget "is_word_part" (synF y t) = none := by kernel_rfl
theorem synmeth_is_word_part {pl : Sem Bool} {Q : Value × List Value → Shared → Prop} (C : Cx w A env g L n) (I : Inv z g L m own s) (V : SynAt (inG g) a y) (h : Q (.ref 141, [.ref a]) s) :
    wpAny (model prg w) A (getMethod (.ref a) "is_word_part" pl) Q E s := let ⟨⟨t, v⟩, _⟩ := V; i_meth C I v (cls_151 w) (meth_151_is_word_part w) (fgetn_syn_is_word_part _ t) h
theorem fn_148 (w : World) : ((hdKp w.params).lookup 148).any fnO = true := by kernel_rfl
theorem meth_151_style (w : World) : MethA w 151 "style" 148 := ⟨by k_is, isFn_of (fn_148 w)⟩
theorem fgetn_syn_style (y : Sy) (t : Nat → Tok) : fget "style" (synF y t) = none := by kernel_rfl
theorem synmeth_style {pl : Sem Bool} {Q : Value × List Value → Shared → Prop} (C : Cx w A env g L n) (I : Inv z g L m own s) (V : SynAt (inG g) a y) (h : Q (.ref 148, [.ref a]) s) :
    wpAny (model prg w) A (getMethod (.ref a) "style" pl) Q E s := let ⟨⟨t, v⟩, _⟩ := V; i_meth C I v (cls_151 w) (meth_151_style w) (fgetn_syn_style _ t) h
end
def rowF (lc : Addr) (b : Int) (cs : List Int) (t : Nat → Tok) : List (Str × Value) := [(Str.ofString "codes", .ref lc), (Str.ofString "place", .int b (t 1))]
def RowAt (P : Reg) (a : Addr) (lc : Addr) (b : Int) (cs : List Int) : Prop := (∃ t, InstP P a 486 (rowF lc b cs t)) ∧ (∃ k vs, P lc (listOf (List.toArray vs) k) ∧ IntsAre vs cs)
theorem cls_486 (w : World) : ClsA w 486 := ⟨by k_is, by k_is, by k_is, by k_is, by k_is⟩
theorem RowAt.mono {P P' : Reg} {a : Addr} {lc : Addr} {b : Int} {cs : List Int} (h : RowAt P a lc b cs) (l : P.le P') : RowAt P' a lc b cs := let ⟨⟨t, v⟩, k, vs, e, i⟩ := h; ⟨⟨t, v.mono l⟩, k, vs, l _ _ e, i⟩
section
variable {z : Shared} {w : World} {A : Around} {env : Env} {g : Heap} {L : Addr} {n : Nat} {m : Str → Option Value} {own : Led} {s : Shared} {E : Value → Shared → Prop} {a : Addr} {lc : Addr} {b : Int} {cs : List Int}
theorem own_486_codes (w : World) : OwnA w 486 "codes" := by unfold OwnA; k_is
theorem fget_row_codes (lc : Addr) (b : Int) (cs : List Int) (t : Nat → Tok) : fget "codes" (rowF lc b cs t) = some (.ref lc) := by kernel_rfl
theorem rowget_codes {b' : Bool} {Q : Value → Shared → Prop} (C : Cx w A env g L n) (I : Inv z g L m own s) (V : RowAt (inG g) a lc b cs) (h : ∀ s', Inv z g L m own s' → Q (.ref lc) s') :
    wpAny (model prg w) A (getAttr (.ref a) "codes" b') Q E s := let ⟨⟨t, v⟩, _⟩ := V; i_attr C I v (cls_486 w) (own_486_codes w) (fget_row_codes _ _ _ t) (rfl) (h)
theorem rowgetR_codes {b' : Bool} {Q : Value → Shared → Prop} (C : Cx w A env g L n) (I : Inv z g L m own s) (V : RowAt (inGR g own) a lc b cs) (h : ∀ s', Inv z g L m own s' → Q (.ref lc) s') :
    wpAny (model prg w) A (getAttr (.ref a) "codes" b') Q E s := let ⟨⟨t, v⟩, _⟩ := V; i_attrR C I v (cls_486 w) (own_486_codes w) (fget_row_codes _ _ _ t) (rfl) (h)
theorem own_486_place (w : World) : OwnA w 486 "place" := by unfold OwnA; k_is
theorem fget_row_place (lc : Addr) (b : Int) (cs : List Int) (t : Nat → Tok) : fget "place" (rowF lc b cs t) = some (.int b (t 1)) := by kernel_rfl
theorem rowget_place {b' : Bool} {Q : Value → Shared → Prop} (C : Cx w A env g L n) (I : Inv z g L m own s) (V : RowAt (inG g) a lc b cs) (h : ∀ u s', Inv z g L m own s' → Q (.int b u) s') :
    wpAny (model prg w) A (getAttr (.ref a) "place" b') Q E s := let ⟨⟨t, v⟩, _⟩ := V; i_attr C I v (cls_486 w) (own_486_place w) (fget_row_place _ _ _ t) (rfl) (h _)
theorem fn_469 (w : World) : ((hdKp w.params).lookup 469).any fnO = true := by kernel_rfl
theorem meth_486_begin (w : World) : MethA w 486 "begin" 469 := ⟨by k_is, isFn_of (fn_469 w)⟩
theorem fgetn_row_begin (lc : Addr) (b : Int) (cs : List Int) (t : Nat → Tok) : fget "begin" (rowF lc b cs t) = none := by kernel_rfl
theorem rowmeth_begin {pl : Sem Bool} {Q : Value × List Value → Shared → Prop} (C : Cx w A env g L n) (I : Inv z g L m own s) (V : RowAt (inG g) a lc b cs) (h : Q (.ref 469, [.ref a]) s) :
    wpAny (model prg w) A (getMethod (.ref a) "begin" pl) Q E s := let ⟨⟨t, v⟩, _⟩ := V; i_meth C I v (cls_486 w) (meth_486_begin w) (fgetn_row_begin _ _ _ t) h
theorem rowmethR_begin {pl : Sem Bool} {Q : Value × List Value → Shared → Prop} (C : Cx w A env g L n) (I : Inv z g L m own s) (V : RowAt (inGR g own) a lc b cs) (h : Q (.ref 469, [.ref a]) s) :
    wpAny (model prg w) A (getMethod (.ref a) "begin" pl) Q E s := let ⟨⟨t, v⟩, _⟩ := V; i_methR C I v (cls_486 w) (meth_486_begin w) (fgetn_row_begin _ _ _ t) h
theorem fn_476 (w : World) : ((hdKp w.params).lookup 476).any fnO = true := by kernel_rfl
theorem meth_486_end (w : World) : MethA w 486 "end" 476 := ⟨by k_is, isFn_of (fn_476 w)⟩
theorem fgetn_row_end (lc : Addr) (b : Int) (cs : List Int) (t : Nat → Tok) : fget "end" (rowF lc b cs t) = none := by kernel_rfl
theorem rowmeth_end {pl : Sem Bool} {Q : Value × List Value → Shared → Prop} (C : Cx w A env g L n) (I : Inv z g L m own s) (V : RowAt (inG g) a lc b cs) (h : Q (.ref 476, [.ref a]) s) :
    wpAny (model prg w) A (getMethod (.ref a) "end" pl) Q E s := let ⟨⟨t, v⟩, _⟩ := V; i_meth C I v (cls_486 w) (meth_486_end w) (fgetn_row_end _ _ _ t) h
theorem rowmethR_end {pl : Sem Bool} {Q : Value × List Value → Shared → Prop} (C : Cx w A env g L n) (I : Inv z g L m own s) (V : RowAt (inGR g own) a lc b cs) (h : Q (.ref 476, [.ref a]) s) :
    wpAny (model prg w) A (getMethod (.ref a) "end" pl) Q E s := let ⟨⟨t, v⟩, _⟩ := V; i_methR C I v (cls_486 w) (meth_486_end w) (fgetn_row_end _ _ _ t) h
theorem fn_483 (w : World) : ((hdKp w.params).lookup 483).any fnO = true := by kernel_rfl
theorem meth_486_code_at (w : World) : MethA w 486 "code_at" 483 := ⟨by k_is, isFn_of (fn_483 w)⟩
theorem fgetn_row_code_at (lc : Addr) (b : Int) (cs : List Int) (t : Nat → Tok) : fget "code_at" (rowF lc b cs t) = none := by kernel_rfl
theorem rowmeth_code_at {pl : Sem Bool} {Q : Value × List Value → Shared → Prop} (C : Cx w A env g L n) (I : Inv z g L m own s) (V : RowAt (inG g) a lc b cs) (h : Q (.ref 483, [.ref a]) s) :
    wpAny (model prg w) A (getMethod (.ref a) "code_at" pl) Q E s := let ⟨⟨t, v⟩, _⟩ := V; i_meth C I v (cls_486 w) (meth_486_code_at w) (fgetn_row_code_at _ _ _ t) h
end
def psF (lt : Addr) (st : St) (t : Nat → Tok) : List (Str × Value) := [(Str.ofString "opens", .ref lt), (Str.ofString "below", .int st.below (t 1)), (Str.ofString "least", .int st.least (t 2)), (Str.ofString "whole", optV (st.whole) (t 3)), (Str.ofString "word", optV (st.word) (t 4)), (Str.ofString "string", optV (st.string) (t 5)), (Str.ofString "comment", .int st.comment (t 6)), (Str.ofString "style", .str st.style (t 7)), (Str.ofString "nests", .bool st.nests), (Str.ofString "start", optV (st.start) (t 9)), (Str.ofString "quoted", .bool st.quoted), (Str.ofString "half", .str st.half (t 11))]
def PsAt (P : Reg) (a : Addr) (lt : Addr) (st : St) : Prop := (∃ t, InstP P a 68 (psF lt st t)) ∧ (∃ k vs, P lt (tupO (List.toArray vs) k) ∧ IntsAre vs st.opens)
theorem cls_68 (w : World) : ClsA w 68 := ⟨by k_is, by k_is, by k_is, by k_is, by k_is⟩
theorem PsAt.mono {P P' : Reg} {a : Addr} {lt : Addr} {st : St} (h : PsAt P a lt st) (l : P.le P') : PsAt P' a lt st := let ⟨⟨t, v⟩, k, vs, e, i⟩ := h; ⟨⟨t, v.mono l⟩, k, vs, l _ _ e, i⟩
section
variable {z : Shared} {w : World} {A : Around} {env : Env} {g : Heap} {L : Addr} {n : Nat} {m : Str → Option Value} {own : Led} {s : Shared} {E : Value → Shared → Prop} {a : Addr} {lt : Addr} {st : St}
theorem own_68_opens (w : World) : OwnA w 68 "opens" := by unfold OwnA; k_is
theorem fget_ps_opens (lt : Addr) (st : St) (t : Nat → Tok) : fget "opens" (psF lt st t) = some (.ref lt) := by kernel_rfl
theorem psget_opens {b' : Bool} {Q : Value → Shared → Prop} (C : Cx w A env g L n) (I : Inv z g L m own s) (V : PsAt (inG g) a lt st) (h : ∀ s', Inv z g L m own s' → Q (.ref lt) s') :
    wpAny (model prg w) A (getAttr (.ref a) "opens" b') Q E s := let ⟨⟨t, v⟩, _⟩ := V; i_attr C I v (cls_68 w) (own_68_opens w) (fget_ps_opens _ _ t) (rfl) (h)
theorem own_68_below (w : World) : OwnA w 68 "below" := by unfold OwnA; k_is
theorem fget_ps_below (lt : Addr) (st : St) (t : Nat → Tok) : fget "below" (psF lt st t) = some (.int st.below (t 1)) := by kernel_rfl
theorem psget_below {b' : Bool} {Q : Value → Shared → Prop} (C : Cx w A env g L n) (I : Inv z g L m own s) (V : PsAt (inG g) a lt st) (h : ∀ u s', Inv z g L m own s' → Q (.int st.below u) s') :
    wpAny (model prg w) A (getAttr (.ref a) "below" b') Q E s := let ⟨⟨t, v⟩, _⟩ := V; i_attr C I v (cls_68 w) (own_68_below w) (fget_ps_below _ _ t) (rfl) (h _)
theorem psgetR_below {b' : Bool} {Q : Value → Shared → Prop} (C : Cx w A env g L n) (I : Inv z g L m own s) (V : PsAt (inGR g own) a lt st) (h : ∀ u s', Inv z g L m own s' → Q (.int st.below u) s') :
    wpAny (model prg w) A (getAttr (.ref a) "below" b') Q E s := let ⟨⟨t, v⟩, _⟩ := V; i_attrR C I v (cls_68 w) (own_68_below w) (fget_ps_below _ _ t) (rfl) (h _)
theorem own_68_least (w : World) : OwnA w 68 "least" := by unfold OwnA; k_is
theorem fget_ps_least (lt : Addr) (st : St) (t : Nat → Tok) : fget "least" (psF lt st t) = some (.int st.least (t 2)) := by kernel_rfl
theorem psget_least {b' : Bool} {Q : Value → Shared → Prop} (C : Cx w A env g L n) (I : Inv z g L m own s) (V : PsAt (inG g) a lt st) (h : ∀ u s', Inv z g L m own s' → Q (.int st.least u) s') :
    wpAny (model prg w) A (getAttr (.ref a) "least" b') Q E s := let ⟨⟨t, v⟩, _⟩ := V; i_attr C I v (cls_68 w) (own_68_least w) (fget_ps_least _ _ t) (rfl) (h _)
theorem own_68_whole (w : World) : OwnA w 68 "whole" := by unfold OwnA; k_is
theorem fget_ps_whole (lt : Addr) (st : St) (t : Nat → Tok) : fget "whole" (psF lt st t) = some (optV (st.whole) (t 3)) := by kernel_rfl
theorem psget_whole {b' : Bool} {Q : Value → Shared → Prop} (C : Cx w A env g L n) (I : Inv z g L m own s) (V : PsAt (inG g) a lt st) (h : ∀ u s', Inv z g L m own s' → Q (optV (st.whole) u) s') :
    wpAny (model prg w) A (getAttr (.ref a) "whole" b') Q E s := let ⟨⟨t, v⟩, _⟩ := V; i_attr C I v (cls_68 w) (own_68_whole w) (fget_ps_whole _ _ t) (handed_opt _ _) (h _)
theorem own_68_word (w : World) : OwnA w 68 "word" := by unfold OwnA; k_is
theorem fget_ps_word (lt : Addr) (st : St) (t : Nat → Tok) : fget "word" (psF lt st t) = some (optV (st.word) (t 4)) := by kernel_rfl
theorem psget_word {b' : Bool} {Q : Value → Shared → Prop} (C : Cx w A env g L n) (I : Inv z g L m own s) (V : PsAt (inG g) a lt st) (h : ∀ u s', Inv z g L m own s' → Q (optV (st.word) u) s') :
    wpAny (model prg w) A (getAttr (.ref a) "word" b') Q E s := let ⟨⟨t, v⟩, _⟩ := V; i_attr C I v (cls_68 w) (own_68_word w) (fget_ps_word _ _ t) (handed_opt _ _) (h _)
theorem own_68_string (w : World) : OwnA w 68 "string" := by unfold OwnA; k_is
theorem fget_ps_string (lt : Addr) (st : St) (t : Nat → Tok) : fget "string" (psF lt st t) = some (optV (st.string) (t 5)) := by kernel_rfl
theorem psget_string {b' : Bool} {Q : Value → Shared → Prop} (C : Cx w A env g L n) (I : Inv z g L m own s) (V : PsAt (inG g) a lt st) (h : ∀ u s', Inv z g L m own s' → Q (optV (st.string) u) s') :
    wpAny (model prg w) A (getAttr (.ref a) "string" b') Q E s := let ⟨⟨t, v⟩, _⟩ := V; i_attr C I v (cls_68 w) (own_68_string w) (fget_ps_string _ _ t) (handed_opt _ _) (h _)
theorem own_68_comment (w : World) : OwnA w 68 "comment" := by unfold OwnA; k_is
theorem fget_ps_comment (lt : Addr) (st : St) (t : Nat → Tok) : fget "comment" (psF lt st t) = some (.int st.comment (t 6)) := by kernel_rfl
theorem psget_comment {b' : Bool} {Q : Value → Shared → Prop} (C : Cx w A env g L n) (I : Inv z g L m own s) (V : PsAt (inG g) a lt st) (h : ∀ u s', Inv z g L m own s' → Q (.int st.comment u) s') :
    wpAny (model prg w) A (getAttr (.ref a) "comment" b') Q E s := let ⟨⟨t, v⟩, _⟩ := V; i_attr C I v (cls_68 w) (own_68_comment w) (fget_ps_comment _ _ t) (rfl) (h _)
theorem own_68_style (w : World) : OwnA w 68 "style" := by unfold OwnA; k_is
theorem fget_ps_style (lt : Addr) (st : St) (t : Nat → Tok) : fget "style" (psF lt st t) = some (.str st.style (t 7)) := by kernel_rfl
theorem psget_style {b' : Bool} {Q : Value → Shared → Prop} (C : Cx w A env g L n) (I : Inv z g L m own s) (V : PsAt (inG g) a lt st) (h : ∀ u s', Inv z g L m own s' → Q (.str st.style u) s') :
    wpAny (model prg w) A (getAttr (.ref a) "style" b') Q E s := let ⟨⟨t, v⟩, _⟩ := V; i_attr C I v (cls_68 w) (own_68_style w) (fget_ps_style _ _ t) (rfl) (h _)
theorem own_68_nests (w : World) : OwnA w 68 "nests" := by unfold OwnA; k_is
theorem fget_ps_nests (lt : Addr) (st : St) (t : Nat → Tok) : fget "nests" (psF lt st t) = some (.bool st.nests) := by kernel_rfl
theorem psget_nests {b' : Bool} {Q : Value → Shared → Prop} (C : Cx w A env g L n) (I : Inv z g L m own s) (V : PsAt (inG g) a lt st) (h : ∀ s', Inv z g L m own s' → Q (.bool st.nests) s') :
    wpAny (model prg w) A (getAttr (.ref a) "nests" b') Q E s := let ⟨⟨t, v⟩, _⟩ := V; i_attr C I v (cls_68 w) (own_68_nests w) (fget_ps_nests _ _ t) (rfl) (h)
theorem own_68_start (w : World) : OwnA w 68 "start" := by unfold OwnA; k_is
theorem fget_ps_start (lt : Addr) (st : St) (t : Nat → Tok) : fget "start" (psF lt st t) = some (optV (st.start) (t 9)) := by kernel_rfl
theorem psget_start {b' : Bool} {Q : Value → Shared → Prop} (C : Cx w A env g L n) (I : Inv z g L m own s) (V : PsAt (inG g) a lt st) (h : ∀ u s', Inv z g L m own s' → Q (optV (st.start) u) s') :
    wpAny (model prg w) A (getAttr (.ref a) "start" b') Q E s := let ⟨⟨t, v⟩, _⟩ := V; i_attr C I v (cls_68 w) (own_68_start w) (fget_ps_start _ _ t) (handed_opt _ _) (h _)
theorem own_68_quoted (w : World) : OwnA w 68 "quoted" := by unfold OwnA; k_is
theorem fget_ps_quoted (lt : Addr) (st : St) (t : Nat → Tok) : fget "quoted" (psF lt st t) = some (.bool st.quoted) := by kernel_rfl
theorem psget_quoted {b' : Bool} {Q : Value → Shared → Prop} (C : Cx w A env g L n) (I : Inv z g L m own s) (V : PsAt (inG g) a lt st) (h : ∀ s', Inv z g L m own s' → Q (.bool st.quoted) s') :
    wpAny (model prg w) A (getAttr (.ref a) "quoted" b') Q E s := let ⟨⟨t, v⟩, _⟩ := V; i_attr C I v (cls_68 w) (own_68_quoted w) (fget_ps_quoted _ _ t) (rfl) (h)
theorem own_68_half (w : World) : OwnA w 68 "half" := by unfold OwnA; k_is
theorem fget_ps_half (lt : Addr) (st : St) (t : Nat → Tok) : fget "half" (psF lt st t) = some (.str st.half (t 11)) := by kernel_rfl
theorem psget_half {b' : Bool} {Q : Value → Shared → Prop} (C : Cx w A env g L n) (I : Inv z g L m own s) (V : PsAt (inG g) a lt st) (h : ∀ u s', Inv z g L m own s' → Q (.str st.half u) s') :
    wpAny (model prg w) A (getAttr (.ref a) "half" b') Q E s := let ⟨⟨t, v⟩, _⟩ := V; i_attr C I v (cls_68 w) (own_68_half w) (fget_ps_half _ _ t) (rfl) (h _)
theorem fn_44 (w : World) : ((hdKp w.params).lookup 44).any fnO = true := by kernel_rfl
theorem meth_68_depth (w : World) : MethA w 68 "depth" 44 := ⟨by k_is, isFn_of (fn_44 w)⟩
theorem fgetn_ps_depth (lt : Addr) (st : St) (t : Nat → Tok) : fget "depth" (psF lt st t) = none := by kernel_rfl
theorem psmeth_depth {pl : Sem Bool} {Q : Value × List Value → Shared → Prop} (C : Cx w A env g L n) (I : Inv z g L m own s) (V : PsAt (inG g) a lt st) (h : Q (.ref 44, [.ref a]) s) :
    wpAny (model prg w) A (getMethod (.ref a) "depth" pl) Q E s := let ⟨⟨t, v⟩, _⟩ := V; i_meth C I v (cls_68 w) (meth_68_depth w) (fgetn_ps_depth _ _ t) h
theorem fn_51 (w : World) : ((hdKp w.params).lookup 51).any fnO = true := by kernel_rfl
theorem meth_68_innermost (w : World) : MethA w 68 "innermost" 51 := ⟨by k_is, isFn_of (fn_51 w)⟩
theorem fgetn_ps_innermost (lt : Addr) (st : St) (t : Nat → Tok) : fget "innermost" (psF lt st t) = none := by kernel_rfl
theorem psmeth_innermost {pl : Sem Bool} {Q : Value × List Value → Shared → Prop} (C : Cx w A env g L n) (I : Inv z g L m own s) (V : PsAt (inG g) a lt st) (h : Q (.ref 51, [.ref a]) s) :
    wpAny (model prg w) A (getMethod (.ref a) "innermost" pl) Q E s := let ⟨⟨t, v⟩, _⟩ := V; i_meth C I v (cls_68 w) (meth_68_innermost w) (fgetn_ps_innermost _ _ t) h
theorem fn_58 (w : World) : ((hdKp w.params).lookup 58).any fnO = true := by kernel_rfl
theorem meth_68_is_plain (w : World) : MethA w 68 "is_plain" 58 := ⟨by k_is, isFn_of (fn_58 w)⟩
theorem fgetn_ps_is_plain (lt : Addr) (st : St) (t : Nat → Tok) : fget "is_plain" (psF lt st t) = none := by kernel_rfl
theorem psmeth_is_plain {pl : Sem Bool} {Q : Value × List Value → Shared → Prop} (C : Cx w A env g L n) (I : Inv z g L m own s) (V : PsAt (inG g) a lt st) (h : Q (.ref 58, [.ref a]) s) :
    wpAny (model prg w) A (getMethod (.ref a) "is_plain" pl) Q E s := let ⟨⟨t, v⟩, _⟩ := V; i_meth C I v (cls_68 w) (meth_68_is_plain w) (fgetn_ps_is_plain _ _ t) h
theorem fn_65 (w : World) : ((hdKp w.params).lookup 65).any fnO = true := by kernel_rfl
theorem meth_68_items (w : World) : MethA w 68 "items" 65 := ⟨by k_is, isFn_of (fn_65 w)⟩
theorem fgetn_ps_items (lt : Addr) (st : St) (t : Nat → Tok) : fget "items" (psF lt st t) = none := by kernel_rfl
theorem psmeth_items {pl : Sem Bool} {Q : Value × List Value → Shared → Prop} (C : Cx w A env g L n) (I : Inv z g L m own s) (V : PsAt (inG g) a lt st) (h : Q (.ref 65, [.ref a]) s) :
    wpAny (model prg w) A (getMethod (.ref a) "items" pl) Q E s := let ⟨⟨t, v⟩, _⟩ := V; i_meth C I v (cls_68 w) (meth_68_items w) (fgetn_ps_items _ _ t) h
theorem psmethR_items {pl : Sem Bool} {Q : Value × List Value → Shared → Prop} (C : Cx w A env g L n) (I : Inv z g L m own s) (V : PsAt (inGR g own) a lt st) (h : Q (.ref 65, [.ref a]) s) :
    wpAny (model prg w) A (getMethod (.ref a) "items" pl) Q E s := let ⟨⟨t, v⟩, _⟩ := V; i_methR C I v (cls_68 w) (meth_68_items w) (fgetn_ps_items _ _ t) h
end
end
/-! part Rc -/
section
set_option hygiene true
theorem fill_Rc (w : World) : hdKp w.params = hdKp w.params ∧ PySem.Challenge.rw_np0078_01 = PySem.Challenge.rw_np0078_01 := by
  k_fill
  exact ⟨rfl, rfl⟩
abbrev inS (s : Shared) : Reg := fun a o => s.heap.get? a = some o
theorem Inv.regS {z g L m own s} (I : Inv z g L m own s) : Reg.le (inG g) (inS s) := fun a o h => I.kp h
/-- a list of ints, read alone -/
def LstAt (P : Reg) (l : Addr) (ns : List Int) : Prop := ∃ k vs, P l (listOf (List.toArray vs) k) ∧ IntsAre vs ns
theorem LstAt.mono {P P' : Reg} {l ns} (h : LstAt P l ns) (le : P.le P') : LstAt P' l ns := let ⟨k, vs, e, i⟩ := h; ⟨k, vs, le _ _ e, i⟩
theorem RowAt.lst {P a lc b cs} (V : RowAt P a lc b cs) : LstAt P lc cs := V.2
section
variable {z : Shared} {w : World} {M : Model} {A : Around} {env : Env} {g : Heap} {L : Addr} {n : Nat} {m : Str → Option Value} {own rest : Led} {s : Shared} {E : Value → Shared → Prop} {Q : Value → Shared → Prop}
theorem ints_get {vs : List Value} {ns : List Int} (h : IntsAre vs ns) : ∀ i : Nat, i < ns.length → ∃ t, vs[i]? = some (.int (ns.getD i 0) t) := by
  induction h with
  | nil => intro i hi; exact absurd hi (Nat.not_lt_zero _)
  | cons k t r ih =>
    intro i hi
    cases i with
    | zero => exact ⟨t, rfl⟩
    | succ i => exact ih i (Nat.lt_of_succ_lt_succ hi)
theorem rl_len {l : Addr} {ns : List Int} (I : Inv z g L m own s) (V : LstAt (inG g) l ns) (hz : ns.length ≤ 100000) (h : ∀ s' u, Inv z g L m own s' → Q (.int (ns.length : Int) u) s') : wpAny (model prg w) A (call (.builtin "len") [.ref l]) Q E s := by
  obtain ⟨k, vs, e, hi⟩ := V
  have hl := hi.length
  refine len_list ⟨_, I.kp e, rfl, k, rfl⟩ (by rw [List.size_toArray, hl]; omega) ?_
  have h' := h _ (s.toks + 1) (I.tok (s.toks + 1 + 1))
  rw [List.size_toArray, hl]
  exact h'
theorem rl_get {l : Addr} {ns : List Int} {i : Int} {u : Tok} {value slice : Expr} (I : Inv z g L m own s) (V : LstAt (inG g) l ns) (h0 : 0 ≤ i) (h1 : i < ns.length) (hz : ns.length ≤ 100000)
    (hs : subscripted slice false (.ref l) (.int i u) = operate [.ref l, .int i u] (getItem (.ref l) (.int i u))) (h : ∀ s' t, Inv z g L m own s' → Q (.int (ns.getD i.toNat 0) t) s') :
    wpAny (model prg w) A (subscriptTail value slice (.ref l) (.int i u)) Q E s := by
  obtain ⟨k, vs, e, hi⟩ := V
  obtain ⟨t, ht⟩ := ints_get hi i.toNat (by omega)
  have il : s.heap.IsList l vs.toArray := ⟨_, I.kp e, rfl, k, rfl⟩
  exact tail_any il.typeIs slot_list_getitem.lookup (wpAny_getItem_list il h0 (by omega) (by simpa using ht) (h _ _ I)) hs
theorem while_own {test : Expr} {body orelse : List Stmt} {pos : Pos} {Q : Flow → Shared → Prop} (J : Nat → Shared → Prop)
    (turn : ∀ n s, J n s → wpAny (model prg w) A (PySem.isTrue test env (eval test env)) (fun b s₂ => if b = true then wpAny (model prg w) A (execs body env) (fun f s₃ => match f with
        | .next | .cont => ∃ k, k < n ∧ J k s₃ | .brk => Q .next s₃ | .ret v => Q (.ret v) s₃) (fun _ _ => False) s₂
      else wpAny (model prg w) A (execs orelse env) Q (fun _ _ => False) s₂) (fun _ _ => False) s) (n : Nat) (h : J n s) :
    wpAny (model prg w) A (exec (.While test body orelse pos) env) Q E s := by
  refine wpAny_While (codeAny_whileLoop J (fun n s hJ => ?_) n h)
  refine wpAny_mono (turn n s hJ) (fun b s₂ h₂ => ?_) fun _ _ f => f.elim
  cases b with
  | false => exact wpAny_mono h₂ (fun f s₃ h₃ => h₃) fun _ _ f => f.elim
  | true =>
    refine wpAny_mono h₂ (fun f s₃ h₃ => ?_) fun _ _ f => f.elim
    cases f <;> exact h₃
theorem newTup {vs : List Value} (I : Inv z g L m own s) (hz : vs.length ≤ 1000) (h : ∀ a s', Inv z g L m ((a, tupO vs.toArray 0) :: own) s' → Q (.ref a) s') : wpAny M A (newTuple vs) Q E s := by
  refine newTuple_N I.F I.N (fun h' F' N' => h _ _ (I.mk' _ F' N' ?_)) (by rw [PySem.sizeLine_eq]; omega)
  exact (I.push (tupO vs.toArray 0) 0).nd
theorem unpackTup {vs : List Value} {a : Addr} {k : Nat} {Q : List Value → Shared → Prop} (C : Cx w A env g L n) (I : Inv z g L m ((a, tupO vs.toArray 0) :: own) s) (hk : k = vs.length) (h : ∀ s', Inv z g L m own s' → Q vs s') : wpAny (model prg w) A (unpackItems (.ref a) k none) Q E s :=
  unpackItemsN_ I.F I.N ⟨_, (I.N _ (.head _)).1, rfl, 0, rfl⟩ C.noHandled (by rw [List.size_toArray]; exact hk) fun h' F' N' => by
    have := h _ (I.mk' s.toks F' (fun p hp => N' p (.tail _ hp)) (List.nodup_cons.mp (List.map_cons ▸ I.nd)).2)
    simpa using this
theorem set_new {x Cl dx : Addr} {o : Obj} {fs : List (Str × Value)} {name : Str} {v : Value} {post : Led} {Q : Unit → Shared → Prop}
    (C : Cx w A env g L n) (I : Inv z g L m ((x, instObj Cl dx) :: (dx, o) :: post) s) (D : DictO o fs) (hc : ClsA w Cl) (ha : OwnA w Cl name) (hz : fs.length < 100)
    (h : ∀ o' s', DictO o' (fset name v fs) → Inv z g L m ((x, instObj Cl dx) :: (dx, o') :: post) s' → Q () s') : wpAny (model prg w) A (setAttr (.ref x) name v) Q E s :=
  r_set (pre := [(x, instObj Cl dx)]) C I (I.get (.head _)) D hc ha hz h
abbrev inL (l : Led) : Reg := fun a o => (a, o) ∈ l
theorem le_new {g : Heap} {new rest : Led} : Reg.le (inL new) (inGR g (new ++ rest)) := fun _ _ h => .inr (List.mem_append_left _ h)
theorem le_new2 {g : Heap} {own new rest : Led} : Reg.le (inL new) (inGR g (own ++ (new ++ rest))) := fun _ _ h => .inr (List.mem_append_right _ (List.mem_append_left _ h))
theorem keepc_253 (w : World) : keepIn (hdKp w.params) (.ref 253) = true := by k_is
theorem keepc_151 (w : World) : keepIn (hdKp w.params) (.ref 151) = true := by k_is
theorem keepc_232 (w : World) : keepIn (hdKp w.params) (.ref 232) = true := by k_is
theorem keepc_486 (w : World) : keepIn (hdKp w.params) (.ref 486) = true := by k_is
theorem keepc_428 (w : World) : keepIn (hdKp w.params) (.ref 428) = true := by k_is
theorem keepc_68 (w : World) : keepIn (hdKp w.params) (.ref 68) = true := by k_is
/-! the table: its rows -/
noncomputable abbrev intK (w : World) := intKind prg w
/-- rows: an int-keyed dict whose values at the eight codes are syntaxes -/
def TblAt (P : Reg) (w : World) (vt dr : Addr) (tb : Int → Sy) (sa : Int → Addr) : Prop :=
  (∃ t, InstP P vt 232 [(Str.ofString "parent", .none), (Str.ofString "rows", t)] ∧ t = .ref dr) ∧ (dr == sysModules) = false ∧
    ∃ o kvs, P dr o ∧ o.IsDictOf (intK w) kvs ∧ ∀ c : Int, 97 ≤ c → c ≤ 104 → valueAt kvs c = some (.ref (sa c)) ∧ SynAt P (sa c) (tb c) ∧ ((tb c).kind == Str.ofString "@") = false
theorem TblAt.mono {P P' : Reg} {w vt dr tb sa} (h : TblAt P w vt dr tb sa) (l : P.le P') : TblAt P' w vt dr tb sa := by
  obtain ⟨⟨t, V, e⟩, lo, o, kvs, h1, h2, h3⟩ := h
  exact ⟨⟨t, V.mono l, e⟩, lo, o, kvs, l _ _ h1, h2, fun c a b => let ⟨y, q, r⟩ := h3 c a b; ⟨y, q.mono l, r⟩⟩
theorem TblAt.syn {P : Reg} {w vt dr tb sa} (h : TblAt P w vt dr tb sa) {c : Int} (h0 : 97 ≤ c) (h1 : c ≤ 104) : SynAt P (sa c) (tb c) := let ⟨_, _, _, _, _, _, h3⟩ := h; (h3 c h0 h1).2.1
/-- the text and the table, both only read -/
structure Vw (P : Reg) (w : World) (vw lc vt dr : Addr) (sa : Int → Addr) (c : Ct) : Prop where
  row : RowAt P vw lc c.b c.cs
  tbl : TblAt P w vt dr c.tb sa
  len : c.cs.length ≤ 1000
  ok : ∀ x ∈ c.cs, 97 ≤ x ∧ x ≤ 104
theorem Vw.mono {P P' : Reg} {w vw lc vt dr sa c} (V : Vw P w vw lc vt dr sa c) (l : P.le P') : Vw P' w vw lc vt dr sa c := ⟨V.row.mono l, V.tbl.mono l, V.len, V.ok⟩
theorem cod_in {c : Ct} {p : Int} (h : ∀ x ∈ c.cs, 97 ≤ x ∧ x ≤ 104) : c.cod p = -1 ∨ (97 ≤ c.cod p ∧ c.cod p ≤ 104) := by
  unfold Ct.cod
  split
  · rename_i q
    refine .inr (h _ ?_)
    have hl : (p - c.b).toNat < c.cs.length := by omega
    rw [List.getD_eq_getElem?_getD, List.getElem?_eq_getElem hl]
    exact List.getElem_mem hl
  · exact .inl rfl
theorem news_one {h : Heap} {d : Addr} {o : Obj} (e : h.get? d = some o) : News ({} : Heap) (d + 1) h [(d, o)] := by
  intro p hp
  rw [List.mem_singleton.mp hp]
  exact ⟨e, Nat.ne_of_lt (Nat.lt_succ_self d), rfl⟩
theorem cls_232 (w : World) : ClsA w 232 := ⟨by k_is, by k_is, by k_is, by k_is, by k_is⟩
theorem own_232_rows (w : World) : OwnA w 232 "rows" := by unfold OwnA; k_is
theorem own_232_parent (w : World) : OwnA w 232 "parent" := by unfold OwnA; k_is
theorem fn_187 (w : World) : ((hdKp w.params).lookup 187).any fnO = true := by kernel_rfl
theorem fn_208 (w : World) : ((hdKp w.params).lookup 208).any fnO = true := by kernel_rfl
theorem fn_215 (w : World) : ((hdKp w.params).lookup 215).any fnO = true := by kernel_rfl
theorem meth_232_modify (w : World) : MethA w 232 "modify" 187 := ⟨by k_is, isFn_of (fn_187 w)⟩
theorem meth_232_own (w : World) : MethA w 232 "own" 208 := ⟨by k_is, isFn_of (fn_208 w)⟩
theorem meth_232_at (w : World) : MethA w 232 "at" 215 := ⟨by k_is, isFn_of (fn_215 w)⟩
theorem tblget_rows {b : Bool} {vt dr : Addr} {tb : Int → Sy} {sa : Int → Addr} (C : Cx w A env g L n) (I : Inv z g L m own s) (V : TblAt (inG g) w vt dr tb sa) (h : ∀ s', Inv z g L m own s' → Q (.ref dr) s') : wpAny (model prg w) A (getAttr (.ref vt) "rows" b) Q E s := by
  obtain ⟨⟨t, V, e⟩, _⟩ := V
  subst e
  exact i_attr C I V (cls_232 w) (own_232_rows w) rfl rfl h
theorem tblget_parent {b : Bool} {vt dr : Addr} {tb : Int → Sy} {sa : Int → Addr} (C : Cx w A env g L n) (I : Inv z g L m own s) (V : TblAt (inG g) w vt dr tb sa) (h : ∀ s', Inv z g L m own s' → Q .none s') : wpAny (model prg w) A (getAttr (.ref vt) "parent" b) Q E s := by
  obtain ⟨⟨t, V, e⟩, _⟩ := V
  exact i_attr C I V (cls_232 w) (own_232_parent w) rfl rfl h
theorem tblmeth_own {pl : Sem Bool} {Q : Value × List Value → Shared → Prop} {vt dr : Addr} {tb : Int → Sy} {sa : Int → Addr} (C : Cx w A env g L n) (I : Inv z g L m own s) (V : TblAt (inG g) w vt dr tb sa) (h : Q (.ref 208, [.ref vt]) s) : wpAny (model prg w) A (getMethod (.ref vt) "own" pl) Q E s := by
  obtain ⟨⟨t, V, e⟩, _⟩ := V
  exact i_meth C I V (cls_232 w) (meth_232_own w) rfl h
theorem tblmeth_at {pl : Sem Bool} {Q : Value × List Value → Shared → Prop} {vt dr : Addr} {tb : Int → Sy} {sa : Int → Addr} (C : Cx w A env g L n) (I : Inv z g L m own s) (V : TblAt (inG g) w vt dr tb sa) (h : Q (.ref 215, [.ref vt]) s) : wpAny (model prg w) A (getMethod (.ref vt) "at" pl) Q E s := by
  obtain ⟨⟨t, V, e⟩, _⟩ := V
  exact i_meth C I V (cls_232 w) (meth_232_at w) rfl h
theorem rows_meth {pl : Sem Bool} {Q : Value × List Value → Shared → Prop} {vt dr : Addr} {tb : Int → Sy} {sa : Int → Addr} (I : Inv z g L m own s) (V : TblAt (inG g) w vt dr tb sa) (h : Q (.builtin "dict.get", [.ref dr]) s) : wpAny (model prg w) A (getMethod (.ref dr) "get" pl) Q E s := by
  obtain ⟨_, lo, o, kvs, h1, h2, h3⟩ := V
  exact kdg_method (news_one (I.kp h1)) (.head _) h2 h
theorem rows_get {vt dr : Addr} {tb : Int → Sy} {sa : Int → Addr} {c : Int} {u : Tok} (I : Inv z g L m own s) (V : TblAt (inG g) w vt dr tb sa) (h0 : 97 ≤ c) (h1 : c ≤ 104)
    (h : ∀ s', SynAt (inG g) (sa c) (tb c) → ((tb c).kind == Str.ofString "@") = false → Inv z g L m own s' → Q (.ref (sa c)) s') : wpAny (model prg w) A (call (.builtin "dict.get") [.ref dr, .int c u, .none]) Q E s := by
  obtain ⟨_, lo, o, kvs, e1, e2, e3⟩ := V
  obtain ⟨e4, e5, e6⟩ := e3 c h0 h1
  exact kdg_get2 (news_one (I.kp e1)) (.head _) e2 lo (intKind_is _ _ _ _) (some (.ref (sa c))) e4 (h _ e5 e6 (I.tok _))
end
end
/-! part Pl -/
section
set_option hygiene true
/-- one place on -/
def St.micro (c : Ct) (s : St) : St := s.step c (s.place + 1)
theorem bm_len {c : Ct} {p : Int} {k : Mk} (h : c.bm p = some k) : k.len = 1 ∨ (k.len = 2 ∧ 0 ≤ c.cod (p + 1)) := by
  unfold Ct.bm at h
  split at h
  · cases h
  · split at h
    · rename_i q
      split at q
      · rename_i o ho
        split at q
        · cases q; cases h
          refine .inr ⟨rfl, ?_⟩
          unfold Ct.sy at ho
          split at ho
          · cases ho
          · omega
        · cases q
      · cases q
    · split at h
      · cases h; exact .inl rfl
      · split at h
        · cases h; exact .inl rfl
        · cases h
theorem em_len {c : Ct} {p : Int} {k : Mk} (h : c.em p = some k) : k.len = 1 ∨ (k.len = 2 ∧ 0 ≤ c.cod (p + 1)) := by
  unfold Ct.em at h
  split at h
  · cases h
  · split at h
    · rename_i q
      split at q
      · rename_i o ho
        split at q
        · cases q; cases h
          refine .inr ⟨rfl, ?_⟩
          unfold Ct.sy at ho
          split at ho
          · cases ho
          · omega
        · cases q
      · cases q
    · split at h
      · cases h; exact .inl rfl
      · split at h
        · cases h; exact .inl rfl
        · cases h
/-- the steps with a mark of one place do not look at the limit -/
theorem takes_one {s : St} {m : Mk} {l : Int} (h : m.len = 1) : s.takes m l = true := by
  unfold St.takes; rw [h]; rfl
theorem takes_two {s : St} {m : Mk} {l : Int} (h : m.len = 2) : s.takes m l = !decide (l ≤ s.place + 1) := by
  unfold St.takes; rw [h]; rfl
theorem leave_place (s : St) : s.leaveComment.place = s.place := by unfold St.leaveComment; split <;> rfl
theorem beginC_place (s : St) (m : Mk) (p : Int) : (s.beginComment m p).place = s.place := by unfold St.beginComment; exact endWord_place s
theorem beginW_place (s : St) : s.beginWord.place = s.place := by unfold St.beginWord; split <;> rfl
theorem close1_place (s : St) : s.close1.place = s.place := by unfold St.close1; split <;> rfl
theorem close_place (s : St) : s.close.place = s.place := by show s.endWord.close1.place = _; rw [close1_place, endWord_place]
theorem byKind_place (c : Ct) (s : St) (y : Sy) : (s.byKind c y).place = s.place := by
  unfold St.byKind
  repeat' split
  · exact beginW_place s
  · exact beginW_place s
  · exact endWord_place s
  · exact close_place s
  · exact endWord_place s
  · exact endWord_place s
  · exact endWord_place s
  · rfl
theorem takeT_place {s : St} {m : Mk} {w : Str} {l : Int} (h : s.takes m l = true) : (s.take m w l).place = s.place + m.len := by unfold St.take; rw [if_pos h]
theorem takeF_place {s : St} {m : Mk} {w : Str} {l : Int} (h : s.takes m l = false) : (s.take m w l).place = s.place + 1 := by unfold St.take; rw [if_neg (by rw [h]; exact Bool.false_ne_true)]
/-- what one step is, next to the micro steps -/
def Near (c : Ct) (l : Int) (s : St) : Prop :=
  (s.step c l = s.micro c ∧ (s.micro c).place = s.place + 1) ∨
  (s.place + 2 ≤ l ∧ s.step c l = (s.micro c).micro c ∧ (s.micro c).place = s.place + 1 ∧ ((s.micro c).micro c).place = s.place + 2 ∧ (s.micro c).depth = s.depth ∧ (s.micro c).comment = s.comment ∧
    (s.step c l).half = Str.ofString "")
theorem finish_place (c : Ct) (s : St) : (s.finishHalf c).place = s.place + 1 := by
  unfold St.finishHalf
  dsimp only
  split
  · split
    · rw [beginC_place]
    · rfl
  · split
    · rfl
    · rw [leave_place]
theorem inString_place (c : Ct) (s : St) : (s.inString c).place = s.place + 1 := by
  unfold St.inString
  show St.place _ + 1 = _
  congr 1
  (repeat' split) <;> rfl
theorem step_half {c : Ct} {s : St} {l : Int} (h : s.half ≠ Str.ofString "") : s.step c l = s.finishHalf c := by
  unfold St.step; rw [if_pos (by simpa using h)]
theorem step_comment {c : Ct} {s : St} {l : Int} (h : s.half = Str.ofString "") (h1 : s.comment ≠ 0) : s.step c l = s.inComment c l := by
  unfold St.step; rw [if_neg (by simp [h]), if_pos (by simpa using h1)]
theorem step_string {c : Ct} {s : St} {l : Int} (h : s.half = Str.ofString "") (h1 : s.comment = 0) (h2 : s.string.isSome = true) : s.step c l = s.inString c := by
  unfold St.step; rw [if_neg (by simp [h]), if_neg (by simp [h1]), if_pos h2]
theorem step_plain {c : Ct} {s : St} {l : Int} (h : s.half = Str.ofString "") (h1 : s.comment = 0) (h2 : s.string.isSome = false) : s.step c l = s.plain c l := by
  unfold St.step; rw [if_neg (by simp [h]), if_neg (by simp [h1]), if_neg (by simp [h2])]
theorem half_begin : Str.ofString "begin" ≠ Str.ofString "" := by decide
theorem half_nest : Str.ofString "nest" ≠ Str.ofString "" := by decide
theorem half_end : Str.ofString "end" ≠ Str.ofString "" := by decide
theorem near {c : Ct} {l : Int} {s : St} (h : s.place < l) : Near c l s := by
  by_cases hh : s.half = Str.ofString ""
  rotate_left
  · exact .inl ⟨by unfold St.micro; rw [step_half hh, step_half hh], by unfold St.micro; rw [step_half hh, finish_place]⟩
  by_cases hc : s.comment = 0
  rotate_left
  · -- in a comment
    have e1 : ∀ l', s.step c l' = s.inComment c l' := fun l' => step_comment hh hc
    by_cases f1 : fitsF (c.em s.place) s.style s.nests (decide (s.comment < 0)) = true
    · obtain ⟨m, hm⟩ : ∃ m, c.em s.place = some m := by
        cases q : c.em s.place with
        | none => rw [q] at f1; cases f1
        | some m => exact ⟨m, rfl⟩
      have e2 : ∀ l', s.step c l' = if s.takes m l' then (s.take m "end" l').leaveComment else s.take m "end" l' := fun l' => by
        rw [e1]; unfold St.inComment; rw [if_pos f1, hm]
      rcases em_len hm with k | ⟨k, _⟩
      · have t1 := fun l' => takes_one (s := s) (l := l') k
        refine .inl ⟨?_, ?_⟩
        · unfold St.micro; rw [e2, e2, t1, t1, if_pos rfl, if_pos rfl]; unfold St.take; rw [t1, t1]
        · unfold St.micro; rw [e2, t1, if_pos rfl, leave_place, takeT_place (t1 _), k]
      · by_cases hl : l ≤ s.place + 1
        · have a1 : s.takes m l = false := by rw [takes_two k, decide_eq_true hl]; rfl
          have a2 : s.takes m (s.place + 1) = false := by rw [takes_two k, decide_eq_true (Int.le_refl _)]; rfl
          refine .inl ⟨?_, ?_⟩
          · unfold St.micro; rw [e2, e2, a1, a2]; unfold St.take; rw [a1, a2]
          · unfold St.micro; rw [e2, a2, if_neg Bool.false_ne_true, takeF_place a2]
        · have a1 : s.takes m l = true := by rw [takes_two k, decide_eq_false hl]; rfl
          have a2 : s.takes m (s.place + 1) = false := by rw [takes_two k, decide_eq_true (Int.le_refl _)]; rfl
          have b1 : s.micro c = { s with place := s.place + 1, half := Str.ofString "end" } := by
            unfold St.micro; rw [e2, a2, if_neg Bool.false_ne_true]; unfold St.take; rw [a2]; rfl
          have b2 : s.step c l = ({ s with place := s.place + 2 } : St).leaveComment := by
            rw [e2, a1, if_pos rfl]; unfold St.take; rw [if_pos a1, k]
          have b3 : (s.micro c).micro c = ({ s with place := s.place + 2 } : St).leaveComment := by
            rw [b1]; unfold St.micro; rw [step_half (by exact half_end)]
            unfold St.finishHalf
            dsimp only
            rw [if_neg (by decide), if_neg (by decide)]
            unfold St.leaveComment
            dsimp only
            rw [hh]
            split <;> simp [hh] <;> omega
          refine .inr ⟨by omega, by rw [b2, b3], by rw [b1], by rw [b3, leave_place], by rw [b1]; rfl, by rw [b1], ?_⟩
          rw [b2]; unfold St.leaveComment; split <;> exact hh
    · by_cases f2 : (s.nests && fitsF (c.bm s.place) s.style true false) = true
      · obtain ⟨m, hm⟩ : ∃ m, c.bm s.place = some m := by
          cases q : c.bm s.place with
          | none => rw [q] at f2; simp [fitsF] at f2
          | some m => exact ⟨m, rfl⟩
        have e2 : ∀ l', s.step c l' = if s.takes m l' then { s.take m "nest" l' with comment := s.comment + 1 } else s.take m "nest" l' := fun l' => by
          rw [e1]; unfold St.inComment; rw [if_neg f1, if_pos f2, hm]
        rcases bm_len hm with k | ⟨k, _⟩
        · have t1 := fun l' => takes_one (s := s) (l := l') k
          refine .inl ⟨?_, ?_⟩
          · unfold St.micro; rw [e2, e2, t1, t1, if_pos rfl, if_pos rfl]; unfold St.take; rw [t1, t1]
          · unfold St.micro; rw [e2, t1, if_pos rfl]; show (s.take m _ _).place = _; rw [takeT_place (t1 _), k]
        · by_cases hl : l ≤ s.place + 1
          · have a1 : s.takes m l = false := by rw [takes_two k, decide_eq_true hl]; rfl
            have a2 : s.takes m (s.place + 1) = false := by rw [takes_two k, decide_eq_true (Int.le_refl _)]; rfl
            refine .inl ⟨?_, ?_⟩
            · unfold St.micro; rw [e2, e2, a1, a2]; unfold St.take; rw [a1, a2]
            · unfold St.micro; rw [e2, a2, if_neg Bool.false_ne_true, takeF_place a2]
          · have a1 : s.takes m l = true := by rw [takes_two k, decide_eq_false hl]; rfl
            have a2 : s.takes m (s.place + 1) = false := by rw [takes_two k, decide_eq_true (Int.le_refl _)]; rfl
            have b1 : s.micro c = { s with place := s.place + 1, half := Str.ofString "nest" } := by
              unfold St.micro; rw [e2, a2, if_neg Bool.false_ne_true]; unfold St.take; rw [a2]; rfl
            have b2 : s.step c l = ({ s with place := s.place + 2, comment := s.comment + 1 } : St) := by
              rw [e2, a1, if_pos rfl]; unfold St.take; rw [if_pos a1, k]
            have b3 : (s.micro c).micro c = ({ s with place := s.place + 2, comment := s.comment + 1 } : St) := by
              rw [b1]; unfold St.micro; rw [step_half (by exact half_nest)]
              unfold St.finishHalf
              dsimp only
              rw [if_neg (by decide), if_pos (by decide)]
              rw [hh]
              simp [hh]
              omega
            refine .inr ⟨by omega, by rw [b2, b3], by rw [b1], by rw [b3], by rw [b1]; rfl, by rw [b1], ?_⟩
            rw [b2]; exact hh
      · refine .inl ⟨?_, ?_⟩
        · unfold St.micro; rw [e1, e1]; unfold St.inComment; rw [if_neg f1, if_neg f2, if_neg f1, if_neg f2]
        · unfold St.micro; rw [e1]; unfold St.inComment; rw [if_neg f1, if_neg f2]
  by_cases hs : s.string.isSome = true
  · exact .inl ⟨by unfold St.micro; rw [step_string hh hc hs, step_string hh hc hs], by unfold St.micro; rw [step_string hh hc hs, inString_place]⟩
  have hs := Bool.eq_false_iff.mpr hs
  have e1 : ∀ l', s.step c l' = s.plain c l' := fun l' => step_plain hh hc hs
  by_cases hq : s.quoted = true
  · exact .inl ⟨by unfold St.micro; rw [e1, e1]; unfold St.plain; rw [if_pos hq, if_pos hq], by unfold St.micro; rw [e1]; unfold St.plain; rw [if_pos hq]⟩
  cases hm : c.bm s.place with
  | none =>
    refine .inl ⟨by unfold St.micro; rw [e1, e1]; unfold St.plain; rw [if_neg hq, if_neg hq, hm], ?_⟩
    unfold St.micro; rw [e1]; unfold St.plain; rw [if_neg hq, hm]
    show St.place _ + 1 = _
    congr 1
    split
    · rfl
    · exact byKind_place _ _ _
  | some m =>
    have e2 : ∀ l', s.step c l' = if s.takes m l' then (s.take m "begin" l').beginComment m s.place else (s.take m "begin" l').endWord := fun l' => by
      rw [e1]; unfold St.plain; rw [if_neg hq, hm]
    rcases bm_len hm with k | ⟨k, _⟩
    · have t1 := fun l' => takes_one (s := s) (l := l') k
      refine .inl ⟨?_, ?_⟩
      · unfold St.micro; rw [e2, e2, t1, t1, if_pos rfl, if_pos rfl]; unfold St.take; rw [t1, t1]
      · unfold St.micro; rw [e2, t1, if_pos rfl, beginC_place, takeT_place (t1 _), k]
    · by_cases hl : l ≤ s.place + 1
      · have a1 : s.takes m l = false := by rw [takes_two k, decide_eq_true hl]; rfl
        have a2 : s.takes m (s.place + 1) = false := by rw [takes_two k, decide_eq_true (Int.le_refl _)]; rfl
        refine .inl ⟨?_, ?_⟩
        · unfold St.micro; rw [e2, e2, a1, a2]; unfold St.take; rw [a1, a2]
        · unfold St.micro; rw [e2, a2, if_neg Bool.false_ne_true, endWord_place, takeF_place a2]
      · have a1 : s.takes m l = true := by rw [takes_two k, decide_eq_false hl]; rfl
        have a2 : s.takes m (s.place + 1) = false := by rw [takes_two k, decide_eq_true (Int.le_refl _)]; rfl
        have b1 : s.micro c = ({ s with place := s.place + 1, half := Str.ofString "begin" } : St).endWord := by
          unfold St.micro; rw [e2, a2, if_neg Bool.false_ne_true]; unfold St.take; rw [a2]; rfl
        have b2 : s.step c l = ({ s with place := s.place + 2 } : St).beginComment m s.place := by
          rw [e2, a1, if_pos rfl]; unfold St.take; rw [if_pos a1, k]
        have b3 : (s.micro c).micro c = ({ s with place := s.place + 2 } : St).beginComment m s.place := by
          rw [b1]; unfold St.micro; rw [step_half (by rw [endWord_half]; exact half_begin)]
          unfold St.finishHalf
          dsimp only
          rw [endWord_half, if_pos (by exact beq_self_eq_true _), endWord_place]
          have q : (s.place + 1 - 1 : Int) = s.place := by omega
          dsimp only
          rw [q, hm]
          dsimp only
          unfold St.beginComment St.endWord
          cases s.word <;> simp [hh] <;> omega
        refine .inr ⟨by omega, by rw [b2, b3], by rw [b1, endWord_place], by rw [b3, beginC_place], by rw [b1]; unfold St.depth; rw [endWord_opens, endWord_below], by rw [b1, endWord_comment], ?_⟩
        rw [b2]; unfold St.beginComment; exact (endWord_half _).trans hh
/-- n places on -/
def St.iter (c : Ct) : Nat → St → St
  | 0, s => s
  | k + 1, s => St.iter c k (s.micro c)
theorem iter_add (c : Ct) : ∀ (a b : Nat) (s : St), St.iter c b (St.iter c a s) = St.iter c (a + b) s
  | 0, b, s => by rw [Nat.zero_add]; rfl
  | a + 1, b, s => by
    have := iter_add c a b (s.micro c)
    rw [show a + 1 + b = (a + b) + 1 from by omega]
    exact this
theorem micro_place (c : Ct) (s : St) : (s.micro c).place = s.place + 1 := by
  rcases near (c := c) (l := s.place + 1) (s := s) (by omega) with ⟨_, h⟩ | ⟨h, _⟩
  · exact h
  · omega
theorem iter_place (c : Ct) : ∀ (k : Nat) (s : St), (St.iter c k s).place = s.place + k
  | 0, s => by simp [St.iter]
  | k + 1, s => by
    have := iter_place c k (s.micro c)
    rw [micro_place] at this
    show (St.iter c k (s.micro c)).place = _
    rw [this]; omega
def stp (tg : Option Int) (sc : Bool) (s t : St) : Bool := (match tg with | none => false | some d => t.depth != s.depth && t.depth == d) || (sc && s.comment == 0 && t.comment != 0)
theorem stp_same {tg sc s t} (h1 : t.depth = s.depth) (h2 : t.comment = s.comment) : stp tg sc s t = false := by
  unfold stp
  rw [h1, h2]
  cases tg <;> cases sc <;> simp
theorem stp_left {tg sc s s' t} (h1 : s'.depth = s.depth) (h2 : s'.comment = s.comment) : stp tg sc s' t = stp tg sc s t := by
  unfold stp
  rw [h1, h2]
/-- the loop of parse_partial -/
def St.runS (c : Ct) (l : Int) (tg : Option Int) (sc : Bool) : Nat → St → St
  | 0, s => s
  | n + 1, s => if s.place < l then (if stp tg sc s (s.step c l) = true then s.step c l else St.runS c l tg sc n (s.step c l)) else s
theorem step_on {c : Ct} {l : Int} {s : St} (h : s.place < l) : s.place + 1 ≤ (s.step c l).place ∧ (s.step c l).place ≤ l := by
  rcases near (c := c) h with ⟨e, h1⟩ | ⟨h0, e, _, h2, _⟩
  · rw [e, h1]; omega
  · rw [e, h2]; omega
/-- where the first stop lies -/
structure FirstK (P : Nat → Bool) (N k : Nat) : Prop where
  le : k ≤ N
  no : ∀ j, 1 ≤ j → j < k → P j = false
  here : k = N ∨ (1 ≤ k ∧ P k = true)
theorem FirstK.uniq {P N k k'} (h : FirstK P N k) (h' : FirstK P N k') (h0 : 1 ≤ k) (h0' : 1 ≤ k') : k = k' := by
  have key : ∀ {a b}, FirstK P N a → FirstK P N b → 1 ≤ a → a < b → False := by
    intro a b ha hb h1 hl
    rcases ha.here with e | ⟨_, e⟩
    · have := hb.le; omega
    · rw [hb.no a h1 hl] at e; cases e
  rcases Nat.lt_trichotomy k k' with q | q | q
  · exact (key h h' h0 q).elim
  · exact q
  · exact (key h' h h0' q).elim
abbrev stops (c : Ct) (tg : Option Int) (sc : Bool) (s : St) (j : Nat) : Bool := stp tg sc (St.iter c (j - 1) s) (St.iter c j s)
theorem run_stop (c : Ct) (l : Int) (tg : Option Int) (sc : Bool) : ∀ (n : Nat) (s : St), s.place ≤ l → (l - s.place).toNat ≤ n →
    ∃ k, St.runS c l tg sc n s = St.iter c k s ∧ FirstK (stops c tg sc s) (l - s.place).toNat k ∧ (s.place < l → 1 ≤ k)
  | 0, s, h, hn => ⟨0, rfl, ⟨Nat.zero_le _, fun j a b => absurd b (Nat.not_lt_zero _), .inl (by omega)⟩, by omega⟩
  | n + 1, s, h, hn => by
    by_cases hl : s.place < l
    · have hon := step_on (c := c) hl
      show ∃ k, (if s.place < l then _ else _) = _ ∧ _
      rw [if_pos hl]
      by_cases hs : stp tg sc s (s.step c l) = true
      · rw [if_pos hs]
        rcases near (c := c) hl with ⟨e, h1⟩ | ⟨h0, e, h1, h2, h3, h4, _⟩
        · refine ⟨1, e, ⟨by omega, fun j a b => by omega, .inr ⟨Nat.le_refl _, ?_⟩⟩, fun _ => Nat.le_refl _⟩
          rw [e] at hs; exact hs
        · refine ⟨2, e, ⟨by omega, fun j a b => ?_, .inr ⟨by omega, ?_⟩⟩, fun _ => by omega⟩
          · have : j = 1 := by omega
            subst this
            exact stp_same h3 h4
          · show stp tg sc (s.micro c) ((s.micro c).micro c) = true
            rw [stp_left h3 h4, ← e]; exact hs
      · rw [if_neg hs]
        have hs := Bool.eq_false_iff.mpr hs
        obtain ⟨k, e1, ⟨f1, f2, f3⟩, e3⟩ := run_stop c l tg sc n (s.step c l) hon.2 (by omega)
        rw [e1]
        rcases near (c := c) hl with ⟨e, h1⟩ | ⟨h0, e, h1, h2, h3, h4, _⟩
        · rw [e] at f1 f2 f3 hs ⊢
          refine ⟨k + 1, rfl, ⟨by omega, fun j a b => ?_, ?_⟩, fun _ => by omega⟩
          · rcases j with _ | _ | j
            · omega
            · exact hs
            · exact f2 (j + 1) (by omega) (by omega)
          · rcases f3 with f3 | ⟨f3, f4⟩
            · exact .inl (by omega)
            · refine .inr ⟨by omega, ?_⟩
              obtain ⟨k, rfl⟩ : ∃ k', k = k' + 1 := ⟨k - 1, by omega⟩
              exact f4
        · rw [e] at f1 f2 f3 hs ⊢
          refine ⟨k + 2, rfl, ⟨by omega, fun j a b => ?_, ?_⟩, fun _ => by omega⟩
          · rcases j with _ | _ | _ | j
            · omega
            · exact stp_same h3 h4
            · show stp tg sc (s.micro c) ((s.micro c).micro c) = false
              rw [stp_left h3 h4]; exact hs
            · exact f2 (j + 1) (by omega) (by omega)
          · rcases f3 with f3 | ⟨f3, f4⟩
            · exact .inl (by omega)
            · refine .inr ⟨by omega, ?_⟩
              obtain ⟨k, rfl⟩ : ∃ k', k = k' + 1 := ⟨k - 1, by omega⟩
              exact f4
    · refine ⟨0, ?_, ⟨Nat.zero_le _, fun j a b => absurd b (Nat.not_lt_zero _), .inl (by omega)⟩, by omega⟩
      show (if s.place < l then _ else _) = _
      rw [if_neg hl]; rfl
theorem run_plain (c : Ct) (l : Int) (n : Nat) (s : St) (h : s.place ≤ l) (hn : (l - s.place).toNat ≤ n) : St.runS c l none false n s = St.iter c (l - s.place).toNat s := by
  obtain ⟨k, e, f, g⟩ := run_stop c l none false n s h hn
  rcases f.here with q | ⟨_, q⟩
  · rw [e, q]
  · cases q
/-! what a walk keeps -/
structure Good (c : Ct) (s : St) : Prop where
  b : c.b ≤ s.place
  half : s.half = Str.ofString "begin" → ∃ k, c.bm (s.place - 1) = some k
  opens : (s.opens.length : Int) ≤ s.place - c.b
theorem leave_opens (s : St) : s.leaveComment.opens = s.opens := by unfold St.leaveComment; split <;> rfl
theorem leave_half (s : St) : s.leaveComment.half = s.half := by unfold St.leaveComment; split <;> rfl
theorem beginW_opens (s : St) : s.beginWord.opens = s.opens := by unfold St.beginWord; split <;> rfl
theorem beginW_half (s : St) : s.beginWord.half = s.half := by unfold St.beginWord; split <;> rfl
theorem close1_half (s : St) : s.close1.half = s.half := by unfold St.close1; split <;> rfl
theorem close_half (s : St) : s.close.half = s.half := by show s.endWord.close1.half = _; rw [close1_half, endWord_half]
theorem close1_opens (s : St) : s.close1.opens.length ≤ s.opens.length := by
  unfold St.close1; split
  · exact Nat.le_refl _
  · simp
theorem close_opens (s : St) : s.close.opens.length ≤ s.opens.length := by show s.endWord.close1.opens.length ≤ _; exact Nat.le_trans (close1_opens _) (by rw [endWord_opens]; exact Nat.le_refl _)
theorem byKind_half (c : Ct) (s : St) (y : Sy) : (s.byKind c y).half = s.half := by
  unfold St.byKind
  repeat' split
  · exact beginW_half s
  · exact beginW_half s
  · exact endWord_half s
  · exact close_half s
  · exact endWord_half s
  · exact endWord_half s
  · exact endWord_half s
  · rfl
theorem byKind_opens (c : Ct) (s : St) (y : Sy) : (s.byKind c y).opens.length ≤ s.opens.length + 1 := by
  unfold St.byKind
  repeat' split
  · show s.beginWord.opens.length ≤ _; rw [beginW_opens]; omega
  · rw [beginW_opens]; omega
  · show (s.opens ++ [s.place]).length ≤ _; simp
  · have := close_opens s; omega
  · show s.endWord.opens.length ≤ _; rw [endWord_opens]; omega
  · show s.endWord.opens.length ≤ _; rw [endWord_opens]; omega
  · rw [endWord_opens]; omega
  · omega
theorem step_opens (c : Ct) (s : St) (l : Int) : (s.step c l).opens.length ≤ s.opens.length + 1 := by
  unfold St.step
  split
  · unfold St.finishHalf
    dsimp only
    split
    · split
      · show (St.endWord _).opens.length ≤ _; rw [endWord_opens]; exact Nat.le_succ _
      · exact Nat.le_succ _
    · split
      · exact Nat.le_succ _
      · rw [leave_opens]; exact Nat.le_succ _
  · split
    · unfold St.inComment
      repeat' split
      · rw [leave_opens, take_opens]; exact Nat.le_succ _
      · rw [take_opens]; exact Nat.le_succ _
      · exact Nat.le_succ _
      · show (s.take _ _ _).opens.length ≤ _; rw [take_opens]; exact Nat.le_succ _
      · rw [take_opens]; exact Nat.le_succ _
      · exact Nat.le_succ _
      · exact Nat.le_succ _
    · split
      · unfold St.inString
        show List.length (St.opens _) ≤ _
        repeat' split
        all_goals exact Nat.le_succ _
      · unfold St.plain
        split
        · exact Nat.le_succ _
        · split
          · split
            · show (St.endWord _).opens.length ≤ _; rw [endWord_opens, take_opens]; exact Nat.le_succ _
            · rw [endWord_opens, take_opens]; exact Nat.le_succ _
          · show List.length (St.opens _) ≤ _
            split
            · exact Nat.le_succ _
            · exact byKind_opens _ _ _
theorem take_half (s : St) (m : Mk) (w : Str) (l : Int) : (s.take m w l).half = s.half ∨ (s.take m w l).half = w := by unfold St.take; split; exact .inl rfl; exact .inr rfl
theorem micro_half (c : Ct) (s : St) (h : (s.micro c).half = Str.ofString "begin") : ∃ k, c.bm s.place = some k := by
  unfold St.micro at h
  by_cases hh : s.half = Str.ofString ""
  rotate_left
  · rw [step_half hh] at h
    unfold St.finishHalf at h
    dsimp only at h
    split at h
    · split at h
      · exact absurd ((endWord_half _).symm.trans h) (by simp; decide)
      · exact absurd h (by simp; decide)
    · split at h
      · exact absurd h (by simp; decide)
      · rw [leave_half] at h; exact absurd h (by simp; decide)
  have no : ∀ {P : Prop}, s.half = Str.ofString "begin" → P := fun e => absurd (hh.symm.trans e) (by decide)
  by_cases hc : s.comment = 0
  rotate_left
  · rw [step_comment hh hc] at h
    unfold St.inComment at h
    split at h
    · split at h
      · split at h
        · rw [leave_half] at h
          rcases take_half s _ (Str.ofString "end") (s.place + 1) with q | q
          · exact no (q.symm.trans h)
          · exact absurd (q.symm.trans h) (by decide)
        · rcases take_half s _ (Str.ofString "end") (s.place + 1) with q | q
          · exact no (q.symm.trans h)
          · exact absurd (q.symm.trans h) (by decide)
      · exact no h
    · split at h
      · split at h
        · split at h
          · rcases take_half s _ (Str.ofString "nest") (s.place + 1) with q | q
            · exact no (q.symm.trans h)
            · exact absurd (q.symm.trans h) (by decide)
          · rcases take_half s _ (Str.ofString "nest") (s.place + 1) with q | q
            · exact no (q.symm.trans h)
            · exact absurd (q.symm.trans h) (by decide)
        · exact no h
      · exact no h
  by_cases hs : s.string.isSome = true
  · rw [step_string hh hc hs] at h
    unfold St.inString at h
    dsimp only at h
    refine no (Eq.trans ?_ h)
    (repeat' split) <;> rfl
  have hs := Bool.eq_false_iff.mpr hs
  rw [step_plain hh hc hs] at h
  unfold St.plain at h
  split at h
  · exact no h
  · split at h
    · rename_i k hk; exact ⟨k, hk⟩
    · dsimp only at h
      refine no (Eq.trans ?_ h)
      split
      · rfl
      · exact (byKind_half _ _ _).symm
theorem Good.micro {c : Ct} {s : St} (G : Good c s) : Good c (s.micro c) := by
  have hp := micro_place c s
  refine ⟨by rw [hp]; have := G.b; omega, fun h => ?_, ?_⟩
  · rw [hp, show s.place + 1 - 1 = s.place from by omega]; exact micro_half c s h
  · have := step_opens c s (s.place + 1)
    have := G.opens
    rw [hp]
    show ((s.step c (s.place + 1)).opens.length : Int) ≤ _
    omega
theorem Good.iter {c : Ct} : ∀ (k : Nat) {s : St}, Good c s → Good c (St.iter c k s)
  | 0, _, G => G
  | k + 1, _, G => Good.iter k G.micro
theorem Good.step {c : Ct} {s : St} {l : Int} (G : Good c s) (h : s.place < l) : Good c (s.step c l) := by
  rcases near (c := c) h with ⟨e, _⟩ | ⟨_, e, _⟩
  · rw [e]; exact G.micro
  · rw [e]; exact G.micro.micro
theorem Good.zero (c : Ct) : Good c (St0.s_place c.b) := ⟨Int.le_refl _, fun h => absurd (show Str.ofString "" = Str.ofString "begin" from h) (by decide), by show ((0 : Nat) : Int) ≤ c.b - c.b; omega⟩
end
/-! part Lp -/
section
set_option hygiene true
open LCg (NsObj lst Off3 Off1)
/-- an iterator at I: n values, and what must stay for it -/
structure ItOk (w : World) (A : Around) (g : Heap) (L : Addr) (I : Addr) (fp : List Addr) (n : Nat) (P : Nat → Value → Prop) (S : Led → Prop) (St : Nat → Heap → Prop) : Prop where
  W : Walks prg w A I fp [I] n P St
  io : ∀ i h, St i h → ∃ o, h.get? I = some o
  st : ∀ i h h' o nw, St i h → h.get? I = some o → h'.get? I = some o → (∀ b o, g.get? b = some o → h'.get? b = some o) → News g L h' nw → S nw → St i h'
section
variable {z : Shared} {w : World} {A : Around} {env : Env} {g : Heap} {L : Addr} {n : Nat} {m : Str → Option Value} {own rest : Led} {s : Shared} {E : Value → Shared → Prop} {Q : Value → Shared → Prop}
variable {I : Addr} {oI : Obj} {fp : List Addr} {P : Nat → Value → Prop} {S : Led → Prop} {St : Nat → Heap → Prop}
theorem Inv.item {h' : Heap} {tk : Nat} {o' : Obj} (J : Inv z g L m ((I, oI) :: own) s) (hk : ∀ b o, b ∉ [I] → s.heap.get? b = some o → h'.get? b = some o) (ho : h'.get? I = some o') :
    Inv z g L m ((I, o') :: own) { s with heap := h', toks := tk } := by
  have h1 := J.N (I, oI) (.head _)
  have nd := List.nodup_cons.mp (List.map_cons ▸ J.nd)
  refine ⟨LCg.fr_but J.F hk (Ne.symm h1.2.1) h1.2.2, fun p hp => ?_, J.nd, J.same⟩
  rcases List.mem_cons.mp hp with rfl | hp
  · exact ⟨ho, h1.2⟩
  · have h2 := J.N p (.tail _ hp)
    exact ⟨hk _ _ (fun q => nd.1 (List.mem_map.mpr ⟨p, hp, List.mem_singleton.mp q⟩)) h2.1, h2.2⟩
theorem Inv.but {h' : Heap} {tk : Nat} (J : Inv z g L m ((I, oI) :: own) s) (hk : ∀ b o, b ∉ [I] → s.heap.get? b = some o → h'.get? b = some o) : Inv z g L m own { s with heap := h', toks := tk } := by
  have h1 := J.N (I, oI) (.head _)
  have nd := List.nodup_cons.mp (List.map_cons ▸ J.nd)
  refine ⟨LCg.fr_but J.F hk (Ne.symm h1.2.1) h1.2.2, fun p hp => ?_, nd.2, J.same⟩
  have h2 := J.N p (.tail _ hp)
  exact ⟨hk _ _ (fun q => nd.1 (List.mem_map.mpr ⟨p, hp, List.mem_singleton.mp q⟩)) h2.1, h2.2⟩
theorem Inv.tail {p : Addr × Obj} (J : Inv z g L m (p :: own) s) : Inv z g L m own s := J.sub (List.sublist_cons_self _ _)
theorem for_own {x : Str} {px : Pos} {body : List Stmt} {R : Result → Shared → Prop} (ok : ItOk w A g L I fp n P S St) (I0 : Inv z g L m ((I, oI) :: own) s) (s0 : St 0 s.heap)
    (J : Nat → (Str → Option Value) → Led → Prop) (j0 : J 0 m own) (hS : ∀ i m own, J i m own → S own)
    (turn : ∀ i v m own oI s, i < n → P i v → J i m own → Inv z g L m ((I, oI) :: own) s → wpAny (model prg w) A (storeName env x v) (fun _ s₂ => wpAny (model prg w) A (execs body env) (fun f s₃ => match f with
      | .next | .cont => ∃ m' own', Inv z g L m' ((I, oI) :: own') s₃ ∧ J (i + 1) m' own'
      | .brk => R (.ok .next) s₃ | .ret v => R (.ok (.ret v)) s₃) (fun _ _ => False) s₂) (fun _ _ => False) s)
    (fin : ∀ m own s, Inv z g L m own s → J n m own → R (.ok .next) s) :
    codeAny (model prg w) A (.forLoop (.Name x px) (.ref I) body [] env) R s := by
  refine codeAny_forLoop (fun k s' => ∃ i m own oI, Inv z g L m ((I, oI) :: own) s' ∧ St i s'.heap ∧ J i m own ∧ i ≤ n ∧ k = n + 1 - i) ?_ (n + 1) ⟨0, m, own, oI, I0, s0, j0, Nat.zero_le _, rfl⟩
  rintro k s' ⟨i, m, own, oI, I1, st1, j1, hi, rfl⟩
  by_cases hlt : i < n
  · refine ok.W.item i _ _ _ hlt st1 fun v h' tk hP st2 hk => ?_
    obtain ⟨o', ho'⟩ := ok.io _ _ st2
    refine wpAny_assign_Name (wpAny_mono (turn i v m own o' _ hlt hP j1 (I1.item hk ho')) (fun _ s₂ h2 => wpAny_mono h2 (fun f s₃ h3 => ?_) fun _ _ y => y.elim) fun _ _ y => y.elim)
    have key : (∃ m' own', Inv z g L m' ((I, o') :: own') s₃ ∧ J (i + 1) m' own') → ∃ k, k < n + 1 - i ∧ ∃ i m own oI, Inv z g L m ((I, oI) :: own) s₃ ∧ St i s₃.heap ∧ J i m own ∧ i ≤ n ∧ k = n + 1 - i := by
      rintro ⟨m', own', I3, j3⟩
      exact ⟨n + 1 - (i + 1), by omega, i + 1, m', own', o', I3, ok.st _ _ _ _ _ st2 ho' (I3.N _ (.head _)).1 I3.F.keep I3.tail.N (hS _ _ _ j3), j3, hlt, rfl⟩
    cases f with
    | next => exact key h3
    | cont => exact key h3
    | brk => exact h3
    | ret v => exact h3
  · obtain rfl : i = n := Nat.le_antisymm hi (Nat.not_lt.mp hlt)
    refine ok.W.done _ _ _ st1 fun h' tk hk => ?_
    exact wpAny_execs_nil (fin m own _ (I1.but hk) j1)
/-! sources -/
theorem src_range {r : Addr} {a b : Int} {t u v : Tok} {nn : Nat} (hh : A.handled = none) (I0 : Inv z g L m own s) (hr : IsRange s.heap r a b 1 t u v) (hsm : Builtin.Range.small a b 1 = true) (hn : Builtin.Range.rangeSize a b 1 = ((nn : Nat) : Int))
    (h : ∀ I fp St oI s', ItOk w A g L I fp nn (fun i v => ∃ t, v = .int (a + (i : Int)) t) (fun _ => True) St → (∀ b ∈ fp, b < s'.heap.objs.size) → St 0 s'.heap → Inv z g L m ((I, oI) :: own) s' → Q (.ref I) s') :
    wpAny (model prg w) A (pyIter (.ref r)) Q E s := by
  refine wpAny_pyIter_range hr hsm ?_
  refine h _ [s.heap.objs.size] _ _ _ ⟨LCg.range_walks hh a nn, fun i h st => ⟨_, st⟩, LCg.range_st (h₀ := g) (L := L) |> fun q i h h' o nw st e1 e2 e3 e4 e5 => q i h h' o nw st e1 e2 e3 e4 trivial⟩ (fun b hb => ?_) ?_ (I0.push _ s.toks)
  · rw [List.mem_singleton.mp hb]
    show s.heap.objs.size < (s.heap.push _).objs.size
    rw [Heap.size_push]; exact Nat.lt_succ_self _
  · show IsRangeIter _ _ _ _ _
    rw [hn]; simpa using Heap.get?_push_size _ rfl
theorem src_list {ax : Addr} {its : Array Value} (hh : A.handled = none) (I0 : Inv z g L m own s) (hl : LCg.SrcAt g ax its own)
    (h : ∀ I fp St oI s', ItOk w A g L I fp its.size (fun i v => its[i]? = some v) (LCg.SrcAt g ax its) St → (∀ b ∈ fp, b < s'.heap.objs.size) → St 0 s'.heap → Inv z g L m ((I, oI) :: own) s' → Q (.ref I) s') :
    wpAny (model prg w) A (pyIter (.ref ax)) Q E s := by
  have hl' := hl.list I0.F.keep I0.N
  have hlt : ax < s.heap.objs.size := by obtain ⟨_, e, _⟩ := hl'; exact Heap.lt_size e
  refine wpAny_pyIter_list hl' ?_
  refine h _ [s.heap.objs.size, ax] _ _ _ ⟨Walks.list hh s.heap.objs.size ax (Nat.ne_of_lt hlt) its, fun i h st => by obtain ⟨o, e, _⟩ := st.1; exact ⟨o, e⟩, LCg.list_st⟩ (fun b hb => ?_) ⟨⟨_, Heap.get?_push_size _ rfl, rfl, rfl⟩, hl'.push _⟩ (I0.push _ s.toks)
  show b < (s.heap.push _).objs.size
  rw [Heap.size_push]
  rcases List.mem_cons.mp hb with rfl | hb
  · exact Nat.lt_succ_self _
  · rw [List.mem_singleton.mp hb]; exact Nat.lt_succ_of_lt hlt
theorem src_str {x : Str} {t : Tok} (hh : A.handled = none) (I0 : Inv z g L m own s) (ha : x.cps.all (· < 128) = true)
    (h : ∀ I fp St oI s', ItOk w A g L I fp x.cps.size (SignAt x) (fun _ => True) St → (∀ b ∈ fp, b < s'.heap.objs.size) → St 0 s'.heap → Inv z g L m ((I, oI) :: own) s' → Q (.ref I) s') :
    wpAny (model prg w) A (pyIter (.str x t)) Q E s := by
  refine wpAny_pyIter_ascii ha ?_
  refine h _ [s.heap.objs.size] _ _ _ ⟨Walks.strAscii hh s.heap.objs.size x t, fun i h st => by obtain ⟨o, e, _⟩ := st; exact ⟨o, e⟩, fun i h h' o nw st e1 e2 _ _ _ => ?_⟩ (fun b hb => ?_) ⟨_, Heap.get?_push_size _ rfl, rfl, rfl⟩ (I0.push _ s.toks)
  · obtain ⟨o', q, r⟩ := st
    rw [e1] at q; cases q; exact ⟨o, e2, r⟩
  · rw [List.mem_singleton.mp hb]
    show s.heap.objs.size < (s.heap.push _).objs.size
    rw [Heap.size_push]; exact Nat.lt_succ_self _
theorem src_tup {ax : Addr} {its : Array Value} {k : Nat} (hh : A.handled = none) (I0 : Inv z g L m own s) (hl : (ax, tupO its k) ∈ own)
    (h : ∀ I fp St oI s', ItOk w A g L I fp its.size (fun i v => its[i]? = some v) (fun l => (ax, tupO its k) ∈ l) St → (∀ b ∈ fp, b < s'.heap.objs.size) → St 0 s'.heap → Inv z g L m ((I, oI) :: own) s' → Q (.ref I) s') :
    wpAny (model prg w) A (pyIter (.ref ax)) Q E s := by
  have hl' : s.heap.IsTuple ax its := ⟨_, I0.get hl, rfl, k, rfl⟩
  have hlt : ax < s.heap.objs.size := Heap.lt_size (I0.get hl)
  refine wpAny_pyIter_tuple hl' ?_
  refine h _ [s.heap.objs.size, ax] _ _ _ ⟨Walks.tuple hh s.heap.objs.size ax (Nat.ne_of_lt hlt) its, fun i h st => by obtain ⟨o, e, _⟩ := st.1; exact ⟨o, e⟩, fun i h h' o nw st e1 e2 e3 N hS => ?_⟩ (fun b hb => ?_) ⟨⟨_, Heap.get?_push_size _ rfl, rfl, rfl⟩, ?_⟩ (I0.push _ s.toks)
  · obtain ⟨o', q, r⟩ := st.1
    rw [e1] at q; cases q; exact ⟨⟨o, e2, r⟩, ⟨_, (N _ hS).1, rfl, k, rfl⟩⟩
  · show b < (s.heap.push _).objs.size
    rw [Heap.size_push]
    rcases List.mem_cons.mp hb with rfl | hb
    · exact Nat.lt_succ_self _
    · rw [List.mem_singleton.mp hb]; exact Nat.lt_succ_of_lt hlt
  · exact ⟨_, Heap.get?_push_of_some _ (I0.get hl), rfl, k, rfl⟩
/-! list comprehensions -/
theorem same_eq {z s s' : Shared} (h : s.gens = z.gens ∧ s.drawn = z.drawn ∧ s.os = z.os) (h' : s'.gens = z.gens ∧ s'.drawn = z.drawn ∧ s'.os = z.os) : s' = { s with heap := s'.heap, toks := s'.toks } := by
  obtain ⟨a, b, c, d, e⟩ := s
  obtain ⟨a', b', c', d', e'⟩ := s'
  obtain ⟨h1, h2, h3⟩ := h
  obtain ⟨h4, h5, h6⟩ := h'
  dsimp only at *
  subst h1 h2 h3 h4 h5 h6
  rfl
theorem off_of {C D : Addr} {oC oD : Obj} (J : Inv z g L m ((I, oI) :: (C, oC) :: (D, oD) :: own) s) : Off3 I C D own := by
  have nd := J.nd
  simp only [List.map_cons, List.nodup_cons, List.mem_cons, List.mem_map, not_or, not_exists, not_and] at nd
  exact Off3.of fun p hp => ⟨fun e => nd.1.2.2 p hp e, fun e => nd.2.1.2 p hp e, fun e => nd.2.2.1 p hp e⟩
theorem nd_of {C D : Addr} {oC oD : Obj} (off : Off3 I C D own) (ne : (@Ne Nat I C) ∧ (@Ne Nat I D) ∧ (@Ne Nat C D)) (nd : (own.map (·.1)).Nodup) : (((I, oI) :: (C, oC) :: (D, oD) :: own).map (·.1)).Nodup := by
  simp only [List.map_cons, List.nodup_cons, List.mem_cons, List.mem_map, not_or, not_exists, not_and]
  have q := off.mem
  exact ⟨⟨ne.1, ne.2.1, fun p hp e => (q p hp).1 e⟩, ⟨ne.2.2, fun p hp e => (q p hp).2.1 e⟩, fun p hp e => (q p hp).2.2 e, nd⟩
def SN (S : Led → Prop) : Led → Prop := fun l => S l ∧ (l.map (·.1)).Nodup
theorem rest_U {elt : Expr} {x : Str} {scope : Scope} {cl : List (Str × Addr)} (hs : s.gens = z.gens ∧ s.drawn = z.drawn ∧ s.os = z.os) (J : Nat → List Value → Led → Prop) (hS : ∀ i ys own, J i ys own → S own) 
    (turn : ∀ i v ys own I oI C oC D m₂ s, i < n → P i v → J i ys own → NsObj oC m₂ → m₂ x = some v → Inv z g L m ((I, oI) :: (C, oC) :: (D, lst ys) :: own) s →
      wpAny (model prg w) A (eval elt (compEnvC scope cl C env)) (fun y s' => ∃ own', Inv z g L m ((I, oI) :: (C, oC) :: (D, lst ys) :: own') s' ∧ J (i + 1) (ys ++ [y]) own') (fun _ _ => False) s) :
    ∀ k i ys own, i + k = n → J i ys own → (own.map (·.1)).Nodup → LCg.CompRest prg w A g L m env elt x scope cl s (SN S) P (fun ys own => J n ys own ∧ (own.map (·.1)).Nodup) k i ys own
  | 0, i, ys, own, e, j, nd => ⟨by rw [← e]; exact j, nd⟩
  | k + 1, i, ys, own, e, j, nd => by
    refine LCg.CompRest.succ fun v I oI C oC D m₂ h tk E' hP hC hx F N off ne => ?_
    refine wpAny_mono (turn i v ys own I oI C oC D m₂ _ (by omega) hP j hC hx ⟨F, N, nd_of off ne nd, hs⟩) (fun y s' h' => ?_) fun _ _ y => y.elim
    obtain ⟨own', I', j'⟩ := h'
    have nd' := (I'.tail.tail.tail).nd
    exact ⟨s'.heap, s'.toks, own', same_eq hs I'.same, I'.F, I'.N, off_of I', ⟨hS _ _ _ j', nd'⟩, rest_U hs J hS turn k (i + 1) _ _ (by omega) j' nd'⟩
theorem rest_T {ct elt : Expr} {x : Str} {scope : Scope} {cl : List (Str × Addr)} (hs : s.gens = z.gens ∧ s.drawn = z.drawn ∧ s.os = z.os) (J : Nat → List Value → Led → Prop) (hS : ∀ i ys own, J i ys own → S own) 
    (turn : ∀ i v ys own I oI C oC D m₂ s, i < n → P i v → J i ys own → NsObj oC m₂ → m₂ x = some v → Inv z g L m ((I, oI) :: (C, oC) :: (D, lst ys) :: own) s →
      wpAny (model prg w) A (PySem.isTrue ct (compEnvC scope cl C env) (eval ct (compEnvC scope cl C env))) (fun ok s' => if ok = true then
        wpAny (model prg w) A (eval elt (compEnvC scope cl C env)) (fun y s' => ∃ own', Inv z g L m ((I, oI) :: (C, oC) :: (D, lst ys) :: own') s' ∧ J (i + 1) (ys ++ [y]) own') (fun _ _ => False) s'
        else ∃ own', Inv z g L m ((I, oI) :: (C, oC) :: (D, lst ys) :: own') s' ∧ J (i + 1) ys own') (fun _ _ => False) s) :
    ∀ k i ys own, i + k = n → J i ys own → (own.map (·.1)).Nodup → LCt.CompRestT prg w A g L m env ct elt x scope cl s (SN S) P (fun ys own => J n ys own ∧ (own.map (·.1)).Nodup) k i ys own
  | 0, i, ys, own, e, j, nd => ⟨by rw [← e]; exact j, nd⟩
  | k + 1, i, ys, own, e, j, nd => by
    refine LCt.CompRestT.succ fun v I oI C oC D m₂ h tk E' hP hC hx F N off ne => ?_
    refine wpAny_mono (turn i v ys own I oI C oC D m₂ _ (by omega) hP j hC hx ⟨F, N, nd_of off ne nd, hs⟩) (fun ok s' h' => ?_) fun _ _ y => y.elim
    cases ok with
    | true =>
      rw [if_pos rfl] at h' ⊢
      refine wpAny_mono h' (fun y s'' h'' => ?_) fun _ _ y => y.elim
      obtain ⟨own', I', j'⟩ := h''
      have nd' := (I'.tail.tail.tail).nd
      exact ⟨s''.heap, s''.toks, own', same_eq hs I'.same, I'.F, I'.N, off_of I', ⟨hS _ _ _ j', nd'⟩, rest_T hs J hS turn k (i + 1) _ _ (by omega) j' nd'⟩
    | false =>
      rw [if_neg Bool.false_ne_true] at h' ⊢
      obtain ⟨own', I', j'⟩ := h'
      have nd' := (I'.tail.tail.tail).nd
      exact ⟨s'.heap, s'.toks, own', same_eq hs I'.same, I'.F, I'.N, off_of I', ⟨hS _ _ _ j', nd'⟩, rest_T hs J hS turn k (i + 1) _ _ (by omega) j' nd'⟩
theorem hRR_of {C D : Addr} {h : Heap} {tk : Nat} {m' : Str → Option Value} {ys : List Value} {nw : Led} (hs : s.gens = z.gens ∧ s.drawn = z.drawn ∧ s.os = z.os) (F : Fr g L h m) (N : News g L h ((D, lst ys) :: nw)) (o1 : Off1 D nw) (hn : h.Ns C m') (hC₀ : g.get? C = none) (hD₀ : g.get? D = none) (hCL : C ≠ L) (hDL : D ≠ L) (hCD : C ≠ D) (offC : ∀ p ∈ nw, p.1 ≠ C) (nd : (nw.map (·.1)).Nodup) :
    ∃ oC, NsObj oC m' ∧ Inv z g L m ((C, oC) :: (D, lst ys) :: nw) { s with heap := h, toks := tk } := by
  obtain ⟨oC, e, hC⟩ := LCg.ns_obj hn
  refine ⟨oC, hC, F, fun p hp => ?_, ?_, hs⟩
  · rcases List.mem_cons.mp hp with rfl | hp
    · exact ⟨e, hCL, hC₀⟩
    · exact N p hp
  · have q : ∀ p ∈ nw, p.1 ≠ D := by
      clear N offC nd hn F
      induction nw with
      | nil => intro p hp; cases hp
      | cons a r ih =>
        intro p hp
        rcases List.mem_cons.mp hp with rfl | hp
        · exact o1.1
        · exact ih o1.2 p hp
    simp only [List.map_cons, List.nodup_cons, List.mem_cons, List.mem_map, not_or, not_exists, not_and]
    exact ⟨⟨hCD, offC⟩, q, nd⟩
theorem Inv.butC {C : Addr} {oC : Obj} {h' : Heap} (J : Inv z g L m ((C, oC) :: own) s) (hs : Heap.SameBut C s.heap h') : Inv z g L m own { s with heap := h' } :=
  J.but (tk := s.toks) fun b o hb e => hs.extBut b o (fun q => hb (by rw [q]; exact .head _)) e
/-- a list comprehension without a test, its value handed on -/
theorem compU_own {elt iter : Expr} {x : Str} {px : Pos} {scope : Scope} {cl : List (Str × Addr)} {pos : Pos} (ok : ItOk w A g L I fp n P S St) (hfp : ∀ b ∈ fp, b < s.heap.objs.size) (I0 : Inv z g L m ((I, oI) :: own) s) (s0 : St 0 s.heap) (hsz : n ≤ sizeLine)
    (hcell : ∀ y ∈ scope.names, y.2 ≠ .cell) (hkind : scope.kind = .function) (hx : scope.names.lookup x = some .local)
    (J : Nat → List Value → Led → Prop) (j0 : J 0 [] own) (hS : ∀ i ys own, J i ys own → S own)
    (turn : ∀ i v ys own I oI C oC D m₂ s, i < n → P i v → J i ys own → NsObj oC m₂ → m₂ x = some v → Inv z g L m ((I, oI) :: (C, oC) :: (D, lst ys) :: own) s →
      wpAny (model prg w) A (eval elt (compEnvC scope cl C env)) (fun y s' => ∃ own', Inv z g L m ((I, oI) :: (C, oC) :: (D, lst ys) :: own') s' ∧ J (i + 1) (ys ++ [y]) own') (fun _ _ => False) s)
    (fin : ∀ D ys own s', J n ys own → Inv z g L m ((D, lst ys) :: own) s' → Q (.ref D) s') :
    wpAny (model prg w) A (newList []) (fun acc s₃ => wpAny (model prg w) A (newFunctionEnv scope env.globals cl [] env.qual none .none (some env)) (fun cenv s₄ =>
      codeAny (model prg w) A (.compStart (.ListComp elt [⟨.Name x px, iter, [], 0⟩] scope pos) 0 (.ref I) acc { cenv with scope := relabel scope env }) (compPost (model prg w) A E none Q acc cenv.locals) s₄) E s₃) E s := by
  have h1 := I0.N (I, oI) (.head _)
  have nd := List.nodup_cons.mp (List.map_cons ▸ I0.nd)
  refine LCg.block_U ok.W hsz ok.io (S := SN S) (fun i h h' o nw st e1 e2 e3 N hS => ok.st i h h' o nw st e1 e2 e3 N hS.1) hcell hkind hx s0 hfp I0.F I0.tail.N (Ne.symm h1.2.1) h1.2.2
    (fun p hp e => nd.1 (List.mem_map.mpr ⟨p, hp, e⟩)) ⟨hS _ _ _ j0, nd.2⟩ (rest_U I0.same J hS turn n 0 [] own (by omega) j0 nd.2) ?_
  intro D C h tk m' ys nw F N o1 hn hC₀ hD₀ hCL hDL hCD offC fn
  obtain ⟨oC, hC, J'⟩ := hRR_of (z := z) (s := s) (tk := tk) I0.same F N o1 hn hC₀ hD₀ hCL hDL hCD offC fn.2
  exact ⟨m', hn, fun h'' hs => fin D ys nw _ fn.1 (J'.butC hs)⟩
theorem compT_own {ct elt iter : Expr} {x : Str} {px : Pos} {scope : Scope} {cl : List (Str × Addr)} {pos : Pos} (ok : ItOk w A g L I fp n P S St) (hfp : ∀ b ∈ fp, b < s.heap.objs.size) (I0 : Inv z g L m ((I, oI) :: own) s) (s0 : St 0 s.heap) (hsz : n ≤ sizeLine)
    (hcell : ∀ y ∈ scope.names, y.2 ≠ .cell) (hkind : scope.kind = .function) (hx : scope.names.lookup x = some .local)
    (J : Nat → List Value → Led → Prop) (j0 : J 0 [] own) (hS : ∀ i ys own, J i ys own → S own)
    (turn : ∀ i v ys own I oI C oC D m₂ s, i < n → P i v → J i ys own → NsObj oC m₂ → m₂ x = some v → Inv z g L m ((I, oI) :: (C, oC) :: (D, lst ys) :: own) s →
      wpAny (model prg w) A (PySem.isTrue ct (compEnvC scope cl C env) (eval ct (compEnvC scope cl C env))) (fun ok s' => if ok = true then
        wpAny (model prg w) A (eval elt (compEnvC scope cl C env)) (fun y s' => ∃ own', Inv z g L m ((I, oI) :: (C, oC) :: (D, lst ys) :: own') s' ∧ J (i + 1) (ys ++ [y]) own') (fun _ _ => False) s'
        else ∃ own', Inv z g L m ((I, oI) :: (C, oC) :: (D, lst ys) :: own') s' ∧ J (i + 1) ys own') (fun _ _ => False) s)
    (fin : ∀ D ys own s', J n ys own → Inv z g L m ((D, lst ys) :: own) s' → Q (.ref D) s') :
    wpAny (model prg w) A (newList []) (fun acc s₃ => wpAny (model prg w) A (newFunctionEnv scope env.globals cl [] env.qual none .none (some env)) (fun cenv s₄ =>
      codeAny (model prg w) A (.compStart (.ListComp elt [⟨.Name x px, iter, [ct], 0⟩] scope pos) 0 (.ref I) acc { cenv with scope := relabel scope env }) (compPost (model prg w) A E none Q acc cenv.locals) s₄) E s₃) E s := by
  have h1 := I0.N (I, oI) (.head _)
  have nd := List.nodup_cons.mp (List.map_cons ▸ I0.nd)
  refine LCt.block_T ok.W hsz ok.io (S := SN S) (fun i h h' o nw st e1 e2 e3 N hS => ok.st i h h' o nw st e1 e2 e3 N hS.1) hcell hkind hx s0 hfp I0.F I0.tail.N (Ne.symm h1.2.1) h1.2.2
    (fun p hp e => nd.1 (List.mem_map.mpr ⟨p, hp, e⟩)) ⟨hS _ _ _ j0, nd.2⟩ (rest_T I0.same J hS turn n 0 [] own (by omega) j0 nd.2) ?_
  intro D C h tk m' ys nw F N o1 hn hC₀ hD₀ hCL hDL hCD offC fn
  obtain ⟨oC, hC, J'⟩ := hRR_of (z := z) (s := s) (tk := tk) I0.same F N o1 hn hC₀ hD₀ hCL hDL hCD offC fn.2
  exact ⟨m', hn, fun h'' hs => fin D ys nw _ fn.1 (J'.butC hs)⟩
/-- the same, bound to a name at once -/
theorem compA_own {elt iter : Expr} {x y : Str} {px py : Pos} {scope : Scope} {cl : List (Str × Addr)} {pos : Pos} (ok : ItOk w A g L I fp n P S St) (hfp : ∀ b ∈ fp, b < s.heap.objs.size) (I0 : Inv z g L m ((I, oI) :: own) s) (s0 : St 0 s.heap) (hsz : n ≤ sizeLine)
    (hcell : ∀ y ∈ scope.names, y.2 ≠ .cell) (hkind : scope.kind = .function) (hx : scope.names.lookup x = some .local)
    (J : Nat → List Value → Led → Prop) (j0 : J 0 [] own) (hS : ∀ i ys own, J i ys own → S own)
    (turn : ∀ i v ys own I oI C oC D m₂ s, i < n → P i v → J i ys own → NsObj oC m₂ → m₂ x = some v → Inv z g L m ((I, oI) :: (C, oC) :: (D, lst ys) :: own) s →
      wpAny (model prg w) A (eval elt (compEnvC scope cl C env)) (fun y s' => ∃ own', Inv z g L m ((I, oI) :: (C, oC) :: (D, lst ys) :: own') s' ∧ J (i + 1) (ys ++ [y]) own') (fun _ _ => False) s)
    (fin : ∀ C oC D ys own s', J n ys own → Inv z g L m ((C, oC) :: (D, lst ys) :: own) s' → wpAny (model prg w) A (storeName env y (.ref D)) (fun _ s'' => ∃ m'' own'', Inv z g L m'' ((C, oC) :: own'') s'' ∧ ∀ s3, Inv z g L m'' own'' s3 → Q .none s3) E s') :
    wpAny (model prg w) A (newList []) (fun acc s₃ => wpAny (model prg w) A (newFunctionEnv scope env.globals cl [] env.qual none .none (some env)) (fun cenv s₄ =>
      codeAny (model prg w) A (.compStart (.ListComp elt [⟨.Name x px, iter, [], 0⟩] scope pos) 0 (.ref I) acc { cenv with scope := relabel scope env }) (compPost (model prg w) A E (some (assign (.Name y py) env)) Q acc cenv.locals) s₄) E s₃) E s := by
  have h1 := I0.N (I, oI) (.head _)
  have nd := List.nodup_cons.mp (List.map_cons ▸ I0.nd)
  refine LCg.block_U ok.W hsz ok.io (S := SN S) (fun i h h' o nw st e1 e2 e3 N hS => ok.st i h h' o nw st e1 e2 e3 N hS.1) hcell hkind hx s0 hfp I0.F I0.tail.N (Ne.symm h1.2.1) h1.2.2
    (fun p hp e => nd.1 (List.mem_map.mpr ⟨p, hp, e⟩)) ⟨hS _ _ _ j0, nd.2⟩ (rest_U I0.same J hS turn n 0 [] own (by omega) j0 nd.2) ?_
  intro D C h tk m' ys nw F N o1 hn hC₀ hD₀ hCL hDL hCD offC fn
  obtain ⟨oC, hC, J'⟩ := hRR_of (z := z) (s := s) (tk := tk) I0.same F N o1 hn hC₀ hD₀ hCL hDL hCD offC fn.2
  refine wpAny_mono (wpAny_assign_Name (fin C oC D ys nw _ fn.1 J')) (fun _ s'' h => ?_) fun _ _ y => y
  obtain ⟨m'', own'', J'', k⟩ := h
  exact ⟨m', hC.ns (J''.N _ (.head _)).1, fun h'' hs => k _ (J''.butC hs)⟩
theorem lc_pre {elt iter : Expr} {x : Str} {px : Pos} {ifs : List Expr} {scope : Scope} {cl : List (Str × Addr)} {pos : Pos}
    (h : wpAny (model prg w) A (eval iter env) (fun x' s₁ => wpAny (model prg w) A (pyIter x') (fun it s₂ => wpAny (model prg w) A (newList []) (fun acc s₃ => wpAny (model prg w) A (newFunctionEnv scope env.globals cl [] env.qual none .none (some env)) (fun cenv s₄ =>
      codeAny (model prg w) A (.compStart (.ListComp elt [⟨.Name x px, iter, ifs, 0⟩] scope pos) 0 it acc { cenv with scope := relabel scope env }) (compPost (model prg w) A E none Q acc cenv.locals) s₄) E s₃) E s₂) E s₁) E s)
    (hclos : closureFor scope env = pure cl) (hkind : scope.kind = .function)
    (hnames : ∀ y ∈ scope.names, y.2 = .local → scope.names.lookup y.1 = some .local) (hs : ∀ x, foldedSetIterable iter env x = pure x) :
    wpAny (model prg w) A (eval (.ListComp elt [⟨.Name x px, iter, ifs, 0⟩] scope pos) env) Q E s := by
  rw [eval_ListComp]
  exact wpAny_comprehension_free (use := none) rfl hs hclos hkind hnames h
theorem lca_pre {elt iter : Expr} {x y : Str} {px py : Pos} {ifs : List Expr} {scope : Scope} {cl : List (Str × Addr)} {pos spos : Pos} {Q : Flow → Shared → Prop}
    (h : wpAny (model prg w) A (eval iter env) (fun x' s₁ => wpAny (model prg w) A (pyIter x') (fun it s₂ => wpAny (model prg w) A (newList []) (fun acc s₃ => wpAny (model prg w) A (newFunctionEnv scope env.globals cl [] env.qual none .none (some env)) (fun cenv s₄ =>
      codeAny (model prg w) A (.compStart (.ListComp elt [⟨.Name x px, iter, ifs, 0⟩] scope pos) 0 it acc { cenv with scope := relabel scope env }) (compPost (model prg w) A E (some (assign (.Name y py) env)) (fun _ s' => Q .next s') acc cenv.locals) s₄) E s₃) E s₂) E s₁) E s)
    (hsw : swapsWith (.ListComp elt [⟨.Name x px, iter, ifs, 0⟩] scope pos) (some (.Name y py)) spos.line env = pure true)
    (hclos : closureFor scope env = pure cl) (hkind : scope.kind = .function)
    (hnames : ∀ y ∈ scope.names, y.2 = .local → scope.names.lookup y.1 = some .local) (hs : ∀ x, foldedSetIterable iter env x = pure x) :
    wpAny (model prg w) A (exec (.Assign [.Name y py] (.ListComp elt [⟨.Name x px, iter, ifs, 0⟩] scope pos) spos) env) Q E s := by
  rw [exec_Assign_Name_used _ _ _ _ hsw]
  refine wpAny_bind (wpAny_standAt (wpAny_bind ?_))
  show wpAny _ A (do let _ ← comprehension (.ListComp elt [⟨.Name x px, iter, ifs, 0⟩] scope pos) scope env _ (newList []) false (eval iter env) (some (assign (.Name y py) env))) _ _ s
  refine wpAny_bind (wpAny_mono (wpAny_comprehension_free (use := some (assign (.Name y py) env)) (Q := fun _ s' => Q .next s') rfl hs hclos hkind hnames h) (fun _ s' hq => wpAny_pure (wpAny_pure hq)) fun _ _ e => e)
end
end
/-! part N0 -/
section
set_option hygiene true
section
variable {z : Shared} {w : World} {M : Model} {A : Around} {env : Env} {g : Heap} {L : Addr} {n : Nat} {m : Str → Option Value} {own rest : Led} {s : Shared} {E : Value → Shared → Prop} {Q : Value → Shared → Prop}
theorem bMul {a b : Int} {t u : Tok} (I : Inv z g L m own s) (hm : IntMulOk a b) (h : ∀ s' v, Inv z g L m own s' → Q (.int (a * b) v) s') : wpAny (model prg w) A (binaryOp .Mult (.int a t) (.int b u)) Q E s := PyProof.Rows.mul_int (h _ _ (I.tok _)) hm
theorem bPow {a k : Int} {t u : Tok} (I : Inv z g L m own s) (hn : 0 ≤ k) (hn2 : k ≤ 1000000) (ha : a.natAbs < 2 ^ 64) (h : ∀ s' v, Inv z g L m own s' → Q (.int (a ^ k.toNat) v) s') : wpAny (model prg w) A (binaryOp .Pow (.int a t) (.int k u)) Q E s := pow_int_small hn hn2 ha (h _ _ (I.tok _))
theorem bModR {a b : Int} {t u : Tok} (I : Inv z g L m own s) (hb : 0 < b) (h : ∀ s' v r, 0 ≤ r → r < b → Inv z g L m own s' → Q (.int r v) s') : wpAny (model prg w) A (binaryOp .Mod (.int a t) (.int b u)) Q E s :=
  mod_int' (by omega) (h _ _ _ (by rw [Int.fmod_eq_emod_of_nonneg a (by omega)]; exact Int.emod_nonneg _ (by omega)) (by rw [Int.fmod_eq_emod_of_nonneg a (by omega)]; exact Int.emod_lt_of_pos _ hb) (I.tok _))
theorem bDivR {a b : Int} {t u : Tok} (I : Inv z g L m own s) (hb : b ≠ 0) (hs : b.natAbs < 1073741824) (h : ∀ s' v r, Inv z g L m own s' → Q (.int r v) s') : wpAny (model prg w) A (binaryOp .FloorDiv (.int a t) (.int b u)) Q E s :=
  PyProof.Rows.floordiv_int hb (h _ _ _ (I.tok _)) (.inl (PyProof.noPylong_small hs))
theorem rAbs {a : Int} {t : Tok} (I : Inv z g L m own s) (h : ∀ s' v, Inv z g L m own s' → Q (.int (if a < 0 then -a else a) v) s') : wpAny (model prg w) A (call (.builtin "abs") [.int a t]) Q E s := call_abs_int fun u tk => h _ _ (I.tok tk)
theorem rSum {l : Addr} {vs : List Value} {ns : List Int} {k : Nat} (hh : A.handled = none) (I : Inv z g L m own s) (hm : (l, listOf vs.toArray k) ∈ own) (hi : IntsAre vs ns) (h : ∀ s' v, Inv z g L m own s' → Q (.int ns.sum v) s') : wpAny (model prg w) A (call (.builtin "sum") [.ref l]) Q E s := by
  obtain ⟨xs, e⟩ := hi.allInts.items
  have hl : s.heap.IsList l (intItems xs) := by rw [← e]; exact ⟨_, I.get hm, rfl, k, rfl⟩
  refine sum_intListG hh hl fun h' tk t' hk => ?_
  have := h { s with heap := h', toks := tk } t' ⟨I.F.keeps hk, fun p hp => ⟨hk _ _ (I.N p hp).1, (I.N p hp).2⟩, I.nd, I.same⟩
  rw [preSum_eq, List.take_of_length_le (by simp), ← nums_intItems, ← e, show vs.toArray.toList = vs from rfl, hi.numsOf]
  exact this
theorem ints_take {vs : List Value} {ns : List Int} (h : IntsAre vs ns) : ∀ k, IntsAre (vs.take k) (ns.take k) := by
  induction h with
  | nil => intro k; simp; exact .nil
  | cons i t r ih =>
    intro k
    cases k with
    | zero => exact .nil
    | succ k => exact .cons i t (ih k)
theorem sliceL {l : Addr} {ns : List Int} {k : Nat} {u : Tok} {value slice : Expr} (I : Inv z g L m own s) (hl : LstAt (inGR g own) l ns) (hz : ns.length ≤ 100000)
    (h : ∀ D vs s', IntsAre vs (ns.take k) → Inv z g L m ((D, listOf (List.toArray vs) 0) :: own) s' → Q (.ref D) s')
    (hs : subscripted slice false (.ref l) (.ref s.heap.objs.size) = operate [.ref s.heap.objs.size, .ref l] (getItem (.ref l) (.ref s.heap.objs.size)))
    (ht : ∀ r, letTemporaryGo value (.ref l) r = pure ()) :
    wpAny (model prg w) A (subscriptTail value slice (.ref l) (.ref s.heap.objs.size)) Q E { s with heap := s.heap.push { cls := .type "slice", data := .fields #[.none, .int (k : Int) u, .none] } } := by
  obtain ⟨k', vs, e, hi⟩ := hl
  have e' := I.regR _ _ e
  have J := (I.push { cls := .type "slice", data := .fields #[.none, .int (k : Int) u, .none] } s.toks)
  refine slice_list I.F I.N ⟨_, e', rfl, k', rfl⟩ .none (.int _ _) (fun h' F' N' => ?_) hs ht (by rw [List.size_toArray, hi.length, PySem.sizeLine_eq]; omega)
  rw [slicePick_upto'] at N'
  refine h _ (vs.take k) _ (ints_take hi k) ⟨F', N', ?_, I.same⟩
  have hsz : s.heap.objs.size + 1 ∉ own.map (·.1) := fun q => by
    obtain ⟨p, hp, e⟩ := List.mem_map.mp q
    have := Heap.lt_size (I.N p hp).1
    have e' : p.1 = s.heap.objs.size + 1 := e
    rw [e'] at this
    exact Nat.lt_irrefl _ (Nat.lt_of_succ_lt this)
  exact List.nodup_cons.mpr ⟨hsz, I.nd⟩
/-! lists in the ledger -/
theorem getL {l : Addr} {its : Array Value} {k : Nat} {i : Int} {u : Tok} {v : Value} {value slice : Expr} (I : Inv z g L m own s) (hm : s.heap.get? l = some (listOf its k)) (h0 : 0 ≤ i) (hi : i < 2 ^ 63) (hv : its[i.toNat]? = some v)
    (h : Q v s) (hs : subscripted slice false (.ref l) (.int i u) = operate [.ref l, .int i u] (getItem (.ref l) (.int i u))) :
    wpAny (model prg w) A (subscriptTail value slice (.ref l) (.int i u)) Q E s := by
  have il : s.heap.IsList l its := ⟨_, hm, rfl, k, rfl⟩
  exact tail_any il.typeIs slot_list_getitem.lookup (wpAny_getItem_list il h0 (by omega) hv h) hs
theorem getT {l : Addr} {its : Array Value} {k : Nat} {i : Int} {u : Tok} {v : Value} {value slice : Expr} (I : Inv z g L m own s) (hm : s.heap.get? l = some (tupO its k)) (h0 : 0 ≤ i) (hi : i < 2 ^ 63) (hv : its[i.toNat]? = some v)
    (h : Q v s) (hs : subscripted slice false (.ref l) (.int i u) = operate [.ref l, .int i u] (getItem (.ref l) (.int i u))) :
    wpAny (model prg w) A (subscriptTail value slice (.ref l) (.int i u)) Q E s := by
  have hT : IsTup s.heap l its := ⟨_, hm, rfl, k, rfl⟩
  have hlt : i.toNat < its.size := by
    rcases Nat.lt_or_ge i.toNat its.size with q | q
    · exact q
    · rw [Array.getElem?_eq_none q] at hv; cases hv
  exact tail_any hT.typeIs slot_tuple_getitem.lookup (getItem_tuple hT (by omega) (by omega) (seqIndex_of h0 (by omega)) hv h) hs
theorem setL {pre post : Led} {D : Addr} {its : Array Value} {nn : Nat} {i : Int} {t : Tok} {v : Value} {Q : Unit → Shared → Prop} (I : Inv z g L m (pre ++ (D, listOf its nn) :: post) s) (h0 : 0 ≤ i) (hi : i < 2 ^ 63) (h1 : i < its.size)
    (h : ∀ s', Inv z g L m (pre ++ (D, listOf (its.setIfInBounds i.toNat v) nn) :: post) s' → Q () s') : wpAny (model prg w) A (setItem (.ref D) (.int i t) v) Q E s := by
  have q := nd_mid I.nd
  have z := I.N (D, listOf its nn) (by simp)
  refine ki_setAt z.1 h0 hi h1 (h _ ⟨I.F.change (Heap.SameBut.update ..) z.2.1 z.2.2, ki_turn _ I.N q.1 q.2 rfl (by rw [if_pos (by simp)]), nd_chg I.nd, I.same⟩)
theorem newListO {vs : List Value} (I : Inv z g L m own s) (hz : vs.length ≤ 1000) (h : ∀ a s', Inv z g L m ((a, listOf vs.toArray 0) :: own) s' → Q (.ref a) s') : wpAny (model prg w) A (newList vs) Q E s :=
  newList_K I.F I.N (fun l h' F' N' lt => h l _ ⟨F', N', by
    rw [List.map_cons]
    refine List.nodup_cons.mpr ⟨fun q => ?_, I.nd⟩
    obtain ⟨p, hp, e⟩ := List.mem_map.mp q
    have := lt p hp
    rw [e] at this
    exact Nat.lt_irrefl _ this, I.same⟩) (by rw [PySem.sizeLine_eq]; omega)
theorem popL {pre post : Led} {D : Addr} {v : Value} {vs : List Value} {nn : Nat} {u : Tok} (I : Inv z g L m (pre ++ (D, listOf (List.toArray (v :: vs)) nn) :: post) s) (hz : vs.length ≤ 1000)
    (h : ∀ s', Inv z g L m (pre ++ (D, listOf vs.toArray (nn + 1)) :: post) s' → Q v s') : wpAny (model prg w) A (call (.builtin "list.pop") [.ref D, .int 0 u]) Q E s := by
  have q := nd_mid I.nd
  refine kl_popAt (k := 0) (p := []) (q := vs) (y := v) (its := List.toArray (v :: vs)) (n := nn) I.F I.N (by rfl) ?_ rfl (Upd.mid pre post q.1 q.2) ?_ (fun h' F' N' => h _ ⟨F', N', nd_chg I.nd, I.same⟩)
  · exact seqIndex?_zero (by simp)
  · rw [PySem.sizeLine_eq]; simp; omega
theorem popMeth {D : Addr} {its : Array Value} {nn : Nat} {pl : Sem Bool} {Q : Value × List Value → Shared → Prop} (I : Inv z g L m own s) (hm : (D, listOf its nn) ∈ own) (h : Q (.builtin "list.pop", [.ref D]) s) : wpAny (model prg w) A (getMethod (.ref D) "pop" pl) Q E s :=
  kl_method I.N hm PySem.F.slot_list_pop PySem.F.type_list_pop h
theorem lenL {D : Addr} {its : Array Value} {nn : Nat} (I : Inv z g L m own s) (hm : s.heap.get? D = some (listOf its nn)) (hz : its.size ≤ 100000) (h : ∀ s' u, Inv z g L m own s' → Q (.int (its.size : Int) u) s') : wpAny (model prg w) A (call (.builtin "len") [.ref D]) Q E s :=
  len_list ⟨_, hm, rfl, nn, rfl⟩ (by omega) (h _ (s.toks + 1) (I.tok (s.toks + 1 + 1)))
theorem while_m {test : Expr} {body orelse : List Stmt} {pos : Pos} {Q : Flow → Shared → Prop} (I0 : Inv z g L m own s) (J : Nat → (Str → Option Value) → Prop) (n0 : Nat) (j0 : J n0 m)
    (turn : ∀ k m s, J k m → Inv z g L m own s → wpAny (model prg w) A (PySem.isTrue test env (eval test env)) (fun b s₂ => if b = true then wpAny (model prg w) A (execs body env) (fun f s₃ => match f with
        | .next | .cont => ∃ k' m', k' < k ∧ J k' m' ∧ Inv z g L m' own s₃ | .brk => Q .next s₃ | .ret v => Q (.ret v) s₃) (fun _ _ => False) s₂
      else wpAny (model prg w) A (execs orelse env) Q (fun _ _ => False) s₂) (fun _ _ => False) s) :
    wpAny (model prg w) A (exec (.While test body orelse pos) env) Q E s := by
  refine while_own (fun k s => ∃ m, J k m ∧ Inv z g L m own s) ?_ n0 ⟨m, j0, I0⟩
  rintro k s ⟨m, j, I⟩
  refine wpAny_mono (turn k m s j I) (fun b s₂ h => ?_) (fun _ _ y => y)
  cases b with
  | false => rw [if_neg Bool.false_ne_true] at h ⊢; exact h
  | true =>
    rw [if_pos rfl] at h ⊢
    refine wpAny_mono h (fun f s₃ h3 => ?_) (fun _ _ y => y)
    cases f with
    | next => obtain ⟨k', m', a, b, c⟩ := h3; exact ⟨k', a, m', b, c⟩
    | cont => obtain ⟨k', m', a, b, c⟩ := h3; exact ⟨k', a, m', b, c⟩
    | brk => exact h3
    | ret v => exact h3
/-! the deck of the draws -/
/-- 0 ≤ the third number ≤ t -/
def Dk (own : Led) (D : Addr) (t : Nat) : Prop :=
  ∃ Cc k k' vs ns a b t1 t2, own = [(D, listOf (List.toArray [.ref Cc, .int a t1, .int b t2]) k), (Cc, listOf (List.toArray vs) k')] ∧ IntsAre vs ns ∧ ns.length ≤ 24 ∧ 0 ≤ b ∧ b ≤ (t : Int)
end
end
/-! part Fc -/
section
set_option hygiene true
theorem cells_map {cm : Str → Option Value} {cs : List (Str × Addr)} {cells : Led} (x : CellsAre cm cs cells) : cells.map (·.1) = cs.map (·.2) := by
  induction x with
  | nil => rfl
  | cons h r ih => simp [ih]
theorem callCC {z : Shared} {w : World} {A : Around} {env : Env} {g : Heap} {L : Addr} {n : Nat} {m : Str → Option Value} {own rest : Led} {s : Shared} {R : Result → Shared → Prop}
    {name qual : Str} {params : Arguments} {body : List Stmt} {scope : Scope} {dV kV doc pm cdv ct oc : Value} {an od : Option Addr} {osl : Array (Option Value)} {f : Addr} {pos : List Value} {kw : List (Str × Value)} {binds : List (Str × Value)}
    (C : Cx w A env g L (n + 1)) (I : Inv z g L m (own ++ rest) s)
    (ho : (hdKp w.params).lookup f = some ⟨oc, od, .func (fnOf name qual params body scope dV kV doc pm an cdv ct), osl⟩) (hcd : codeIn (hdKp w.params) cdv qual = true)
    (hbind : BindsTo s (fnOf name qual params body scope dV kV doc pm an cdv ct) ⟨pos, kw⟩ binds) (hkind : (binds.all fun y => scope.names.lookup y.1 == some .local || scope.names.lookup y.1 == some .cell) = true)
    (hnd : ((cellsFrom 0 scope.names []).map (·.1)).Nodup)
    (hco : scope.isCoroutine = false) (hgen : scope.isGenerator = false) (hk : scope.kind = .function)
    (h : ∀ A' g' L' s₁ cells, Cx w A' (envOfC qual scope L' f cdv) g' L' n → Inv z g' L' (bindL (envOfC qual scope L' f cdv).kindOf binds fun _ => none) (cells ++ (own ++ [])) s₁ → CellsAre (bindC (envOfC qual scope L' f cdv).kindOf binds fun _ => none) (cellsFrom (L' + 1) scope.names []) cells → Sub g g' → (∀ p ∈ rest, g'.get? p.1 = some p.2) →
      wpAny (model prg w) A' (execs body (envOfC qual scope L' f cdv)) (fun fl s' => Leave z g L m rest g' L' (fun v s'' => R (.ok (.ret v)) s'') (match fl with | .ret v => v | _ => .none) s') (fun _ _ => False) s₁) :
    codeAny (model prg w) A (.call (.ref f) ⟨pos, kw⟩) R s := by
  obtain ⟨A₀, base, outer, pp, ls, mean, mg, mb, B, X, T, hA, hf, hke, hh, hd, hu⟩ := C
  obtain ⟨F, N, nd, same⟩ := I
  have X' := X.keeps F.keep
  refine codeAny_call_function (fd := fnOf name qual params body scope dV kV doc pm an cdv ct) (by omega) (X' _ _ ho) rfl hco hgen rfl (codeRec_of X' hcd) (hbind _ _ _ _ ?_)
  refine wpAny_newFunctionEnv_cells hk (kindsX hkind _) fun env' he s' x => ?_
  subst he
  refine ⟨(T.nolimit.keeps F.keep).keeps x.toInCall.keep, codeAny_func ?_⟩
  obtain ⟨h₁, tk, rfl, _⟩ := x.done
  have hk₁ := x.toInCall.keep
  have hns := x.toInCall.ns
  obtain ⟨cells, NC, Y⟩ := Cl.news (h₀ := s.heap) (Nat.le_refl _) fun n c hm => ⟨x.cell n c (lookup_of_mem_nodup (cellsFrom_names scope.names 0 (s.heap.objs.size + 1) [] [] rfl ▸ hnd) hm), x.above n c hm⟩
  have cnd : (cells.map (·.1)).Nodup := by rw [cells_map Y]; exact List.pairwise_map.mpr x.apart
  have nm : ∀ b o, g.get? b = some o → b ∉ own.map (·.1) := fun b o e q => by
    obtain ⟨p, hp, rfl⟩ := List.mem_map.mp q
    rw [(N p (List.mem_append_left _ hp)).2.2] at e; cases e
  have st : Sub g (hideAll s.heap (own.map (·.1))) := fun b o e => hideAll_get _ (F.keep b o e) (nm b o e)
  obtain ⟨oL, es, ep, hL, hLd, hLk, hLf⟩ := F.ns
  have nL : L ∉ own.map (·.1) := fun q => by
    obtain ⟨p, hp, e⟩ := List.mem_map.mp q
    exact (N p (List.mem_append_left _ hp)).2.1 e
  have hLg := hideAll_get (own.map (·.1)) hL nL
  have B₁ := pushX B F hf hke
  have B₂ : Below A base (env :: outer) (hideAll s.heap (own.map (·.1))) := ⟨hA, fun b o e => st b o (B.stays b o e), funFrames_hideAll B₁.frames fun env' he b hb hf' => by
    cases he with
    | head => exact nL ((Option.some.inj (hf.symm.trans hf') : L = b) ▸ hb)
    | tail _ he =>
      obtain ⟨L₁, o₁, hf₁, ho₁⟩ := funFrames_in B.frames env' he
      rw [hf₁] at hf'
      exact nm L₁ o₁ ho₁ ((Option.some.inj hf' : L₁ = b) ▸ hb)⟩
  have nd' := List.map_append ▸ nd
  have hrest : ∀ p ∈ rest, (hideAll s.heap (own.map (·.1))).get? p.1 = some p.2 := fun p hp =>
    hideAll_get _ (N p (List.mem_append_right _ hp)).1 fun q => (List.nodup_append.mp nd').2.2 p.1 q p.1 (List.mem_map_of_mem hp) rfl
  refine wpAny_mono (h (A.deeper (envOfC qual scope s.heap.objs.size f cdv)) (hideAll s.heap (own.map (·.1))) s.heap.objs.size { s with heap := h₁, toks := tk } cells
    ⟨A, base, env :: outer, pp, ls, mean, mg, mb, B₂, X.keeps st, T.keeps st, Around.frames_deeper hA, rfl, hk, hh, by rw [depth_deeper]; omega, by rw [units_deeper]; omega⟩
    ⟨⟨hns, fun b o e => hk₁ b o (of_hideAll _ e), Nat.le_of_eq (hideAll_size _ _)⟩, fun p hp => ?_, ?_, same⟩ Y st hrest) (fun fl s' hl => ?_) (fun _ _ y => y.elim)
  · rcases List.mem_append.mp hp with hp | hp
    · refine ⟨(NC p hp).1, (NC p hp).2.1, ?_⟩
      cases q : (hideAll s.heap (own.map (·.1))).get? p.1 with
      | none => rfl
      | some o => have := of_hideAll _ q; rw [(NC p hp).2.2] at this; cases this
    · rw [List.append_nil] at hp
      exact ⟨hk₁ _ _ (N p (List.mem_append_left _ hp)).1, Nat.ne_of_lt (Heap.lt_size (N p (List.mem_append_left _ hp)).1), hideAll_none _ (List.mem_map_of_mem hp)⟩
  · rw [List.append_nil, List.map_append]
    refine List.nodup_append.mpr ⟨cnd, (List.nodup_append.mp nd').1, fun a ha b hb e => ?_⟩
    subst e
    obtain ⟨p, hp, rfl⟩ := List.mem_map.mp ha
    obtain ⟨q, hq, e⟩ := List.mem_map.mp hb
    have h1 := (NC p hp).2.2
    have h2 := (N q (List.mem_append_left _ hq)).1
    rw [← e, h2] at h1; cases h1
  obtain ⟨m', own', more, J, k⟩ := hl
  obtain ⟨F', N', nd'', same'⟩ := J.take
  refine k ⟨⟨⟨oL, es, ep, F'.keep L oL hLg, hLd, hLk, hLf⟩, fun b o e => F'.keep b o (st b o e), F.above⟩, ?_, ?_, same'⟩
  · intro p hp
    rcases List.mem_append.mp hp with hp | hp
    · refine ⟨(N' p hp).1, fun q => ?_, ?_⟩
      · have := (N' p hp).2.2; rw [q, hLg] at this; cases this
      · cases q : g.get? p.1 with
        | none => rfl
        | some o => have := (N' p hp).2.2; rw [st _ _ q] at this; cases this
    · exact ⟨F'.keep _ _ (hrest p hp), (N p (List.mem_append_right _ hp)).2⟩
  · rw [List.map_append]
    refine List.nodup_append.mpr ⟨nd'', (List.nodup_append.mp nd').2.1, fun a ha b hb e => ?_⟩
    subst e
    obtain ⟨p, hp, rfl⟩ := List.mem_map.mp ha
    obtain ⟨q, hq, e⟩ := List.mem_map.mp hb
    have := (N' p hp).2.2
    rw [← e, hrest q hq] at this; cases this
theorem callOC {z : Shared} {w : World} {A : Around} {env : Env} {g : Heap} {L : Addr} {n : Nat} {m : Str → Option Value} {own rest : Led} {s : Shared} {Q : Value → Shared → Prop} {E : Value → Shared → Prop}
    {name qual : Str} {params : Arguments} {body : List Stmt} {scope : Scope} {dV kV doc pm cdv ct oc : Value} {an od : Option Addr} {osl : Array (Option Value)} {f : Addr} {pos : List Value} {kw : List (Str × Value)} {binds : List (Str × Value)}
    (C : Cx w A env g L (n + 1)) (I : Inv z g L m (own ++ rest) s)
    (ho : (hdKp w.params).lookup f = some ⟨oc, od, .func (fnOf name qual params body scope dV kV doc pm an cdv ct), osl⟩) (hcd : codeIn (hdKp w.params) cdv qual = true)
    (hbind : BindsTo s (fnOf name qual params body scope dV kV doc pm an cdv ct) ⟨pos, kw⟩ binds) (hkind : (binds.all fun y => scope.names.lookup y.1 == some .local || scope.names.lookup y.1 == some .cell) = true)
    (hnd : ((cellsFrom 0 scope.names []).map (·.1)).Nodup)
    (hco : scope.isCoroutine = false) (hgen : scope.isGenerator = false) (hk : scope.kind = .function)
    (h : ∀ A' g' L' s₁ cells, Cx w A' (envOfC qual scope L' f cdv) g' L' n → Inv z g' L' (bindL (envOfC qual scope L' f cdv).kindOf binds fun _ => none) (cells ++ (own ++ [])) s₁ → CellsAre (bindC (envOfC qual scope L' f cdv).kindOf binds fun _ => none) (cellsFrom (L' + 1) scope.names []) cells → Sub g g' → (∀ p ∈ rest, g'.get? p.1 = some p.2) →
      wpAny (model prg w) A' (execs body (envOfC qual scope L' f cdv)) (fun fl s' => Leave z g L m rest g' L' Q (match fl with | .ret v => v | _ => .none) s') (fun _ _ => False) s₁) :
    wpAny (model prg w) A (call (.ref f) pos kw) Q E s :=
  wpAny_call (callCC C I ho hcd hbind hkind hnd hco hgen hk h)
end
/-! part M1 -/
section
set_option hygiene true
theorem fill_M1 (w : World) : hdKp w.params = hdKp w.params ∧ PySem.Challenge.rw_np0078_01 = PySem.Challenge.rw_np0078_01 := by
  k_fill
  exact ⟨rfl, rfl⟩
end
section
set_option hygiene false
local macro_rules | `(tactic| walk_at "eval Name") => `(tactic| (with_unfolding_all (first
  | refine r_loc (by assumption) (by rfl) (by rfl) (by rfl) (by rfl) ?_
  | refine r_glob (by assumption) (by assumption) (by k_is) (by rfl) (by rfl) (by rfl) ?_
  | refine r_blt (by assumption) (by assumption) (by k_is) (by boot_by_name) (by decide) (by rfl) (by rfl) (by rfl) ?_)))
local macro_rules | `(tactic| walk_at "storeName") => `(tactic| ((with_reducible rename Inv _ _ _ _ _ _ => I9); with_unfolding_all (refine r_sto I9 (by rfl) (by rfl) ?_; clear I9; intro _ _)))
local macro_rules | `(tactic| walk_at "getAttr ref") => `(tactic| ((with_reducible rename Inv _ _ _ _ _ _ => I9); first
  | ((with_reducible first | refine wget_view (by assumption) I9 (by assumption) ?_ | refine wget_table (by assumption) I9 (by assumption) ?_ | refine wget_nests (by assumption) I9 (by assumption) ?_ | refine wget_quoted (by assumption) I9 (by assumption) ?_); clear I9; intro _ _)
  | ((with_reducible first | refine wget_place (by assumption) I9 (by assumption) ?_ | refine wget_below (by assumption) I9 (by assumption) ?_ | refine wget_least (by assumption) I9 (by assumption) ?_ | refine wget_whole (by assumption) I9 (by assumption) ?_ | refine wget_word (by assumption) I9 (by assumption) ?_ | refine wget_string (by assumption) I9 (by assumption) ?_ | refine wget_comment (by assumption) I9 (by assumption) ?_ | refine wget_style (by assumption) I9 (by assumption) ?_ | refine wget_start (by assumption) I9 (by assumption) ?_ | refine wget_half (by assumption) I9 (by assumption) ?_); clear I9; intro _ _ _)))
local macro_rules | `(tactic| walk_at "hv0") => `(tactic| ((case hv => with_unfolding_all exact rfl); clear I9 W9; intro _ _ _ _))
local macro_rules | `(tactic| walk_at "setAttr ref") => `(tactic| ((with_reducible rename Inv _ _ _ _ _ _ => I9); (with_reducible rename Wk _ _ _ _ _ _ => W9); first
  | (with_reducible refine' wset_place (by assumption) I9 W9 ?hv ?_; walk_at "hv0")
  | (with_reducible refine' wset_below (by assumption) I9 W9 ?hv ?_; walk_at "hv0")
  | (with_reducible refine' wset_least (by assumption) I9 W9 ?hv ?_; walk_at "hv0")
  | (with_reducible refine' wset_whole (i := none) (u := 0) (by assumption) I9 W9 ?hv ?_; walk_at "hv0")
  | (with_reducible refine' wset_whole (by assumption) I9 W9 ?hv ?_; walk_at "hv0")
  | (with_reducible refine' wset_whole (i := some _) (by assumption) I9 W9 ?hv ?_; walk_at "hv0")
  | (with_reducible refine' wset_word (i := none) (u := 0) (by assumption) I9 W9 ?hv ?_; walk_at "hv0")
  | (with_reducible refine' wset_word (by assumption) I9 W9 ?hv ?_; walk_at "hv0")
  | (with_reducible refine' wset_word (i := some _) (by assumption) I9 W9 ?hv ?_; walk_at "hv0")
  | (with_reducible refine' wset_string (i := none) (u := 0) (by assumption) I9 W9 ?hv ?_; walk_at "hv0")
  | (with_reducible refine' wset_string (by assumption) I9 W9 ?hv ?_; walk_at "hv0")
  | (with_reducible refine' wset_string (i := some _) (by assumption) I9 W9 ?hv ?_; walk_at "hv0")
  | (with_reducible refine' wset_comment (by assumption) I9 W9 ?hv ?_; walk_at "hv0")
  | (with_reducible refine' wset_style (by assumption) I9 W9 ?hv ?_; walk_at "hv0")
  | (with_reducible refine' wset_nests (by assumption) I9 W9 ?hv ?_; walk_at "hv0")
  | (with_reducible refine' wset_start (i := none) (u := 0) (by assumption) I9 W9 ?hv ?_; walk_at "hv0")
  | (with_reducible refine' wset_start (by assumption) I9 W9 ?hv ?_; walk_at "hv0")
  | (with_reducible refine' wset_start (i := some _) (by assumption) I9 W9 ?hv ?_; walk_at "hv0")
  | (with_reducible refine' wset_quoted (by assumption) I9 W9 ?hv ?_; walk_at "hv0")
  | (with_reducible refine' wset_half (by assumption) I9 W9 ?hv ?_; walk_at "hv0")))
local macro_rules | `(tactic| walk_at "compareOp IsNot") => `(tactic| (first
  | with_reducible refine isnot_opt (fun _ _ => ?_) (fun _ => ?_)
  | with_reducible refine isnot_ref ?_))
local macro_rules | `(tactic| walk_at "compareOp Is") => `(tactic| (first
  | with_reducible refine is_opt (fun _ _ => ?_) (fun _ => ?_)
  | with_reducible refine is_ref ?_))
local macro_rules | `(tactic| walk_at "eval Constant int") => `(tactic| ((with_reducible rename Inv _ _ _ _ _ _ => I9); with_reducible refine cInt I9 ?_; clear I9; intro _ _ _))
local macro_rules | `(tactic| walk_at "eval Constant str") => `(tactic| ((with_reducible rename Inv _ _ _ _ _ _ => I9); with_reducible refine cStr I9 ?_; clear I9; intro _ _ _))
local macro_rules | `(tactic| walk_at "binaryOp Add int int") => `(tactic| ((with_reducible rename Inv _ _ _ _ _ _ => I9); with_reducible refine bAdd I9 ?_; clear I9; intro _ _ _))
local macro_rules | `(tactic| walk_at "binaryOp Sub int int") => `(tactic| ((with_reducible rename Inv _ _ _ _ _ _ => I9); with_reducible refine bSub I9 ?_; clear I9; intro _ _ _))
local macro_rules | `(tactic| walk_at "unaryOp USub int") => `(tactic| ((with_reducible rename Inv _ _ _ _ _ _ => I9); with_reducible refine uNeg I9 ?_; clear I9; intro _ _ _))
local macro_rules | `(tactic| walk_at "execs cons") => `(tactic| (with_reducible refine execs_gen ?_; intro _ _))
local macro_rules | `(tactic| walk_at "execs nil") => `(tactic| with_reducible (refine wpAny_execs_nil ?_))
local macro_rules | `(tactic| walk_at "exec If") => `(tactic| (with_reducible refine if_gen ?_; intro _ _))
local macro_rules | `(tactic| walk_at "exec Return some") => `(tactic| with_reducible (refine wpAny_Return_some ?_))
local macro_rules | `(tactic| walk_at "eval Constant none") => `(tactic| with_reducible (refine wpAny_Constant_none ?_))
local macro_rules | `(tactic| walk_at "eval Constant bool") => `(tactic| with_reducible (refine Constant_bool ?_))
local macro_rules | `(tactic| walk_at "eval BinOp") => `(tactic| with_reducible (refine wpAny_BinOp ?_))
local macro_rules | `(tactic| walk_at "eval IfExp") => `(tactic| with_reducible (refine IfExp_ ?_))
local macro_rules | `(tactic| walk_at "eval UnaryOp") => `(tactic| with_reducible (refine UnaryOp_ ?_))
local macro_rules | `(tactic| walk_at "eval Tuple") => `(tactic| with_reducible (refine Tuple_ ?_))
local macro_rules | `(tactic| walk_at "eval List") => `(tactic| with_reducible (refine List_ ?_))
local macro_rules | `(tactic| walk_at "truthy bool") => `(tactic| with_reducible (refine wpAny_truthy_bool ?_))
local macro_rules | `(tactic| walk_at "compareOp Lt int int") => `(tactic| with_reducible (refine lt_int ?_))
local macro_rules | `(tactic| walk_at "compareOp LtE int int") => `(tactic| with_reducible (refine le_int ?_))
local macro_rules | `(tactic| walk_at "compareOp Gt int int") => `(tactic| with_reducible (refine gt_int ?_))
local macro_rules | `(tactic| walk_at "compareOp GtE int int") => `(tactic| with_reducible (refine ge_int ?_))
local macro_rules | `(tactic| walk_at "compareOp Eq int int") => `(tactic| with_reducible (refine eq_int ?_))
local macro_rules | `(tactic| walk_at "compareOp NotEq int int") => `(tactic| with_reducible (refine ne_int ?_))
local macro_rules | `(tactic| walk_at "compareOp Eq str str") => `(tactic| with_reducible (refine eq_str ?_))
local macro_rules | `(tactic| walk_at "compareOp NotEq str str") => `(tactic| with_reducible (refine ne_str ?_))
local macro_rules | `(tactic| walk_at "compareOp In str str") => `(tactic| with_reducible (refine in_str ?_))
local macro_rules | `(tactic| walk_at "isTrue UnaryOp") => `(tactic| with_reducible (refine isTrue_not ?_))
local macro_rules | `(tactic| walk_at "spliced") => `(tactic| with_reducible (first | refine spliced_none ?_ | (refine' spliced_more ?_ ?sp; (case sp => with_unfolding_all rfl))))
local macro_rules | `(tactic| walk_at "isTrue Compare") => `(tactic| (with_reducible refine' wpAny_isTrue_Compare1 ?_ ?q0; (case q0 => with_unfolding_all rfl)))
local macro_rules | `(tactic| walk_at "eval Compare") => `(tactic| (with_reducible refine' wpAny_Compare1 ?_ ?q0; (case q0 => with_unfolding_all rfl)))
local macro_rules | `(tactic| walk_at "isTrue Call") => `(tactic| (with_reducible refine' isTrue_plain ?_ ?q0; (case q0 => with_unfolding_all rfl)))
local macro_rules | `(tactic| walk_at "isTrue Name") => `(tactic| (with_reducible refine' isTrue_plain ?_ ?q0; (case q0 => with_unfolding_all rfl)))
local macro_rules | `(tactic| walk_at "isTrue Attribute") => `(tactic| (with_reducible refine' isTrue_plain ?_ ?q0; (case q0 => with_unfolding_all rfl)))
local macro_rules | `(tactic| walk_at "eval Attribute Name") => `(tactic| (with_reducible refine' Attribute_Name_ ?_ ?q0; (case q0 => with_unfolding_all rfl)))
local macro_rules | `(tactic| walk_at "exec Expr") => `(tactic| (with_reducible refine' wpAny_Expr ?_ ?q0 ?q1; (case q0 => with_unfolding_all rfl); (case q1 => with_unfolding_all rfl)))
local macro_rules | `(tactic| walk_at "isTrue BoolOp") => `(tactic| with_reducible (first | refine isTrue_and_nil ?_ | refine isTrue_or_nil ?_ | refine isTrue_and ?_ | refine isTrue_or ?_))
local macro_rules | `(tactic| walk_at "eval BoolOp") => `(tactic| with_reducible (first | refine BoolOp_one ?_ | refine BoolOp_and ?_ | refine BoolOp_or ?_))
local macro_rules | `(tactic| walk_at "eval Call") => `(tactic| (with_reducible refine' Call_ ?_ ?q0; (case q0 => with_unfolding_all rfl)))
local macro_rules | `(tactic| walk_at "eval Call Attribute") => `(tactic| (with_reducible refine' MethodCall_ ?_ ?q0; (case q0 => with_unfolding_all rfl)))
local macro_rules | `(tactic| walk_at "exec Assign") => `(tactic| (with_reducible refine' wpAny_Assign_Name ?_ ?q0; (case q0 => with_unfolding_all rfl)))
local macro_rules | `(tactic| walk_at "exec Assign") => `(tactic| (with_reducible refine' plainObj_wpAny_Assign_Attribute ?_ ?q0; (case q0 => with_unfolding_all rfl)))
local macro_rules | `(tactic| walk_at "enter") => `(tactic| (
  (case ho => k_is); (case hcd => k_is); (case hb => exact BindsTo.of_eq rfl); (case hl => exact locs rfl); (case c1 => exact rfl); (case c2 => exact rfl); (case c3 => exact rfl); (case c4 => decide)))
local macro_rules | `(tactic| walk_at "ites") => `(tactic| (first
  | with_reducible refine ite_tt ?_
  | with_reducible refine ite_ff ?_
  | with_reducible refine ite_nb ?_
  | with_reducible refine ite_dd (fun _ => ?_) (fun _ => ?_)
  | with_reducible refine ite_tt' (by assumption) ?_
  | with_reducible refine ite_ff' (by assumption) ?_
  | with_reducible refine ite_bb (fun _ => ?_) (fun _ => ?_)))
local macro_rules | `(tactic| walk_at "getAttr ref") => `(tactic| ((with_reducible rename Inv _ _ _ _ _ _ => I9); first
  | ((with_reducible first | refine markget_length (by assumption) I9 (by assumption) ?_ | refine markgetR_length (by assumption) I9 (by assumption) ?_ | refine markget_style (by assumption) I9 (by assumption) ?_ | refine markgetR_style (by assumption) I9 (by assumption) ?_ | refine synget_kind (by assumption) I9 (by assumption) ?_ | refine syngetR_kind (by assumption) I9 (by assumption) ?_ | refine synget_flags (by assumption) I9 (by assumption) ?_ | refine syngetR_flags (by assumption) I9 (by assumption) ?_ | refine rowget_place (by assumption) I9 (by assumption) ?_ | refine rowgetR_place (by assumption) I9 (by assumption) ?_ | refine psget_below (by assumption) I9 (by assumption) ?_ | refine psgetR_below (by assumption) I9 (by assumption) ?_ | refine psget_least (by assumption) I9 (by assumption) ?_ | refine psgetR_least (by assumption) I9 (by assumption) ?_ | refine psget_whole (by assumption) I9 (by assumption) ?_ | refine psgetR_whole (by assumption) I9 (by assumption) ?_ | refine psget_word (by assumption) I9 (by assumption) ?_ | refine psgetR_word (by assumption) I9 (by assumption) ?_ | refine psget_string (by assumption) I9 (by assumption) ?_ | refine psgetR_string (by assumption) I9 (by assumption) ?_ | refine psget_comment (by assumption) I9 (by assumption) ?_ | refine psgetR_comment (by assumption) I9 (by assumption) ?_ | refine psget_style (by assumption) I9 (by assumption) ?_ | refine psgetR_style (by assumption) I9 (by assumption) ?_ | refine psget_start (by assumption) I9 (by assumption) ?_ | refine psgetR_start (by assumption) I9 (by assumption) ?_ | refine psget_half (by assumption) I9 (by assumption) ?_ | refine psgetR_half (by assumption) I9 (by assumption) ?_); clear I9; intro _ _ _)
  | ((with_reducible first | refine markget_nests (by assumption) I9 (by assumption) ?_ | refine markgetR_nests (by assumption) I9 (by assumption) ?_ | refine markget_is_fence (by assumption) I9 (by assumption) ?_ | refine markgetR_is_fence (by assumption) I9 (by assumption) ?_ | refine synget_match (by assumption) I9 (by assumption) ?_ | refine syngetR_match (by assumption) I9 (by assumption) ?_ | refine rowget_codes (by assumption) I9 (by assumption) ?_ | refine rowgetR_codes (by assumption) I9 (by assumption) ?_ | refine psget_opens (by assumption) I9 (by assumption) ?_ | refine psgetR_opens (by assumption) I9 (by assumption) ?_ | refine psget_nests (by assumption) I9 (by assumption) ?_ | refine psgetR_nests (by assumption) I9 (by assumption) ?_ | refine psget_quoted (by assumption) I9 (by assumption) ?_ | refine psgetR_quoted (by assumption) I9 (by assumption) ?_); clear I9; intro _ _)))
local macro_rules | `(tactic| walk_at "getMethod ref") => `(tactic| with_reducible (first | refine synmeth_has (by assumption) (by assumption) (by assumption) ?_ | refine synmethR_has (by assumption) (by assumption) (by assumption) ?_ | refine synmeth_is_escape (by assumption) (by assumption) (by assumption) ?_ | refine synmethR_is_escape (by assumption) (by assumption) (by assumption) ?_ | refine synmeth_is_word_part (by assumption) (by assumption) (by assumption) ?_ | refine synmethR_is_word_part (by assumption) (by assumption) (by assumption) ?_ | refine synmeth_style (by assumption) (by assumption) (by assumption) ?_ | refine synmethR_style (by assumption) (by assumption) (by assumption) ?_ | refine rowmeth_begin (by assumption) (by assumption) (by assumption) ?_ | refine rowmethR_begin (by assumption) (by assumption) (by assumption) ?_ | refine rowmeth_end (by assumption) (by assumption) (by assumption) ?_ | refine rowmethR_end (by assumption) (by assumption) (by assumption) ?_ | refine rowmeth_code_at (by assumption) (by assumption) (by assumption) ?_ | refine rowmethR_code_at (by assumption) (by assumption) (by assumption) ?_ | refine psmeth_depth (by assumption) (by assumption) (by assumption) ?_ | refine psmethR_depth (by assumption) (by assumption) (by assumption) ?_ | refine psmeth_innermost (by assumption) (by assumption) (by assumption) ?_ | refine psmethR_innermost (by assumption) (by assumption) (by assumption) ?_ | refine psmeth_is_plain (by assumption) (by assumption) (by assumption) ?_ | refine psmethR_is_plain (by assumption) (by assumption) (by assumption) ?_ | refine psmeth_items (by assumption) (by assumption) (by assumption) ?_ | refine psmethR_items (by assumption) (by assumption) (by assumption) ?_))
local macro_rules | `(tactic| walk_at "getMethod ref") => `(tactic| with_reducible (first | refine wmeth_state (by assumption) (by assumption) (by assumption) ?_ | refine wmeth_depth (by assumption) (by assumption) (by assumption) ?_ | refine wmeth_end_word (by assumption) (by assumption) (by assumption) ?_ | refine wmeth_begin_word (by assumption) (by assumption) (by assumption) ?_ | refine wmeth_open_at (by assumption) (by assumption) (by assumption) ?_ | refine wmeth_close (by assumption) (by assumption) (by assumption) ?_ | refine wmeth_begin_comment (by assumption) (by assumption) (by assumption) ?_ | refine wmeth_leave_comment (by assumption) (by assumption) (by assumption) ?_ | refine wmeth_begin_string (by assumption) (by assumption) (by assumption) ?_ | refine wmeth_end_string (by assumption) (by assumption) (by assumption) ?_ | refine wmeth_take (by assumption) (by assumption) (by assumption) ?_ | refine wmeth_step_in_comment (by assumption) (by assumption) (by assumption) ?_ | refine wmeth_step_in_string (by assumption) (by assumption) (by assumption) ?_ | refine wmeth_finish_half (by assumption) (by assumption) (by assumption) ?_ | refine wmeth_step_plain (by assumption) (by assumption) (by assumption) ?_ | refine wmeth_step_by_kind (by assumption) (by assumption) (by assumption) ?_ | refine wmeth_step (by assumption) (by assumption) (by assumption) ?_ | refine wl_mappend (by assumption) (by assumption) ?_ | refine wl_mpop (by assumption) (by assumption) ?_))
local macro_rules | `(tactic| walk_at "getAttr ref") => `(tactic| ((with_reducible rename Inv _ _ _ _ _ _ => I9); with_reducible refine wget_opens (by assumption) I9 (by assumption) ?_; clear I9; intro _ _))
local macro_rules | `(tactic| walk_at "callWith ref") => `(tactic| (first
  | (with_reducible refine' cwm0 (by assumption) (by assumption) ?hk ?_; (case hk => kernel_rfl))
  | (with_reducible refine' cwm (by assumption) ?hk ?he ?hp ?_; (case hk => kernel_rfl); (case he => with_unfolding_all rfl); (case hp => with_unfolding_all rfl))
  | (with_reducible refine' cwf0 (by assumption) (by assumption) ?hk ?_; (case hk => kernel_rfl))
  | (with_reducible refine' cwf (by assumption) ?hk ?he ?hp ?_; (case hk => kernel_rfl); (case he => with_unfolding_all rfl); (case hp => with_unfolding_all rfl))))
local macro_rules | `(tactic| walk_at "callWith") => `(tactic| (first
  | with_reducible refine cbm0 ?_
  | (with_reducible refine' cbm ?he ?hp ?_; (case he => with_unfolding_all rfl); (case hp => with_unfolding_all rfl))
  | (with_reducible refine' cbf ?he ?hp ?_; (case he => with_unfolding_all rfl); (case hp => with_unfolding_all rfl))))
local macro_rules | `(tactic| walk_at "And") => `(tactic| (with_reducible refine ⟨Inv.kin (by assumption) (by assumption), ?_⟩))
local macro_rules | `(tactic| walk_at "newList") => `(tactic| ((with_reducible rename Inv _ _ _ _ _ _ => I9); with_reducible refine newNil I9 ?_; clear I9; intro _ _ _ _))
local macro_rules | `(tactic| walk_at "compareOp Eq ref ref") => `(tactic| (with_reducible refine wl_eqnil (by assumption) (by assumption) (by assumption) (by assumption) ?_))
local macro_rules | `(tactic| walk_at "call builtin:list.append") => `(tactic| ((with_reducible rename Inv _ _ _ _ _ _ => I9); (with_reducible rename Wk _ _ _ _ _ _ => W9); with_reducible refine' wl_append I9 W9 ?hz ?_; (case hz => first | assumption | omega); clear I9 W9; intro _ _ _ _))
local macro_rules | `(tactic| walk_at "call builtin:list.pop") => `(tactic| ((with_reducible rename Inv _ _ _ _ _ _ => I9); (with_reducible rename Wk _ _ _ _ _ _ => W9); with_reducible refine' wl_pop I9 W9 ?hne ?hz ?_; (case hz => first | assumption | omega); (case hne => assumption); clear I9 W9; intro _ _ _ _ _))
local macro_rules | `(tactic| walk_at "call builtin:len") => `(tactic| ((with_reducible rename Inv _ _ _ _ _ _ => I9); (with_reducible rename Wk _ _ _ _ _ _ => W9); with_reducible refine' wl_len I9 W9 ?hz ?_; (case hz => first | assumption | omega); clear I9; intro _ _ _))
local macro_rules | `(tactic| walk_at "call builtin:min") => `(tactic| ((with_reducible rename Inv _ _ _ _ _ _ => I9); with_reducible refine rmin (by assumption) I9 ?_; clear I9; intro _ _ _))
section
set_option hygiene true
section
variable {z : Shared} {w : World} {A : Around} {env : Env} {g : Heap} {L : Addr} {n : Nat} {m : Str → Option Value} {own rest : Led} {s : Shared} {E : Value → Shared → Prop} {x vw vt lo : Addr} {st : St} {Q : Value → Shared → Prop}
theorem end_word_spec  (C : Cx w A env g L 1) (I : Inv z g L m (own ++ rest) s) (W : Wk own x vw vt lo st) 
    (ret : ∀ own' s', Wk own' x vw vt lo (st.endWord) → Inv z g L m (own' ++ rest) s' → Q .none s') :
    wpAny (model prg w) A (call (.ref 327) [.ref x]) Q E s := by
  refine' callO (binds := [(Str.ofString "self", .ref x)]) C I ?ho ?hcd ?hb ?hl ?c1 ?c2 ?c3 ?c4 ?_
  walk_at "enter"
  intro A' g' L' s₁ C' I' sb hr
  refine gen_post fun R9 hR9 => ?_
  clear C I
  repeat' (first
    | ((with_reducible show wpAny _ _ _ _ _ _); walk1)
    | ((with_reducible show ite _ _ _); walk_at "ites")
    | ((with_reducible show And _ _); walk1)
    | (with_reducible refine Ent.next (by assumption) ?_)
    | (with_reducible refine Ent.ret (by assumption) ?_)
    | (with_reducible refine EntV.use (by assumption) ?_)
    | (with_reducible refine Ent.brk (by assumption) ?_)
    | (with_reducible refine Ent.cont (by assumption) ?_))
  all_goals refine ⟨_, _, [], (by assumption), fun I9 => ret _ _ (Wk.cast (by assumption) ?_) I9⟩
  · simp only [St.endWord, *]; rfl
  · simp only [St.endWord, *]
theorem begin_word_spec  (C : Cx w A env g L 1) (I : Inv z g L m (own ++ rest) s) (W : Wk own x vw vt lo st) 
    (ret : ∀ own' s', Wk own' x vw vt lo (st.beginWord) → Inv z g L m (own' ++ rest) s' → Q .none s') :
    wpAny (model prg w) A (call (.ref 334) [.ref x]) Q E s := by
  refine' callO (binds := [(Str.ofString "self", .ref x)]) C I ?ho ?hcd ?hb ?hl ?c1 ?c2 ?c3 ?c4 ?_
  walk_at "enter"
  intro A' g' L' s₁ C' I' sb hr
  refine gen_post fun R9 hR9 => ?_
  clear C I
  repeat' (first
    | ((with_reducible show wpAny _ _ _ _ _ _); walk1)
    | ((with_reducible show ite _ _ _); walk_at "ites")
    | ((with_reducible show And _ _); walk1)
    | (with_reducible refine Ent.next (by assumption) ?_)
    | (with_reducible refine Ent.ret (by assumption) ?_)
    | (with_reducible refine EntV.use (by assumption) ?_)
    | (with_reducible refine Ent.brk (by assumption) ?_)
    | (with_reducible refine Ent.cont (by assumption) ?_))
  all_goals refine ⟨_, _, [], (by assumption), fun I9 => ret _ _ (Wk.cast (by assumption) ?_) I9⟩
  · simp only [St.beginWord, *]
  · simp only [St.beginWord, *]; rfl
theorem depth_spec  (C : Cx w A env g L 1) (I : Inv z g L m (own ++ rest) s) (W : Wk own x vw vt lo st) (hz : st.opens.length ≤ 1001)
    (ret : ∀ s' u, Inv z g L m (own ++ rest) s' → Q (.int st.depth u) s') :
    wpAny (model prg w) A (call (.ref 320) [.ref x]) Q E s := by
  refine' callO (binds := [(Str.ofString "self", .ref x)]) C I ?ho ?hcd ?hb ?hl ?c1 ?c2 ?c3 ?c4 ?_
  walk_at "enter"
  intro A' g' L' s₁ C' I' sb hr
  refine gen_post fun R9 hR9 => ?_
  clear C I
  repeat' (first
    | ((with_reducible show wpAny _ _ _ _ _ _); walk1)
    | ((with_reducible show ite _ _ _); walk_at "ites")
    | ((with_reducible show And _ _); walk1)
    | (with_reducible refine Ent.next (by assumption) ?_)
    | (with_reducible refine Ent.ret (by assumption) ?_)
    | (with_reducible refine EntV.use (by assumption) ?_)
    | (with_reducible refine Ent.brk (by assumption) ?_)
    | (with_reducible refine Ent.cont (by assumption) ?_))
  exact ⟨_, _, [], (by assumption), fun I9 => ret _ _ I9⟩
theorem open_at_spec {p : Int} {u : Tok} (C : Cx w A env g L 2) (I : Inv z g L m (own ++ rest) s) (W : Wk own x vw vt lo st) (hz : st.opens.length ≤ 1000)
    (ret : ∀ own' s', Wk own' x vw vt lo (st.openAt p) → Inv z g L m (own' ++ rest) s' → Q .none s') :
    wpAny (model prg w) A (call (.ref 341) [.ref x, .int p u]) Q E s := by
  refine' callO (binds := [(Str.ofString "self", .ref x), (Str.ofString "place", .int p u)]) C I ?ho ?hcd ?hb ?hl ?c1 ?c2 ?c3 ?c4 ?_
  walk_at "enter"
  intro A' g' L' s₁ C' I' sb hr
  refine gen_post fun R9 hR9 => ?_
  clear C I
  have hz' : st.endWord.opens.length ≤ 1000 := by rw [endWord_opens]; exact hz
  repeat' (first
    | ((with_reducible show wpAny _ _ (call (Value.ref _) _ _) _ _ _); (with_reducible rename Inv _ _ _ _ _ _ => I9); first
      | ((with_reducible rename Wk _ _ _ _ _ _ => W9); with_reducible refine' end_word_spec (Cx.less (by assumption) (by decide)) I9 W9 ?_; clear I9 W9; intro _ _ _ _))
    | ((with_reducible show wpAny _ _ _ _ _ _); walk1)
    | ((with_reducible show ite _ _ _); walk_at "ites")
    | ((with_reducible show And _ _); walk1)
    | (with_reducible refine Ent.next (by assumption) ?_)
    | (with_reducible refine Ent.ret (by assumption) ?_)
    | (with_reducible refine EntV.use (by assumption) ?_)
    | (with_reducible refine Ent.brk (by assumption) ?_)
    | (with_reducible refine Ent.cont (by assumption) ?_))
  all_goals refine ⟨_, _, [], (by assumption), fun I9 => ret _ _ (Wk.cast (by assumption) ?_) I9⟩
  · simp only [St.openAt, endWord_opens]; rfl
theorem close_spec  (C : Cx w A env g L 2) (I : Inv z g L m (own ++ rest) s) (W : Wk own x vw vt lo st) (hz : st.opens.length ≤ 1000)
    (ret : ∀ own' s', Wk own' x vw vt lo (st.close) → Inv z g L m (own' ++ rest) s' → Q .none s') :
    wpAny (model prg w) A (call (.ref 348) [.ref x]) Q E s := by
  refine' callO (binds := [(Str.ofString "self", .ref x)]) C I ?ho ?hcd ?hb ?hl ?c1 ?c2 ?c3 ?c4 ?_
  walk_at "enter"
  intro A' g' L' s₁ C' I' sb hr
  refine gen_post fun R9 hR9 => ?_
  clear C I
  have hz' : st.endWord.opens.length ≤ 1000 := by rw [endWord_opens]; exact hz
  repeat' (first
    | ((with_reducible show wpAny _ _ (call (Value.ref _) _ _) _ _ _); (with_reducible rename Inv _ _ _ _ _ _ => I9); first
      | ((with_reducible rename Wk _ _ _ _ _ _ => W9); with_reducible refine' end_word_spec (Cx.less (by assumption) (by decide)) I9 W9 ?_; clear I9 W9; intro _ _ _ _)
      | ((with_reducible rename Wk _ _ _ _ _ _ => W9); with_reducible refine' depth_spec (Cx.less (by assumption) (by decide)) I9 W9 ?hz ?_; (case hz => first | assumption | omega | (simp only [St.s_place, St.s_opens, St.s_below, St.s_least, St.s_whole, St.s_word, St.s_string, St.s_comment, St.s_style, St.s_nests, St.s_start, St.s_quoted, St.s_half, List.length_dropLast, List.length_append, List.length_cons, List.length_nil, endWord_place, endWord_opens, endWord_below, endWord_least, endWord_string, endWord_comment, endWord_style, endWord_nests, endWord_start, endWord_quoted, endWord_half]; omega)); clear I9; intro _ _ _))
    | ((with_reducible show wpAny _ _ _ _ _ _); walk1)
    | ((with_reducible show ite _ _ _); walk_at "ites")
    | ((with_reducible show And _ _); walk1)
    | (with_reducible refine Ent.next (by assumption) ?_)
    | (with_reducible refine Ent.ret (by assumption) ?_)
    | (with_reducible refine EntV.use (by assumption) ?_)
    | (with_reducible refine Ent.brk (by assumption) ?_)
    | (with_reducible refine Ent.cont (by assumption) ?_))
  all_goals refine ⟨_, _, [], (by assumption), fun I9 => ret _ _ (Wk.cast (by assumption) ?_) I9⟩
  · have e9 : st.endWord.close1 = _ := if_pos (by assumption)
    simp only [St.close, e9]; rfl
  · have e9 : st.endWord.close1 = _ := if_neg (by assumption)
    simp only [St.close, e9]; rfl
theorem begin_comment_spec {a : Addr} {k : Mk} {p : Int} {u : Tok} (C : Cx w A env g L 2) (I : Inv z g L m (own ++ rest) s) (W : Wk own x vw vt lo st) (V : MarkAt (inGR g rest) a k)
    (ret : ∀ own' s', Wk own' x vw vt lo (st.beginComment k p) → Inv z g L m (own' ++ rest) s' → Q .none s') :
    wpAny (model prg w) A (call (.ref 355) [.ref x, .ref a, .int p u]) Q E s := by
  refine' callO (binds := [(Str.ofString "self", .ref x), (Str.ofString "mark", .ref a), (Str.ofString "start", .int p u)]) C I ?ho ?hcd ?hb ?hl ?c1 ?c2 ?c3 ?c4 ?_
  walk_at "enter"
  intro A' g' L' s₁ C' I' sb hr
  refine gen_post fun R9 hR9 => ?_
  clear C I
  have V' := V.mono (le_down sb hr)
  repeat' (first
    | ((with_reducible show wpAny _ _ (call (Value.ref _) _ _) _ _ _); (with_reducible rename Inv _ _ _ _ _ _ => I9); first
      | ((with_reducible rename Wk _ _ _ _ _ _ => W9); with_reducible refine' end_word_spec (Cx.less (by assumption) (by decide)) I9 W9 ?_; clear I9 W9; intro _ _ _ _))
    | ((with_reducible show wpAny _ _ _ _ _ _); walk1)
    | ((with_reducible show ite _ _ _); walk_at "ites")
    | ((with_reducible show And _ _); walk1)
    | (with_reducible refine Ent.next (by assumption) ?_)
    | (with_reducible refine Ent.ret (by assumption) ?_)
    | (with_reducible refine EntV.use (by assumption) ?_)
    | (with_reducible refine Ent.brk (by assumption) ?_)
    | (with_reducible refine Ent.cont (by assumption) ?_))
  all_goals refine ⟨_, _, [], (by assumption), fun I9 => ret _ _ (Wk.cast (by assumption) ?_) I9⟩
  · simp only [St.beginComment, *]; rfl
  · simp only [St.beginComment, *]; rfl
theorem leave_comment_spec  (C : Cx w A env g L 1) (I : Inv z g L m (own ++ rest) s) (W : Wk own x vw vt lo st) 
    (ret : ∀ own' s', Wk own' x vw vt lo (st.leaveComment) → Inv z g L m (own' ++ rest) s' → Q .none s') :
    wpAny (model prg w) A (call (.ref 362) [.ref x]) Q E s := by
  refine' callO (binds := [(Str.ofString "self", .ref x)]) C I ?ho ?hcd ?hb ?hl ?c1 ?c2 ?c3 ?c4 ?_
  walk_at "enter"
  intro A' g' L' s₁ C' I' sb hr
  refine gen_post fun R9 hR9 => ?_
  clear C I
  repeat' (first
    | ((with_reducible show wpAny _ _ _ _ _ _); walk1)
    | ((with_reducible show ite _ _ _); walk_at "ites")
    | ((with_reducible show And _ _); walk1)
    | (with_reducible refine Ent.next (by assumption) ?_)
    | (with_reducible refine Ent.ret (by assumption) ?_)
    | (with_reducible refine EntV.use (by assumption) ?_)
    | (with_reducible refine Ent.brk (by assumption) ?_)
    | (with_reducible refine Ent.cont (by assumption) ?_))
  all_goals refine ⟨_, _, [], (by assumption), fun I9 => ret _ _ (Wk.cast (by assumption) ?_) I9⟩
  · simp only [St.leaveComment, *]; rfl
  · simp only [St.leaveComment, *]; rfl
theorem begin_string_spec {p : Int} {u : Tok} (C : Cx w A env g L 2) (I : Inv z g L m (own ++ rest) s) (W : Wk own x vw vt lo st) 
    (ret : ∀ own' s', Wk own' x vw vt lo (st.beginString p) → Inv z g L m (own' ++ rest) s' → Q .none s') :
    wpAny (model prg w) A (call (.ref 369) [.ref x, .int p u]) Q E s := by
  refine' callO (binds := [(Str.ofString "self", .ref x), (Str.ofString "ender", .int p u)]) C I ?ho ?hcd ?hb ?hl ?c1 ?c2 ?c3 ?c4 ?_
  walk_at "enter"
  intro A' g' L' s₁ C' I' sb hr
  refine gen_post fun R9 hR9 => ?_
  clear C I
  repeat' (first
    | ((with_reducible show wpAny _ _ (call (Value.ref _) _ _) _ _ _); (with_reducible rename Inv _ _ _ _ _ _ => I9); first
      | ((with_reducible rename Wk _ _ _ _ _ _ => W9); with_reducible refine' end_word_spec (Cx.less (by assumption) (by decide)) I9 W9 ?_; clear I9 W9; intro _ _ _ _))
    | ((with_reducible show wpAny _ _ _ _ _ _); walk1)
    | ((with_reducible show ite _ _ _); walk_at "ites")
    | ((with_reducible show And _ _); walk1)
    | (with_reducible refine Ent.next (by assumption) ?_)
    | (with_reducible refine Ent.ret (by assumption) ?_)
    | (with_reducible refine EntV.use (by assumption) ?_)
    | (with_reducible refine Ent.brk (by assumption) ?_)
    | (with_reducible refine Ent.cont (by assumption) ?_))
  all_goals refine ⟨_, _, [], (by assumption), fun I9 => ret _ _ (Wk.cast (by assumption) ?_) I9⟩
  · simp only [St.beginString, endWord_place, St.s_string, St.s_start]
theorem end_string_spec  (C : Cx w A env g L 1) (I : Inv z g L m (own ++ rest) s) (W : Wk own x vw vt lo st) 
    (ret : ∀ own' s', Wk own' x vw vt lo (st.endString) → Inv z g L m (own' ++ rest) s' → Q .none s') :
    wpAny (model prg w) A (call (.ref 376) [.ref x]) Q E s := by
  refine' callO (binds := [(Str.ofString "self", .ref x)]) C I ?ho ?hcd ?hb ?hl ?c1 ?c2 ?c3 ?c4 ?_
  walk_at "enter"
  intro A' g' L' s₁ C' I' sb hr
  refine gen_post fun R9 hR9 => ?_
  clear C I
  repeat' (first
    | ((with_reducible show wpAny _ _ _ _ _ _); walk1)
    | ((with_reducible show ite _ _ _); walk_at "ites")
    | ((with_reducible show And _ _); walk1)
    | (with_reducible refine Ent.next (by assumption) ?_)
    | (with_reducible refine Ent.ret (by assumption) ?_)
    | (with_reducible refine EntV.use (by assumption) ?_)
    | (with_reducible refine Ent.brk (by assumption) ?_)
    | (with_reducible refine Ent.cont (by assumption) ?_))
  all_goals refine ⟨_, _, [], (by assumption), fun I9 => ret _ _ (Wk.cast (by assumption) ?_) I9⟩
  · rfl
theorem take_spec {a : Addr} {k : Mk} {wd : Str} {u : Tok} {limit : Int} {u' : Tok} (C : Cx w A env g L 1) (I : Inv z g L m (own ++ rest) s) (W : Wk own x vw vt lo st) (V : MarkAt (inGR g rest) a k)
    (ret : ∀ own' s' b, b = st.takes k limit → Wk own' x vw vt lo (st.take k wd limit) → Inv z g L m (own' ++ rest) s' → Q (.bool b) s') :
    wpAny (model prg w) A (call (.ref 383) [.ref x, .ref a, .str wd u, .int limit u']) Q E s := by
  refine' callO (binds := [(Str.ofString "self", .ref x), (Str.ofString "mark", .ref a), (Str.ofString "word", .str wd u), (Str.ofString "limit", .int limit u')]) C I ?ho ?hcd ?hb ?hl ?c1 ?c2 ?c3 ?c4 ?_
  walk_at "enter"
  intro A' g' L' s₁ C' I' sb hr
  refine gen_post fun R9 hR9 => ?_
  clear C I
  have V' := V.mono (le_down sb hr)
  repeat' (first
    | ((with_reducible show wpAny _ _ _ _ _ _); walk1)
    | ((with_reducible show ite _ _ _); walk_at "ites")
    | ((with_reducible show And _ _); walk1)
    | (with_reducible refine Ent.next (by assumption) ?_)
    | (with_reducible refine Ent.ret (by assumption) ?_)
    | (with_reducible refine EntV.use (by assumption) ?_)
    | (with_reducible refine Ent.brk (by assumption) ?_)
    | (with_reducible refine Ent.cont (by assumption) ?_))
  all_goals refine ⟨_, _, [], (by assumption), fun I9 => ret _ _ _ ?_ (Wk.cast (by assumption) ?_) I9⟩
  all_goals first
    | (simp [St.takes, *]; done)
    | (unfold St.take; rw [if_pos (by simp [St.takes, *])]; rfl)
    | (unfold St.take; rw [if_neg (by simp [St.takes, *])]; rfl)
end
end
/-! part M2 -/
section
set_option hygiene true
theorem fill_M2 (w : World) : hdKp w.params = hdKp w.params ∧ PySem.Challenge.rw_np0078_01 = PySem.Challenge.rw_np0078_01 := by
  k_fill
  exact ⟨rfl, rfl⟩
end
section
set_option hygiene false
local macro_rules | `(tactic| walk_at "testChain") => `(tactic| with_reducible (first | refine test_link ?_ | refine test_last ?_))
local macro_rules | `(tactic| walk_at "isTrue Compare") => `(tactic| (with_reducible refine' isTrue_chain ?_ ?q0; (case q0 => with_unfolding_all rfl)))
local macro_rules | `(tactic| walk_at "isTrue Compare") => `(tactic| (with_reducible refine' wpAny_isTrue_Compare1 ?_ ?q0; (case q0 => with_unfolding_all rfl)))
local macro_rules | `(tactic| walk_at "call builtin:len") => `(tactic| ((with_reducible rename Inv _ _ _ _ _ _ => I9); with_reducible refine' rl_len I9 (by assumption) ?hz ?_; (case hz => first | assumption | omega); clear I9; intro _ _ _))
local macro_rules | `(tactic| walk_at "eval Subscript") => `(tactic| with_reducible refine Subscript_ ?_)
local macro_rules | `(tactic| walk_at "subscriptTail") => `(tactic| ((with_reducible rename Inv _ _ _ _ _ _ => I9); (with_reducible refine' rl_get I9 (by assumption) ?h0 ?h1 ?hz ?hs ?_); (case hs => with_unfolding_all rfl); (case h0 => omega); (case h1 => omega); (case hz => first | assumption | omega); clear I9; intro _ _ _))
local macro_rules | `(tactic| walk_at "getAttr ref") => `(tactic| ((with_reducible rename Inv _ _ _ _ _ _ => I9); first
  | (with_reducible refine tblget_rows (by assumption) I9 (by assumption) ?_; clear I9; intro _ _)
  | (with_reducible refine tblget_parent (by assumption) I9 (by assumption) ?_; clear I9; intro _ _)))
local macro_rules | `(tactic| walk_at "getMethod ref") => `(tactic| (first
  | with_reducible refine tblmeth_own (by assumption) (by assumption) (by assumption) ?_
  | with_reducible refine tblmeth_at (by assumption) (by assumption) (by assumption) ?_
  | with_reducible refine rows_meth (by assumption) (by assumption) ?_))
local macro_rules | `(tactic| walk_at "call builtin:dict.get") => `(tactic| ((with_reducible rename Inv _ _ _ _ _ _ => I9); with_reducible refine rows_get I9 (by assumption) (by assumption) (by assumption) ?_; clear I9; intro _ _ _ _))
local macro_rules | `(tactic| walk_at "compareOp Eq") => `(tactic| with_reducible (first | refine eq_opt (by assumption) ?_ | refine eq_opt' (by assumption) ?_))
local macro_rules | `(tactic| walk_at "compareOp NotEq bool bool") => `(tactic| with_reducible refine ne_bool ?_)
local macro_rules | `(tactic| walk_at "compareOp Eq bool bool") => `(tactic| with_reducible refine PyProof.Rows.eq_bool ?_)
local macro_rules | `(tactic| walk_at "compareOp Is none none") => `(tactic| with_reducible refine is_none_none ?_)
local macro_rules | `(tactic| walk_at "compareOp IsNot none none") => `(tactic| with_reducible refine isnot_none_none ?_)
local macro_rules | `(tactic| walk_at "binaryOp Add str str") => `(tactic| ((with_reducible rename Inv _ _ _ _ _ _ => I9); (with_reducible refine' bCat I9 ?hz ?_); (case hz => exact Nat.le_of_ble_eq_true rfl); clear I9; intro _ _ _))
local macro_rules | `(tactic| walk_at "newTuple") => `(tactic| ((with_reducible rename Inv _ _ _ _ _ _ => I9); (with_reducible refine' newTup I9 ?hz ?_); (case hz => exact Nat.le_of_ble_eq_true rfl); clear I9; intro _ _ _))
local macro_rules | `(tactic| walk_at "unpackItems ref") => `(tactic| ((with_reducible rename Inv _ _ _ _ _ _ => I9); (refine' unpackTup (by assumption) I9 ?hk ?_); (case hk => rfl); clear I9; intro _ _))
local macro_rules | `(tactic| walk_at "assignInOrder") => `(tactic| (first | refine wpAny_assignInOrder_none ?_ | refine wpAny_assignInOrder_more ?_))
local macro_rules | `(tactic| walk_at "bindName") => `(tactic| (refine wpAny_bindName ?_))
local macro_rules | `(tactic| walk_at "exec Assign") => `(tactic| ((with_reducible show wpAny _ _ (exec (Stmt.Assign [Expr.Tuple _ _ _] _ _) _) _ _ _); refine' Assign_Tuple_swapped ?_ ?q0 ?q1; (case q0 => with_unfolding_all rfl); (case q1 => with_unfolding_all rfl)))
local macro_rules | `(tactic| walk_at "callWith ref") => `(tactic| (first
  | (with_reducible refine' cwc (by assumption) ?hk ?he ?hp ?_; (case hk => first | exact keepc_253 _ | exact keepc_151 _ | exact keepc_232 _ | exact keepc_486 _ | exact keepc_428 _ | exact keepc_68 _); (case he => with_unfolding_all rfl); (case hp => with_unfolding_all rfl))))
local macro_rules | `(tactic| walk_at "emake") => `(tactic| (
  (case hm => k_is); (case hi => k_is); (case hf => k_is); (case ho => k_is); (case hcd => k_is); (case hb => exact fun _ _ _ => BindsTo.of_eq rfl); (case hl => exact fun _ => locs rfl); (case c1 => exact rfl); (case c2 => exact rfl); (case c3 => exact rfl); (case c4 => decide)))
section
set_option hygiene true
section
variable {z : Shared} {w : World} {A : Around} {env : Env} {g : Heap} {L : Addr} {n : Nat} {m : Str → Option Value} {own rest : Led} {s : Shared} {E : Value → Shared → Prop} {x vw vt lo lc dr : Addr} {sa : Int → Addr} {c : Ct} {st : St} {Q : Value → Shared → Prop}
theorem has_spec {a : Addr} {y : Sy} {fl : Str} {u : Tok} (C : Cx w A env g L 1) (I : Inv z g L m (rest) s) (V : SynAt (inGR g rest) a y)
    (ret : ∀ s' b, y.has fl = b → Inv z g L m rest s' → Q (.bool b) s') :
    wpAny (model prg w) A (call (.ref 127) [.ref a, .str fl u]) Q E s := by
  refine' callO (own := []) (binds := [(Str.ofString "self", .ref a), (Str.ofString "flag", .str fl u)]) C I ?ho ?hcd ?hb ?hl ?c1 ?c2 ?c3 ?c4 ?_
  walk_at "enter"
  intro A' g' L' s₁ C' I' sb hr
  refine gen_post fun R9 hR9 => ?_
  clear C I
  have V' := V.mono (le_down sb hr)
  repeat' (first
    | ((with_reducible show wpAny _ _ _ _ _ _); walk1)
    | ((with_reducible show ite _ _ _); walk_at "ites")
    | ((with_reducible show And _ _); walk1)
    | (with_reducible refine Ent.next (by assumption) ?_)
    | (with_reducible refine Ent.ret (by assumption) ?_)
    | (with_reducible refine EntV.use (by assumption) ?_)
    | (with_reducible refine Ent.brk (by assumption) ?_)
    | (with_reducible refine Ent.cont (by assumption) ?_))
  all_goals refine ⟨_, [], [], (by assumption), fun I9 => ret _ _ ?_ I9⟩
  · rfl
theorem is_escape_spec {a : Addr} {y : Sy} (C : Cx w A env g L 1) (I : Inv z g L m (rest) s) (V : SynAt (inGR g rest) a y)
    (ret : ∀ s' b, y.isEscape = b → Inv z g L m rest s' → Q (.bool b) s') :
    wpAny (model prg w) A (call (.ref 134) [.ref a]) Q E s := by
  refine' callO (own := []) (binds := [(Str.ofString "self", .ref a)]) C I ?ho ?hcd ?hb ?hl ?c1 ?c2 ?c3 ?c4 ?_
  walk_at "enter"
  intro A' g' L' s₁ C' I' sb hr
  refine gen_post fun R9 hR9 => ?_
  clear C I
  have V' := V.mono (le_down sb hr)
  repeat' (first
    | ((with_reducible show wpAny _ _ _ _ _ _); walk1)
    | ((with_reducible show ite _ _ _); walk_at "ites")
    | ((with_reducible show And _ _); walk1)
    | (with_reducible refine Ent.next (by assumption) ?_)
    | (with_reducible refine Ent.ret (by assumption) ?_)
    | (with_reducible refine EntV.use (by assumption) ?_)
    | (with_reducible refine Ent.brk (by assumption) ?_)
    | (with_reducible refine Ent.cont (by assumption) ?_))
  all_goals refine ⟨_, [], [], (by assumption), fun I9 => ret _ _ ?_ I9⟩
  all_goals simp [Sy.isEscape, *]
theorem is_word_part_spec {a : Addr} {y : Sy} (C : Cx w A env g L 1) (I : Inv z g L m (rest) s) (V : SynAt (inGR g rest) a y)
    (ret : ∀ s' b, y.isWord = b → Inv z g L m rest s' → Q (.bool b) s') :
    wpAny (model prg w) A (call (.ref 141) [.ref a]) Q E s := by
  refine' callO (own := []) (binds := [(Str.ofString "self", .ref a)]) C I ?ho ?hcd ?hb ?hl ?c1 ?c2 ?c3 ?c4 ?_
  walk_at "enter"
  intro A' g' L' s₁ C' I' sb hr
  refine gen_post fun R9 hR9 => ?_
  clear C I
  have V' := V.mono (le_down sb hr)
  repeat' (first
    | ((with_reducible show wpAny _ _ _ _ _ _); walk1)
    | ((with_reducible show ite _ _ _); walk_at "ites")
    | ((with_reducible show And _ _); walk1)
    | (with_reducible refine Ent.next (by assumption) ?_)
    | (with_reducible refine Ent.ret (by assumption) ?_)
    | (with_reducible refine EntV.use (by assumption) ?_)
    | (with_reducible refine Ent.brk (by assumption) ?_)
    | (with_reducible refine Ent.cont (by assumption) ?_))
  all_goals refine ⟨_, [], [], (by assumption), fun I9 => ret _ _ ?_ I9⟩
  all_goals simp [Sy.isWord, *]
theorem sstyle_spec {a : Addr} {y : Sy} (C : Cx w A env g L 2) (I : Inv z g L m (rest) s) (V : SynAt (inGR g rest) a y)
    (ret : ∀ s' v u, v = y.style → Inv z g L m rest s' → Q (.str v u) s') :
    wpAny (model prg w) A (call (.ref 148) [.ref a]) Q E s := by
  refine' callO (own := []) (binds := [(Str.ofString "self", .ref a)]) C I ?ho ?hcd ?hb ?hl ?c1 ?c2 ?c3 ?c4 ?_
  walk_at "enter"
  intro A' g' L' s₁ C' I' sb hr
  refine gen_post fun R9 hR9 => ?_
  clear C I
  have V' := V.mono (le_down sb hr)
  repeat' (first
    | ((with_reducible show wpAny _ _ (call (Value.ref _) _ _) _ _ _); (with_reducible rename Inv _ _ _ _ _ _ => I9); first
      | (with_reducible refine has_spec (Cx.less (by assumption) (by decide)) I9 (by assumption) ?_; clear I9; intro _ _ _ _)
      | (with_reducible refine has_spec (Cx.less (by assumption) (by decide)) I9 (SynAt.mono (by assumption) le_up) ?_; clear I9; intro _ _ _ _))
    | ((with_reducible show wpAny _ _ _ _ _ _); walk1)
    | ((with_reducible show ite _ _ _); walk_at "ites")
    | ((with_reducible show And _ _); walk1)
    | (with_reducible refine Ent.next (by assumption) ?_)
    | (with_reducible refine Ent.ret (by assumption) ?_)
    | (with_reducible refine EntV.use (by assumption) ?_)
    | (with_reducible refine Ent.brk (by assumption) ?_)
    | (with_reducible refine Ent.cont (by assumption) ?_))
  all_goals refine ⟨_, [], [], (by assumption), fun I9 => ret _ _ _ ?_ I9⟩
  all_goals (subst_vars; simp only [Sy.style, *, ↓reduceIte, Bool.false_eq_true])
theorem pair_style_spec {a a2 : Addr} {y y2 : Sy} (C : Cx w A env g L 2) (I : Inv z g L m (rest) s) (V : SynAt (inGR g rest) a y) (V2 : SynAt (inGR g rest) a2 y2)
    (ret : ∀ s' v u, v = pairStyle y y2 → Inv z g L m rest s' → Q (.str v u) s') :
    wpAny (model prg w) A (call (.ref 271) [.ref a, .ref a2]) Q E s := by
  refine' callO (own := []) (binds := [(Str.ofString "told", .ref a), (Str.ofString "other", .ref a2)]) C I ?ho ?hcd ?hb ?hl ?c1 ?c2 ?c3 ?c4 ?_
  walk_at "enter"
  intro A' g' L' s₁ C' I' sb hr
  refine gen_post fun R9 hR9 => ?_
  clear C I
  have V' := V.mono (le_down sb hr)
  have V2' := V2.mono (le_down sb hr)
  repeat' (first
    | ((with_reducible show wpAny _ _ (call (Value.ref _) _ _) _ _ _); (with_reducible rename Inv _ _ _ _ _ _ => I9); first
      | (with_reducible refine has_spec (Cx.less (by assumption) (by decide)) I9 (by assumption) ?_; clear I9; intro _ _ _ _)
      | (with_reducible refine has_spec (Cx.less (by assumption) (by decide)) I9 (SynAt.mono (by assumption) le_up) ?_; clear I9; intro _ _ _ _))
    | ((with_reducible show wpAny _ _ _ _ _ _); walk1)
    | ((with_reducible show ite _ _ _); walk_at "ites")
    | ((with_reducible show And _ _); walk1)
    | (with_reducible refine Ent.next (by assumption) ?_)
    | (with_reducible refine Ent.ret (by assumption) ?_)
    | (with_reducible refine EntV.use (by assumption) ?_)
    | (with_reducible refine Ent.brk (by assumption) ?_)
    | (with_reducible refine Ent.cont (by assumption) ?_))
  all_goals refine ⟨_, [], [], (by assumption), fun I9 => ret _ _ _ ?_ I9⟩
  all_goals (subst_vars; simp only [pairStyle, *, ↓reduceIte, Bool.false_eq_true, Bool.true_or, Bool.or_true, Bool.or_self])
theorem rbegin_spec  (C : Cx w A env g L 1) (I : Inv z g L m (rest) s) (V : Vw (inGR g rest) w vw lc vt dr sa c)
    (ret : ∀ s' u, Inv z g L m rest s' → Q (.int c.b u) s') :
    wpAny (model prg w) A (call (.ref 469) [.ref vw]) Q E s := by
  refine' callO (own := []) (binds := [(Str.ofString "self", .ref vw)]) C I ?ho ?hcd ?hb ?hl ?c1 ?c2 ?c3 ?c4 ?_
  walk_at "enter"
  intro A' g' L' s₁ C' I' sb hr
  refine gen_post fun R9 hR9 => ?_
  clear C I
  have V' := V.mono (le_down sb hr)
  have hrow := V'.row
  have hlst := hrow.lst
  have hlen := V.len
  repeat' (first
    | ((with_reducible show wpAny _ _ _ _ _ _); walk1)
    | ((with_reducible show ite _ _ _); walk_at "ites")
    | ((with_reducible show And _ _); walk1)
    | (with_reducible refine Ent.next (by assumption) ?_)
    | (with_reducible refine Ent.ret (by assumption) ?_)
    | (with_reducible refine EntV.use (by assumption) ?_)
    | (with_reducible refine Ent.brk (by assumption) ?_)
    | (with_reducible refine Ent.cont (by assumption) ?_))
  all_goals exact ⟨_, [], [], (by assumption), fun I9 => ret _ _ I9⟩
theorem rend_spec  (C : Cx w A env g L 1) (I : Inv z g L m (rest) s) (V : Vw (inGR g rest) w vw lc vt dr sa c)
    (ret : ∀ s' u, Inv z g L m rest s' → Q (.int c.e u) s') :
    wpAny (model prg w) A (call (.ref 476) [.ref vw]) Q E s := by
  refine' callO (own := []) (binds := [(Str.ofString "self", .ref vw)]) C I ?ho ?hcd ?hb ?hl ?c1 ?c2 ?c3 ?c4 ?_
  walk_at "enter"
  intro A' g' L' s₁ C' I' sb hr
  refine gen_post fun R9 hR9 => ?_
  clear C I
  have V' := V.mono (le_down sb hr)
  have hrow := V'.row
  have hlst := hrow.lst
  have hlen := V.len
  repeat' (first
    | ((with_reducible show wpAny _ _ _ _ _ _); walk1)
    | ((with_reducible show ite _ _ _); walk_at "ites")
    | ((with_reducible show And _ _); walk1)
    | (with_reducible refine Ent.next (by assumption) ?_)
    | (with_reducible refine Ent.ret (by assumption) ?_)
    | (with_reducible refine EntV.use (by assumption) ?_)
    | (with_reducible refine Ent.brk (by assumption) ?_)
    | (with_reducible refine Ent.cont (by assumption) ?_))
  all_goals exact ⟨_, [], [], (by assumption), fun I9 => ret _ _ I9⟩
theorem code_at_spec {p : Int} {u : Tok} (C : Cx w A env g L 1) (I : Inv z g L m (rest) s) (V : Vw (inGR g rest) w vw lc vt dr sa c)
    (ret : ∀ s' v u, v = c.cod p → Inv z g L m rest s' → Q (.int v u) s') :
    wpAny (model prg w) A (call (.ref 483) [.ref vw, .int p u]) Q E s := by
  refine' callO (own := []) (binds := [(Str.ofString "self", .ref vw), (Str.ofString "place", .int p u)]) C I ?ho ?hcd ?hb ?hl ?c1 ?c2 ?c3 ?c4 ?_
  walk_at "enter"
  intro A' g' L' s₁ C' I' sb hr
  refine gen_post fun R9 hR9 => ?_
  clear C I
  have V' := V.mono (le_down sb hr)
  have hrow := V'.row
  have hlst := hrow.lst
  have hlen := V.len
  repeat' (first
    | ((with_reducible show wpAny _ _ _ _ _ _); walk1)
    | ((with_reducible show ite _ _ _); walk_at "ites")
    | ((with_reducible show And _ _); walk1)
    | (with_reducible refine Ent.next (by assumption) ?_)
    | (with_reducible refine Ent.ret (by assumption) ?_)
    | (with_reducible refine EntV.use (by assumption) ?_)
    | (with_reducible refine Ent.brk (by assumption) ?_)
    | (with_reducible refine Ent.cont (by assumption) ?_))
  all_goals refine ⟨_, [], [], (by assumption), fun I9 => ret _ _ _ ?_ I9⟩
  all_goals unfold Ct.cod
  · rw [if_pos ⟨by assumption, by assumption⟩]
  · rw [if_neg fun q => absurd q.2 (by assumption)]
  · rw [if_neg fun q => absurd q.1 (by assumption)]
end
end
/-! part M3 -/
section
set_option hygiene true
theorem fill_M3 (w : World) : hdKp w.params = hdKp w.params ∧ PySem.Challenge.rw_np0078_01 = PySem.Challenge.rw_np0078_01 := by
  k_fill
  exact ⟨rfl, rfl⟩
end
section
set_option hygiene true
section
variable {z : Shared} {w : World} {A : Around} {env : Env} {g : Heap} {L : Addr} {n : Nat} {m : Str → Option Value} {own rest : Led} {s : Shared} {E : Value → Shared → Prop} {x vw vt lo lc dr : Addr} {sa : Int → Addr} {c : Ct} {st : St} {Q : Value → Shared → Prop}
theorem town_spec {k : Int} {u : Tok} (C : Cx w A env g L 1) (I : Inv z g L m (rest) s) (V : Vw (inGR g rest) w vw lc vt dr sa c) (h0 : 97 ≤ k) (h1 : k ≤ 104)
    (ret : ∀ s', Inv z g L m rest s' → Q (.ref (sa k)) s') :
    wpAny (model prg w) A (call (.ref 208) [.ref vt, .int k u]) Q E s := by
  refine' callO (own := []) (binds := [(Str.ofString "self", .ref vt), (Str.ofString "code", .int k u)]) C I ?ho ?hcd ?hb ?hl ?c1 ?c2 ?c3 ?c4 ?_
  walk_at "enter"
  intro A' g' L' s₁ C' I' sb hr
  refine gen_post fun R9 hR9 => ?_
  clear C I
  have V' := V.mono (le_down sb hr)
  have htbl := V'.tbl
  repeat' (first
    | ((with_reducible show wpAny _ _ _ _ _ _); walk1)
    | ((with_reducible show ite _ _ _); walk_at "ites")
    | ((with_reducible show And _ _); walk1)
    | (with_reducible refine Ent.next (by assumption) ?_)
    | (with_reducible refine Ent.ret (by assumption) ?_)
    | (with_reducible refine EntV.use (by assumption) ?_)
    | (with_reducible refine Ent.brk (by assumption) ?_)
    | (with_reducible refine Ent.cont (by assumption) ?_))
  all_goals exact ⟨_, [], [], (by assumption), fun I9 => ret _ I9⟩
theorem tat_spec {k : Int} {u : Tok} (C : Cx w A env g L 2) (I : Inv z g L m (rest) s) (V : Vw (inGR g rest) w vw lc vt dr sa c) (h0 : 97 ≤ k) (h1 : k ≤ 104)
    (ret : ∀ s', Inv z g L m rest s' → Q (.ref (sa k)) s') :
    wpAny (model prg w) A (call (.ref 215) [.ref vt, .int k u]) Q E s := by
  refine' callO (own := []) (binds := [(Str.ofString "self", .ref vt), (Str.ofString "code", .int k u)]) C I ?ho ?hcd ?hb ?hl ?c1 ?c2 ?c3 ?c4 ?_
  walk_at "enter"
  intro A' g' L' s₁ C' I' sb hr
  refine gen_post fun R9 hR9 => ?_
  clear C I
  have V' := V.mono (le_down sb hr)
  have htbl := V'.tbl
  repeat' (first
    | ((with_reducible show wpAny _ _ _ _ _ _); walk1)
    | ((with_reducible show ite _ _ _); walk_at "ites")
    | ((with_reducible show And _ _); walk1)
    | (with_reducible refine Ent.next (by assumption) ?_)
    | (with_reducible refine Ent.ret (by assumption) ?_)
    | (with_reducible refine EntV.use (by assumption) ?_)
    | (with_reducible refine Ent.brk (by assumption) ?_)
    | (with_reducible refine Ent.cont (by assumption) ?_))
  refine while_own (fun n s => n = 1 ∧ Inv z g' L' (fun y => if y = Str.ofString "table" then some (.ref vt) else List.lookup y [(Str.ofString "self", .ref vt), (Str.ofString "code", .int k u)].reverse) ([] ++ []) s) ?_ 1 ⟨rfl, by assumption⟩
  rintro n' s' ⟨rfl, I8⟩
  repeat' (first
    | ((with_reducible show wpAny _ _ (call (Value.ref _) _ _) _ _ _); (with_reducible rename Inv _ _ _ _ _ _ => I9); first
      | ((with_reducible refine' town_spec (Cx.less (by assumption) (by decide)) I9 (by assumption) ?h0 ?h1 ?_); (case h0 => omega); (case h1 => omega); clear I9; intro _ _)
      | ((with_reducible refine' town_spec (Cx.less (by assumption) (by decide)) I9 (Vw.mono (by assumption) le_up) ?h0 ?h1 ?_); (case h0 => omega); (case h1 => omega); clear I9; intro _ _))
    | ((with_reducible show wpAny _ _ _ _ _ _); walk1)
    | ((with_reducible show ite _ _ _); walk_at "ites")
    | ((with_reducible show And _ _); walk1)
    | (with_reducible refine Ent.next (by assumption) ?_)
    | (with_reducible refine Ent.ret (by assumption) ?_)
    | (with_reducible refine EntV.use (by assumption) ?_)
    | (with_reducible refine Ent.brk (by assumption) ?_)
    | (with_reducible refine Ent.cont (by assumption) ?_))
  all_goals exact ⟨_, [], [], (by assumption), fun I9 => ret _ I9⟩
theorem syntax_at_spec {p : Int} {u : Tok} (C : Cx w A env g L 3) (I : Inv z g L m (rest) s) (V : Vw (inG g) w vw lc vt dr sa c)
    (ret1 : ∀ s', c.sy p = none → Inv z g L m rest s' → Q .none s')
    (ret2 : ∀ s', c.sy p = some (c.tb (c.cod p)) → 0 ≤ c.cod p → SynAt (inG g) (sa (c.cod p)) (c.tb (c.cod p)) → Inv z g L m rest s' → Q (.ref (sa (c.cod p))) s') :
    wpAny (model prg w) A (call (.ref 264) [.ref vw, .ref vt, .int p u]) Q E s := by
  refine' callO (own := []) (binds := [(Str.ofString "view", .ref vw), (Str.ofString "table", .ref vt), (Str.ofString "place", .int p u)]) C I ?ho ?hcd ?hb ?hl ?c1 ?c2 ?c3 ?c4 ?_
  walk_at "enter"
  intro A' g' L' s₁ C' I' sb hr
  refine gen_post fun R9 hR9 => ?_
  clear C I
  have V' := V.mono (le_sub sb)
  have htbl := V'.tbl
  have hrow := V'.row
  have hcod := cod_in V.ok (p := p)
  repeat' (first
    | ((with_reducible show wpAny _ _ (call (Value.ref _) _ _) _ _ _); (with_reducible rename Inv _ _ _ _ _ _ => I9); first
      | (with_reducible refine code_at_spec (Cx.less (by assumption) (by decide)) I9 (by assumption) ?_; clear I9; intro _ _ _ _ _)
      | (with_reducible refine code_at_spec (Cx.less (by assumption) (by decide)) I9 (Vw.mono (by assumption) le_up) ?_; clear I9; intro _ _ _ _ _)
      | ((with_reducible refine' tat_spec (Cx.less (by assumption) (by decide)) I9 (by assumption) ?h0 ?h1 ?_); (case h0 => omega); (case h1 => omega); clear I9; intro _ _)
      | ((with_reducible refine' tat_spec (Cx.less (by assumption) (by decide)) I9 (Vw.mono (by assumption) le_up) ?h0 ?h1 ?_); (case h0 => omega); (case h1 => omega); clear I9; intro _ _))
    | ((with_reducible show wpAny _ _ _ _ _ _); walk1)
    | ((with_reducible show ite _ _ _); walk_at "ites")
    | ((with_reducible show And _ _); walk1)
    | (with_reducible refine Ent.next (by assumption) ?_)
    | (with_reducible refine Ent.ret (by assumption) ?_)
    | (with_reducible refine EntV.use (by assumption) ?_)
    | (with_reducible refine Ent.brk (by assumption) ?_)
    | (with_reducible refine Ent.cont (by assumption) ?_))
  · subst_vars
    exact ⟨_, [], [], (by assumption), fun I9 => ret1 _ (if_pos (by assumption)) I9⟩
  · subst_vars
    exact ⟨_, [], [], (by assumption), fun I9 => ret2 _ (if_neg (by assumption)) (by omega) (V.tbl.syn (by omega) (by omega)) I9⟩
theorem mark_make_spec {len : Int} {sty : Str} {ne fe : Bool} {t1 t2 : Tok} (C : Cx w A env g L 2) (I : Inv z g L m rest s)
    (ret : ∀ a new s', MarkAt (inL new) a ⟨len, sty, ne, fe⟩ → Inv z g L m (new ++ rest) s' → Q (.ref a) s') :
    wpAny (model prg w) A (call (.ref 253) [.int len t1, .str sty t2, .bool ne, .bool fe]) Q E s := by
  refine' makeO (binds := fun x => [(Str.ofString "self", x), (Str.ofString "length", .int len t1), (Str.ofString "style", .str sty t2), (Str.ofString "nests", .bool ne), (Str.ofString "is_fence", .bool fe)]) C I ?hm ?hi ?hf ?ho ?hcd ?hb ?hl ?c1 ?c2 ?c3 ?c4 ?_
  walk_at "emake"
  intro x dx A' g' L' s₁ C' I' sb hr
  clear C I
  have D' := DictO.nil
  repeat' (first
  | ((with_reducible show wpAny _ _ (setAttr _ _ _) _ _ _); (with_reducible rename Inv _ _ _ _ _ _ => I9); (with_reducible rename DictO _ _ => D9); (refine' set_new (by assumption) I9 D9 (cls_253 _) ?ha ?hz ?_); (case hz => exact Nat.le_of_ble_eq_true rfl); (case ha => first | exact own_253_length _ | exact own_253_style _ | exact own_253_nests _ | exact own_253_is_fence _); clear I9 D9; intro _ _ _ _)
    | ((with_reducible show wpAny _ _ _ _ _ _); walk1)
    | ((with_reducible show ite _ _ _); walk_at "ites")
    | ((with_reducible show And _ _); walk1)
    | (with_reducible refine Ent.next (by assumption) ?_)
    | (with_reducible refine Ent.ret (by assumption) ?_)
    | (with_reducible refine EntV.use (by assumption) ?_)
    | (with_reducible refine Ent.brk (by assumption) ?_)
    | (with_reducible refine Ent.cont (by assumption) ?_))
  rename DictO _ _ => D9
  rename Inv _ _ _ _ _ _ => I9
  refine ⟨_, [_, _], _, I9, fun I8 => ⟨rfl, ret _ _ _ ⟨⟨fun i => if i = 0 then t1 else t2, _, _, .head _, .tail _ (.head _), ?_⟩, trivial⟩ I8⟩⟩
  exact D9
theorem begin_mark_spec {p : Int} {u : Tok} (C : Cx w A env g L 4) (I : Inv z g L m (own ++ rest) s) (V : Vw (inG g) w vw lc vt dr sa c)
    (ret1 : ∀ s', c.bm p = none → Inv z g L m (own ++ rest) s' → Q .none s')
    (ret2 : ∀ k a new s', c.bm p = some k → MarkAt (inL new) a k → Inv z g L m (own ++ (new ++ rest)) s' → Q (.ref a) s') :
    wpAny (model prg w) A (call (.ref 278) [.ref vw, .ref vt, .int p u]) Q E s := by
  refine' callO (own := []) (rest := own ++ rest) (binds := [(Str.ofString "view", .ref vw), (Str.ofString "table", .ref vt), (Str.ofString "place", .int p u)]) C I ?ho ?hcd ?hb ?hl ?c1 ?c2 ?c3 ?c4 ?_
  walk_at "enter"
  intro A' g' L' s₁ C' I' sb hr
  refine gen_post fun R9 hR9 => ?_
  clear C I
  have V' := V.mono (le_sub sb)
  repeat' (first
    | ((with_reducible show wpAny _ _ (call (Value.ref _) _ _) _ _ _); (with_reducible rename Inv _ _ _ _ _ _ => I9); first
      | ((with_reducible refine' syntax_at_spec (Cx.less (by assumption) (by decide)) I9 (by assumption) (fun _ _ _ => ?_) (fun _ _ _ _ _ => ?_)); (all_goals clear I9))
      | (with_reducible refine has_spec (Cx.less (by assumption) (by decide)) I9 (by assumption) ?_; clear I9; intro _ _ _ _)
      | (with_reducible refine has_spec (Cx.less (by assumption) (by decide)) I9 (SynAt.mono (by assumption) le_up) ?_; clear I9; intro _ _ _ _)
      | (with_reducible refine sstyle_spec (Cx.less (by assumption) (by decide)) I9 (by assumption) ?_; clear I9; intro _ _ _ _ _)
      | (with_reducible refine sstyle_spec (Cx.less (by assumption) (by decide)) I9 (SynAt.mono (by assumption) le_up) ?_; clear I9; intro _ _ _ _ _)
      | (with_reducible refine pair_style_spec (Cx.less (by assumption) (by decide)) I9 (by assumption) (by assumption) ?_; clear I9; intro _ _ _ _ _)
      | (with_reducible refine pair_style_spec (Cx.less (by assumption) (by decide)) I9 (SynAt.mono (by assumption) le_up) (SynAt.mono (by assumption) le_up) ?_; clear I9; intro _ _ _ _ _)
      | (with_reducible refine mark_make_spec (Cx.less (by assumption) (by decide)) I9 ?_; clear I9; intro _ _ _ _ _))
    | ((with_reducible show wpAny _ _ _ _ _ _); walk1)
    | ((with_reducible show ite _ _ _); walk_at "ites")
    | ((with_reducible show And _ _); walk1)
    | (with_reducible refine Ent.next (by assumption) ?_)
    | (with_reducible refine Ent.ret (by assumption) ?_)
    | (with_reducible refine EntV.use (by assumption) ?_)
    | (with_reducible refine Ent.brk (by assumption) ?_)
    | (with_reducible refine Ent.cont (by assumption) ?_))
  all_goals first
    | exact ⟨_, [], [], (by assumption), fun I9 => ret1 _ (by subst_vars; simp only [Ct.bm, *, ↓reduceIte, Bool.false_eq_true, Bool.true_and, Bool.false_and, Bool.and_false, Bool.and_true]) I9⟩
    | ((with_reducible rename MarkAt _ _ _ => M9); exact ⟨_, _, _, (by assumption), fun I9 => ret2 _ _ _ _ (by subst_vars; simp only [Ct.bm, *, ↓reduceIte, Bool.false_eq_true, Bool.true_and, Bool.false_and, Bool.and_false, Bool.and_true, Bool.or_true, Bool.true_or, Bool.or_self, Bool.false_or]) M9 I9.rot⟩)
theorem end_mark_spec {p : Int} {u : Tok} (C : Cx w A env g L 4) (I : Inv z g L m (own ++ rest) s) (V : Vw (inG g) w vw lc vt dr sa c)
    (ret1 : ∀ s', c.em p = none → Inv z g L m (own ++ rest) s' → Q .none s')
    (ret2 : ∀ k a new s', c.em p = some k → MarkAt (inL new) a k → Inv z g L m (own ++ (new ++ rest)) s' → Q (.ref a) s') :
    wpAny (model prg w) A (call (.ref 285) [.ref vw, .ref vt, .int p u]) Q E s := by
  refine' callO (own := []) (rest := own ++ rest) (binds := [(Str.ofString "view", .ref vw), (Str.ofString "table", .ref vt), (Str.ofString "place", .int p u)]) C I ?ho ?hcd ?hb ?hl ?c1 ?c2 ?c3 ?c4 ?_
  walk_at "enter"
  intro A' g' L' s₁ C' I' sb hr
  refine gen_post fun R9 hR9 => ?_
  clear C I
  have V' := V.mono (le_sub sb)
  repeat' (first
    | ((with_reducible show wpAny _ _ (call (Value.ref _) _ _) _ _ _); (with_reducible rename Inv _ _ _ _ _ _ => I9); first
      | ((with_reducible refine' syntax_at_spec (Cx.less (by assumption) (by decide)) I9 (by assumption) (fun _ _ _ => ?_) (fun _ _ _ _ _ => ?_)); (all_goals clear I9))
      | (with_reducible refine has_spec (Cx.less (by assumption) (by decide)) I9 (by assumption) ?_; clear I9; intro _ _ _ _)
      | (with_reducible refine has_spec (Cx.less (by assumption) (by decide)) I9 (SynAt.mono (by assumption) le_up) ?_; clear I9; intro _ _ _ _)
      | (with_reducible refine sstyle_spec (Cx.less (by assumption) (by decide)) I9 (by assumption) ?_; clear I9; intro _ _ _ _ _)
      | (with_reducible refine sstyle_spec (Cx.less (by assumption) (by decide)) I9 (SynAt.mono (by assumption) le_up) ?_; clear I9; intro _ _ _ _ _)
      | (with_reducible refine pair_style_spec (Cx.less (by assumption) (by decide)) I9 (by assumption) (by assumption) ?_; clear I9; intro _ _ _ _ _)
      | (with_reducible refine pair_style_spec (Cx.less (by assumption) (by decide)) I9 (SynAt.mono (by assumption) le_up) (SynAt.mono (by assumption) le_up) ?_; clear I9; intro _ _ _ _ _)
      | (with_reducible refine mark_make_spec (Cx.less (by assumption) (by decide)) I9 ?_; clear I9; intro _ _ _ _ _))
    | ((with_reducible show wpAny _ _ _ _ _ _); walk1)
    | ((with_reducible show ite _ _ _); walk_at "ites")
    | ((with_reducible show And _ _); walk1)
    | (with_reducible refine Ent.next (by assumption) ?_)
    | (with_reducible refine Ent.ret (by assumption) ?_)
    | (with_reducible refine EntV.use (by assumption) ?_)
    | (with_reducible refine Ent.brk (by assumption) ?_)
    | (with_reducible refine Ent.cont (by assumption) ?_))
  all_goals first
    | exact ⟨_, [], [], (by assumption), fun I9 => ret1 _ (by subst_vars; simp only [Ct.em, *, ↓reduceIte, Bool.false_eq_true, Bool.true_and, Bool.false_and, Bool.and_false, Bool.and_true]) I9⟩
    | ((with_reducible rename MarkAt _ _ _ => M9); exact ⟨_, _, _, (by assumption), fun I9 => ret2 _ _ _ _ (by subst_vars; simp only [Ct.em, *, ↓reduceIte, Bool.false_eq_true, Bool.true_and, Bool.false_and, Bool.and_false, Bool.and_true, Bool.or_true, Bool.true_or, Bool.or_self, Bool.false_or]) M9 I9.rot⟩)
theorem begin_mark_known {p : Int} {u : Tok} {k : Mk} (C : Cx w A env g L 4) (I : Inv z g L m (own ++ rest) s) (V : Vw (inG g) w vw lc vt dr sa c) (hk : c.bm p = some k)
    (ret : ∀ a new s', MarkAt (inL new) a k → Inv z g L m (own ++ (new ++ rest)) s' → Q (.ref a) s') :
    wpAny (model prg w) A (call (.ref 278) [.ref vw, .ref vt, .int p u]) Q E s :=
  begin_mark_spec C I V (fun s' e _ => by rw [hk] at e; cases e) (fun k' a new s' e M J => by rw [hk] at e; cases e; exact ret a new s' M J)
theorem end_mark_known {p : Int} {u : Tok} {k : Mk} (C : Cx w A env g L 4) (I : Inv z g L m (own ++ rest) s) (V : Vw (inG g) w vw lc vt dr sa c) (hk : c.em p = some k)
    (ret : ∀ a new s', MarkAt (inL new) a k → Inv z g L m (own ++ (new ++ rest)) s' → Q (.ref a) s') :
    wpAny (model prg w) A (call (.ref 285) [.ref vw, .ref vt, .int p u]) Q E s :=
  end_mark_spec C I V (fun s' e _ => by rw [hk] at e; cases e) (fun k' a new s' e M J => by rw [hk] at e; cases e; exact ret a new s' M J)
theorem syntax_at_known {p : Int} {u : Tok} (C : Cx w A env g L 3) (I : Inv z g L m rest s) (V : Vw (inG g) w vw lc vt dr sa c) (h0 : 0 ≤ c.cod p)
    (ret : ∀ s', SynAt (inG g) (sa (c.cod p)) (c.tb (c.cod p)) → Inv z g L m rest s' → Q (.ref (sa (c.cod p))) s') :
    wpAny (model prg w) A (call (.ref 264) [.ref vw, .ref vt, .int p u]) Q E s :=
  syntax_at_spec C I V (fun s' e _ => by unfold Ct.sy at e; rw [if_neg (by omega)] at e; cases e) (fun s' _ _ y J => ret s' y J)
theorem fits_none_spec {sty : Str} {u : Tok} {ne fe : Bool} (C : Cx w A env g L 1) (I : Inv z g L m (rest) s) 
    (ret : ∀ s', Inv z g L m rest s' → Q (.bool false) s') :
    wpAny (model prg w) A (call (.ref 292) [.none, .str sty u, .bool ne, .bool fe]) Q E s := by
  refine' callO (own := []) (binds := [(Str.ofString "mark", .none), (Str.ofString "style", .str sty u), (Str.ofString "nests", .bool ne), (Str.ofString "is_fence", .bool fe)]) C I ?ho ?hcd ?hb ?hl ?c1 ?c2 ?c3 ?c4 ?_
  walk_at "enter"
  intro A' g' L' s₁ C' I' sb hr
  refine gen_post fun R9 hR9 => ?_
  clear C I
  repeat' (first
    | ((with_reducible show wpAny _ _ _ _ _ _); walk1)
    | ((with_reducible show ite _ _ _); walk_at "ites")
    | ((with_reducible show And _ _); walk1)
    | (with_reducible refine Ent.next (by assumption) ?_)
    | (with_reducible refine Ent.ret (by assumption) ?_)
    | (with_reducible refine EntV.use (by assumption) ?_)
    | (with_reducible refine Ent.brk (by assumption) ?_)
    | (with_reducible refine Ent.cont (by assumption) ?_))
  all_goals exact ⟨_, [], [], (by assumption), fun I9 => ret _ I9⟩
theorem fits_some_spec {a : Addr} {k : Mk} {sty : Str} {u : Tok} {ne fe : Bool} (C : Cx w A env g L 1) (I : Inv z g L m (rest) s) (V : MarkAt (inGR g rest) a k)
    (ret : ∀ s' b, fitsF (some k) sty ne fe = b → Inv z g L m rest s' → Q (.bool b) s') :
    wpAny (model prg w) A (call (.ref 292) [.ref a, .str sty u, .bool ne, .bool fe]) Q E s := by
  refine' callO (own := []) (binds := [(Str.ofString "mark", .ref a), (Str.ofString "style", .str sty u), (Str.ofString "nests", .bool ne), (Str.ofString "is_fence", .bool fe)]) C I ?ho ?hcd ?hb ?hl ?c1 ?c2 ?c3 ?c4 ?_
  walk_at "enter"
  intro A' g' L' s₁ C' I' sb hr
  refine gen_post fun R9 hR9 => ?_
  clear C I
  have V' := V.mono (le_down sb hr)
  repeat' (first
    | ((with_reducible show wpAny _ _ _ _ _ _); walk1)
    | ((with_reducible show ite _ _ _); walk_at "ites")
    | ((with_reducible show And _ _); walk1)
    | (with_reducible refine Ent.next (by assumption) ?_)
    | (with_reducible refine Ent.ret (by assumption) ?_)
    | (with_reducible refine EntV.use (by assumption) ?_)
    | (with_reducible refine Ent.brk (by assumption) ?_)
    | (with_reducible refine Ent.cont (by assumption) ?_))
  all_goals exact ⟨_, [], [], (by assumption), fun I9 => ret _ _ (by unfold fitsF; subst_vars; simp only [*, ↓reduceIte, Bool.false_eq_true, Bool.true_and, Bool.false_and, Bool.false_or, Bool.true_or, ite_self]) I9⟩
end
end
/-! part M4a -/
section
set_option hygiene true
theorem fill_M4a (w : World) : hdKp w.params = hdKp w.params ∧ PySem.Challenge.rw_np0078_01 = PySem.Challenge.rw_np0078_01 := by
  k_fill
  exact ⟨rfl, rfl⟩
end
section
set_option hygiene true
section
variable {z : Shared} {w : World} {A : Around} {env : Env} {g : Heap} {L : Addr} {n : Nat} {m : Str → Option Value} {own rest : Led} {s : Shared} {E : Value → Shared → Prop} {x vw vt lo lc dr : Addr} {sa : Int → Addr} {c : Ct} {st : St} {Q : Value → Shared → Prop}
theorem step_in_comment_spec {limit : Int} {u : Tok} (C : Cx w A env g L 5) (I : Inv z g L m (own ++ rest) s) (W : Wk own x vw vt lo st) (V : Vw (inG g) w vw lc vt dr sa c)
    (ret : ∀ own' s', Wk own' x vw vt lo (st.inComment c limit) → Inv z g L m (own' ++ rest) s' → Q .none s') :
    wpAny (model prg w) A (call (.ref 390) [.ref x, .int limit u]) Q E s := by
  refine' callO (binds := [(Str.ofString "self", .ref x), (Str.ofString "limit", .int limit u)]) C I ?ho ?hcd ?hb ?hl ?c1 ?c2 ?c3 ?c4 ?_
  walk_at "enter"
  intro A' g' L' s₁ C' I' sb hr
  refine gen_post fun R9 hR9 => ?_
  clear C I
  have V' := V.mono (le_sub sb)
  have htbl := V'.tbl
  have hrow := V'.row
  repeat' (first
    | ((with_reducible show wpAny _ _ (call (Value.ref _) _ _) _ _ _); (with_reducible rename Inv _ _ _ _ _ _ => I9); first
      | ((with_reducible refine' end_mark_known (Cx.less (by assumption) (by decide)) I9 (by assumption) ?hk ?_); (case hk => assumption); clear I9; intro _ _ _ _ _)
      | ((with_reducible refine' end_mark_spec (Cx.less (by assumption) (by decide)) I9 (by assumption) (fun _ _ _ => ?_) (fun _ _ _ _ _ _ _ => ?_)); (all_goals clear I9))
      | ((with_reducible refine' begin_mark_known (Cx.less (by assumption) (by decide)) I9 (by assumption) ?hk ?_); (case hk => assumption); clear I9; intro _ _ _ _ _)
      | ((with_reducible refine' begin_mark_spec (Cx.less (by assumption) (by decide)) I9 (by assumption) (fun _ _ _ => ?_) (fun _ _ _ _ _ _ _ => ?_)); (all_goals clear I9))
      | (with_reducible refine fits_none_spec (Cx.less (by assumption) (by decide)) I9 ?_; clear I9; intro _ _)
      | (with_reducible refine fits_some_spec (Cx.less (by assumption) (by decide)) I9 (MarkAt.mono (by assumption) le_new2) ?_; clear I9; intro _ _ _ _)
      | ((with_reducible rename Wk _ _ _ _ _ _ => W9); with_reducible refine' take_spec (Cx.less (by assumption) (by decide)) I9 W9 (MarkAt.mono (by assumption) le_new) ?_; clear I9 W9; intro _ _ _ _ _ _)
      | ((with_reducible rename Wk _ _ _ _ _ _ => W9); with_reducible refine' leave_comment_spec (Cx.less (by assumption) (by decide)) I9 W9 ?_; clear I9 W9; intro _ _ _ _))
    | ((with_reducible show wpAny _ _ _ _ _ _); walk1)
    | ((with_reducible show ite _ _ _); walk_at "ites")
    | ((with_reducible show And _ _); walk1)
    | (with_reducible refine Ent.next (by assumption) ?_)
    | (with_reducible refine Ent.ret (by assumption) ?_)
    | (with_reducible refine EntV.use (by assumption) ?_)
    | (with_reducible refine Ent.brk (by assumption) ?_)
    | (with_reducible refine Ent.cont (by assumption) ?_))
  all_goals refine ⟨_, _, _, (by assumption), fun I9 => ret _ _ (Wk.cast (by assumption) ?_) I9⟩
  all_goals (subst_vars; first
    | (simp only [St.inComment, fitsF_none, take_comment, St.s_place, St.s_opens, St.s_below, St.s_least, St.s_whole, St.s_word, St.s_string, St.s_comment, St.s_style, St.s_nests, St.s_start, St.s_quoted, St.s_half, take_opens, take_below, take_least, take_whole, take_word, take_string, take_comment, take_style, take_nests, take_start, take_quoted, endWord_place, endWord_opens, endWord_below, endWord_least, endWord_string, endWord_comment, endWord_style, endWord_nests, endWord_start, endWord_quoted, endWord_half, *, ↓reduceIte, Bool.false_eq_true, Bool.true_and, Bool.false_and, Bool.and_self, Bool.and_true, Bool.and_false, Bool.true_or, Bool.false_or, Bool.or_self]; done)
    | (simp only [St.inComment, fitsF_none, take_comment, St.s_place, St.s_opens, St.s_below, St.s_least, St.s_whole, St.s_word, St.s_string, St.s_comment, St.s_style, St.s_nests, St.s_start, St.s_quoted, St.s_half, take_opens, take_below, take_least, take_whole, take_word, take_string, take_comment, take_style, take_nests, take_start, take_quoted, endWord_place, endWord_opens, endWord_below, endWord_least, endWord_string, endWord_comment, endWord_style, endWord_nests, endWord_start, endWord_quoted, endWord_half, *, ↓reduceIte, Bool.false_eq_true, Bool.true_and, Bool.false_and, Bool.and_self, Bool.and_true, Bool.and_false, Bool.true_or, Bool.false_or, Bool.or_self]; rfl)
    | (cases st; dsimp only at *; subst_vars; simp only [St.inComment, fitsF_none, take_comment, St.s_place, St.s_opens, St.s_below, St.s_least, St.s_whole, St.s_word, St.s_string, St.s_comment, St.s_style, St.s_nests, St.s_start, St.s_quoted, St.s_half, take_opens, take_below, take_least, take_whole, take_word, take_string, take_comment, take_style, take_nests, take_start, take_quoted, endWord_place, endWord_opens, endWord_below, endWord_least, endWord_string, endWord_comment, endWord_style, endWord_nests, endWord_start, endWord_quoted, endWord_half, *, ↓reduceIte, Bool.false_eq_true, Bool.true_and, Bool.false_and, Bool.and_self, Bool.and_true, Bool.and_false, Bool.true_or, Bool.false_or, Bool.or_self]; done))
end
end
/-! part M4b -/
section
set_option hygiene true
theorem fill_M4b (w : World) : hdKp w.params = hdKp w.params ∧ PySem.Challenge.rw_np0078_01 = PySem.Challenge.rw_np0078_01 := by
  k_fill
  exact ⟨rfl, rfl⟩
end
section
set_option hygiene true
section
variable {z : Shared} {w : World} {A : Around} {env : Env} {g : Heap} {L : Addr} {n : Nat} {m : Str → Option Value} {own rest : Led} {s : Shared} {E : Value → Shared → Prop} {x vw vt lo lc dr : Addr} {sa : Int → Addr} {c : Ct} {st : St} {Q : Value → Shared → Prop}
theorem step_in_string_spec  (C : Cx w A env g L 4) (I : Inv z g L m (own ++ rest) s) (W : Wk own x vw vt lo st) (V : Vw (inG g) w vw lc vt dr sa c) (hp : 0 ≤ c.cod st.place) (hs : st.string.isSome = true)
    (ret : ∀ own' s', Wk own' x vw vt lo (st.inString c) → Inv z g L m (own' ++ rest) s' → Q .none s') :
    wpAny (model prg w) A (call (.ref 397) [.ref x]) Q E s := by
  refine' callO (binds := [(Str.ofString "self", .ref x)]) C I ?ho ?hcd ?hb ?hl ?c1 ?c2 ?c3 ?c4 ?_
  walk_at "enter"
  intro A' g' L' s₁ C' I' sb hr
  refine gen_post fun R9 hR9 => ?_
  clear C I
  have V' := V.mono (le_sub sb)
  have htbl := V'.tbl
  have hrow := V'.row
  have hcod := cod_in V.ok (p := st.place)
  have hsyn := V'.tbl.syn (c := c.cod st.place) (by omega) (by omega)
  repeat' (first
    | ((with_reducible show wpAny _ _ (call (Value.ref _) _ _) _ _ _); (with_reducible rename Inv _ _ _ _ _ _ => I9); first
      | ((with_reducible refine code_at_spec (Cx.less (by assumption) (by decide)) I9 (by assumption) ?_); clear I9; intro _ _ _ hv9 _; subst hv9)
      | ((with_reducible refine code_at_spec (Cx.less (by assumption) (by decide)) I9 (Vw.mono (by assumption) le_up) ?_); clear I9; intro _ _ _ hv9 _; subst hv9)
      | ((with_reducible refine' tat_spec (Cx.less (by assumption) (by decide)) I9 (by assumption) ?h0 ?h1 ?_); (case h0 => omega); (case h1 => omega); clear I9; intro _ _)
      | ((with_reducible refine' tat_spec (Cx.less (by assumption) (by decide)) I9 (Vw.mono (by assumption) le_up) ?h0 ?h1 ?_); (case h0 => omega); (case h1 => omega); clear I9; intro _ _)
      | (with_reducible refine is_escape_spec (Cx.less (by assumption) (by decide)) I9 (by assumption) ?_; clear I9; intro _ _ _ _)
      | (with_reducible refine is_escape_spec (Cx.less (by assumption) (by decide)) I9 (SynAt.mono (by assumption) le_up) ?_; clear I9; intro _ _ _ _)
      | ((with_reducible rename Wk _ _ _ _ _ _ => W9); with_reducible refine' end_string_spec (Cx.less (by assumption) (by decide)) I9 W9 ?_; clear I9 W9; intro _ _ _ _))
    | ((with_reducible show wpAny _ _ _ _ _ _); walk1)
    | ((with_reducible show ite _ _ _); walk_at "ites")
    | ((with_reducible show And _ _); walk1)
    | (with_reducible refine Ent.next (by assumption) ?_)
    | (with_reducible refine Ent.ret (by assumption) ?_)
    | (with_reducible refine EntV.use (by assumption) ?_)
    | (with_reducible refine Ent.brk (by assumption) ?_)
    | (with_reducible refine Ent.cont (by assumption) ?_))
  all_goals refine ⟨_, _, _, (by assumption), fun I9 => ret _ _ (Wk.cast (by assumption) ?_) I9⟩
  all_goals (subst_vars; first
    | (simp only [St.inString, St.s_place, St.s_opens, St.s_below, St.s_least, St.s_whole, St.s_word, St.s_string, St.s_comment, St.s_style, St.s_nests, St.s_start, St.s_quoted, St.s_half, take_opens, take_below, take_least, take_whole, take_word, take_string, take_comment, take_style, take_nests, take_start, take_quoted, endWord_place, endWord_opens, endWord_below, endWord_least, endWord_string, endWord_comment, endWord_style, endWord_nests, endWord_start, endWord_quoted, endWord_half, *, ↓reduceIte, Bool.false_eq_true, Bool.true_and, Bool.false_and, Bool.and_self, Bool.and_true, Bool.and_false, Bool.true_or, Bool.false_or, Bool.or_self]; done)
    | (simp only [St.inString, St.s_place, St.s_opens, St.s_below, St.s_least, St.s_whole, St.s_word, St.s_string, St.s_comment, St.s_style, St.s_nests, St.s_start, St.s_quoted, St.s_half, take_opens, take_below, take_least, take_whole, take_word, take_string, take_comment, take_style, take_nests, take_start, take_quoted, endWord_place, endWord_opens, endWord_below, endWord_least, endWord_string, endWord_comment, endWord_style, endWord_nests, endWord_start, endWord_quoted, endWord_half, *, ↓reduceIte, Bool.false_eq_true, Bool.true_and, Bool.false_and, Bool.and_self, Bool.and_true, Bool.and_false, Bool.true_or, Bool.false_or, Bool.or_self]; rfl)
    | (cases st; dsimp only at *; subst_vars; simp only [St.inString, St.s_place, St.s_opens, St.s_below, St.s_least, St.s_whole, St.s_word, St.s_string, St.s_comment, St.s_style, St.s_nests, St.s_start, St.s_quoted, St.s_half, take_opens, take_below, take_least, take_whole, take_word, take_string, take_comment, take_style, take_nests, take_start, take_quoted, endWord_place, endWord_opens, endWord_below, endWord_least, endWord_string, endWord_comment, endWord_style, endWord_nests, endWord_start, endWord_quoted, endWord_half, *, ↓reduceIte, Bool.false_eq_true, Bool.true_and, Bool.false_and, Bool.and_self, Bool.and_true, Bool.and_false, Bool.true_or, Bool.false_or, Bool.or_self]; done))
end
end
/-! part M4c -/
section
set_option hygiene true
theorem fill_M4c (w : World) : hdKp w.params = hdKp w.params ∧ PySem.Challenge.rw_np0078_01 = PySem.Challenge.rw_np0078_01 := by
  k_fill
  exact ⟨rfl, rfl⟩
end
section
set_option hygiene true
section
variable {z : Shared} {w : World} {A : Around} {env : Env} {g : Heap} {L : Addr} {n : Nat} {m : Str → Option Value} {own rest : Led} {s : Shared} {E : Value → Shared → Prop} {x vw vt lo lc dr : Addr} {sa : Int → Addr} {c : Ct} {st : St} {Q : Value → Shared → Prop}
theorem finish_half_spec  (C : Cx w A env g L 5) (I : Inv z g L m (own ++ rest) s) (W : Wk own x vw vt lo st) (V : Vw (inG g) w vw lc vt dr sa c) (hb : st.half = Str.ofString "begin" → ∃ k, c.bm (st.place - 1) = some k)
    (ret : ∀ own' s', Wk own' x vw vt lo (st.finishHalf c) → Inv z g L m (own' ++ rest) s' → Q .none s') :
    wpAny (model prg w) A (call (.ref 404) [.ref x]) Q E s := by
  refine' callO (binds := [(Str.ofString "self", .ref x)]) C I ?ho ?hcd ?hb ?hl ?c1 ?c2 ?c3 ?c4 ?_
  walk_at "enter"
  intro A' g' L' s₁ C' I' sb hr
  refine gen_post fun R9 hR9 => ?_
  clear C I
  have V' := V.mono (le_sub sb)
  have htbl := V'.tbl
  have hrow := V'.row
  by_cases hh : (st.half == Str.ofString "begin") = true
  · obtain ⟨k9, hk9⟩ := hb (by simpa using hh)
    repeat' (first
      | ((with_reducible show wpAny _ _ (call (Value.ref _) _ _) _ _ _); (with_reducible rename Inv _ _ _ _ _ _ => I9); first
        | ((with_reducible refine' begin_mark_known (Cx.less (by assumption) (by decide)) I9 (by assumption) ?hk ?_); (case hk => assumption); clear I9; intro _ _ _ _ _)
        | ((with_reducible refine' begin_mark_spec (Cx.less (by assumption) (by decide)) I9 (by assumption) (fun _ _ _ => ?_) (fun _ _ _ _ _ _ _ => ?_)); (all_goals clear I9))
        | ((with_reducible rename Wk _ _ _ _ _ _ => W9); with_reducible refine' begin_comment_spec (Cx.less (by assumption) (by decide)) I9 W9 (MarkAt.mono (by assumption) le_new) ?_; clear I9 W9; intro _ _ _ _)
        | ((with_reducible rename Wk _ _ _ _ _ _ => W9); with_reducible refine' leave_comment_spec (Cx.less (by assumption) (by decide)) I9 W9 ?_; clear I9 W9; intro _ _ _ _))
      | ((with_reducible show wpAny _ _ _ _ _ _); walk1)
      | ((with_reducible show ite _ _ _); walk_at "ites")
      | ((with_reducible show And _ _); walk1)
      | (with_reducible refine Ent.next (by assumption) ?_)
      | (with_reducible refine Ent.ret (by assumption) ?_)
      | (with_reducible refine EntV.use (by assumption) ?_)
      | (with_reducible refine Ent.brk (by assumption) ?_)
      | (with_reducible refine Ent.cont (by assumption) ?_))
    all_goals refine ⟨_, _, _, (by assumption), fun I9 => ret _ _ (Wk.cast (by assumption) ?_) I9⟩
    all_goals (subst_vars; first
    | (simp only [St.finishHalf, St.s_place, St.s_opens, St.s_below, St.s_least, St.s_whole, St.s_word, St.s_string, St.s_comment, St.s_style, St.s_nests, St.s_start, St.s_quoted, St.s_half, take_opens, take_below, take_least, take_whole, take_word, take_string, take_comment, take_style, take_nests, take_start, take_quoted, endWord_place, endWord_opens, endWord_below, endWord_least, endWord_string, endWord_comment, endWord_style, endWord_nests, endWord_start, endWord_quoted, endWord_half, *, ↓reduceIte, Bool.false_eq_true, Bool.true_and, Bool.false_and, Bool.and_self, Bool.and_true, Bool.and_false, Bool.true_or, Bool.false_or, Bool.or_self]; done)
    | (simp only [St.finishHalf, St.s_place, St.s_opens, St.s_below, St.s_least, St.s_whole, St.s_word, St.s_string, St.s_comment, St.s_style, St.s_nests, St.s_start, St.s_quoted, St.s_half, take_opens, take_below, take_least, take_whole, take_word, take_string, take_comment, take_style, take_nests, take_start, take_quoted, endWord_place, endWord_opens, endWord_below, endWord_least, endWord_string, endWord_comment, endWord_style, endWord_nests, endWord_start, endWord_quoted, endWord_half, *, ↓reduceIte, Bool.false_eq_true, Bool.true_and, Bool.false_and, Bool.and_self, Bool.and_true, Bool.and_false, Bool.true_or, Bool.false_or, Bool.or_self]; rfl)
    | (cases st; dsimp only at *; subst_vars; simp only [St.finishHalf, St.s_place, St.s_opens, St.s_below, St.s_least, St.s_whole, St.s_word, St.s_string, St.s_comment, St.s_style, St.s_nests, St.s_start, St.s_quoted, St.s_half, take_opens, take_below, take_least, take_whole, take_word, take_string, take_comment, take_style, take_nests, take_start, take_quoted, endWord_place, endWord_opens, endWord_below, endWord_least, endWord_string, endWord_comment, endWord_style, endWord_nests, endWord_start, endWord_quoted, endWord_half, *, ↓reduceIte, Bool.false_eq_true, Bool.true_and, Bool.false_and, Bool.and_self, Bool.and_true, Bool.and_false, Bool.true_or, Bool.false_or, Bool.or_self]; done))
  · have hh := Bool.eq_false_iff.mpr hh
    repeat' (first
      | ((with_reducible show wpAny _ _ (call (Value.ref _) _ _) _ _ _); (with_reducible rename Inv _ _ _ _ _ _ => I9); first
        | ((with_reducible refine' begin_mark_known (Cx.less (by assumption) (by decide)) I9 (by assumption) ?hk ?_); (case hk => assumption); clear I9; intro _ _ _ _ _)
        | ((with_reducible refine' begin_mark_spec (Cx.less (by assumption) (by decide)) I9 (by assumption) (fun _ _ _ => ?_) (fun _ _ _ _ _ _ _ => ?_)); (all_goals clear I9))
        | ((with_reducible rename Wk _ _ _ _ _ _ => W9); with_reducible refine' begin_comment_spec (Cx.less (by assumption) (by decide)) I9 W9 (MarkAt.mono (by assumption) le_new) ?_; clear I9 W9; intro _ _ _ _)
        | ((with_reducible rename Wk _ _ _ _ _ _ => W9); with_reducible refine' leave_comment_spec (Cx.less (by assumption) (by decide)) I9 W9 ?_; clear I9 W9; intro _ _ _ _))
      | ((with_reducible show wpAny _ _ _ _ _ _); walk1)
      | ((with_reducible show ite _ _ _); walk_at "ites")
      | ((with_reducible show And _ _); walk1)
      | (with_reducible refine Ent.next (by assumption) ?_)
      | (with_reducible refine Ent.ret (by assumption) ?_)
      | (with_reducible refine EntV.use (by assumption) ?_)
      | (with_reducible refine Ent.brk (by assumption) ?_)
      | (with_reducible refine Ent.cont (by assumption) ?_))
    all_goals refine ⟨_, _, _, (by assumption), fun I9 => ret _ _ (Wk.cast (by assumption) ?_) I9⟩
    all_goals (subst_vars; first
    | (simp only [St.finishHalf, St.s_place, St.s_opens, St.s_below, St.s_least, St.s_whole, St.s_word, St.s_string, St.s_comment, St.s_style, St.s_nests, St.s_start, St.s_quoted, St.s_half, take_opens, take_below, take_least, take_whole, take_word, take_string, take_comment, take_style, take_nests, take_start, take_quoted, endWord_place, endWord_opens, endWord_below, endWord_least, endWord_string, endWord_comment, endWord_style, endWord_nests, endWord_start, endWord_quoted, endWord_half, *, ↓reduceIte, Bool.false_eq_true, Bool.true_and, Bool.false_and, Bool.and_self, Bool.and_true, Bool.and_false, Bool.true_or, Bool.false_or, Bool.or_self]; done)
    | (simp only [St.finishHalf, St.s_place, St.s_opens, St.s_below, St.s_least, St.s_whole, St.s_word, St.s_string, St.s_comment, St.s_style, St.s_nests, St.s_start, St.s_quoted, St.s_half, take_opens, take_below, take_least, take_whole, take_word, take_string, take_comment, take_style, take_nests, take_start, take_quoted, endWord_place, endWord_opens, endWord_below, endWord_least, endWord_string, endWord_comment, endWord_style, endWord_nests, endWord_start, endWord_quoted, endWord_half, *, ↓reduceIte, Bool.false_eq_true, Bool.true_and, Bool.false_and, Bool.and_self, Bool.and_true, Bool.and_false, Bool.true_or, Bool.false_or, Bool.or_self]; rfl)
    | (cases st; dsimp only at *; subst_vars; simp only [St.finishHalf, St.s_place, St.s_opens, St.s_below, St.s_least, St.s_whole, St.s_word, St.s_string, St.s_comment, St.s_style, St.s_nests, St.s_start, St.s_quoted, St.s_half, take_opens, take_below, take_least, take_whole, take_word, take_string, take_comment, take_style, take_nests, take_start, take_quoted, endWord_place, endWord_opens, endWord_below, endWord_least, endWord_string, endWord_comment, endWord_style, endWord_nests, endWord_start, endWord_quoted, endWord_half, *, ↓reduceIte, Bool.false_eq_true, Bool.true_and, Bool.false_and, Bool.and_self, Bool.and_true, Bool.and_false, Bool.true_or, Bool.false_or, Bool.or_self]; done))
end
end
/-! part M4d -/
section
set_option hygiene true
theorem fill_M4d (w : World) : hdKp w.params = hdKp w.params ∧ PySem.Challenge.rw_np0078_01 = PySem.Challenge.rw_np0078_01 := by
  k_fill
  exact ⟨rfl, rfl⟩
end
section
set_option hygiene true
section
variable {z : Shared} {w : World} {A : Around} {env : Env} {g : Heap} {L : Addr} {n : Nat} {m : Str → Option Value} {own rest : Led} {s : Shared} {E : Value → Shared → Prop} {x vw vt lo lc dr : Addr} {sa : Int → Addr} {c : Ct} {st : St} {Q : Value → Shared → Prop}
theorem step_by_kind_spec {a : Addr} {y : Sy} (C : Cx w A env g L 3) (I : Inv z g L m (own ++ rest) s) (W : Wk own x vw vt lo st) (V : Vw (inG g) w vw lc vt dr sa c) (V2 : SynAt (inGR g rest) a y) (hz : st.opens.length ≤ 1000)
    (ret : ∀ own' s', Wk own' x vw vt lo (st.byKind c y) → Inv z g L m (own' ++ rest) s' → Q .none s') :
    wpAny (model prg w) A (call (.ref 418) [.ref x, .ref a]) Q E s := by
  refine' callO (binds := [(Str.ofString "self", .ref x), (Str.ofString "syntax", .ref a)]) C I ?ho ?hcd ?hb ?hl ?c1 ?c2 ?c3 ?c4 ?_
  walk_at "enter"
  intro A' g' L' s₁ C' I' sb hr
  refine gen_post fun R9 hR9 => ?_
  clear C I
  have V' := V.mono (le_sub sb)
  have htbl := V'.tbl
  have hrow := V'.row
  have V2' := V2.mono (le_down sb hr)
  repeat' (first
    | ((with_reducible show wpAny _ _ (call (Value.ref _) _ _) _ _ _); (with_reducible rename Inv _ _ _ _ _ _ => I9); first
      | (with_reducible refine is_escape_spec (Cx.less (by assumption) (by decide)) I9 (by assumption) ?_; clear I9; intro _ _ _ _)
      | (with_reducible refine is_escape_spec (Cx.less (by assumption) (by decide)) I9 (SynAt.mono (by assumption) le_up) ?_; clear I9; intro _ _ _ _)
      | (with_reducible refine is_word_part_spec (Cx.less (by assumption) (by decide)) I9 (by assumption) ?_; clear I9; intro _ _ _ _)
      | (with_reducible refine is_word_part_spec (Cx.less (by assumption) (by decide)) I9 (SynAt.mono (by assumption) le_up) ?_; clear I9; intro _ _ _ _)
      | ((with_reducible rename Wk _ _ _ _ _ _ => W9); with_reducible refine' begin_word_spec (Cx.less (by assumption) (by decide)) I9 W9 ?_; clear I9 W9; intro _ _ _ _)
      | ((with_reducible rename Wk _ _ _ _ _ _ => W9); with_reducible refine' open_at_spec (Cx.less (by assumption) (by decide)) I9 W9 ?hz ?_; (case hz => first | assumption | omega | (simp only [St.s_place, St.s_opens, St.s_below, St.s_least, St.s_whole, St.s_word, St.s_string, St.s_comment, St.s_style, St.s_nests, St.s_start, St.s_quoted, St.s_half, List.length_dropLast, List.length_append, List.length_cons, List.length_nil, endWord_place, endWord_opens, endWord_below, endWord_least, endWord_string, endWord_comment, endWord_style, endWord_nests, endWord_start, endWord_quoted, endWord_half]; omega)); clear I9 W9; intro _ _ _ _)
      | ((with_reducible rename Wk _ _ _ _ _ _ => W9); with_reducible refine' close_spec (Cx.less (by assumption) (by decide)) I9 W9 ?hz ?_; (case hz => first | assumption | omega | (simp only [St.s_place, St.s_opens, St.s_below, St.s_least, St.s_whole, St.s_word, St.s_string, St.s_comment, St.s_style, St.s_nests, St.s_start, St.s_quoted, St.s_half, List.length_dropLast, List.length_append, List.length_cons, List.length_nil, endWord_place, endWord_opens, endWord_below, endWord_least, endWord_string, endWord_comment, endWord_style, endWord_nests, endWord_start, endWord_quoted, endWord_half]; omega)); clear I9 W9; intro _ _ _ _)
      | ((with_reducible refine code_at_spec (Cx.less (by assumption) (by decide)) I9 (by assumption) ?_); clear I9; intro _ _ _ hv9 _; subst hv9)
      | ((with_reducible refine code_at_spec (Cx.less (by assumption) (by decide)) I9 (Vw.mono (by assumption) le_up) ?_); clear I9; intro _ _ _ hv9 _; subst hv9)
      | ((with_reducible rename Wk _ _ _ _ _ _ => W9); with_reducible refine' begin_string_spec (Cx.less (by assumption) (by decide)) I9 W9 ?_; clear I9 W9; intro _ _ _ _)
      | ((with_reducible rename Wk _ _ _ _ _ _ => W9); with_reducible refine' end_word_spec (Cx.less (by assumption) (by decide)) I9 W9 ?_; clear I9 W9; intro _ _ _ _))
    | ((with_reducible show wpAny _ _ _ _ _ _); walk1)
    | ((with_reducible show ite _ _ _); walk_at "ites")
    | ((with_reducible show And _ _); walk1)
    | (with_reducible refine Ent.next (by assumption) ?_)
    | (with_reducible refine Ent.ret (by assumption) ?_)
    | (with_reducible refine EntV.use (by assumption) ?_)
    | (with_reducible refine Ent.brk (by assumption) ?_)
    | (with_reducible refine Ent.cont (by assumption) ?_))
  all_goals refine ⟨_, _, _, (by assumption), fun I9 => ret _ _ (Wk.cast (by assumption) ?_) I9⟩
  all_goals (subst_vars; first
    | (simp only [St.byKind, St.s_place, St.s_opens, St.s_below, St.s_least, St.s_whole, St.s_word, St.s_string, St.s_comment, St.s_style, St.s_nests, St.s_start, St.s_quoted, St.s_half, take_opens, take_below, take_least, take_whole, take_word, take_string, take_comment, take_style, take_nests, take_start, take_quoted, endWord_place, endWord_opens, endWord_below, endWord_least, endWord_string, endWord_comment, endWord_style, endWord_nests, endWord_start, endWord_quoted, endWord_half, *, ↓reduceIte, Bool.false_eq_true, Bool.true_and, Bool.false_and, Bool.and_self, Bool.and_true, Bool.and_false, Bool.true_or, Bool.false_or, Bool.or_self]; done)
    | (simp only [St.byKind, St.s_place, St.s_opens, St.s_below, St.s_least, St.s_whole, St.s_word, St.s_string, St.s_comment, St.s_style, St.s_nests, St.s_start, St.s_quoted, St.s_half, take_opens, take_below, take_least, take_whole, take_word, take_string, take_comment, take_style, take_nests, take_start, take_quoted, endWord_place, endWord_opens, endWord_below, endWord_least, endWord_string, endWord_comment, endWord_style, endWord_nests, endWord_start, endWord_quoted, endWord_half, *, ↓reduceIte, Bool.false_eq_true, Bool.true_and, Bool.false_and, Bool.and_self, Bool.and_true, Bool.and_false, Bool.true_or, Bool.false_or, Bool.or_self]; rfl)
    | (cases st; dsimp only at *; subst_vars; simp only [St.byKind, St.s_place, St.s_opens, St.s_below, St.s_least, St.s_whole, St.s_word, St.s_string, St.s_comment, St.s_style, St.s_nests, St.s_start, St.s_quoted, St.s_half, take_opens, take_below, take_least, take_whole, take_word, take_string, take_comment, take_style, take_nests, take_start, take_quoted, endWord_place, endWord_opens, endWord_below, endWord_least, endWord_string, endWord_comment, endWord_style, endWord_nests, endWord_start, endWord_quoted, endWord_half, *, ↓reduceIte, Bool.false_eq_true, Bool.true_and, Bool.false_and, Bool.and_self, Bool.and_true, Bool.and_false, Bool.true_or, Bool.false_or, Bool.or_self]; done))
end
end
/-! part M5 -/
section
set_option hygiene true
theorem fill_M5 (w : World) : hdKp w.params = hdKp w.params ∧ PySem.Challenge.rw_np0078_01 = PySem.Challenge.rw_np0078_01 := by
  k_fill
  exact ⟨rfl, rfl⟩
end
section
set_option hygiene true
section
variable {z : Shared} {w : World} {A : Around} {env : Env} {g : Heap} {L : Addr} {n : Nat} {m : Str → Option Value} {own rest : Led} {s : Shared} {E : Value → Shared → Prop} {x vw vt lo lc dr : Addr} {sa : Int → Addr} {c : Ct} {st : St} {Q : Value → Shared → Prop}
theorem step_plain_spec {limit : Int} {u : Tok} (C : Cx w A env g L 5) (I : Inv z g L m (own ++ rest) s) (W : Wk own x vw vt lo st) (V : Vw (inG g) w vw lc vt dr sa c) (hp : 0 ≤ c.cod st.place) (hz : st.opens.length ≤ 1000)
    (ret : ∀ own' s', Wk own' x vw vt lo (st.plain c limit) → Inv z g L m (own' ++ rest) s' → Q .none s') :
    wpAny (model prg w) A (call (.ref 411) [.ref x, .int limit u]) Q E s := by
  refine' callO (binds := [(Str.ofString "self", .ref x), (Str.ofString "limit", .int limit u)]) C I ?ho ?hcd ?hb ?hl ?c1 ?c2 ?c3 ?c4 ?_
  walk_at "enter"
  intro A' g' L' s₁ C' I' sb hr
  refine gen_post fun R9 hR9 => ?_
  clear C I
  have V' := V.mono (le_sub sb)
  have htbl := V'.tbl
  have hrow := V'.row
  repeat' (first
    | ((with_reducible show wpAny _ _ (call (Value.ref _) _ _) _ _ _); (with_reducible rename Inv _ _ _ _ _ _ => I9); first
      | ((with_reducible refine' begin_mark_known (Cx.less (by assumption) (by decide)) I9 (by assumption) ?hk ?_); (case hk => assumption); clear I9; intro _ _ _ _ _)
      | ((with_reducible refine' begin_mark_spec (Cx.less (by assumption) (by decide)) I9 (by assumption) (fun _ _ _ => ?_) (fun _ _ _ _ _ _ _ => ?_)); (all_goals clear I9))
      | ((with_reducible rename Wk _ _ _ _ _ _ => W9); with_reducible refine' take_spec (Cx.less (by assumption) (by decide)) I9 W9 (MarkAt.mono (by assumption) le_new) ?_; clear I9 W9; intro _ _ _ _ _ _)
      | ((with_reducible rename Wk _ _ _ _ _ _ => W9); with_reducible refine' begin_comment_spec (Cx.less (by assumption) (by decide)) I9 W9 (MarkAt.mono (by assumption) le_new) ?_; clear I9 W9; intro _ _ _ _)
      | ((with_reducible rename Wk _ _ _ _ _ _ => W9); with_reducible refine' end_word_spec (Cx.less (by assumption) (by decide)) I9 W9 ?_; clear I9 W9; intro _ _ _ _)
      | ((with_reducible refine' syntax_at_known (Cx.less (by assumption) (by decide)) I9 (by assumption) ?h0 ?_); (case h0 => assumption); clear I9; intro _ _ _)
      | (with_reducible refine has_spec (Cx.less (by assumption) (by decide)) I9 (by assumption) ?_; clear I9; intro _ _ _ _)
      | (with_reducible refine has_spec (Cx.less (by assumption) (by decide)) I9 (SynAt.mono (by assumption) le_up) ?_; clear I9; intro _ _ _ _)
      | ((with_reducible rename Wk _ _ _ _ _ _ => W9); with_reducible refine' step_by_kind_spec (Cx.less (by assumption) (by decide)) I9 W9 (by assumption) (by assumption) ?hz ?_; (case hz => first | assumption | omega); clear I9 W9; intro _ _ _ _)
      | ((with_reducible rename Wk _ _ _ _ _ _ => W9); with_reducible refine' step_by_kind_spec (Cx.less (by assumption) (by decide)) I9 W9 (by assumption) (SynAt.mono (by assumption) le_up) ?hz ?_; (case hz => first | assumption | omega); clear I9 W9; intro _ _ _ _))
    | ((with_reducible show wpAny _ _ _ _ _ _); walk1)
    | ((with_reducible show ite _ _ _); walk_at "ites")
    | ((with_reducible show And _ _); walk1)
    | (with_reducible refine Ent.next (by assumption) ?_)
    | (with_reducible refine Ent.ret (by assumption) ?_)
    | (with_reducible refine EntV.use (by assumption) ?_)
    | (with_reducible refine Ent.brk (by assumption) ?_)
    | (with_reducible refine Ent.cont (by assumption) ?_))
  all_goals refine ⟨_, _, _, (by assumption), fun I9 => ret _ _ (Wk.cast (by assumption) ?_) I9⟩
  all_goals (subst_vars; first
    | (simp only [St.plain, St.s_place, St.s_opens, St.s_below, St.s_least, St.s_whole, St.s_word, St.s_string, St.s_comment, St.s_style, St.s_nests, St.s_start, St.s_quoted, St.s_half, take_opens, take_below, take_least, take_whole, take_word, take_string, take_comment, take_style, take_nests, take_start, take_quoted, endWord_place, endWord_opens, endWord_below, endWord_least, endWord_string, endWord_comment, endWord_style, endWord_nests, endWord_start, endWord_quoted, endWord_half, *, ↓reduceIte, Bool.false_eq_true, Bool.true_and, Bool.false_and, Bool.and_self, Bool.and_true, Bool.and_false, Bool.true_or, Bool.false_or, Bool.or_self]; done)
    | (simp only [St.plain, St.s_place, St.s_opens, St.s_below, St.s_least, St.s_whole, St.s_word, St.s_string, St.s_comment, St.s_style, St.s_nests, St.s_start, St.s_quoted, St.s_half, take_opens, take_below, take_least, take_whole, take_word, take_string, take_comment, take_style, take_nests, take_start, take_quoted, endWord_place, endWord_opens, endWord_below, endWord_least, endWord_string, endWord_comment, endWord_style, endWord_nests, endWord_start, endWord_quoted, endWord_half, *, ↓reduceIte, Bool.false_eq_true, Bool.true_and, Bool.false_and, Bool.and_self, Bool.and_true, Bool.and_false, Bool.true_or, Bool.false_or, Bool.or_self]; rfl)
    | (cases st; dsimp only at *; subst_vars; simp only [St.plain, St.s_place, St.s_opens, St.s_below, St.s_least, St.s_whole, St.s_word, St.s_string, St.s_comment, St.s_style, St.s_nests, St.s_start, St.s_quoted, St.s_half, take_opens, take_below, take_least, take_whole, take_word, take_string, take_comment, take_style, take_nests, take_start, take_quoted, endWord_place, endWord_opens, endWord_below, endWord_least, endWord_string, endWord_comment, endWord_style, endWord_nests, endWord_start, endWord_quoted, endWord_half, *, ↓reduceIte, Bool.false_eq_true, Bool.true_and, Bool.false_and, Bool.and_self, Bool.and_true, Bool.and_false, Bool.true_or, Bool.false_or, Bool.or_self]; done))
theorem step_spec {limit : Int} {u : Tok} (C : Cx w A env g L 6) (I : Inv z g L m (own ++ rest) s) (W : Wk own x vw vt lo st) (V : Vw (inG g) w vw lc vt dr sa c) (hp : 0 ≤ c.cod st.place) (hz : st.opens.length ≤ 1000) (hb : st.half = Str.ofString "begin" → ∃ k, c.bm (st.place - 1) = some k)
    (ret : ∀ own' s', Wk own' x vw vt lo (st.step c limit) → Inv z g L m (own' ++ rest) s' → Q .none s') :
    wpAny (model prg w) A (call (.ref 425) [.ref x, .int limit u]) Q E s := by
  refine' callO (binds := [(Str.ofString "self", .ref x), (Str.ofString "limit", .int limit u)]) C I ?ho ?hcd ?hb ?hl ?c1 ?c2 ?c3 ?c4 ?_
  walk_at "enter"
  intro A' g' L' s₁ C' I' sb hr
  refine gen_post fun R9 hR9 => ?_
  clear C I
  have V' := V.mono (le_sub sb)
  have htbl := V'.tbl
  have hrow := V'.row
  repeat' (first
    | ((with_reducible show wpAny _ _ (call (Value.ref _) _ _) _ _ _); (with_reducible rename Inv _ _ _ _ _ _ => I9); first
      | ((with_reducible rename Wk _ _ _ _ _ _ => W9); with_reducible refine' finish_half_spec (Cx.less (by assumption) (by decide)) I9 W9 (by assumption) ?hb ?_; (case hb => assumption); clear I9 W9; intro _ _ _ _)
      | ((with_reducible rename Wk _ _ _ _ _ _ => W9); with_reducible refine' step_in_comment_spec (Cx.less (by assumption) (by decide)) I9 W9 (by assumption) ?_; clear I9 W9; intro _ _ _ _)
      | ((with_reducible rename Wk _ _ _ _ _ _ => W9); with_reducible refine' step_in_string_spec (Cx.less (by assumption) (by decide)) I9 W9 (by assumption) ?hp ?hs ?_; (case hp => assumption); (case hs => first | assumption | (simp only [*, Option.isSome_some])); clear I9 W9; intro _ _ _ _)
      | ((with_reducible rename Wk _ _ _ _ _ _ => W9); with_reducible refine' step_plain_spec (Cx.less (by assumption) (by decide)) I9 W9 (by assumption) ?hp ?hz ?_; (case hp => assumption); (case hz => first | assumption | omega); clear I9 W9; intro _ _ _ _))
    | ((with_reducible show wpAny _ _ _ _ _ _); walk1)
    | ((with_reducible show ite _ _ _); walk_at "ites")
    | ((with_reducible show And _ _); walk1)
    | (with_reducible refine Ent.next (by assumption) ?_)
    | (with_reducible refine Ent.ret (by assumption) ?_)
    | (with_reducible refine EntV.use (by assumption) ?_)
    | (with_reducible refine Ent.brk (by assumption) ?_)
    | (with_reducible refine Ent.cont (by assumption) ?_))
  all_goals refine ⟨_, _, _, (by assumption), fun I9 => ret _ _ (Wk.cast (by assumption) ?_) I9⟩
  all_goals (subst_vars; first
    | (simp only [St.step, Option.isSome_some, Option.isSome_none, St.s_place, St.s_opens, St.s_below, St.s_least, St.s_whole, St.s_word, St.s_string, St.s_comment, St.s_style, St.s_nests, St.s_start, St.s_quoted, St.s_half, take_opens, take_below, take_least, take_whole, take_word, take_string, take_comment, take_style, take_nests, take_start, take_quoted, endWord_place, endWord_opens, endWord_below, endWord_least, endWord_string, endWord_comment, endWord_style, endWord_nests, endWord_start, endWord_quoted, endWord_half, *, ↓reduceIte, Bool.false_eq_true, Bool.true_and, Bool.false_and, Bool.and_self, Bool.and_true, Bool.and_false, Bool.true_or, Bool.false_or, Bool.or_self]; done)
    | (simp only [St.step, Option.isSome_some, Option.isSome_none, St.s_place, St.s_opens, St.s_below, St.s_least, St.s_whole, St.s_word, St.s_string, St.s_comment, St.s_style, St.s_nests, St.s_start, St.s_quoted, St.s_half, take_opens, take_below, take_least, take_whole, take_word, take_string, take_comment, take_style, take_nests, take_start, take_quoted, endWord_place, endWord_opens, endWord_below, endWord_least, endWord_string, endWord_comment, endWord_style, endWord_nests, endWord_start, endWord_quoted, endWord_half, *, ↓reduceIte, Bool.false_eq_true, Bool.true_and, Bool.false_and, Bool.and_self, Bool.and_true, Bool.and_false, Bool.true_or, Bool.false_or, Bool.or_self]; rfl)
    | (cases st; dsimp only at *; subst_vars; simp only [St.step, Option.isSome_some, Option.isSome_none, St.s_place, St.s_opens, St.s_below, St.s_least, St.s_whole, St.s_word, St.s_string, St.s_comment, St.s_style, St.s_nests, St.s_start, St.s_quoted, St.s_half, take_opens, take_below, take_least, take_whole, take_word, take_string, take_comment, take_style, take_nests, take_start, take_quoted, endWord_place, endWord_opens, endWord_below, endWord_least, endWord_string, endWord_comment, endWord_style, endWord_nests, endWord_start, endWord_quoted, endWord_half, *, ↓reduceIte, Bool.false_eq_true, Bool.true_and, Bool.false_and, Bool.and_self, Bool.and_true, Bool.and_false, Bool.true_or, Bool.false_or, Bool.or_self]; done))
end
end
/-! part M6 -/
section
set_option hygiene true
theorem fill_M6 (w : World) : hdKp w.params = hdKp w.params ∧ PySem.Challenge.rw_np0078_01 = PySem.Challenge.rw_np0078_01 := by
  k_fill
  exact ⟨rfl, rfl⟩
def psV (lt : Addr) (st : St) (t : Nat → Tok) : List Value := [.ref lt, .int st.below (t 1), .int st.least (t 2), optV st.whole (t 3), optV st.word (t 4), optV st.string (t 5), .int st.comment (t 6), .str st.style (t 7), .bool st.nests, optV st.start (t 9), .bool st.quoted, .str st.half (t 11)]
/-- a new state: its two objects -/
def PsNew (new : Led) (a lt : Addr) (st : St) : Prop := ∃ dx o t, new = [(a, instObj 68 dx), (dx, o)] ∧ DictO o (psF lt st t)
def TupI (P : Reg) (lt : Addr) (ns : List Int) : Prop := ∃ k vs, P lt (tupO (List.toArray vs) k) ∧ IntsAre vs ns
theorem TupI.mono {P P' : Reg} {lt ns} (h : TupI P lt ns) (l : P.le P') : TupI P' lt ns := let ⟨k, vs, e, i⟩ := h; ⟨k, vs, l _ _ e, i⟩
theorem PsAt.tup {P : Reg} {a lt : Addr} {st : St} (V : PsAt P a lt st) : TupI P lt st.opens := V.2
theorem PsNew.at {P : Reg} {new : Led} {a lt : Addr} {st : St} (h : PsNew new a lt st) (l : (inL new).le P) (ht : TupI P lt st.opens) : PsAt P a lt st := by
  obtain ⟨dx, o, t, rfl, D⟩ := h
  exact ⟨⟨t, dx, o, l _ _ (.head _), l _ _ (.tail _ (.head _)), D⟩, ht⟩
section
variable {z : Shared} {w : World} {M : Model} {A : Around} {env : Env} {g : Heap} {L : Addr} {n : Nat} {m : Str → Option Value} {own rest : Led} {s : Shared} {E : Value → Shared → Prop} {Q : Value → Shared → Prop} {x vw vt lo : Addr} {st : St}
theorem tup_len {lt : Addr} {ns : List Int} (I : Inv z g L m own s) (V : TupI (inG g) lt ns) (hz : ns.length ≤ 100000) (h : ∀ s' u, Inv z g L m own s' → Q (.int (ns.length : Int) u) s') : wpAny (model prg w) A (call (.builtin "len") [.ref lt]) Q E s := by
  obtain ⟨k, vs, e, hi⟩ := V
  have hl := hi.length
  refine len_tuple ⟨_, I.kp e, rfl, k, rfl⟩ (by rw [List.size_toArray, hl]; omega) ?_
  have h' := h _ (s.toks + 1) (I.tok (s.toks + 1 + 1))
  rw [List.size_toArray, hl]
  exact h'
theorem tup_last {lt : Addr} {ns : List Int} {u : Tok} {value slice : Expr} (I : Inv z g L m own s) (V : TupI (inG g) lt ns) (h0 : 0 < (ns.length : Int)) (hz : ns.length ≤ 100000)
    (hs : subscripted slice false (.ref lt) (.int (-1) u) = operate [.ref lt, .int (-1) u] (getItem (.ref lt) (.int (-1) u))) (h : ∀ s' t, Inv z g L m own s' → Q (.int (ns.getLastD 0) t) s') :
    wpAny (model prg w) A (subscriptTail value slice (.ref lt) (.int (-1) u)) Q E s := by
  obtain ⟨k, vs, e, hi⟩ := V
  have hl := hi.length
  obtain ⟨t, ht⟩ := ints_get hi (ns.length - 1) (by omega)
  have he : ns.getD (ns.length - 1) 0 = ns.getLastD 0 := by
    cases ns with
    | nil => simp at h0
    | cons a r => simp [List.getLastD_eq_getLast?, List.getLast?_eq_getElem?]
  rw [he] at ht
  have hT : IsTup s.heap lt vs.toArray := ⟨_, I.kp e, rfl, k, rfl⟩
  exact tail_any hT.typeIs slot_tuple_getitem.lookup (getItem_tuple hT (by decide) (by decide) (seqIndex?_neg_one (by rw [List.size_toArray, hl]; omega)) (by rw [List.size_toArray, hl]; simpa using ht) (h _ _ I)) hs
theorem newTupW {vs : List Value} (I : Inv z g L m (own ++ rest) s) (hz : vs.length ≤ 1000) (h : ∀ a s', Inv z g L m (own ++ ((a, tupO vs.toArray 0) :: rest)) s' → Q (.ref a) s') : wpAny M A (newTuple vs) Q E s :=
  newTup I hz fun a s' J => h a s' (J.perm (List.perm_middle.symm))
theorem listOfTup {p1 p2 : Addr × Obj} {post : Led} {lt : Addr} {k : Nat} {vs : List Value} (I : Inv z g L m (p1 :: p2 :: post) s) (hl : g.get? lt = some (tupO vs.toArray k)) (hz : vs.length ≤ 100000)
    (h : ∀ D c s', Inv z g L m (p1 :: p2 :: (D, listOf vs.toArray c) :: post) s' → Q (.ref D) s') : wpAny (model prg w) A (call (.type "list") [.ref lt]) Q E s := by
  refine list_copyKT I.F I.N ⟨_, I.kp hl, rfl, k, rfl⟩ (fun D c h' F' N' l1 => h D c _ ?_) (by rw [PySem.sizeLine_eq, List.size_toArray]; omega)
  have J : Inv z g L m ((D, listOf vs.toArray c) :: p1 :: p2 :: post) { s with heap := h' } := ⟨F', N', by
    rw [List.map_cons]
    refine List.nodup_cons.mpr ⟨fun q => ?_, I.nd⟩
    obtain ⟨p, hp, e⟩ := List.mem_map.mp q
    have := l1 p hp
    rw [e] at this
    exact Nat.lt_irrefl _ this, I.same⟩
  exact J.perm (List.perm_middle (l₁ := [p1, p2])).symm
theorem tupOfList (I : Inv z g L m (own ++ rest) s) (W : Wk own x vw vt lo st) (hz : st.opens.length ≤ 100000)
    (h : ∀ D vs s', IntsAre vs st.opens → Inv z g L m (own ++ ((D, tupO (List.toArray vs) 0) :: rest)) s' → Q (.ref D) s') : wpAny (model prg w) A (call (.type "tuple") [.ref lo]) Q E s := by
  obtain ⟨dx, o, k, ops, t, rfl, D, hi⟩ := W
  have hl := hi.length
  have e := I.get (.tail _ (.tail _ (.head _)) : (lo, listOf ops.toArray k) ∈ [(x, instObj 428 dx), (dx, o), (lo, listOf ops.toArray k)] ++ rest)
  refine call_tuple_list ⟨_, e, rfl, k, rfl⟩ (fun h' hk => h _ ops _ hi ?_) (by rw [PySem.sizeLine_eq, List.size_toArray]; omega)
  have J : Inv z g L m ([(x, instObj 428 dx), (dx, o), (lo, listOf ops.toArray k)] ++ rest) { s with heap := h' } := ⟨I.F.keeps hk, fun p hp => ⟨hk _ _ (I.N p hp).1, (I.N p hp).2⟩, I.nd, I.same⟩
  exact (J.push (tupO ops.toArray 0) s.toks).perm (List.perm_middle (l₁ := [(x, instObj 428 dx), (dx, o), (lo, listOf ops.toArray k)])).symm
theorem addTup {t b : Addr} {vs ws : List Value} (I : Inv z g L m own s) (ht : (t, tupO vs.toArray 0) ∈ own) (hb : (b, tupO ws.toArray 0) ∈ own) (hv : vs ≠ []) (hw : ws ≠ []) (hz : vs.length + ws.length ≤ 1000)
    (h : ∀ a s', Inv z g L m ((a, tupO (vs ++ ws).toArray 0) :: own) s' → Q (.ref a) s') : wpAny (model prg w) A (binaryOp .Add (.ref t) (.ref b)) Q E s :=
  add_tuples I.F I.N ⟨_, I.get ht, rfl, 0, rfl⟩ ⟨_, I.get hb, rfl, 0, rfl⟩ (fun e => absurd e hv) (fun _ e => absurd e hw)
    (fun _ _ h' F' N' => h _ _ (I.mk' s.toks F' N' (I.push (tupO (vs ++ ws).toArray 0) 0).nd)) (by rw [PySem.sizeLine_eq]; omega)
theorem unpackNR {vs : List Value} {a : Addr} {n' : Nat} {elts : List Expr} {k} {pos : Pos} {Q : Unit → Shared → Prop} (C : Cx w A env g L n) (I : Inv z g L m own s) (ht : inG g a (tupO vs.toArray n')) (hk : (assignEach elts env).length = vs.length) (hstar : (assignEach elts env).findIdx? (·.1) = none)
    (h : ∀ s', Inv z g L m own s' → wpAny (model prg w) A (assignInOrder ((assignEach elts env).map (·.2)) vs) Q E s') : wpAny (model prg w) A (assign (.Tuple elts k pos) env (.ref a)) Q E s :=
  unpackN_ I.F I.N ⟨_, I.kp ht, rfl, n', rfl⟩ C.noHandled (by rw [List.size_toArray]; exact hk) hstar fun h' F' N' => h _ (I.mk' s.toks F' N' I.nd)
end
end
section
set_option hygiene true
section
variable {z : Shared} {w : World} {A : Around} {env : Env} {g : Heap} {L : Addr} {n : Nat} {m : Str → Option Value} {own rest : Led} {s : Shared} {E : Value → Shared → Prop} {x vw vt lo lc dr lt : Addr} {sa : Int → Addr} {c : Ct} {st : St} {Q : Value → Shared → Prop}
theorem ps_make_spec {st : St} {t : Nat → Tok} (C : Cx w A env g L 2) (I : Inv z g L m rest s) 
    (ret : ∀ a new s', PsNew new a lt st → Inv z g L m (new ++ rest) s' → Q (.ref a) s') :
    wpAny (model prg w) A (call (.ref 68) [.ref lt, .int st.below (t 1), .int st.least (t 2), optV st.whole (t 3), optV st.word (t 4), optV st.string (t 5), .int st.comment (t 6), .str st.style (t 7), .bool st.nests, optV st.start (t 9), .bool st.quoted, .str st.half (t 11)]) Q E s := by
  refine' makeO (binds := fun x => [(Str.ofString "self", x), (Str.ofString "opens", .ref lt), (Str.ofString "below", .int st.below (t 1)), (Str.ofString "least", .int st.least (t 2)), (Str.ofString "whole", optV st.whole (t 3)), (Str.ofString "word", optV st.word (t 4)), (Str.ofString "string", optV st.string (t 5)), (Str.ofString "comment", .int st.comment (t 6)), (Str.ofString "style", .str st.style (t 7)), (Str.ofString "nests", .bool st.nests), (Str.ofString "start", optV st.start (t 9)), (Str.ofString "quoted", .bool st.quoted), (Str.ofString "half", .str st.half (t 11))]) C I ?hm ?hi ?hf ?ho ?hcd ?hb ?hl ?c1 ?c2 ?c3 ?c4 ?_
  (case hm => k_is); (case hi => k_is); (case hf => k_is); (case ho => k_is); (case hcd => k_is); (case hb => exact fun _ _ X => binds_K X rfl (by k_is) rfl rfl rfl); (case hl => exact fun _ => locs rfl); (case c1 => exact rfl); (case c2 => exact rfl); (case c3 => exact rfl); (case c4 => decide)
  intro x dx A' g' L' s₁ C' I' sb hr
  clear C I
  have D' := DictO.nil
  repeat' (first
  | ((with_reducible show wpAny _ _ (setAttr _ _ _) _ _ _); (with_reducible rename Inv _ _ _ _ _ _ => I9); (with_reducible rename DictO _ _ => D9); (refine' set_new (by assumption) I9 D9 (cls_68 _) ?ha ?hz ?_); (case hz => exact Nat.le_of_ble_eq_true rfl); (case ha => first | with_reducible exact own_68_opens _ | with_reducible exact own_68_below _ | with_reducible exact own_68_least _ | with_reducible exact own_68_whole _ | with_reducible exact own_68_word _ | with_reducible exact own_68_string _ | with_reducible exact own_68_comment _ | with_reducible exact own_68_style _ | with_reducible exact own_68_nests _ | with_reducible exact own_68_start _ | with_reducible exact own_68_quoted _ | with_reducible exact own_68_half _); clear I9 D9; intro _ _ _ _)
    | ((with_reducible show wpAny _ _ _ _ _ _); walk1)
    | ((with_reducible show ite _ _ _); walk_at "ites")
    | ((with_reducible show And _ _); walk1)
    | (with_reducible refine Ent.next (by assumption) ?_)
    | (with_reducible refine Ent.ret (by assumption) ?_)
    | (with_reducible refine EntV.use (by assumption) ?_)
    | (with_reducible refine Ent.brk (by assumption) ?_)
    | (with_reducible refine Ent.cont (by assumption) ?_))
  rename DictO _ _ => D9
  rename Inv _ _ _ _ _ _ => I9
  exact ⟨_, [_, _], _, I9, fun I8 => ⟨rfl, ret _ _ _ ⟨_, _, t, rfl, D9⟩ I8⟩⟩
theorem ps_make0_spec  (C : Cx w A env g L 2) (I : Inv z g L m rest s) 
    (ret : ∀ a new s', PsNew new a 29 St0 → Inv z g L m (new ++ rest) s' → Q (.ref a) s') :
    wpAny (model prg w) A (call (.ref 68) []) Q E s := by
  refine' makeO (binds := fun x => [(Str.ofString "self", x), (Str.ofString "opens", .ref 29), (Str.ofString "below", .int 0 208), (Str.ofString "least", .int 0 209), (Str.ofString "whole", .none), (Str.ofString "word", .none), (Str.ofString "string", .none), (Str.ofString "comment", .int 0 210), (Str.ofString "style", .str (Str.ofString "") 211), (Str.ofString "nests", .bool false), (Str.ofString "start", .none), (Str.ofString "quoted", .bool false), (Str.ofString "half", .str (Str.ofString "") 212)]) C I ?hm ?hi ?hf ?ho ?hcd ?hb ?hl ?c1 ?c2 ?c3 ?c4 ?_
  (case hm => k_is); (case hi => k_is); (case hf => k_is); (case ho => k_is); (case hcd => k_is); (case hb => exact fun _ _ X => binds_K X rfl (by k_is) rfl rfl rfl); (case hl => exact fun _ => locs rfl); (case c1 => exact rfl); (case c2 => exact rfl); (case c3 => exact rfl); (case c4 => decide)
  intro x dx A' g' L' s₁ C' I' sb hr
  clear C I
  have D' := DictO.nil
  repeat' (first
  | ((with_reducible show wpAny _ _ (setAttr _ _ _) _ _ _); (with_reducible rename Inv _ _ _ _ _ _ => I9); (with_reducible rename DictO _ _ => D9); (refine' set_new (by assumption) I9 D9 (cls_68 _) ?ha ?hz ?_); (case hz => exact Nat.le_of_ble_eq_true rfl); (case ha => first | with_reducible exact own_68_opens _ | with_reducible exact own_68_below _ | with_reducible exact own_68_least _ | with_reducible exact own_68_whole _ | with_reducible exact own_68_word _ | with_reducible exact own_68_string _ | with_reducible exact own_68_comment _ | with_reducible exact own_68_style _ | with_reducible exact own_68_nests _ | with_reducible exact own_68_start _ | with_reducible exact own_68_quoted _ | with_reducible exact own_68_half _); clear I9 D9; intro _ _ _ _)
    | ((with_reducible show wpAny _ _ _ _ _ _); walk1)
    | ((with_reducible show ite _ _ _); walk_at "ites")
    | ((with_reducible show And _ _); walk1)
    | (with_reducible refine Ent.next (by assumption) ?_)
    | (with_reducible refine Ent.ret (by assumption) ?_)
    | (with_reducible refine EntV.use (by assumption) ?_)
    | (with_reducible refine Ent.brk (by assumption) ?_)
    | (with_reducible refine Ent.cont (by assumption) ?_))
  rename DictO _ _ => D9
  rename Inv _ _ _ _ _ _ => I9
  exact ⟨_, [_, _], _, I9, fun I8 => ⟨rfl, ret _ _ _ ⟨_, _, (fun i => match i with | 1 => 208 | 2 => 209 | 6 => 210 | 7 => 211 | 11 => 212 | _ => 0), rfl, D9⟩ I8⟩⟩
end
end
/-! part M7 -/
section
set_option hygiene true
theorem fill_M7 (w : World) : hdKp w.params = hdKp w.params ∧ PySem.Challenge.rw_np0078_01 = PySem.Challenge.rw_np0078_01 := by
  k_fill
  exact ⟨rfl, rfl⟩
end
section
set_option hygiene false
local macro_rules | `(tactic| walk_at "binaryOp Add ref ref") => `(tactic| ((with_reducible rename Inv _ _ _ _ _ _ => I9); (with_reducible refine' addTup I9 ?ht ?hb ?hv ?hw ?hz ?_); (case ht => (first | exact .head _ | exact .tail _ (.head _) | exact .tail _ (.tail _ (.head _)))); (case hb => (first | exact .head _ | exact .tail _ (.head _) | exact .tail _ (.tail _ (.head _)))); (case hz => exact Nat.le_of_ble_eq_true rfl); (case hv => exact List.cons_ne_nil _ _); (case hw => exact List.cons_ne_nil _ _); clear I9; intro _ _ _))
local macro_rules | `(tactic| walk_at "compareOp Eq") => `(tactic| with_reducible (first | refine eq_opt (by simp only [*, Option.isSome_some]) ?_ | refine eq_opt (by assumption) ?_ | refine eq_opt' (by assumption) ?_))
local macro_rules | `(tactic| walk_at "call builtin:len") => `(tactic| ((with_reducible rename Inv _ _ _ _ _ _ => I9); with_reducible refine' tup_len I9 (by assumption) ?hz ?_; (case hz => first | assumption | omega); clear I9; intro _ _ _))
local macro_rules | `(tactic| walk_at "subscriptTail") => `(tactic| ((with_reducible rename Inv _ _ _ _ _ _ => I9); (with_reducible refine' tup_last I9 (by assumption) ?h0 ?hz ?hs ?_); (case hs => with_unfolding_all rfl); (case h0 => omega); (case hz => first | assumption | omega); clear I9; intro _ _ _))
local macro_rules | `(tactic| walk_at "assign Tuple") => `(tactic| ((with_reducible rename Inv _ _ _ _ _ _ => I9); (refine' unpackNR (by assumption) I9 (by assumption) ?hk ?hs ?_); (case hk => rfl); (case hs => rfl); clear I9; intro _ _))
local macro_rules | `(tactic| walk_at "exec Assign") => `(tactic| ((with_reducible show wpAny _ _ (exec (Stmt.Assign [Expr.Tuple _ _ _] _ _) _) _ _ _); first | (refine' Assign_Tuple_swapped ?_ ?q0 ?q1; (case q0 => with_unfolding_all rfl); (case q1 => with_unfolding_all rfl)) | (refine' Assign_Tuple ?_ ?q0 ?q1; (case q0 => with_unfolding_all rfl); (case q1 => with_unfolding_all rfl))))
section
set_option hygiene true
def lastV (ns : List Int) (u : Tok) : Value := if 0 < (ns.length : Int) then .int (ns.getLastD 0) u else .none
theorem lastV_pos {ns : List Int} (h : 0 < (ns.length : Int)) (u : Tok) : lastV ns u = .int (ns.getLastD 0) u := if_pos h
theorem lastV_neg {ns : List Int} (h : ¬ 0 < (ns.length : Int)) (u : Tok) : lastV ns u = .none := if_neg h
section
variable {z : Shared} {w : World} {A : Around} {env : Env} {g : Heap} {L : Addr} {n : Nat} {m : Str → Option Value} {own rest : Led} {s : Shared} {E : Value → Shared → Prop} {x vw vt lo lc dr lt a : Addr} {sa : Int → Addr} {c : Ct} {st : St} {Q : Value → Shared → Prop}
theorem ps_items_spec  (C : Cx w A env g L 1) (I : Inv z g L m (rest) s) (V : PsAt (inGR g rest) a lt st)
    (ret : ∀ t it s', Inv z g L m ((it, tupO (psV lt st t).toArray 0) :: rest) s' → Q (.ref it) s') :
    wpAny (model prg w) A (call (.ref 65) [.ref a]) Q E s := by
  refine' callO (own := []) (binds := [(Str.ofString "self", .ref a)]) C I ?ho ?hcd ?hb ?hl ?c1 ?c2 ?c3 ?c4 ?_
  walk_at "enter"
  intro A' g' L' s₁ C' I' sb hr
  refine gen_post fun R9 hR9 => ?_
  clear C I
  have V' := V.mono (le_down sb hr)
  have T' := V'.tup
  repeat' (first
    | ((with_reducible show wpAny _ _ _ _ _ _); walk1)
    | ((with_reducible show ite _ _ _); walk_at "ites")
    | ((with_reducible show And _ _); walk1)
    | (with_reducible refine Ent.next (by assumption) ?_)
    | (with_reducible refine Ent.ret (by assumption) ?_)
    | (with_reducible refine EntV.use (by assumption) ?_)
    | (with_reducible refine Ent.brk (by assumption) ?_)
    | (with_reducible refine Ent.cont (by assumption) ?_))
  rename Inv _ _ _ _ _ _ => I9
  exact ⟨_, _ :: [], _, I9, fun I8 => ret (fun i => match i with | 1 => _ | 2 => _ | 3 => _ | 4 => _ | 5 => _ | 6 => _ | 7 => _ | 9 => _ | 11 => _ | _ => 0) _ _ I8⟩
theorem ps_depth_spec  (C : Cx w A env g L 1) (I : Inv z g L m (rest) s) (V : PsAt (inGR g rest) a lt st) (hz : st.opens.length ≤ 1001)
    (ret : ∀ u s', Inv z g L m rest s' → Q (.int st.depth u) s') :
    wpAny (model prg w) A (call (.ref 44) [.ref a]) Q E s := by
  refine' callO (own := []) (binds := [(Str.ofString "self", .ref a)]) C I ?ho ?hcd ?hb ?hl ?c1 ?c2 ?c3 ?c4 ?_
  walk_at "enter"
  intro A' g' L' s₁ C' I' sb hr
  refine gen_post fun R9 hR9 => ?_
  clear C I
  have V' := V.mono (le_down sb hr)
  have T' := V'.tup
  repeat' (first
    | ((with_reducible show wpAny _ _ _ _ _ _); walk1)
    | ((with_reducible show ite _ _ _); walk_at "ites")
    | ((with_reducible show And _ _); walk1)
    | (with_reducible refine Ent.next (by assumption) ?_)
    | (with_reducible refine Ent.ret (by assumption) ?_)
    | (with_reducible refine EntV.use (by assumption) ?_)
    | (with_reducible refine Ent.brk (by assumption) ?_)
    | (with_reducible refine Ent.cont (by assumption) ?_))
  all_goals exact ⟨_, [], [], (by assumption), fun I9 => ret _ _ I9⟩
theorem ps_inner_spec  (C : Cx w A env g L 1) (I : Inv z g L m (rest) s) (V : PsAt (inGR g rest) a lt st) (hz : st.opens.length ≤ 1001)
    (ret : ∀ u s', Inv z g L m rest s' → Q (lastV st.opens u) s') :
    wpAny (model prg w) A (call (.ref 51) [.ref a]) Q E s := by
  refine' callO (own := []) (binds := [(Str.ofString "self", .ref a)]) C I ?ho ?hcd ?hb ?hl ?c1 ?c2 ?c3 ?c4 ?_
  walk_at "enter"
  intro A' g' L' s₁ C' I' sb hr
  refine gen_post fun R9 hR9 => ?_
  clear C I
  have V' := V.mono (le_down sb hr)
  have T' := V'.tup
  repeat' (first
    | ((with_reducible show wpAny _ _ _ _ _ _); walk1)
    | ((with_reducible show ite _ _ _); walk_at "ites")
    | ((with_reducible show And _ _); walk1)
    | (with_reducible refine Ent.next (by assumption) ?_)
    | (with_reducible refine Ent.ret (by assumption) ?_)
    | (with_reducible refine EntV.use (by assumption) ?_)
    | (with_reducible refine Ent.brk (by assumption) ?_)
    | (with_reducible refine Ent.cont (by assumption) ?_))
  all_goals first
    | exact ⟨_, [], [], (by assumption), fun I9 => by (show Q (Value.int _ _) _); rw [← lastV_pos (ns := st.opens) (by assumption)]; exact ret _ _ I9⟩
    | exact ⟨_, [], [], (by assumption), fun I9 => by (show Q Value.none _); rw [← lastV_neg (ns := st.opens) (by assumption) 0]; exact ret _ _ I9⟩
theorem ps_plain_spec  (C : Cx w A env g L 1) (I : Inv z g L m (rest) s) (V : PsAt (inGR g rest) a lt st)
    (ret : ∀ s', Inv z g L m rest s' → Q (.bool (st.string.isNone && st.comment == 0)) s') :
    wpAny (model prg w) A (call (.ref 58) [.ref a]) Q E s := by
  refine' callO (own := []) (binds := [(Str.ofString "self", .ref a)]) C I ?ho ?hcd ?hb ?hl ?c1 ?c2 ?c3 ?c4 ?_
  walk_at "enter"
  intro A' g' L' s₁ C' I' sb hr
  refine gen_post fun R9 hR9 => ?_
  clear C I
  have V' := V.mono (le_down sb hr)
  have T' := V'.tup
  repeat' (first
    | ((with_reducible show wpAny _ _ _ _ _ _); walk1)
    | ((with_reducible show ite _ _ _); walk_at "ites")
    | ((with_reducible show And _ _); walk1)
    | (with_reducible refine Ent.next (by assumption) ?_)
    | (with_reducible refine Ent.ret (by assumption) ?_)
    | (with_reducible refine EntV.use (by assumption) ?_)
    | (with_reducible refine Ent.brk (by assumption) ?_)
    | (with_reducible refine Ent.cont (by assumption) ?_))
  all_goals exact ⟨_, [], [], (by assumption), fun I9 => by have q := ret _ I9; simp only [*, Option.isNone_some, Option.isNone_none, Bool.false_and, Bool.true_and] at q; exact q⟩
theorem state_of_spec {it : Addr} {t : Nat → Tok} (C : Cx w A env g L 3) (I : Inv z g L m (rest) s) (ht : inGR g rest it (tupO (psV lt st t).toArray 0))
    (ret : ∀ a new s', PsNew new a lt st → Inv z g L m (new ++ rest) s' → Q (.ref a) s') :
    wpAny (model prg w) A (call (.ref 79) [.ref it]) Q E s := by
  refine' callO (own := []) (binds := [(Str.ofString "items", .ref it)]) C I ?ho ?hcd ?hb ?hl ?c1 ?c2 ?c3 ?c4 ?_
  walk_at "enter"
  intro A' g' L' s₁ C' I' sb hr
  refine gen_post fun R9 hR9 => ?_
  clear C I
  have ht' := le_down sb hr _ _ ht
  repeat' (first
    | ((with_reducible show wpAny _ _ (call (Value.ref _) _ _) _ _ _); (with_reducible rename Inv _ _ _ _ _ _ => I9); first
      | ((with_reducible refine' ps_make_spec (Cx.less (by assumption) (by decide)) I9 ?_); clear I9; intro _ _ _ _ _))
    | ((with_reducible show wpAny _ _ _ _ _ _); walk1)
    | ((with_reducible show ite _ _ _); walk_at "ites")
    | ((with_reducible show And _ _); walk1)
    | (with_reducible refine Ent.next (by assumption) ?_)
    | (with_reducible refine Ent.ret (by assumption) ?_)
    | (with_reducible refine EntV.use (by assumption) ?_)
    | (with_reducible refine Ent.brk (by assumption) ?_)
    | (with_reducible refine Ent.cont (by assumption) ?_))
  all_goals exact ⟨_, _, _, (by assumption), fun I9 => ret _ _ _ (by assumption) I9⟩
def toldV (lt : Addr) (st : St) (t : Nat → Tok) (v3 v4 : Value) : List Value := [.int st.depth (t 0), lastV st.opens (t 1), optV st.whole (t 2), v3, v4, .bool st.quoted, .int st.least (t 6), .str st.style (t 7), optV st.start (t 8), .ref lt]
theorem told_state_spec  (C : Cx w A env g L 2) (I : Inv z g L m (rest) s) (V : PsAt (inGR g rest) a lt st) (hz : st.opens.length ≤ 1001)
    (ret : ∀ t v3 v4 it s', Inv z g L m ((it, tupO (toldV lt st t v3 v4).toArray 0) :: rest) s' → Q (.ref it) s') :
    wpAny (model prg w) A (call (.ref 86) [.ref a]) Q E s := by
  refine' callO (own := []) (binds := [(Str.ofString "state", .ref a)]) C I ?ho ?hcd ?hb ?hl ?c1 ?c2 ?c3 ?c4 ?_
  walk_at "enter"
  intro A' g' L' s₁ C' I' sb hr
  refine gen_post fun R9 hR9 => ?_
  clear C I
  have V' := V.mono (le_down sb hr)
  have T' := V'.tup
  repeat' (first
    | ((with_reducible show wpAny _ _ (call (Value.ref _) _ _) _ _ _); (with_reducible rename Inv _ _ _ _ _ _ => I9); first
      | ((with_reducible refine' ps_depth_spec (Cx.less (by assumption) (by decide)) I9 (by assumption) ?hz ?_); (case hz => first | assumption | omega); clear I9; intro _ _ _)
      | ((with_reducible refine' ps_depth_spec (Cx.less (by assumption) (by decide)) I9 (PsAt.mono (by assumption) le_up) ?hz ?_); (case hz => first | assumption | omega); clear I9; intro _ _ _)
      | ((with_reducible refine' ps_inner_spec (Cx.less (by assumption) (by decide)) I9 (by assumption) ?hz ?_); (case hz => first | assumption | omega); clear I9; intro _ _ _)
      | ((with_reducible refine' ps_inner_spec (Cx.less (by assumption) (by decide)) I9 (PsAt.mono (by assumption) le_up) ?hz ?_); (case hz => first | assumption | omega); clear I9; intro _ _ _))
    | ((with_reducible show wpAny _ _ _ _ _ _); walk1)
    | ((with_reducible show ite _ _ _); walk_at "ites")
    | ((with_reducible show And _ _); walk1)
    | (with_reducible refine Ent.next (by assumption) ?_)
    | (with_reducible refine Ent.ret (by assumption) ?_)
    | (with_reducible refine EntV.use (by assumption) ?_)
    | (with_reducible refine Ent.brk (by assumption) ?_)
    | (with_reducible refine Ent.cont (by assumption) ?_))
  all_goals exact ⟨_, [_], _, (by assumption), fun I8 => ret (fun i => match i with | 0 => _ | 1 => _ | 2 => _ | 6 => _ | 7 => _ | 8 => _ | _ => 0) _ _ _ _ I8⟩
end
end
/-! part M8a -/
section
set_option hygiene true
theorem fill_M8 (w : World) : hdKp w.params = hdKp w.params ∧ PySem.Challenge.rw_np0078_01 = PySem.Challenge.rw_np0078_01 := by
  k_fill
  exact ⟨rfl, rfl⟩
end
section
set_option hygiene false
local macro_rules | `(tactic| walk_at "call type:list") => `(tactic| ((with_reducible rename Inv _ _ _ _ _ _ => I9); (with_reducible refine' listOfTup I9 (by assumption) ?hz ?_); (case hz => first | assumption | omega); clear I9; intro _ _ _ _))
section
set_option hygiene true
section
variable {z : Shared} {w : World} {A : Around} {env : Env} {g : Heap} {L : Addr} {n : Nat} {m : Str → Option Value} {own rest : Led} {s : Shared} {E : Value → Shared → Prop} {x vw vt lo lc dr lt a : Addr} {sa : Int → Addr} {c : Ct} {st : St} {Q : Value → Shared → Prop}
theorem walk_make_spec {p : Int} {u : Tok} (C : Cx w A env g L 2) (I : Inv z g L m rest s) (V : PsAt (inGR g rest) a lt st) (hz : st.opens.length ≤ 1000)
    (ret : ∀ x lo own' s', Wk own' x vw vt lo (st.s_place p) → Inv z g L m (own' ++ rest) s' → Q (.ref x) s') :
    wpAny (model prg w) A (call (.ref 428) [.ref vw, .ref vt, .int p u, .ref a]) Q E s := by
  refine' makeO (binds := fun x => [(Str.ofString "self", x), (Str.ofString "view", .ref vw), (Str.ofString "table", .ref vt), (Str.ofString "place", .int p u), (Str.ofString "state", .ref a)]) C I ?hm ?hi ?hf ?ho ?hcd ?hb ?hl ?c1 ?c2 ?c3 ?c4 ?_
  walk_at "emake"
  intro x dx A' g' L' s₁ C' I' sb hr
  clear C I
  have D' := DictO.nil
  have V' := V.mono (le_down sb hr)
  obtain ⟨k9, vs, hlt, hints⟩ := V'.tup
  have hz9 : vs.length ≤ 100000 := by rw [hints.length]; omega
  repeat' (first
  | ((with_reducible show wpAny _ _ (setAttr _ _ _) _ _ _); (with_reducible rename Inv _ _ _ _ _ _ => I9); (with_reducible rename DictO _ _ => D9); (refine' set_new (by assumption) I9 D9 (cls_428 _) ?ha ?hz ?_); (case hz => exact Nat.le_of_ble_eq_true rfl); (case ha => first | with_reducible exact own_428_view _ | with_reducible exact own_428_table _ | with_reducible exact own_428_place _ | with_reducible exact own_428_opens _ | with_reducible exact own_428_below _ | with_reducible exact own_428_least _ | with_reducible exact own_428_whole _ | with_reducible exact own_428_word _ | with_reducible exact own_428_string _ | with_reducible exact own_428_comment _ | with_reducible exact own_428_style _ | with_reducible exact own_428_nests _ | with_reducible exact own_428_start _ | with_reducible exact own_428_quoted _ | with_reducible exact own_428_half _); clear I9 D9; intro _ _ _ _)
    | ((with_reducible show wpAny _ _ _ _ _ _); walk1)
    | ((with_reducible show ite _ _ _); walk_at "ites")
    | ((with_reducible show And _ _); walk1)
    | (with_reducible refine Ent.next (by assumption) ?_)
    | (with_reducible refine Ent.ret (by assumption) ?_)
    | (with_reducible refine EntV.use (by assumption) ?_)
    | (with_reducible refine Ent.brk (by assumption) ?_)
    | (with_reducible refine Ent.cont (by assumption) ?_))
  rename DictO _ _ => D9
  rename Inv _ _ _ _ _ _ => I9
  exact ⟨_, [_, _, _], _, I9, fun I8 => ⟨rfl, ret _ _ _ _ ⟨_, _, _, vs, (fun i => match i with | 2 => _ | 4 => _ | 5 => _ | 6 => _ | 7 => _ | 8 => _ | 9 => _ | 10 => _ | 12 => _ | 14 => _ | _ => 0), rfl, D9, hints⟩ I8⟩⟩
end
end
/-! part M8b -/
end
section
set_option hygiene true
theorem fill_M8b (w : World) : hdKp w.params = hdKp w.params ∧ PySem.Challenge.rw_np0078_01 = PySem.Challenge.rw_np0078_01 := by
  k_fill
  exact ⟨rfl, rfl⟩
theorem perm1 (new own X : Led) (i : Addr × Obj) : (new ++ (i :: (own ++ X))).Perm (own ++ (new ++ i :: X)) := by
  have q := List.perm_append_comm_assoc (new ++ [i]) own X
  simpa using q
theorem Inv.nilR {z g L m own s} (I : Inv z g L m own s) : Inv z g L m (own ++ []) s := by rw [List.append_nil]; exact I
theorem Inv.assoc {z g L m a b c s} (I : Inv z g L m ((a ++ b) ++ c) s) : Inv z g L m (a ++ (b ++ c)) s := by rw [← List.append_assoc]; exact I
end
section
set_option hygiene false
local macro_rules | `(tactic| walk_at "newTuple") => `(tactic| ((with_reducible rename Inv _ _ _ _ _ _ => I9); (with_reducible refine' newTupW I9 ?hz ?_); (case hz => exact Nat.le_of_ble_eq_true rfl); clear I9; intro _ _ _))
local macro_rules | `(tactic| walk_at "callWith type:tuple") => `(tactic| (refine Pv.callWith_type1 ?_))
local macro_rules | `(tactic| walk_at "call type:tuple") => `(tactic| ((with_reducible rename Inv _ _ _ _ _ _ => I9); (with_reducible refine' tupOfList I9 (by assumption) ?hz ?_); (case hz => first | assumption | omega); clear I9; intro _ _ _ _ _))
local macro_rules | `(tactic| walk_at "binaryOp Add ref ref") => `(tactic| ((with_reducible rename Inv _ _ _ _ _ _ => I9); (with_reducible refine' addTup I9 ?ht ?hb ?hv ?hw ?hz ?_); (case ht => exact List.mem_append_right _ (by first | exact .head _ | exact .tail _ (.head _) | exact .tail _ (.tail _ (.head _)))); (case hb => exact List.mem_append_right _ (by first | exact .tail _ (.tail _ (.head _)) | exact .tail _ (.head _))); (case hz => exact Nat.le_of_ble_eq_true rfl); (case hv => exact List.cons_ne_nil _ _); (case hw => exact List.cons_ne_nil _ _); clear I9; intro _ _ _))
section
set_option hygiene true
section
variable {z : Shared} {w : World} {A : Around} {env : Env} {g : Heap} {L : Addr} {n : Nat} {m : Str → Option Value} {own rest : Led} {s : Shared} {E : Value → Shared → Prop} {x vw vt lo lc dr lt a : Addr} {sa : Int → Addr} {c : Ct} {st : St} {Q : Value → Shared → Prop}
theorem walk_state_spec  (C : Cx w A env g L 4) (I : Inv z g L m (own ++ rest) s) (W : Wk own x vw vt lo st) (hz : st.opens.length ≤ 1000)
    (ret : ∀ a lt new s', PsAt (inL new) a lt st → Inv z g L m (own ++ (new ++ rest)) s' → Q (.ref a) s') :
    wpAny (model prg w) A (call (.ref 313) [.ref x]) Q E s := by
  refine' callO (binds := [(Str.ofString "self", .ref x)]) C I ?ho ?hcd ?hb ?hl ?c1 ?c2 ?c3 ?c4 ?_
  walk_at "enter"
  intro A' g' L' s₁ C' I' sb hr
  refine gen_post fun R9 hR9 => ?_
  clear C I
  repeat' (first
    | ((with_reducible show wpAny _ _ _ _ _ _); walk1)
    | ((with_reducible show ite _ _ _); walk_at "ites")
    | ((with_reducible show And _ _); walk1)
    | (with_reducible refine Ent.next (by assumption) ?_)
    | (with_reducible refine Ent.ret (by assumption) ?_)
    | (with_reducible refine EntV.use (by assumption) ?_)
    | (with_reducible refine Ent.brk (by assumption) ?_)
    | (with_reducible refine Ent.cont (by assumption) ?_))
  rename Inv _ _ _ _ _ _ => I9
  rename IntsAre _ _ => hi9
  refine state_of_spec (st := st) (t := fun i => match i with | 1 => _ | 2 => _ | 3 => _ | 4 => _ | 5 => _ | 6 => _ | 7 => _ | 9 => _ | 11 => _ | _ => 0) (Cx.less (by assumption) (by decide)) I9 (.inr (.head _)) fun a new s' hn I8 => ?_
  repeat (first | (with_reducible refine Ent.next (by assumption) ?_) | (with_reducible refine Ent.ret (by assumption) ?_) | (with_reducible refine EntV.use (by assumption) ?_))
  refine ⟨_, _, [], (I8.perm (perm1 _ _ _ _)).nilR, fun I7 => ret a _ _ s' (hn.at (fun _ _ h => List.mem_append_left _ h) ⟨0, _, List.mem_append_right _ (.tail _ (.tail _ (.head _))), hi9⟩) (I7.assoc)⟩
end
end
/-! part Eq1 -/
section
set_option hygiene true
section
open PyProof.V PySem.SeqAt
/-! the strings of a state -/
theorem sok_b (p q : Bool) : PyData.strOk ((if p then Str.ofString "b" else Str.ofString "") ++ (if q then Str.ofString "c" else Str.ofString "")) = true := by
  cases p <;> cases q <;> decide +kernel
theorem bm_sok {c : Ct} {p : Int} {k : Mk} (h : c.bm p = some k) : PyData.strOk k.style = true := by
  unfold Ct.bm at h
  split at h
  · cases h
  · split at h
    · rename_i q
      split at q
      · split at q
        · cases q; cases h; exact sok_b _ _
        · cases q
      · cases q
    · split at h
      · cases h; exact sok_b _ _
      · split at h
        · cases h; decide +kernel
        · cases h
structure Sok (s : St) : Prop where
  style : PyData.strOk s.style = true
  half : PyData.strOk s.half = true
theorem sok_lits : PyData.strOk (Str.ofString "") = true ∧ PyData.strOk (Str.ofString "begin") = true ∧ PyData.strOk (Str.ofString "nest") = true ∧ PyData.strOk (Str.ofString "end") = true := by decide +kernel
theorem Sok.leave {s : St} (h : Sok s) : Sok s.leaveComment := by
  unfold St.leaveComment; split
  · exact ⟨h.style, h.half⟩
  · exact ⟨sok_lits.1, h.half⟩
theorem Sok.endW {s : St} (h : Sok s) : Sok s.endWord := ⟨by rw [endWord_style]; exact h.style, by rw [endWord_half]; exact h.half⟩
theorem Sok.take {s : St} {m : Mk} {w : Str} {l : Int} (h : Sok s) (hw : PyData.strOk w = true) : Sok (s.take m w l) := ⟨by rw [take_style]; exact h.style, by rcases take_half s m w l with q | q <;> rw [q]; exact h.half; exact hw⟩
theorem Sok.beginC {s : St} {m : Mk} {p : Int} (h : Sok s) (hm : PyData.strOk m.style = true) : Sok (s.beginComment m p) := ⟨hm, by show PyData.strOk s.endWord.half = true; rw [endWord_half]; exact h.half⟩
theorem Sok.same {s t : St} (h : Sok s) (e1 : t.style = s.style) (e2 : t.half = s.half) : Sok t := ⟨e1 ▸ h.style, e2 ▸ h.half⟩
theorem beginW_style (s : St) : s.beginWord.style = s.style := by unfold St.beginWord; split <;> rfl
theorem close1_style (s : St) : s.close1.style = s.style := by unfold St.close1; split <;> rfl
theorem byKind_style (c : Ct) (s : St) (y : Sy) : (s.byKind c y).style = s.style := by
  unfold St.byKind
  repeat' split
  · exact beginW_style s
  · exact beginW_style s
  · exact endWord_style s
  · show s.endWord.close1.style = _; rw [close1_style, endWord_style]
  · exact endWord_style s
  · exact endWord_style s
  · exact endWord_style s
  · rfl
theorem Sok.step {c : Ct} {s : St} {l : Int} (h : Sok s) : Sok (s.step c l) := by
  unfold St.step
  split
  · unfold St.finishHalf
    dsimp only
    split
    · split
      · rename_i m hm
        exact (Sok.beginC (s := { s with half := Str.ofString "" }) (p := s.place - 1) ⟨h.style, sok_lits.1⟩ (bm_sok hm)).same rfl rfl
      · exact ⟨h.style, sok_lits.1⟩
    · split
      · exact ⟨h.style, sok_lits.1⟩
      · exact (Sok.leave (s := { s with half := Str.ofString "" }) ⟨h.style, sok_lits.1⟩).same rfl rfl
  · split
    · unfold St.inComment
      repeat' split
      · exact (h.take sok_lits.2.2.2).leave
      · exact h.take sok_lits.2.2.2
      · exact h
      · exact (h.take sok_lits.2.2.1).same rfl rfl
      · exact h.take sok_lits.2.2.1
      · exact h
      · exact h.same rfl rfl
    · split
      · unfold St.inString
        refine h.same ?_ ?_
        · show St.style _ = _
          (repeat' split) <;> rfl
        · show St.half _ = _
          (repeat' split) <;> rfl
      · unfold St.plain
        split
        · exact h.same rfl rfl
        · split
          · rename_i m hm
            split
            · exact (h.take sok_lits.2.1).beginC (bm_sok hm)
            · exact (h.take sok_lits.2.1).endW
          · refine h.same ?_ ?_
            · show St.style _ = _
              split
              · rfl
              · exact byKind_style _ _ _
            · show St.half _ = _
              split
              · rfl
              · exact byKind_half _ _ _
theorem Sok.iter {c : Ct} : ∀ (k : Nat) {s : St}, Sok s → Sok (St.iter c k s)
  | 0, _, h => h
  | k + 1, _, h => Sok.iter k (Sok.step h)
theorem Sok.zero (b : Int) : Sok (St0.s_place b) := ⟨sok_lits.1, sok_lits.1⟩
/-! equality of data with itself -/
mutual
theorem noMix_self : ∀ d : PyData, d.canLay0 = true → noMix d d = true
  | .none, _ => by simp [noMix]
  | .bool _, _ => by simp [noMix]
  | .int _, _ => by simp [noMix]
  | .str _, _ => by simp [noMix]
  | .list xs, h => by simp only [noMix]; exact noMixAll_self xs (by simpa [PyData.canLay0] using h)
  | .tuple xs, h => by simp only [noMix]; exact noMixAll_self xs (by simpa [PyData.canLay0] using h)
  | .dict _, h => by simp [PyData.canLay0] at h
theorem noMixAll_self : ∀ ds : List PyData, PyData.canLayAll0 ds = true → noMixAll ds ds = true
  | [], _ => by simp [noMixAll]
  | x :: r, h => by
    simp only [PyData.canLayAll0, Bool.and_eq_true] at h
    simp only [noMixAll, noMix_self x h.1, noMixAll_self r h.2, Bool.and_self]
end
def optD : Option Int → PyData
  | none => .none
  | some i => .int i
def lastD (ns : List Int) : PyData := if 0 < (ns.length : Int) then .int (ns.getLastD 0) else .none
theorem reads_opt {h : Heap} (o : Option Int) (t : Tok) : Reads h (optV o t) (optD o) [] := by cases o; exact .none; exact .int _ _
theorem reads_last {h : Heap} (ns : List Int) (t : Tok) : Reads h (lastV ns t) (lastD ns) [] := by
  unfold lastV lastD
  split
  · exact .int _ _
  · exact .none
theorem reads_tup {h : Heap} {lt : Addr} {ns : List Int} (hl : TupI (fun a o => h.get? a = some o) lt ns) : Reads h (.ref lt) (.tuple (ns.map PyData.int)) [] := by
  obtain ⟨k, vs, e, hi⟩ := hl
  exact Reads.tuple e rfl rfl (by simpa using readsAll_of_ints hi)
def itemsD (st : St) : List PyData := [.tuple (st.opens.map PyData.int), .int st.below, .int st.least, optD st.whole, optD st.word, optD st.string, .int st.comment, .str st.style, .bool st.nests, optD st.start, .bool st.quoted, .str st.half]
def toldD (st : St) : List PyData := [lastD st.opens, optD st.whole, .bool st.quoted, .int st.least, .tuple (st.opens.map PyData.int)]
theorem reads_items {h : Heap} {lt : Addr} {st : St} {t : Nat → Tok} (hl : TupI (fun a o => h.get? a = some o) lt st.opens) : ReadsAll h (psV lt st t) (itemsD st) [] :=
  .cons (as := []) (bs := []) (reads_tup hl) (.cons (as := []) (bs := []) (.int _ _) (.cons (as := []) (bs := []) (.int _ _) (.cons (as := []) (bs := []) (reads_opt _ _) (.cons (as := []) (bs := []) (reads_opt _ _) (.cons (as := []) (bs := []) (reads_opt _ _)
    (.cons (as := []) (bs := []) (.int _ _) (.cons (as := []) (bs := []) (.str _ _) (.cons (as := []) (bs := []) (.bool _) (.cons (as := []) (bs := []) (reads_opt _ _) (.cons (as := []) (bs := []) (.bool _) (.cons (as := []) (bs := []) (.str _ _) .nil)))))))))))
theorem lay_opt (o : Option Int) : (optD o).canLay0 = true ∧ (optD o).depth = 0 := by cases o <;> simp [optD, PyData.canLay0, PyData.depth]
theorem lay_last (ns : List Int) : (lastD ns).canLay0 = true ∧ (lastD ns).depth = 0 := by unfold lastD; split <;> simp [PyData.canLay0, PyData.depth]
theorem shaped_items {st : St} (h : Sok st) : shaped (.tuple (itemsD st)) = true := by
  show (PyData.canLay0 (.tuple (itemsD st)) && decide (PyData.depth (.tuple (itemsD st)) ≤ 64)) = true
  have h1 := PySem.W.depthAll_ints st.opens
  rw [Bool.and_eq_true]
  refine ⟨?_, decide_eq_true ?_⟩
  · simp only [itemsD, PyData.canLay0, PyData.canLayAll0, canLayAll0_ints, (lay_opt _).1, h.style, h.half, Bool.and_self]
  · simp only [itemsD, PyData.depth, PyData.depthAll, (lay_opt _).2]
    omega
theorem shaped_told (st : St) : shaped (.list (toldD st)) = true := by
  show (PyData.canLay0 (.list (toldD st)) && decide (PyData.depth (.list (toldD st)) ≤ 64)) = true
  have h1 := PySem.W.depthAll_ints st.opens
  rw [Bool.and_eq_true]
  refine ⟨?_, decide_eq_true ?_⟩
  · simp only [toldD, PyData.canLay0, PyData.canLayAll0, canLayAll0_ints, (lay_opt _).1, (lay_last _).1, Bool.and_self]
  · simp only [toldD, PyData.depth, PyData.depthAll, (lay_opt _).2, (lay_last _).2]
    omega
theorem shaped_tup (ns : List Int) : shaped (.tuple (ns.map PyData.int)) = true := by
  show (PyData.canLay0 (.tuple _) && decide (PyData.depth (.tuple _) ≤ 64)) = true
  have h1 := PySem.W.depthAll_ints ns
  rw [Bool.and_eq_true]
  refine ⟨?_, decide_eq_true ?_⟩
  · simp only [PyData.canLay0, canLayAll0_ints]
  · simp only [PyData.depth]; omega
theorem lay_of_shaped {d : PyData} (h : shaped d = true) : d.canLay0 = true := by
  have h' : (PyData.canLay0 d && decide (PyData.depth d ≤ 64)) = true := h
  exact (Bool.and_eq_true _ _ ▸ h').1
section
variable {z : Shared} {w : World} {A : Around} {env : Env} {g : Heap} {L : Addr} {n : Nat} {m : Str → Option Value} {own rest : Led} {s : Shared} {E : Value → Shared → Prop} {Q : Value → Shared → Prop} {it1 it2 lt1 lt2 : Addr} {st : St} {k1 k2 : Nat}
theorem ne_items {t1 t2 : Nat → Tok} (C : Cx w A env g L n) (h1 : s.heap.get? it1 = some (tupO (psV lt1 st t1).toArray k1)) (h2 : s.heap.get? it2 = some (tupO (psV lt2 st t2).toArray k2)) (l1 : TupI (inS s) lt1 st.opens) (l2 : TupI (inS s) lt2 st.opens) (ok : Sok st) (h : Q (.bool false) s) :
    wpAny (model prg w) A (compareOp .NotEq (.ref it1) (.ref it2)) Q E s :=
  ne_dataH_same (Reads.tuple h1 rfl rfl (by simpa using reads_items l1)) (Reads.tuple h2 rfl rfl (by simpa using reads_items l2)) (shaped_items ok) (shaped_items ok) (by have := C.units; omega) (noMix_self _ (lay_of_shaped (shaped_items ok)))
    (by rw [PySem.Spec.same_self]; exact h)
theorem eq_items {t1 t2 : Nat → Tok} (C : Cx w A env g L n) (h1 : s.heap.get? it1 = some (tupO (psV lt1 st t1).toArray k1)) (h2 : s.heap.get? it2 = some (tupO (psV lt2 st t2).toArray k2)) (l1 : TupI (inS s) lt1 st.opens) (l2 : TupI (inS s) lt2 st.opens) (ok : Sok st) (h : Q (.bool true) s) :
    wpAny (model prg w) A (compareOp .Eq (.ref it1) (.ref it2)) Q E s :=
  eq_dataH_same (Reads.tuple h1 rfl rfl (by simpa using reads_items l1)) (Reads.tuple h2 rfl rfl (by simpa using reads_items l2)) (shaped_items ok) (shaped_items ok) (by have := C.units; omega) (noMix_self _ (lay_of_shaped (shaped_items ok)))
    (by rw [PySem.Spec.same_self]; exact h)
theorem reads_told2 {h : Heap} {v : Value} {t2 t3 : Tok} (hv : Reads h v (lastD st.opens) []) (hl : TupI (fun a o => h.get? a = some o) lt1 st.opens) : ReadsAll h [v, optV st.whole t2, .bool st.quoted, .int st.least t3, .ref lt1] (toldD st) [] :=
  .cons (as := []) (bs := []) hv (.cons (as := []) (bs := []) (reads_opt _ _) (.cons (as := []) (bs := []) (.bool _) (.cons (as := []) (bs := []) (.int _ _) (.cons (as := []) (bs := []) (reads_tup hl) .nil))))
theorem reads_last_pos {h : Heap} {ns : List Int} {t : Tok} (hp : 0 < (ns.length : Int)) : Reads h (.int (ns.getLastD 0) t) (lastD ns) [] := by unfold lastD; rw [if_pos hp]; exact .int _ _
theorem reads_last_neg {h : Heap} {ns : List Int} (hp : ¬ 0 < (ns.length : Int)) : Reads h .none (lastD ns) [] := by unfold lastD; rw [if_neg hp]; exact .none
theorem eq_told {v1 v2 : Value} {a2 a3 b2 b3 : Tok} (C : Cx w A env g L n) (h1 : s.heap.get? it1 = some (listOf (List.toArray [v1, optV st.whole a2, .bool st.quoted, .int st.least a3, .ref lt1]) k1)) (h2 : s.heap.get? it2 = some (listOf (List.toArray [v2, optV st.whole b2, .bool st.quoted, .int st.least b3, .ref lt1]) k2))
    (r1 : Reads s.heap v1 (lastD st.opens) []) (r2 : Reads s.heap v2 (lastD st.opens) []) (l1 : TupI (inS s) lt1 st.opens) (h : Q (.bool true) s) :
    wpAny (model prg w) A (compareOp .Eq (.ref it1) (.ref it2)) Q E s :=
  eq_dataH_same (Reads.list h1 rfl rfl (by simpa using reads_told2 r1 l1)) (Reads.list h2 rfl rfl (by simpa using reads_told2 r2 l1)) (shaped_told st) (shaped_told st) (by have := C.units; omega) (noMix_self _ (lay_of_shaped (shaped_told st)))
    (by rw [PySem.Spec.same_self]; exact h)
theorem ne_tup0 {ns : List Int} (C : Cx w A env g L n) (l1 : TupI (inS s) lt1 ns) (l2 : s.heap.get? lt2 = some (tupO (List.toArray []) k2)) (h : Q (.bool (decide (0 < (ns.length : Int)))) s) :
    wpAny (model prg w) A (compareOp .NotEq (.ref lt1) (.ref lt2)) Q E s :=
  ne_dataH_same (reads_tup l1) (Reads.tuple l2 rfl rfl .nil) (shaped_tup ns) (by decide) (by have := C.units; omega) (by cases ns <;> simp [noMix, noMixAll])
    (by cases ns with
        | nil => simpa [PySem.Spec.same, PySem.Spec.sameAll] using h
        | cons a r =>
          have e : decide (0 < (((a :: r).length : Nat) : Int)) = true := decide_eq_true (by rw [List.length_cons]; omega)
          rw [e] at h
          simpa [PySem.Spec.same, PySem.Spec.sameAll] using h)
end
end
end
/-! part PP -/
end
section
set_option hygiene true
theorem fill_PP (w : World) : hdKp w.params = hdKp w.params ∧ PySem.Challenge.rw_np0078_01 = PySem.Challenge.rw_np0078_01 := by
  k_fill
  exact ⟨rfl, rfl⟩
theorem cod_pos {c : Ct} {p : Int} (h : ∀ x ∈ c.cs, 97 ≤ x ∧ x ≤ 104) (h0 : c.b ≤ p) (h1 : p < c.e) : 0 ≤ c.cod p := by
  unfold Ct.e at h1
  rcases cod_in (p := p) h with q | q
  · unfold Ct.cod at q
    rw [if_pos ⟨h0, h1⟩] at q
    have hl : (p - c.b).toNat < c.cs.length := by omega
    have e := h _ (List.getElem_mem hl)
    rw [List.getD_eq_getElem?_getD, List.getElem?_eq_getElem hl] at q
    simp only [Option.getD_some] at q
    omega
  · omega
theorem runS_brk {c : Ct} {l : Int} {tg sc n} {s : St} (h : s.place < l) (hn : (l - s.place).toNat ≤ n) (hs : stp tg sc s (s.step c l) = true) : St.runS c l tg sc n s = s.step c l := by
  obtain ⟨k, rfl⟩ : ∃ k, n = k + 1 := ⟨n - 1, by omega⟩
  show (if _ then _ else _) = _
  rw [if_pos h, if_pos hs]
theorem runS_go {c : Ct} {l : Int} {tg sc n} {s : St} (h : s.place < l) (hn : (l - s.place).toNat ≤ n) (hs : stp tg sc s (s.step c l) = false) : St.runS c l tg sc n s = St.runS c l tg sc (n - 1) (s.step c l) := by
  obtain ⟨k, rfl⟩ : ∃ k, n = k + 1 := ⟨n - 1, by omega⟩
  show (if _ then _ else _) = _
  rw [if_pos h, if_neg (by rw [hs]; exact Bool.false_ne_true)]; rfl
theorem runS_end {c : Ct} {l : Int} {tg sc n} {s : St} (h : ¬ s.place < l) : St.runS c l tg sc n s = s := by
  cases n with
  | zero => rfl
  | succ k => show (if _ then _ else _) = _; rw [if_neg h]
theorem eq_optS {w : World} {A : Around} {s : Shared} {Q E : Value → Shared → Prop} {o : Option Int} {i d : Int} {t u : Tok} (h : o = some d) (hq : Q (.bool (i == d)) s) : wpAny (model prg w) A (compareOp .Eq (.int i u) (optV o t)) Q E s := by
  subst h; exact eq_int hq
theorem cwk0 {w : World} {M : Model} {A : Around} {env : Env} {g : Heap} {L : Addr} {n : Nat} {m : Str → Option Value} {own : Led} {s : Shared} {z : Shared} {Q E : Value → Shared → Prop} {pos : Pos} {f : Addr} {env' : Env} (C : Cx w A env g L n) (I : Inv z g L m own s) (hk : keepIn (hdKp w.params) (.ref f) = true) (h : wpAny M A (call (.ref f) []) Q E s) :
    wpAny M A (callWith pos (.ref f) [] (backTo pos (starEach [] env')) []) Q E s := callWith_K0 (I.kin C) hk h
theorem Inv.fin1 {z g L m s} {i : Addr × Obj} {a b c : Led} (I : Inv z g L m (i :: (a ++ (b ++ c))) s) : Inv z g L m ((i :: (a ++ (b ++ c))) ++ []) s := by rw [List.append_nil]; exact I
theorem tup29 {w A env g L n} (C : Cx w A env g L n) : TupI (inG g) 29 [] := ⟨0, [], C.K _ _ (by k_is), .nil⟩
/-- what stands while the loop goes on -/
structure PPJ (w : World) (z : Shared) (g : Heap) (L : Addr) (X : Led) (x vw vt lo : Addr) (c : Ct) (limit : Int) (vl vtg vb vc : Value) (st : St) (m : Str → Option Value) (own : Led) (s : Shared) : Prop where
  W : Wk own x vw vt lo st
  I : Inv z g L m (own ++ X) s
  G : Good c st
  pl : st.place ≤ limit
  h1 : m (Str.ofString "walk") = some (.ref x)
  h2 : m (Str.ofString "limit") = some vl
  h3 : m (Str.ofString "target") = some vtg
  h4 : m (Str.ofString "stop_before") = some vb
  h5 : m (Str.ofString "stop_comment") = some vc
theorem loop_own {w : World} {A : Around} {env : Env} {z : Shared} {g : Heap} {L : Addr} {X : Led} {x vw vt lo : Addr} {c : Ct} {limit : Int} {vl vtg vb vc : Value} {st fin : St} {m : Str → Option Value} {own : Led} {s : Shared} {tg : Option Int} {sc : Bool} {n0 : Nat}
    {test : Expr} {body orelse : List Stmt} {pos : Pos} {Q : Flow → Shared → Prop} {E : Value → Shared → Prop} (J0 : PPJ w z g L X x vw vt lo c limit vl vtg vb vc st m own s) (hn : (limit - st.place).toNat ≤ n0) (hf : St.runS c limit tg sc n0 st = fin)
    (turn : ∀ n m own st s, PPJ w z g L X x vw vt lo c limit vl vtg vb vc st m own s → (limit - st.place).toNat ≤ n → St.runS c limit tg sc n st = fin →
      wpAny (model prg w) A (PySem.isTrue test env (eval test env)) (fun b s₂ => if b = true then wpAny (model prg w) A (execs body env) (fun f s₃ => match f with
        | .next | .cont => 1 ≤ n ∧ ∃ m own st', PPJ w z g L X x vw vt lo c limit vl vtg vb vc st' m own s₃ ∧ (limit - st'.place).toNat ≤ n - 1 ∧ St.runS c limit tg sc (n - 1) st' = fin
        | .brk => ∃ m own, PPJ w z g L X x vw vt lo c limit vl vtg vb vc fin m own s₃ | .ret v => False) (fun _ _ => False) s₂
      else wpAny (model prg w) A (execs orelse env) (fun f s₃ => f = .next ∧ ∃ m own, PPJ w z g L X x vw vt lo c limit vl vtg vb vc fin m own s₃) (fun _ _ => False) s₂) (fun _ _ => False) s)
    (post : ∀ m own s, PPJ w z g L X x vw vt lo c limit vl vtg vb vc fin m own s → Q .next s) :
    wpAny (model prg w) A (exec (.While test body orelse pos) env) Q E s := by
  refine wpAny_mono (while_own (Q := fun f s' => f = .next ∧ ∃ m own', PPJ w z g L X x vw vt lo c limit vl vtg vb vc fin m own' s')
      (fun n s => ∃ m own' st', PPJ w z g L X x vw vt lo c limit vl vtg vb vc st' m own' s ∧ (limit - st'.place).toNat ≤ n ∧ St.runS c limit tg sc n st' = fin) ?turn n0 ⟨_, _, _, J0, hn, hf⟩) ?post (fun _ _ y => y)
  · rintro n s ⟨m, own, st', J, h1, h2⟩
    refine wpAny_mono (turn n m own st' s J h1 h2) (fun b s₂ h => ?_) (fun _ _ y => y)
    cases b with
    | false => rw [if_neg Bool.false_ne_true] at h ⊢; exact h
    | true =>
      rw [if_pos rfl] at h ⊢
      refine wpAny_mono h (fun f s₃ h3 => ?_) (fun _ _ y => y)
      cases f with
      | next => obtain ⟨q, r⟩ := h3; exact ⟨n - 1, by omega, r⟩
      | cont => obtain ⟨q, r⟩ := h3; exact ⟨n - 1, by omega, r⟩
      | brk => exact ⟨rfl, h3⟩
      | ret v => exact h3.elim
  · rintro f s' ⟨rfl, m, own, J⟩
    exact post m own s' J
end
section
set_option hygiene false
local macro_rules | `(tactic| walk_at "compareOp Eq") => `(tactic| (with_reducible refine eq_optS (by assumption) ?_))
local macro_rules | `(tactic| walk_at "callWith ref") => `(tactic| (with_reducible refine' cwk0 (by assumption) (by assumption) ?hk ?_; (case hk => exact keepc_68 _)))
local macro_rules | `(tactic| walk_at "eval Name") => `(tactic| (refine r_loc (by assumption) (by with_unfolding_all assumption) (by rfl) (by rfl) (by rfl) ?_))
section
set_option hygiene true
section
variable {z : Shared} {w : World} {A : Around} {env : Env} {g : Heap} {L : Addr} {n : Nat} {m : Str → Option Value} {own rest : Led} {s : Shared} {E : Value → Shared → Prop} {x vw vt lc dr : Addr} {sa : Int → Addr} {c : Ct} {st : St} {Q : Value → Shared → Prop}
theorem pp_spec {p limit : Int} {u1 u2 u3 : Tok} {tg : Option Int} {sc : Bool} {vst : Value} {st : St} {pos : List Value} {kw : List (Str × Value)} (C : Cx w A env g L 8) (I : Inv z g L m rest s) (V : Vw (inGR g rest) w vw lc vt dr sa c)
    (SV : (vst = .none ∧ st = St0) ∨ ∃ a lt, vst = .ref a ∧ PsAt (inGR g rest) a lt st) (G : Good c (st.s_place p)) (hp : p ≤ limit) (he : limit ≤ c.e)
    (hbind : ∀ fd oc od osl, (hdKp w.params).lookup 447 = some ⟨oc, od, .func fd, osl⟩ → BindsTo s fd ⟨pos, kw⟩ [(Str.ofString "view", .ref vw), (Str.ofString "table", .ref vt), (Str.ofString "place", .int p u1), (Str.ofString "limit", .int limit u2), (Str.ofString "state", vst), (Str.ofString "target", optV tg u3), (Str.ofString "stop_before", .bool false), (Str.ofString "stop_comment", .bool sc)])
    (ret : ∀ it a lt new u s', (it, tupO (List.toArray [.int (St.runS c limit tg sc (limit - p).toNat (st.s_place p)).place u, .ref a]) 0) ∈ new → PsAt (inL new) a lt (St.runS c limit tg sc (limit - p).toNat (st.s_place p)) → Inv z g L m (new ++ rest) s' → Q (.ref it) s') :
    wpAny (model prg w) A (call (.ref 447) pos kw) Q E s := by
  refine' callO (own := []) (binds := [(Str.ofString "view", .ref vw), (Str.ofString "table", .ref vt), (Str.ofString "place", .int p u1), (Str.ofString "limit", .int limit u2), (Str.ofString "state", vst), (Str.ofString "target", optV tg u3), (Str.ofString "stop_before", .bool false), (Str.ofString "stop_comment", .bool sc)]) C I ?ho ?hcd ?hb ?hl ?c1 ?c2 ?c3 ?c4 ?_
  (case ho => k_is); (case hcd => k_is); (case hb => exact hbind _ _ _ _ (by k_is)); (case hl => exact locs rfl); (case c1 => exact rfl); (case c2 => exact rfl); (case c3 => exact rfl); (case c4 => decide)
  intro A' g' L' s₁ C' I' sb hr
  refine gen_post fun R9 hR9 => ?_
  clear C I hbind
  have V' := V.mono (le_down sb hr)
  have T29 := tup29 C'
  have hlen := V'.len
  have hgo := G.opens
  have hgb := G.b
  have he' : limit ≤ c.b + c.cs.length := he
  dsimp only [St.s_place] at hgo hgb
  generalize hfin : St.runS c limit tg sc (limit - p).toNat (st.s_place p) = fin at ret
  rcases SV with ⟨rfl, rfl⟩ | ⟨a0, lt0, rfl, Vs⟩
  rotate_left
  · have Vs' := Vs.mono (le_down sb hr)
    repeat' (first
      | ((with_reducible show wpAny _ _ (call (Value.ref _) _ _) _ _ _); (with_reducible rename Inv _ _ _ _ _ _ => I9); first
        | ((with_reducible refine' ps_make0_spec (Cx.less (by assumption) (by decide)) I9 ?_); clear I9; intro _ _ _ _ _)
        | ((with_reducible refine' walk_make_spec (Cx.less (by assumption) (by decide)) I9 (PsAt.mono (by assumption) le_up) ?hz ?_); (case hz => omega); clear I9; intro _ _ _ _ _ _)
        | ((with_reducible refine' walk_make_spec (Cx.less (by assumption) (by decide)) I9 (PsNew.at (by assumption) le_new (T29.mono le_up)) ?hz ?_); (case hz => decide); clear I9; intro _ _ _ _ _ _))
      | ((with_reducible show wpAny _ _ _ _ _ _); walk1)
      | ((with_reducible show ite _ _ _); walk_at "ites")
      | ((with_reducible show And _ _); walk1)
      | (with_reducible refine Ent.next (by assumption) ?_)
      | (with_reducible refine Ent.ret (by assumption) ?_)
      | (with_reducible refine EntV.use (by assumption) ?_)
      | (with_reducible refine Ent.brk (by assumption) ?_)
      | (with_reducible refine Ent.cont (by assumption) ?_))
    rename Wk _ _ _ _ _ _ => W9
    rename Inv _ _ _ _ _ _ => I9
    refine loop_own ⟨W9, I9, G, hp, rfl, rfl, rfl, rfl, rfl⟩ (Nat.le_refl _) hfin (fun n9 m9 own9 st9 s9 J9 hn9 hf9 => ?_) (fun m9 own9 s9 J9 => ?_)
    · clear W9 I9 G hfin hgo hgb ret
      obtain ⟨W, I9, G, hpl, q1, q2, q3, q4, q5⟩ := J9
      have hgo := G.opens
      have hgb := G.b
      have hgh := G.half
      repeat' (first
        | ((with_reducible show wpAny _ _ (call (Value.ref _) _ _) _ _ _); (with_reducible rename Inv _ _ _ _ _ _ => I9); first
          | ((with_reducible rename Wk _ _ _ _ _ _ => W9); with_reducible refine' depth_spec (Cx.less (by assumption) (by decide)) I9 W9 ?hz ?_; (case hz => first | assumption | omega | (have q9 := step_opens c st9 limit; omega)); clear I9; intro _ _ _)
          | ((with_reducible rename Wk _ _ _ _ _ _ => W9); with_reducible refine' step_spec (Cx.less (by assumption) (by decide)) I9 W9 (by assumption) ?hp ?hz ?hb ?_; (case hp => exact cod_pos V'.ok (by omega) (by omega)); (case hz => omega); (case hb => assumption); clear I9 W9; intro _ _ _ _))
        | ((with_reducible show wpAny _ _ _ _ _ _); walk1)
        | ((with_reducible show ite _ _ _); walk_at "ites")
        | ((with_reducible show And _ _); walk1)
        | (with_reducible refine Ent.next (by assumption) ?_)
        | (with_reducible refine Ent.ret (by assumption) ?_)
        | (with_reducible refine EntV.use (by assumption) ?_)
        | (with_reducible refine Ent.brk (by assumption) ?_)
        | (with_reducible refine Ent.cont (by assumption) ?_))
      all_goals first
        | omega
        | exact rfl
        | (rename Inv _ _ _ _ _ _ => I9
           rename Wk _ _ _ _ _ _ => W9
           rename st9.place < limit => h9
           have on9 := step_on (c := c) h9
           have sf9 : stp tg sc st9 (st9.step c limit) = false := by
             unfold stp; simp only [*, Bool.false_and, Bool.true_and, Bool.and_false, Bool.and_true, Bool.or_false, Bool.false_or, Bool.or_true, Bool.true_or, Bool.or_self, Bool.and_self]
           exact ⟨_, _, _, ⟨W9, I9, G.step h9, on9.2, by with_unfolding_all exact q1, by with_unfolding_all exact q2, by with_unfolding_all exact q3, by with_unfolding_all exact q4, by with_unfolding_all exact q5⟩, by omega, (runS_go h9 hn9 sf9).symm.trans hf9⟩)
        | (rename Inv _ _ _ _ _ _ => I9
           rename Wk _ _ _ _ _ _ => W9
           rename st9.place < limit => h9
           have on9 := step_on (c := c) h9
           have sf9 : stp tg sc st9 (st9.step c limit) = true := by
             unfold stp; simp only [*, Bool.false_and, Bool.true_and, Bool.and_false, Bool.and_true, Bool.or_false, Bool.false_or, Bool.or_true, Bool.true_or, Bool.or_self, Bool.and_self]
           have e9 : st9.step c limit = fin := (runS_brk h9 hn9 sf9).symm.trans hf9
           exact ⟨_, _, ⟨W9.cast e9.symm, I9, e9 ▸ G.step h9, e9 ▸ on9.2, by with_unfolding_all exact q1, by with_unfolding_all exact q2, by with_unfolding_all exact q3, by with_unfolding_all exact q4, by with_unfolding_all exact q5⟩⟩)
        | (rename Inv _ _ _ _ _ _ => I9
           rename Wk _ _ _ _ _ _ => W9
           rename ¬ st9.place < limit => h9
           have e9 : st9 = fin := (runS_end h9).symm.trans hf9
           exact ⟨_, _, ⟨W9.cast e9.symm, I9, e9 ▸ G, e9 ▸ hpl, q1, q2, q3, q4, q5⟩⟩)
    · clear W9 I9 G hfin hgo hgb
      obtain ⟨W, I9, G, hpl, q1, q2, q3, q4, q5⟩ := J9
      have hgo := G.opens
      repeat' (first
        | ((with_reducible show wpAny _ _ (call (Value.ref _) _ _) _ _ _); (with_reducible rename Inv _ _ _ _ _ _ => I9); first
          | ((with_reducible rename Wk _ _ _ _ _ _ => W9); (with_reducible refine' walk_state_spec (Cx.less (by assumption) (by decide)) I9 W9 ?hz ?_); (case hz => omega); clear I9; intro _ _ _ _ _ _))
        | ((with_reducible show wpAny _ _ _ _ _ _); walk1)
        | ((with_reducible show ite _ _ _); walk_at "ites")
        | ((with_reducible show And _ _); walk1)
        | (with_reducible refine Ent.next (by assumption) ?_)
        | (with_reducible refine Ent.ret (by assumption) ?_)
        | (with_reducible refine EntV.use (by assumption) ?_)
        | (with_reducible refine Ent.brk (by assumption) ?_)
        | (with_reducible refine Ent.cont (by assumption) ?_))
      rename PsAt (inL _) _ _ _ => P9
      rename Inv _ _ _ _ _ _ => I9
      exact ⟨_, _ :: (_ ++ (_ ++ _)), [], I9.fin1, fun I8 => ret _ _ _ _ _ _ (.head _) (P9.mono fun _ _ h => .tail _ (List.mem_append_right _ (List.mem_append_left _ h))) I8⟩
  · skip
    repeat' (first
      | ((with_reducible show wpAny _ _ (call (Value.ref _) _ _) _ _ _); (with_reducible rename Inv _ _ _ _ _ _ => I9); first
        | ((with_reducible refine' ps_make0_spec (Cx.less (by assumption) (by decide)) I9 ?_); clear I9; intro _ _ _ _ _)
        | ((with_reducible refine' walk_make_spec (Cx.less (by assumption) (by decide)) I9 (PsAt.mono (by assumption) le_up) ?hz ?_); (case hz => omega); clear I9; intro _ _ _ _ _ _)
        | ((with_reducible refine' walk_make_spec (Cx.less (by assumption) (by decide)) I9 (PsNew.at (by assumption) le_new (T29.mono le_up)) ?hz ?_); (case hz => decide); clear I9; intro _ _ _ _ _ _))
      | ((with_reducible show wpAny _ _ _ _ _ _); walk1)
      | ((with_reducible show ite _ _ _); walk_at "ites")
      | ((with_reducible show And _ _); walk1)
      | (with_reducible refine Ent.next (by assumption) ?_)
      | (with_reducible refine Ent.ret (by assumption) ?_)
      | (with_reducible refine EntV.use (by assumption) ?_)
      | (with_reducible refine Ent.brk (by assumption) ?_)
      | (with_reducible refine Ent.cont (by assumption) ?_))
    rename Wk _ _ _ _ _ _ => W9
    rename Inv _ _ _ _ _ _ => I9
    refine loop_own ⟨W9, I9, G, hp, rfl, rfl, rfl, rfl, rfl⟩ (Nat.le_refl _) hfin (fun n9 m9 own9 st9 s9 J9 hn9 hf9 => ?_) (fun m9 own9 s9 J9 => ?_)
    · clear W9 I9 G hfin hgo hgb ret
      obtain ⟨W, I9, G, hpl, q1, q2, q3, q4, q5⟩ := J9
      have hgo := G.opens
      have hgb := G.b
      have hgh := G.half
      repeat' (first
        | ((with_reducible show wpAny _ _ (call (Value.ref _) _ _) _ _ _); (with_reducible rename Inv _ _ _ _ _ _ => I9); first
          | ((with_reducible rename Wk _ _ _ _ _ _ => W9); with_reducible refine' depth_spec (Cx.less (by assumption) (by decide)) I9 W9 ?hz ?_; (case hz => first | assumption | omega | (have q9 := step_opens c st9 limit; omega)); clear I9; intro _ _ _)
          | ((with_reducible rename Wk _ _ _ _ _ _ => W9); with_reducible refine' step_spec (Cx.less (by assumption) (by decide)) I9 W9 (by assumption) ?hp ?hz ?hb ?_; (case hp => exact cod_pos V'.ok (by omega) (by omega)); (case hz => omega); (case hb => assumption); clear I9 W9; intro _ _ _ _))
        | ((with_reducible show wpAny _ _ _ _ _ _); walk1)
        | ((with_reducible show ite _ _ _); walk_at "ites")
        | ((with_reducible show And _ _); walk1)
        | (with_reducible refine Ent.next (by assumption) ?_)
        | (with_reducible refine Ent.ret (by assumption) ?_)
        | (with_reducible refine EntV.use (by assumption) ?_)
        | (with_reducible refine Ent.brk (by assumption) ?_)
        | (with_reducible refine Ent.cont (by assumption) ?_))
      all_goals first
        | omega
        | exact rfl
        | (rename Inv _ _ _ _ _ _ => I9
           rename Wk _ _ _ _ _ _ => W9
           rename st9.place < limit => h9
           have on9 := step_on (c := c) h9
           have sf9 : stp tg sc st9 (st9.step c limit) = false := by
             unfold stp; simp only [*, Bool.false_and, Bool.true_and, Bool.and_false, Bool.and_true, Bool.or_false, Bool.false_or, Bool.or_true, Bool.true_or, Bool.or_self, Bool.and_self]
           exact ⟨_, _, _, ⟨W9, I9, G.step h9, on9.2, by with_unfolding_all exact q1, by with_unfolding_all exact q2, by with_unfolding_all exact q3, by with_unfolding_all exact q4, by with_unfolding_all exact q5⟩, by omega, (runS_go h9 hn9 sf9).symm.trans hf9⟩)
        | (rename Inv _ _ _ _ _ _ => I9
           rename Wk _ _ _ _ _ _ => W9
           rename st9.place < limit => h9
           have on9 := step_on (c := c) h9
           have sf9 : stp tg sc st9 (st9.step c limit) = true := by
             unfold stp; simp only [*, Bool.false_and, Bool.true_and, Bool.and_false, Bool.and_true, Bool.or_false, Bool.false_or, Bool.or_true, Bool.true_or, Bool.or_self, Bool.and_self]
           have e9 : st9.step c limit = fin := (runS_brk h9 hn9 sf9).symm.trans hf9
           exact ⟨_, _, ⟨W9.cast e9.symm, I9, e9 ▸ G.step h9, e9 ▸ on9.2, by with_unfolding_all exact q1, by with_unfolding_all exact q2, by with_unfolding_all exact q3, by with_unfolding_all exact q4, by with_unfolding_all exact q5⟩⟩)
        | (rename Inv _ _ _ _ _ _ => I9
           rename Wk _ _ _ _ _ _ => W9
           rename ¬ st9.place < limit => h9
           have e9 : st9 = fin := (runS_end h9).symm.trans hf9
           exact ⟨_, _, ⟨W9.cast e9.symm, I9, e9 ▸ G, e9 ▸ hpl, q1, q2, q3, q4, q5⟩⟩)
    · clear W9 I9 G hfin hgo hgb
      obtain ⟨W, I9, G, hpl, q1, q2, q3, q4, q5⟩ := J9
      have hgo := G.opens
      repeat' (first
        | ((with_reducible show wpAny _ _ (call (Value.ref _) _ _) _ _ _); (with_reducible rename Inv _ _ _ _ _ _ => I9); first
          | ((with_reducible rename Wk _ _ _ _ _ _ => W9); (with_reducible refine' walk_state_spec (Cx.less (by assumption) (by decide)) I9 W9 ?hz ?_); (case hz => omega); clear I9; intro _ _ _ _ _ _))
        | ((with_reducible show wpAny _ _ _ _ _ _); walk1)
        | ((with_reducible show ite _ _ _); walk_at "ites")
        | ((with_reducible show And _ _); walk1)
        | (with_reducible refine Ent.next (by assumption) ?_)
        | (with_reducible refine Ent.ret (by assumption) ?_)
        | (with_reducible refine EntV.use (by assumption) ?_)
        | (with_reducible refine Ent.brk (by assumption) ?_)
        | (with_reducible refine Ent.cont (by assumption) ?_))
      rename PsAt (inL _) _ _ _ => P9
      rename Inv _ _ _ _ _ _ => I9
      exact ⟨_, _ :: (_ ++ (_ ++ _)), [], I9.fin1, fun I8 => ret _ _ _ _ _ _ (.head _) (P9.mono fun _ _ h => .tail _ (List.mem_append_right _ (List.mem_append_left _ h))) I8⟩
end
end
/-! part N1 -/
end
section
set_option hygiene true
theorem fill_N1 (w : World) : hdKp w.params = hdKp w.params ∧ PySem.Challenge.rw_np0078_01 = PySem.Challenge.rw_np0078_01 := by
  k_fill
  exact ⟨rfl, rfl⟩
section
variable {z : Shared} {w : World} {M : Model} {A : Around} {env : Env} {g : Heap} {L : Addr} {n : Nat} {m : Str → Option Value} {s : Shared} {E : Value → Shared → Prop} {Q : Value → Shared → Prop} {D Cc : Addr} {v0 v1 v2 : Value} {k k' : Nat} {vs : List Value} {value slice : Expr} {u : Tok}
abbrev dkL (D Cc : Addr) (v0 v1 v2 : Value) (k k' : Nat) (vs : List Value) : Led := [(D, listOf (List.toArray [v0, v1, v2]) k), (Cc, listOf (List.toArray vs) k')]
theorem getD0 (I : Inv z g L m (dkL D Cc v0 v1 v2 k k' vs) s) (hs : subscripted slice false (.ref D) (.int 0 u) = operate [.ref D, .int 0 u] (getItem (.ref D) (.int 0 u))) (h : Q v0 s) : wpAny (model prg w) A (subscriptTail value slice (.ref D) (.int 0 u)) Q E s :=
  getL I (I.get (.head _)) (by decide) (by decide) rfl h hs
theorem getD1 (I : Inv z g L m (dkL D Cc v0 v1 v2 k k' vs) s) (hs : subscripted slice false (.ref D) (.int 1 u) = operate [.ref D, .int 1 u] (getItem (.ref D) (.int 1 u))) (h : Q v1 s) : wpAny (model prg w) A (subscriptTail value slice (.ref D) (.int 1 u)) Q E s :=
  getL I (I.get (.head _)) (by decide) (by decide) rfl h hs
theorem getD2 (I : Inv z g L m (dkL D Cc v0 v1 v2 k k' vs) s) (hs : subscripted slice false (.ref D) (.int 2 u) = operate [.ref D, .int 2 u] (getItem (.ref D) (.int 2 u))) (h : Q v2 s) : wpAny (model prg w) A (subscriptTail value slice (.ref D) (.int 2 u)) Q E s :=
  getL I (I.get (.head _)) (by decide) (by decide) rfl h hs
theorem getC0 {v : Value} (I : Inv z g L m (dkL D Cc v0 v1 v2 k k' (v :: vs)) s) (hs : subscripted slice false (.ref Cc) (.int 0 u) = operate [.ref Cc, .int 0 u] (getItem (.ref Cc) (.int 0 u))) (h : Q v s) : wpAny (model prg w) A (subscriptTail value slice (.ref Cc) (.int 0 u)) Q E s :=
  getL I (I.get (.tail _ (.head _))) (by decide) (by decide) rfl h hs
theorem setD2 {v : Value} {Q : Unit → Shared → Prop} (I : Inv z g L m (dkL D Cc v0 v1 v2 k k' vs) s) (h : ∀ s', Inv z g L m (dkL D Cc v0 v1 v k k' vs) s' → Q () s') : wpAny (model prg w) A (setItem (.ref D) (.int 2 u) v) Q E s :=
  setL (pre := []) (post := [(Cc, listOf (List.toArray vs) k')]) I (by decide) (by decide) (by simp) h
theorem setC0 {v v' : Value} {Q : Unit → Shared → Prop} (I : Inv z g L m (dkL D Cc v0 v1 v2 k k' (v :: vs)) s) (h : ∀ s', Inv z g L m (dkL D Cc v0 v1 v2 k k' (v' :: vs)) s' → Q () s') : wpAny (model prg w) A (setItem (.ref Cc) (.int 0 u) v') Q E s :=
  setL (pre := [(D, listOf (List.toArray [v0, v1, v2]) k)]) (post := []) I (by decide) (by decide) (by simp) fun s' J => h s' (by simpa using J)
theorem popMethC {pl : Sem Bool} {Q : Value × List Value → Shared → Prop} (I : Inv z g L m (dkL D Cc v0 v1 v2 k k' vs) s) (h : Q (.builtin "list.pop", [.ref Cc]) s) : wpAny (model prg w) A (getMethod (.ref Cc) "pop" pl) Q E s := popMeth I (.tail _ (.head _)) h
theorem popC {v : Value} (I : Inv z g L m (dkL D Cc v0 v1 v2 k k' (v :: vs)) s) (hz : vs.length ≤ 1000) (h : ∀ s', Inv z g L m (dkL D Cc v0 v1 v2 k (k' + 1) vs) s' → Q v s') : wpAny (model prg w) A (call (.builtin "list.pop") [.ref Cc, .int 0 u]) Q E s :=
  popL (pre := [(D, listOf (List.toArray [v0, v1, v2]) k)]) (post := []) I hz h
theorem neC {l : Addr} {ns : List Int} (C : Cx w A env g L n) (I : Inv z g L m (dkL D Cc v0 v1 v2 k k' vs) s) (hi : IntsAre vs ns) (hl : s.heap.IsList l ([] : List Value).toArray) (h : Q (.bool (!decide (ns = []))) s) :
    wpAny (model prg w) A (compareOp .NotEq (.ref Cc) (.ref l)) Q E s :=
  ne_intsK ⟨_, I.get (.tail _ (.head _)), rfl, k', rfl⟩ hi hl .nil (by have := C.units; omega) h
theorem neC_nil {l : Addr} (C : Cx w A env g L n) (I : Inv z g L m (dkL D Cc v0 v1 v2 k k' []) s) (hl : s.heap.IsList l ([] : List Value).toArray) (h : Q (.bool false) s) : wpAny (model prg w) A (compareOp .NotEq (.ref Cc) (.ref l)) Q E s := neC C I .nil hl h
theorem neC_cons {l : Addr} {v : Value} {i : Int} {ns : List Int} (C : Cx w A env g L n) (I : Inv z g L m (dkL D Cc v0 v1 v2 k k' (v :: vs)) s) (hi : IntsAre (v :: vs) (i :: ns)) (hl : s.heap.IsList l ([] : List Value).toArray) (h : Q (.bool true) s) : wpAny (model prg w) A (compareOp .NotEq (.ref Cc) (.ref l)) Q E s := neC C I hi hl h
end
theorem Inv.nilL {z g L m own s} (I : Inv z g L m (own ++ []) s) : Inv z g L m own s := by rw [List.append_nil] at I; exact I
theorem Inv.toNil {z g L m own s} (I : Inv z g L m own s) : Inv z g L m (own ++ []) s := by rw [List.append_nil]; exact I
end
section
set_option hygiene false
local macro_rules | `(tactic| walk_at "binaryOp Mult int int") => `(tactic| ((with_reducible rename Inv _ _ _ _ _ _ => I9); (with_reducible refine' bMul I9 ?hm ?_); (case hm => first | exact IntMulOk.of_left (by decide) | exact IntMulOk.of_left (intBits_le_64 (by omega) (by omega)) | exact IntMulOk.of_right (intBits_le_64 (by omega) (by omega))); clear I9; intro _ _ _))
local macro_rules | `(tactic| walk_at "binaryOp Mod int int") => `(tactic| ((with_reducible rename Inv _ _ _ _ _ _ => I9); (with_reducible refine' bModR I9 ?hb ?_); (case hb => first | decide | omega); clear I9; intro _ _ _ _ _ _))
local macro_rules | `(tactic| walk_at "binaryOp FloorDiv int int") => `(tactic| ((with_reducible rename Inv _ _ _ _ _ _ => I9); (with_reducible refine' bDivR I9 ?hb ?hs ?_); (case hb => first | decide | omega); (case hs => first | decide | omega); clear I9; intro _ _ _ _))
local macro_rules | `(tactic| walk_at "binaryOp Pow int int") => `(tactic| ((with_reducible rename Inv _ _ _ _ _ _ => I9); (with_reducible refine' bPow I9 ?hn ?hn2 ?ha ?_); (case hn => decide); (case hn2 => decide); (case ha => decide); clear I9; intro _ _ _))
local macro_rules | `(tactic| walk_at "call builtin:abs") => `(tactic| ((with_reducible rename Inv _ _ _ _ _ _ => I9); (with_reducible refine rAbs I9 ?_); clear I9; intro _ _ _))
section
local macro_rules | `(tactic| walk_at "subscriptTail") => `(tactic| ((with_reducible rename Inv _ _ _ _ _ _ => I9); (first | (with_reducible refine' getD0 I9 ?hs ?_) | (with_reducible refine' getD1 I9 ?hs ?_) | (with_reducible refine' getD2 I9 ?hs ?_) | (with_reducible refine' getC0 I9 ?hs ?_)); (case hs => with_unfolding_all rfl)))
local macro_rules | `(tactic| walk_at "newList") => `(tactic| ((with_reducible rename Inv _ _ _ _ _ _ => I9); with_reducible refine newNil I9 ?_; clear I9; intro _ _ _ _))
local macro_rules | `(tactic| walk_at "compareOp NotEq ref ref") => `(tactic| (first | (with_reducible refine neC_nil (by assumption) (by assumption) (by assumption) ?_) | (with_reducible refine neC_cons (by assumption) (by assumption) (by assumption) (by assumption) ?_)))
local macro_rules | `(tactic| walk_at "setItem ref") => `(tactic| ((with_reducible rename Inv _ _ _ _ _ _ => I9); (first | (with_reducible refine setD2 I9 ?_) | (with_reducible refine setC0 I9 ?_)); clear I9; intro _ _))
local macro_rules | `(tactic| walk_at "getMethod ref") => `(tactic| (with_reducible refine popMethC (by assumption) ?_))
local macro_rules | `(tactic| walk_at "call builtin:list.pop") => `(tactic| ((with_reducible rename Inv _ _ _ _ _ _ => I9); (with_reducible refine' popC I9 ?hz ?_); (case hz => omega); clear I9; intro _ _))
local macro_rules | `(tactic| walk_at "exec Assign") => `(tactic| (with_reducible refine' wpAny_Assign_Subscript ?_ ?q0; (case q0 => with_unfolding_all rfl)))
section
set_option hygiene true
section
variable {z : Shared} {w : World} {A : Around} {env : Env} {g : Heap} {L : Addr} {n : Nat} {m : Str → Option Value} {own rest : Led} {s : Shared} {E : Value → Shared → Prop} {x vw vt lo lc dr lt a : Addr} {sa : Int → Addr} {c : Ct} {st : St} {Q : Value → Shared → Prop}
theorem draw_spec {D : Addr} {many : Int} {u : Tok} {t : Nat} (C : Cx w A env g L 1) (I : Inv z g L m (own ++ rest) s) (W : Dk own D t) (hm : 0 < many) (hm2 : many < 1000) (ht : t ≤ 1000)
    (ret : ∀ own' r u s', Dk own' D (t + 1) → 0 ≤ r → r < many → Inv z g L m (own' ++ rest) s' → Q (.int r u) s') :
    wpAny (model prg w) A (call (.ref 502) [.ref D, .int many u]) Q E s := by
  refine' callO (binds := [(Str.ofString "deck", .ref D), (Str.ofString "many", .int many u)]) C I ?ho ?hcd ?hb ?hl ?c1 ?c2 ?c3 ?c4 ?_
  walk_at "enter"
  intro A' g' L' s₁ C' I' sb hr
  refine gen_post fun R9 hR9 => ?_
  clear C I
  obtain ⟨Cc, k, k', vs, ns, a, b, t1, t2, rfl, hi, hl, hb0, hb1⟩ := W
  have hil := hi.length
  have I' := I'.nilL
  have hi2 := hi
  cases hi with
  | nil =>
    repeat' (first
      | ((with_reducible show wpAny _ _ _ _ _ _); walk1)
      | ((with_reducible show ite _ _ _); walk_at "ites")
      | ((with_reducible show And _ _); walk1)
      | (with_reducible refine Ent.next (by assumption) ?_)
      | (with_reducible refine Ent.ret (by assumption) ?_)
      | (with_reducible refine EntV.use (by assumption) ?_)
      | (with_reducible refine Ent.brk (by assumption) ?_)
      | (with_reducible refine Ent.cont (by assumption) ?_))
    rename Inv _ _ _ _ _ _ => I9
    exact ⟨_, _, [], I9.toNil, fun I8 => ret _ _ _ _ ⟨_, _, _, _, _, _, _, _, _, rfl, .nil, by simp, by omega, by push_cast; omega⟩ (by assumption) (by assumption) I8⟩
  | cons i ti hi =>
    have hil9 := hi.length
    simp only [List.length_cons] at hl
    repeat' (first
      | ((with_reducible show wpAny _ _ _ _ _ _); walk1)
      | ((with_reducible show ite _ _ _); walk_at "ites")
      | ((with_reducible show And _ _); walk1)
      | (with_reducible refine Ent.next (by assumption) ?_)
      | (with_reducible refine Ent.ret (by assumption) ?_)
      | (with_reducible refine EntV.use (by assumption) ?_)
      | (with_reducible refine Ent.brk (by assumption) ?_)
      | (with_reducible refine Ent.cont (by assumption) ?_))
    · rename Inv _ _ _ _ _ _ => I9
      exact ⟨_, _, [], I9.toNil, fun I8 => ret _ _ _ _ ⟨_, _, _, _, _, _, _, _, _, rfl, hi, by omega, by omega, by push_cast; omega⟩ (by assumption) (by assumption) I8⟩
    · rename Inv _ _ _ _ _ _ => I9
      exact ⟨_, _, [], I9.toNil, fun I8 => ret _ _ _ _ ⟨_, _, _, _, _, _, _, _, _, rfl, .cons _ _ hi, by simp; omega, by omega, by push_cast; omega⟩ (by assumption) (by assumption) I8⟩
end
end
/-! part N2 -/
end
section
set_option hygiene true
theorem fill_N2 (w : World) : hdKp w.params = hdKp w.params ∧ PySem.Challenge.rw_np0078_01 = PySem.Challenge.rw_np0078_01 := by
  k_fill
  exact ⟨rfl, rfl⟩
section
variable {z : Shared} {w : World} {A : Around} {env env' : Env} {g : Heap} {L : Addr} {n : Nat} {m m₂ : Str → Option Value} {own : Led} {s : Shared} {E : Value → Shared → Prop} {Q : Value → Shared → Prop} {scope : Scope} {cl : List (Str × Addr)} {Cc : Addr} {oC : Obj} {x : Str} {pos : Pos} {v : Value} {M : Model}
theorem c_loc (I : Inv z g L m own s) (hm : (Cc, oC) ∈ own) (hC : LCg.NsObj oC m₂) (hx : m₂ x = some v) (hk : (compEnvC scope cl Cc env').scope.kind = .function) (hl : (compEnvC scope cl Cc env').kindOf x = some .local) (hd : (x == ("__debug__" : Str)) = false) (h : Q v s) :
    wpAny M A (eval (.Name x pos) (compEnvC scope cl Cc env')) Q E s := LCgL.ld_own I.N hm hC hx h hk hl hd
theorem c_glob (C : Cx w A env g L n) (I : Inv z g L m own s) (e : nsIn (hdKp w.params) mainGlobals x = some (some v)) (hg : env'.globals = mainGlobals)
    (hk : (compEnvC scope cl Cc env').scope.kind = .function) (hx : (compEnvC scope cl Cc env').kindOf x = some .globalImplicit) (hd : (x == ("__debug__" : Str)) = false) (h : Q v s) :
    wpAny M A (eval (.Name x pos) (compEnvC scope cl Cc env')) Q E s := by
  obtain ⟨_, _, _, _, _, _, mg, mb, _, X, T, _⟩ := C
  exact LCgL.ld_global I.F X T e h hg hk hx hd
theorem c_blt (C : Cx w A env g L n) (I : Inv z g L m own s) (e : nsIn (hdKp w.params) mainGlobals x = some none) (hv : bootBuiltins x = some v) (hn : x ≠ "__name__") (hg : env'.globals = mainGlobals) (hb : env'.builtins = builtinsNs)
    (hk : (compEnvC scope cl Cc env').scope.kind = .function) (hx : (compEnvC scope cl Cc env').kindOf x = some .globalImplicit) (hd : (x == ("__debug__" : Str)) = false) (h : Q v s) :
    wpAny M A (eval (.Name x pos) (compEnvC scope cl Cc env')) Q E s := by
  obtain ⟨_, _, _, _, _, _, mg, mb, _, X, T, _⟩ := C
  exact LCgL.ld_built I.F X T e hv hn h hg hb hk hx hd
end
theorem ints_at {vs : List Value} {ns : List Int} (h : IntsAre vs ns) {i : Nat} {v : Value} (e : vs.toArray[i]? = some v) : ∃ k t, v = .int k t := by
  induction h generalizing i with
  | nil => simp at e
  | cons k t r ih =>
    cases i with
    | zero => simp at e; exact ⟨k, t, e.symm⟩
    | succ i => exact ih (by simpa using e)
theorem len_take {ns : List Int} {k : Nat} : (ns.take k).length ≤ k := by simp; omega
end
section
set_option hygiene false
local macro_rules | `(tactic| walk_at "eval Name") => `(tactic| ((fail_if_success (with_reducible show wpAny _ _ (eval (Expr.Name _ _) (PySem.W.envX _ _ _ _ _ [])) _ _ _)); with_unfolding_all (first
  | refine c_loc (by assumption) (by first | exact .tail _ (.head _) | exact .head _) (by assumption) (by assumption) (by rfl) (by rfl) (by rfl) ?_
  | refine c_glob (by assumption) (by assumption) (by k_is) (by rfl) (by rfl) (by rfl) (by rfl) ?_
  | refine c_blt (by assumption) (by assumption) (by k_is) (by boot_by_name) (by decide) (by rfl) (by rfl) (by rfl) (by rfl) (by rfl) ?_)))
local macro_rules | `(tactic| walk_at "eval Slice") => `(tactic| with_reducible refine wpAny_Slice ?_)
local macro_rules | `(tactic| walk_at "call builtin:len") => `(tactic| ((with_reducible rename Inv _ _ _ _ _ _ => I9); (with_reducible refine' lenL I9 (I9.get ?hm) ?hz ?_); (case hm => (first | exact .head _ | exact .tail _ (.head _) | exact .tail _ (.tail _ (.head _)) | exact .tail _ (.tail _ (.tail _ (.head _))))); (case hz => first | assumption | (simp only [List.size_toArray]; omega)); clear I9; intro _ _ _))
local macro_rules | `(tactic| walk_at "call builtin:sum") => `(tactic| ((with_reducible rename Inv _ _ _ _ _ _ => I9); (with_reducible refine' rSum (Cx.noHandled (by assumption)) I9 ?hm ?hi ?_); (case hm => (first | exact .head _ | exact .tail _ (.head _) | exact .tail _ (.tail _ (.head _)) | exact .tail _ (.tail _ (.tail _ (.head _))))); (case hi => assumption); clear I9; intro _ _ _))
local macro_rules | `(tactic| walk_at "newList") => `(tactic| ((with_reducible rename Inv _ _ _ _ _ _ => I9); (with_reducible refine' newListO I9 ?hz ?_); (case hz => exact Nat.le_of_ble_eq_true rfl); clear I9; intro _ _ _))
local macro_rules | `(tactic| walk_at "exec Assign cons ListComp") => `(tactic| (refine' lca_pre ?_ ?qla ?qlb ?qlc ?qld ?qle; (case qla => with_unfolding_all rfl); (case qlb => with_unfolding_all rfl); (case qlc => with_unfolding_all rfl); (case qld => with_unfolding_all decide); (case qle => with_unfolding_all exact fun _ => rfl)))
local macro_rules | `(tactic| walk_at "eval ListComp") => `(tactic| (refine' lc_pre ?_ ?qlb ?qlc ?qld ?qle; (case qlb => with_unfolding_all rfl); (case qlc => with_unfolding_all rfl); (case qld => with_unfolding_all decide); (case qle => with_unfolding_all exact fun _ => rfl)))
section
local macro_rules | `(tactic| walk_at "subscriptTail") => `(tactic| ((with_reducible rename Inv _ _ _ _ _ _ => I9); (refine' sliceL (k := 24) I9 (by assumption) (by assumption) ?_ ?hs ?ht); (case hs => with_unfolding_all rfl); (case ht => intro _; with_unfolding_all rfl); clear I9; intro _ _ _ _ _))
section
set_option hygiene true
section
variable {z : Shared} {w : World} {A : Around} {env : Env} {g : Heap} {L : Addr} {n : Nat} {m : Str → Option Value} {own rest : Led} {s : Shared} {E : Value → Shared → Prop} {x vw vt lo lc dr lt a : Addr} {sa : Int → Addr} {c : Ct} {st : St} {Q : Value → Shared → Prop}
end
end
/-! part N3b -/
end
section
set_option hygiene true
theorem fill_N3b (w : World) : hdKp w.params = hdKp w.params ∧ PySem.Challenge.rw_np0078_01 = PySem.Challenge.rw_np0078_01 := by
  k_fill
  exact ⟨rfl, rfl⟩
/-- the script: a list of ints that stands before the run -/
def ScrAt (P : Reg) (l : Addr) (ns : List Int) : Prop := ∃ o vs k, P l o ∧ o.cls = .type "list" ∧ o.data = .seq (List.toArray vs) k ∧ IntsAre vs ns
theorem ScrAt.mono {P P' : Reg} {l ns} (h : ScrAt P l ns) (le : P.le P') : ScrAt P' l ns := let ⟨o, vs, k, e, a, b, i⟩ := h; ⟨o, vs, k, le _ _ e, a, b, i⟩
section
variable {z : Shared} {w : World} {A : Around} {g : Heap} {L : Addr} {m : Str → Option Value} {own : Led} {s : Shared} {E : Value → Shared → Prop} {Q : Value → Shared → Prop}
theorem sliceL2 {l : Addr} {ns : List Int} {k : Nat} {u : Tok} {value slice : Expr} (I : Inv z g L m own s) (hl : ScrAt (inGR g own) l ns) (hz : ns.length ≤ 100000)
    (h : ∀ D vs s', IntsAre vs (ns.take k) → Inv z g L m ((D, PySem.W.listOf (List.toArray vs) 0) :: own) s' → Q (.ref D) s')
    (hs : subscripted slice false (.ref l) (.ref s.heap.objs.size) = operate [.ref s.heap.objs.size, .ref l] (getItem (.ref l) (.ref s.heap.objs.size)))
    (ht : ∀ r, letTemporaryGo value (.ref l) r = pure ()) :
    wpAny (model prg w) A (subscriptTail value slice (.ref l) (.ref s.heap.objs.size)) Q E { s with heap := s.heap.push { cls := .type "slice", data := .fields #[.none, .int (k : Int) u, .none] } } := by
  obtain ⟨o, vs, k', e, hc, hd, hi⟩ := hl
  have e' := I.regR _ _ e
  refine slice_list I.F I.N ⟨_, e', hc, k', hd⟩ .none (.int _ _) (fun h' F' N' => ?_) hs ht (by rw [List.size_toArray, hi.length, PySem.sizeLine_eq]; omega)
  rw [slicePick_upto'] at N'
  refine h _ (vs.take k) _ (ints_take hi k) ⟨F', N', ?_, I.same⟩
  have hsz : s.heap.objs.size + 1 ∉ own.map (·.1) := fun q => by
    obtain ⟨p, hp, e⟩ := List.mem_map.mp q
    have := Heap.lt_size (I.N p hp).1
    have e' : p.1 = s.heap.objs.size + 1 := e
    rw [e'] at this
    exact Nat.lt_irrefl _ (Nat.lt_of_succ_lt this)
  exact List.nodup_cons.mpr ⟨hsz, I.nd⟩
end
end
section
set_option hygiene false
local macro_rules | `(tactic| walk_at "subscriptTail") => `(tactic| ((with_reducible rename Inv _ _ _ _ _ _ => I9); (refine' sliceL2 (k := 24) I9 (by assumption) (by assumption) ?_ ?hs ?ht); (case hs => with_unfolding_all rfl); (case ht => intro _; with_unfolding_all rfl); clear I9; intro _ _ _ _ _))
section
local macro_rules | `(tactic| walk_at "pad") => `(tactic| skip)
section
set_option hygiene true
section
variable {z : Shared} {w : World} {A : Around} {env : Env} {g : Heap} {L : Addr} {n : Nat} {m : Str → Option Value} {own rest : Led} {s : Shared} {E : Value → Shared → Prop} {x vw vt lo lc dr lt a : Addr} {sa : Int → Addr} {c : Ct} {st : St} {Q : Value → Shared → Prop}
theorem deck2_spec {sl : Addr} {ns : List Int} (C : Cx w A env g L 2) (I : Inv z g L m (rest) s) (V : ScrAt (inGR g rest) sl ns) (hz : ns.length ≤ 100000)
    (ret : ∀ own' D s', Dk own' D 0 → Inv z g L m (own' ++ rest) s' → Q (.ref D) s') :
    wpAny (model prg w) A (call (.ref 495) [.ref sl]) Q E s := by
  refine' callO (own := []) (binds := [(Str.ofString "script", .ref sl)]) C I ?ho ?hcd ?hb ?hl ?c1 ?c2 ?c3 ?c4 ?_
  walk_at "enter"
  intro A' g' L' s₁ C' I' sb hr
  refine gen_post fun R9 hR9 => ?_
  clear C I
  have V' : ScrAt (inGR g' ([] ++ [])) sl ns := V.mono fun a o h => .inl (le_down sb hr a o h)
  repeat' (first
    | ((with_reducible show wpAny _ _ _ _ _ _); walk1)
    | ((with_reducible show ite _ _ _); walk_at "ites")
    | ((with_reducible show And _ _); walk1)
    | (with_reducible refine Ent.next (by assumption) ?_)
    | (with_reducible refine Ent.ret (by assumption) ?_)
    | (with_reducible refine EntV.use (by assumption) ?_)
    | (with_reducible refine Ent.brk (by assumption) ?_)
    | (with_reducible refine Ent.cont (by assumption) ?_))
  rename Inv _ _ _ _ _ _ => I9
  rename IntsAre _ _ => hi9
  have hl9 := hi9.length
  have hl8 : (ns.take 24).length ≤ 24 := len_take
  refine src_list C'.noHandled I9 (.inr ⟨_, .head _, rfl, _, rfl⟩) fun It fp St oI s' ok hfp st0 I8 => ?_
  refine compA_own ok hfp I8 st0 (by rw [List.size_toArray, PySem.sizeLine_eq]; omega) (by decide) rfl rfl (fun i ys ow => ow = _ ∧ ys.length = i ∧ ∃ ms, IntsAre ys ms) ⟨rfl, rfl, [], .nil⟩ (fun i ys ow h => by rw [h.1]; exact .inr ⟨_, .head _, rfl, _, rfl⟩) (fun i v ys ow It oI Cc oC D m₂ s hlt hP hJ hC hx I7 => ?_) (fun Cc oC D ys ow s' hJ I7 => ?_)
  · clear I8 I9 ok
    obtain ⟨rfl, hl, ms, hm⟩ := hJ
    obtain ⟨k, t, rfl⟩ := ints_at hi9 hP
    repeat' (first
      | ((with_reducible show wpAny _ _ _ _ _ _); walk1)
      | ((with_reducible show ite _ _ _); walk_at "ites")
      | ((with_reducible show And _ _); walk1)
      | (with_reducible refine Ent.next (by assumption) ?_)
      | (with_reducible refine Ent.ret (by assumption) ?_)
      | (with_reducible refine EntV.use (by assumption) ?_)
      | (with_reducible refine Ent.brk (by assumption) ?_)
      | (with_reducible refine Ent.cont (by assumption) ?_))
    rename Inv _ _ _ _ _ _ => I9
    exact ⟨_, I9, rfl, by simp [hl], _, ints_append hm _ _⟩
  · clear I8 I9 ok
    obtain ⟨rfl, hl, ms, hm⟩ := hJ
    rw [List.size_toArray] at hl
    refine r_sto I7 rfl rfl fun s'' I6 => ⟨_, _, I6, fun s3 I5 => ?_⟩
    clear I6 I7
    have hz7 : ys.length ≤ 100000 := by omega
    repeat' (first
      | ((with_reducible show wpAny _ _ _ _ _ _); walk1)
      | ((with_reducible show ite _ _ _); walk_at "ites")
      | ((with_reducible show And _ _); walk1)
      | (with_reducible refine Ent.next (by assumption) ?_)
      | (with_reducible refine Ent.ret (by assumption) ?_)
      | (with_reducible refine EntV.use (by assumption) ?_)
      | (with_reducible refine Ent.brk (by assumption) ?_)
      | (with_reducible refine Ent.cont (by assumption) ?_))
    rename Inv _ _ _ _ _ _ => I9
    refine src_list C'.noHandled I9 (.inr ⟨_, .head _, rfl, _, rfl⟩) fun It fp St oI s' ok hfp st0 I8 => ?_
    refine compT_own ok hfp I8 st0 (by rw [List.size_toArray, PySem.sizeLine_eq]; omega) (by decide) rfl rfl (fun i ys ow => ow = _ ∧ ys.length ≤ i ∧ ∃ ms, IntsAre ys ms) ⟨rfl, Nat.le_refl _, [], .nil⟩ (fun i ys ow h => by rw [h.1]; exact .inr ⟨_, .head _, rfl, _, rfl⟩) (fun i v ys ow It oI Cc oC D m₂ s hlt hP hJ hC hx I7 => ?_) (fun D ys ow s' hJ I7 => ?_)
    · clear I8 I9 ok
      obtain ⟨rfl, hl, ms', hm'⟩ := hJ
      obtain ⟨k, t, rfl⟩ := ints_at hm hP
      repeat' (first
        | ((with_reducible show wpAny _ _ _ _ _ _); walk1)
        | ((with_reducible show ite _ _ _); walk_at "ites")
        | ((with_reducible show And _ _); walk1)
        | (with_reducible refine Ent.next (by assumption) ?_)
        | (with_reducible refine Ent.ret (by assumption) ?_)
        | (with_reducible refine EntV.use (by assumption) ?_)
        | (with_reducible refine Ent.brk (by assumption) ?_)
        | (with_reducible refine Ent.cont (by assumption) ?_))
      all_goals rename Inv _ _ _ _ _ _ => I9
      · exact ⟨_, I9, rfl, by simp; omega, _, ints_append hm' _ _⟩
      · exact ⟨_, I9, rfl, by omega, _, hm'⟩
    · clear I8 I9 ok
      obtain ⟨rfl, hl', ms', hm'⟩ := hJ
      rw [List.size_toArray] at hl'
      have hl3 := hm'.length
      repeat' (first
        | ((with_reducible show wpAny _ _ _ _ _ _); walk1)
        | ((with_reducible show ite _ _ _); walk_at "ites")
        | ((with_reducible show And _ _); walk1)
        | (with_reducible refine Ent.next (by assumption) ?_)
        | (with_reducible refine Ent.ret (by assumption) ?_)
        | (with_reducible refine EntV.use (by assumption) ?_)
        | (with_reducible refine Ent.brk (by assumption) ?_)
        | (with_reducible refine Ent.cont (by assumption) ?_))
      rename Inv _ _ _ _ _ _ => I9
      exact ⟨_, [_, _], _, I9, fun I8 => ret _ _ _ ⟨_, _, _, _, _, _, _, _, _, rfl, hm', by omega, by omega, by omega⟩ I8⟩
end
section
local macro_rules | `(tactic| walk_at "eval Name") => `(tactic| (refine r_loc (by assumption) (by with_unfolding_all assumption) (by rfl) (by rfl) (by rfl) ?_))
section
variable {z : Shared} {w : World} {A : Around} {env : Env} {g : Heap} {L : Addr} {n : Nat} {m : Str → Option Value} {own rest : Led} {s : Shared} {E : Value → Shared → Prop} {x vw vt lo lc dr lt a : Addr} {sa : Int → Addr} {c : Ct} {st : St} {Q : Value → Shared → Prop}
theorem many2_spec {sl : Addr} {ns : List Int} {u1 u2 : Tok} (C : Cx w A env g L 2) (I : Inv z g L m (rest) s) (V : ScrAt (inGR g rest) sl ns) (hz : ns.length ≤ 100000)
    (ret : ∀ r u s', 5 ≤ r → r ≤ 12 → Inv z g L m rest s' → Q (.int r u) s') :
    wpAny (model prg w) A (call (.ref 507) [.ref sl, .int 5 u1, .int 12 u2]) Q E s := by
  refine' callO (own := []) (binds := [(Str.ofString "script", .ref sl), (Str.ofString "least", .int 5 u1), (Str.ofString "most", .int 12 u2)]) C I ?ho ?hcd ?hb ?hl ?c1 ?c2 ?c3 ?c4 ?_
  walk_at "enter"
  intro A' g' L' s₁ C' I' sb hr
  refine gen_post fun R9 hR9 => ?_
  clear C I
  have V' : ScrAt (inGR g' ([] ++ [])) sl ns := V.mono fun a o h => .inl (le_down sb hr a o h)
  repeat' (first
    | ((with_reducible show wpAny _ _ _ _ _ _); walk1)
    | ((with_reducible show ite _ _ _); walk_at "ites")
    | ((with_reducible show And _ _); walk1)
    | (with_reducible refine Ent.next (by assumption) ?_)
    | (with_reducible refine Ent.ret (by assumption) ?_)
    | (with_reducible refine EntV.use (by assumption) ?_)
    | (with_reducible refine Ent.brk (by assumption) ?_)
    | (with_reducible refine Ent.cont (by assumption) ?_))
  rename Inv _ _ _ _ _ _ => I9
  rename IntsAre _ _ => hi9
  have hl9 := hi9.length
  have hl8 : (ns.take 24).length ≤ 24 := len_take
  refine src_list C'.noHandled I9 (.inr ⟨_, .head _, rfl, _, rfl⟩) fun It fp St oI s' ok hfp st0 I8 => ?_
  refine compU_own ok hfp I8 st0 (by rw [List.size_toArray, PySem.sizeLine_eq]; omega) (by decide) rfl rfl (fun i ys ow => ow = _ ∧ ys.length = i ∧ ∃ ms, IntsAre ys ms) ⟨rfl, rfl, [], .nil⟩ (fun i ys ow h => by rw [h.1]; exact .inr ⟨_, .head _, rfl, _, rfl⟩) (fun i v ys ow It oI Cc oC D m₂ s hlt hP hJ hC hx I7 => ?_) (fun D ys ow s' hJ I7 => ?_)
  · clear I8 I9 ok
    obtain ⟨rfl, hl, ms, hm⟩ := hJ
    obtain ⟨k, t, rfl⟩ := ints_at hi9 hP
    repeat' (first
      | ((with_reducible show wpAny _ _ _ _ _ _); walk1)
      | ((with_reducible show ite _ _ _); walk_at "ites")
      | ((with_reducible show And _ _); walk1)
      | (with_reducible refine Ent.next (by assumption) ?_)
      | (with_reducible refine Ent.ret (by assumption) ?_)
      | (with_reducible refine EntV.use (by assumption) ?_)
      | (with_reducible refine Ent.brk (by assumption) ?_)
      | (with_reducible refine Ent.cont (by assumption) ?_))
    rename Inv _ _ _ _ _ _ => I9
    exact ⟨_, I9, rfl, by simp [hl], _, ints_append hm _ _⟩
  · clear I8 I9 ok
    obtain ⟨rfl, hl, ms, hm⟩ := hJ
    repeat' (first
      | ((with_reducible show wpAny _ _ _ _ _ _); walk1)
      | ((with_reducible show ite _ _ _); walk_at "ites")
      | ((with_reducible show And _ _); walk1)
      | (with_reducible refine Ent.next (by assumption) ?_)
      | (with_reducible refine Ent.ret (by assumption) ?_)
      | (with_reducible refine EntV.use (by assumption) ?_)
      | (with_reducible refine Ent.brk (by assumption) ?_)
      | (with_reducible refine Ent.cont (by assumption) ?_))
    rename Inv _ _ _ _ _ _ => I9
    refine while_m I9 (fun k m' => ∃ r sz t1 t2, m' (Str.ofString "many") = some (.int r t1) ∧ m' (Str.ofString "size") = some (.int sz t2) ∧ m' (Str.ofString "most") = some (.int 12 u2) ∧ 5 ≤ r ∧ r ≤ 12 ∧ (12 - r).toNat ≤ k) 7 ⟨_, _, _, _, rfl, rfl, rfl, by decide, by decide, by decide⟩ (fun k9 m9 s9 hJ I9 => ?_)
    obtain ⟨r, sz, t1, t2, q1, q2, q3, h5, h12, hk⟩ := hJ
    repeat' (first
      | ((with_reducible show wpAny _ _ _ _ _ _); walk1)
      | ((with_reducible show ite _ _ _); walk_at "ites")
      | ((with_reducible show And _ _); walk1)
      | (with_reducible refine Ent.next (by assumption) ?_)
      | (with_reducible refine Ent.ret (by assumption) ?_)
      | (with_reducible refine EntV.use (by assumption) ?_)
      | (with_reducible refine Ent.brk (by assumption) ?_)
      | (with_reducible refine Ent.cont (by assumption) ?_))
    all_goals rename Inv _ _ _ _ _ _ => I9
    · exact ⟨(12 - (r + 1)).toNat, _, by omega, ⟨_, _, _, _, by with_unfolding_all rfl, by with_unfolding_all rfl, by with_unfolding_all exact q3, by omega, by omega, Nat.le_refl _⟩, I9⟩
    all_goals exact ⟨_, [], _, I9, fun I8 => ret _ _ _ h5 h12 I8⟩
end
end
end
end
/-! part N4 -/
end
section
set_option hygiene true
theorem fill_N4 (w : World) : hdKp w.params = hdKp w.params ∧ PySem.Challenge.rw_np0078_01 = PySem.Challenge.rw_np0078_01 := by
  k_fill
  exact ⟨rfl, rfl⟩
section
variable {z : Shared} {w : World} {A : Around} {env env' : Env} {g : Heap} {L : Addr} {n : Nat} {m m₂ : Str → Option Value} {own rest : Led} {s : Shared} {E : Value → Shared → Prop} {Q : Value → Shared → Prop} {scope : Scope} {cl : List (Str × Addr)} {Cc c : Addr} {oC o : Obj} {x : Str} {pos : Pos} {v : Value} {M : Model}
theorem c_cell (I : Inv z g L m own s) (hc : cl.lookup x = some c) (hm : (c, o) ∈ own) (hd : o.data = .cell (some v)) (hk : (compEnvC scope cl Cc env').scope.kind = .function) (hx : (compEnvC scope cl Cc env').kindOf x = some .cell) (hb : (x == ("__debug__" : Str)) = false) (h : Q v s) :
    wpAny M A (eval (.Name x pos) (compEnvC scope cl Cc env')) Q E s := wpAny_Name (wpAny_loadName_cell hk hx hc ⟨o, (I.N _ hm).1, hd⟩ h) hb
theorem n_cell {cn : Str} {cs : Scope} {a : Addr} {ccd : Value} (I : Inv z g L m own s) (hc : cl.lookup x = some c) (hm : (c, o) ∈ own) (hd : o.data = .cell (some v)) (hk : cs.kind = .function) (hx : (envX cn cs L a ccd cl).kindOf x = some .cell) (hb : (x == ("__debug__" : Str)) = false) (h : Q v s) :
    wpAny M A (eval (.Name x pos) (envX cn cs L a ccd cl)) Q E s := nameX_C I.N hc hm hd h hk hx hb
theorem rItemS {x : Str} {t u : Tok} {i : Int} {value slice : Expr} (I : Inv z g L m own s) (h0 : 0 ≤ i) (h1 : i < (x.length : Int)) (hz : x.length ≤ 1000) (hs : subscripted slice false (.str x t) (.int i u) = operate [.str x t, .int i u] (getItem (.str x t) (.int i u))) (ht : ∀ r, letTemporaryGo value (.str x t) r = pure ())
    (h : ∀ s' v, Inv z g L m own s' → Q (.str (Txt.item x i) v) s') : wpAny (model prg w) A (subscriptTail value slice (.str x t) (.int i u)) Q E s :=
  item_str (by unfold fitsSsize; simp; omega) (by omega) h1 (fun _ => h _ _ (I.tok _)) hs ht
theorem rSliceS {x : Str} {t u : Tok} {i : Int} {value slice : Expr} (I : Inv z g L m own s) (hz : x.length ≤ 1000) (hs : subscripted slice false (.str x t) (.ref s.heap.objs.size) = operate [.ref s.heap.objs.size, .str x t] (getItem (.str x t) (.ref s.heap.objs.size))) (ht : ∀ r, letTemporaryGo value (.str x t) r = pure ())
    (h : ∀ s' v, Inv z g L m own s' → Q (.str (Txt.slice x (some i) none) v) s') :
    wpAny (model prg w) A (subscriptTail value slice (.str x t) (.ref s.heap.objs.size)) Q E { s with heap := s.heap.push { cls := .type "slice", data := .fields #[.int i u, .none, .none] } } :=
  slice_strN_sn I.F I.N (fun h' t' k F' N' => h _ _ ⟨F', N', I.nd, I.same⟩) hs ht (by rw [PySem.sizeLine_eq]; omega)
theorem rLenS {x : Str} {t : Tok} (I : Inv z g L m own s) (hz : x.length ≤ 1000) (h : ∀ s' u, Inv z g L m own s' → Q (.int (x.length : Int) u) s') : wpAny (model prg w) A (call (.builtin "len") [.str x t]) Q E s :=
  PyProof.Rows.len_str (by omega) (h _ (s.toks + 1) (I.tok _))
theorem rJoin {l : Addr} {vs : List Value} {ys : List Str} {x : Str} {t : Tok} {k : Nat} (I : Inv z g L m own s) (hm : (l, listOf vs.toArray k) ∈ own) (hi : StrsAre vs ys) (hx : x.length ≤ 64) (hz : (ys.map (·.length)).sum + ys.length * 64 ≤ 16777216) (h : ∀ s' u fl, Inv z g L m own s' → Q (.str fl u) s') :
    wpAny (model prg w) A (call (.builtin "str.join") [.str x t, .ref l]) Q E s :=
  join_listC ⟨_, I.get hm, rfl, k, rfl⟩ hi hx hz fun t' k' => h _ _ _ (I.tok k')
theorem rAll {l : Addr} {vs : List Value} {bs : List Bool} {k : Nat} (hh : A.handled = none) (I : Inv z g L m own s) (hm : (l, listOf vs.toArray k) ∈ own) (hi : LSm.BoolsAre vs bs) (h : ∀ s', Inv z g L m own s' → Q (.bool (bs.all id)) s') :
    wpAny (model prg w) A (call (.builtin "all") [.ref l]) Q E s :=
  LSm.all_bools I.F I.N hh ⟨_, I.get hm, rfl, k, rfl⟩ hi fun h' tk F' N' => h _ ⟨F', N', I.nd, I.same⟩
theorem rNewDict {env : Env} (C : Cx w A env' g L n) (I : Inv z g L m own s) (h : ∀ d o s', Inv z g L m ((d, o) :: own) s' → (d == sysModules) = false → o.IsDictOf (intK w) [] → Q (.ref d) s') : wpAny (model prg w) A (eval (.Dict [] [] pos) env) Q E s := by
  obtain ⟨_, _, _, _, _, _, mg, mb, _, X, T, _⟩ := C
  refine newDict_K I.F I.N T.nolimit fun d h' o F' N' lt lo _ _ hi _ => h d o _ ⟨F', N', ?_, I.same⟩ lo hi
  rw [List.map_cons]
  refine List.nodup_cons.mpr ⟨fun q => ?_, I.nd⟩
  obtain ⟨p, hp, e⟩ := List.mem_map.mp q
  have := lt p hp
  rw [e] at this
  exact Nat.lt_irrefl _ this
theorem updF_mid {d : Addr} {o : Obj} : ∀ (pre post : Led), (∀ p ∈ pre, p.1 ≠ d) → (∀ p ∈ post, p.1 ≠ d) → UpdF d o (pre ++ (d, o) :: post) (fun o' => pre ++ (d, o') :: post)
  | [], _, _, h => .head h
  | p :: pre, post, h1, h2 => .tail (h1 p (.head _)) (updF_mid pre post (fun q hq => h1 q (.tail _ hq)) h2)
theorem rDictSet {pre post : Led} {d : Addr} {kvs : List (Int × Value)} {k : Int} {u : Tok} {Q : Unit → Shared → Prop} (I : Inv z g L m (pre ++ (d, o) :: post) s) (hd : o.IsDictOf (intK w) kvs) (hz : kvs.length ≤ 1000)
    (h : ∀ o' s', o'.IsDictOf (intK w) (stored kvs k v) → Inv z g L m (pre ++ (d, o') :: post) s' → Q () s') : wpAny (model prg w) A (setItem (.ref d) (.int k u) v) Q E s := by
  have q := nd_mid I.nd
  exact kda_set I.F I.N (updF_mid pre post q.1 q.2) hd (intKind_is _ _ _ _) (by rw [PySem.sizeLine_eq]; omega) fun h' o' F' N' hd' => h o' _ hd' ⟨F', N', nd_chg I.nd, I.same⟩
theorem joinMeth {x : Str} {t : Tok} {pl : Sem Bool} {Q : Value × List Value → Shared → Prop} (h : Q (.builtin "str.join", [.str x t]) s) : wpAny (model prg w) A (getMethod (.str x t) "join" pl) Q E s := GM.join h
end
abbrev FLAGS : Str := Str.ofString "1234bcnp"
abbrev KINDS : Str := Str.ofString " w_.()'\"\\/$<>@!|"
def inS' (x y : Str) : Bool := !(Builtin.Str.occurrences x y 0 x.length 1).isEmpty
def txtOk (x : Str) : Bool := (x == Str.ofString "") == false && decide (2 ≤ x.length) && decide (x.length ≤ 100) && (Txt.item x 0 == Str.ofString "-") == false && (Txt.item x 1 == Str.ofString " ") && inS' KINDS (Txt.item x 0) && ((Txt.slice x (some 2) none).cps.all (fun c => decide (c < 128)) && decide ((Txt.slice x (some 2) none).cps.size ≤ 100) && (Txt.slice x (some 2) none).cps.all (fun c => inS' FLAGS ⟨#[c]⟩)) && (Txt.item x 0 == Str.ofString "@") == false
end
section
set_option hygiene false
local macro_rules | `(tactic| walk_at "eval Name") => `(tactic| ((fail_if_success (with_reducible show wpAny _ _ (eval (Expr.Name _ _) (PySem.W.envX _ _ _ _ _ [])) _ _ _)); with_unfolding_all (first
  | refine c_cell (by assumption) (by rfl) (by first | exact .tail _ (.tail _ (.tail _ (.head _))) | exact .tail _ (.tail _ (.tail _ (.tail _ (.head _))))) (by assumption) (by rfl) (by rfl) (by rfl) ?_
  | refine n_cell (by assumption) (by rfl) (by first | exact .head _ | exact .tail _ (.head _)) (by assumption) (by rfl) (by rfl) (by rfl) ?_)))
local macro_rules | `(tactic| walk_at "eval ListComp") => `(tactic| (refine' lc_pre ?_ ?qlb ?qlc ?qld ?qle; (case qlb => with_unfolding_all rfl); (case qlc => with_unfolding_all rfl); (case qld => with_unfolding_all decide); (case qle => with_unfolding_all exact fun _ => rfl)))
local macro_rules | `(tactic| walk_at "getMethod str") => `(tactic| (with_reducible refine joinMeth ?_))
section
local macro_rules | `(tactic| walk_at "call builtin:str.join") => `(tactic| ((with_reducible rename Inv _ _ _ _ _ _ => I9); (with_reducible refine' rJoin I9 ?hm ?hi ?hx ?hz ?_); (case hm => (first | exact .head _ | exact .tail _ (.head _) | exact .tail _ (.tail _ (.head _)) | exact .tail _ (.tail _ (.tail _ (.head _))))); (case hi => assumption); (case hx => decide); (case hz => omega); clear I9; intro _ _ _ _))
local macro_rules | `(tactic| walk_at "call builtin:all") => `(tactic| ((with_reducible rename Inv _ _ _ _ _ _ => I9); (with_reducible refine' rAll (Cx.noHandled (by assumption)) I9 ?hm ?hi ?_); (case hm => (first | exact .head _ | exact .tail _ (.head _) | exact .tail _ (.tail _ (.head _)) | exact .tail _ (.tail _ (.tail _ (.head _))))); (case hi => assumption); clear I9; intro _ _))
local macro_rules | `(tactic| walk_at "call builtin:len") => `(tactic| ((with_reducible rename Inv _ _ _ _ _ _ => I9); (with_reducible refine' rLenS I9 ?hz ?_); (case hz => omega); clear I9; intro _ _ _))
local macro_rules | `(tactic| walk_at "compareOp NotIn str str") => `(tactic| (with_reducible refine PyProof.Rows.notIn_str ?_))
local macro_rules | `(tactic| walk_at "subscriptTail") => `(tactic| ((with_reducible rename Inv _ _ _ _ _ _ => I9); (first | (with_reducible refine' rItemS I9 ?h0 ?h1 ?hz ?hs ?ht ?_) | (refine' rSliceS I9 ?hz ?hs ?ht ?_)); (try (case h0 => decide)); (try (case h1 => omega)); (case hz => omega); (case hs => with_unfolding_all rfl); (case ht => intro _; with_unfolding_all rfl); clear I9; intro _ _ _))
local macro_rules | `(tactic| walk_at "subscriptTail Name Constant str int") => `(tactic| ((with_reducible rename Inv _ _ _ _ _ _ => I9); (first | (with_reducible refine' rItemS I9 ?h0 ?h1 ?hz ?hs ?ht ?_) | (refine' rSliceS I9 ?hz ?hs ?ht ?_)); (try (case h0 => decide)); (try (case h1 => omega)); (case hz => omega); (case hs => with_unfolding_all rfl); (case ht => intro _; with_unfolding_all rfl); clear I9; intro _ _ _))
section
set_option hygiene true
section
variable {z : Shared} {w : World} {A : Around} {env : Env} {g : Heap} {L : Addr} {n : Nat} {m : Str → Option Value} {own rest : Led} {s : Shared} {E : Value → Shared → Prop} {x vw vt lo lc dr lt a : Addr} {sa : Int → Addr} {c : Ct} {st : St} {Q : Value → Shared → Prop}
theorem sorted_spec {text : Str} {u : Tok} (C : Cx w A env g L 1) (I : Inv z g L m rest s) (ret : ∀ fl u s', Inv z g L m rest s' → Q (.str fl u) s') :
    wpAny (model prg w) A (call (.ref 160) [.str text u]) Q E s := by
  refine' callOC (own := []) (binds := [(Str.ofString "text", .str text u)]) C I ?ho ?hcd ?hb ?hl ?hnd ?c1 ?c2 ?c3 ?_
  (case ho => k_is); (case hcd => k_is); (case hb => exact BindsTo.of_eq rfl); (case hl => rfl); (case hnd => decide); (case c1 => exact rfl); (case c2 => exact rfl); (case c3 => exact rfl)
  intro A' g' L' s₁ cells C' I' hcl sb hr
  clear C I
  obtain ⟨oc, rfl, hd9⟩ := CellsAre.one hcl
  have hd8 : oc.data = .cell (some (.str text u)) := hd9
  repeat' (first
    | ((with_reducible show wpAny _ _ _ _ _ _); walk1)
    | ((with_reducible show ite _ _ _); walk_at "ites")
    | ((with_reducible show And _ _); walk1)
    | (with_reducible refine Ent.next (by assumption) ?_)
    | (with_reducible refine Ent.ret (by assumption) ?_)
    | (with_reducible refine EntV.use (by assumption) ?_)
    | (with_reducible refine Ent.brk (by assumption) ?_)
    | (with_reducible refine Ent.cont (by assumption) ?_))
  rename Inv _ _ _ _ _ _ => I9
  refine src_str C'.noHandled I9 (by decide +kernel) fun It fp St oI s' ok hfp st0 I8 => ?_
  refine compT_own ok hfp I8 st0 (by rw [PySem.sizeLine_eq]; decide) (by decide) rfl rfl (fun i ys ow => ow = _ ∧ ∃ xs, StrsAre ys xs ∧ xs.length ≤ i ∧ (xs.map (·.length)).sum ≤ i) ⟨rfl, [], .nil, Nat.le_refl _, Nat.le_refl _⟩ (fun _ _ _ _ => trivial) (fun i v ys ow It oI Cc oC D m₂ s hlt hP hJ hC hx I7 => ?_) (fun D ys ow s' hJ I7 => ?_)
  · clear I8 I9 ok
    obtain ⟨rfl, xs, hxs, hl, hsum⟩ := hJ
    obtain ⟨cc, uu, hcc, rfl⟩ := hP
    repeat' (first
      | ((with_reducible show wpAny _ _ _ _ _ _); walk1)
      | ((with_reducible show ite _ _ _); walk_at "ites")
      | ((with_reducible show And _ _); walk1)
      | (with_reducible refine Ent.next (by assumption) ?_)
      | (with_reducible refine Ent.ret (by assumption) ?_)
      | (with_reducible refine EntV.use (by assumption) ?_)
      | (with_reducible refine Ent.brk (by assumption) ?_)
      | (with_reducible refine Ent.cont (by assumption) ?_))
    all_goals rename Inv _ _ _ _ _ _ => I9
    all_goals first
      | exact ⟨_, I9, rfl, xs ++ [⟨#[cc]⟩], strsAre_append hxs (.cons _ _ .nil), by rw [List.length_append, List.length_singleton]; omega, by rw [List.map_append, List.sum_append]; show _ + (1 + 0) ≤ _; omega⟩
      | exact ⟨_, I9, rfl, xs, hxs, by omega, by omega⟩
  · clear I8 I9 ok
    obtain ⟨rfl, xs, hxs, hl, hsum⟩ := hJ
    have hn9 : (Str.ofString "1234bcnp").cps.size = 8 := by decide
    repeat' (first
      | ((with_reducible show wpAny _ _ _ _ _ _); walk1)
      | ((with_reducible show ite _ _ _); walk_at "ites")
      | ((with_reducible show And _ _); walk1)
      | (with_reducible refine Ent.next (by assumption) ?_)
      | (with_reducible refine Ent.ret (by assumption) ?_)
      | (with_reducible refine EntV.use (by assumption) ?_)
      | (with_reducible refine Ent.brk (by assumption) ?_)
      | (with_reducible refine Ent.cont (by assumption) ?_))
    rename Inv _ _ _ _ _ _ => I9
    exact ⟨_, [], _, I9, fun I8 => ret _ _ _ I8⟩
end
end
/-! part Lam -/
section
set_option hygiene true
theorem callLam {z : Shared} {w : World} {A : Around} {env : Env} {g : Heap} {L : Addr} {n : Nat} {m : Str → Option Value} {rest : Led} {s : Shared} {R : Result → Shared → Prop}
    {name qual : Str} {params : Arguments} {body : Expr} {scope : Scope} {cl : List (Str × Addr)} {pm ctv : Value} {c' f : Addr} {pos : List Value} {kw : List (Str × Value)} {binds : List (Str × Value)}
    (C : Cx w A env g L (n + 1)) (I : Inv z g L m rest s) (ho : s.heap.get? f = some (kla_obj name qual params body scope cl pm c' ctv)) (hcd : s.heap.CodeRec (.ref c') qual)
    (hbind : bindArgs (kla_fn name qual params body scope cl pm (.ref c') ctv) ⟨pos, kw⟩ = pure binds) (hloc : ∀ y ∈ binds, scope.names.lookup y.1 = some .local)
    (hco : scope.isCoroutine = false) (hgen : scope.isGenerator = false) (hk : scope.kind = .function) (hcell : ∀ x ∈ scope.names, x.2 ≠ .cell)
    (h : ∀ A' g' L' s₁, Cx w A' (envX qual scope L' f (.ref c') cl) g' L' n → Inv z g' L' (fun y => binds.reverse.lookup y) [] s₁ → Sub g g' → (∀ p ∈ rest, g'.get? p.1 = some p.2) →
      wpAny (model prg w) A' (eval body (envX qual scope L' f (.ref c') cl)) (fun v s' => Leave z g L m rest g' L' (fun v s'' => R (.ok (.ret v)) s'') v s') (fun _ _ => False) s₁) :
    codeAny (model prg w) A (.call (.ref f) ⟨pos, kw⟩) R s := by
  obtain ⟨A₀, base, outer, pp, ls, mean, mg, mb, B, X, T, hA, hf, hke, hh, hd, hu⟩ := C
  obtain ⟨F, N, nd, same⟩ := I
  have X' := X.keeps F.keep
  refine kla_callFunE (by omega) ho rfl hco hgen rfl hcd ?_
  rw [hbind]
  refine wpAny_pure (wpAny_newFunctionEnv hcell hloc (fun h₁ hns hsb => ⟨(T.nolimit.keeps F.keep).fresh _ hsb, ?_⟩) hk)
  show codeAny _ _ (.expr body (envX qual scope s.heap.objs.size f (.ref c') cl)) _ _
  have hk₁ : ∀ b o, s.heap.get? b = some o → h₁.get? b = some o := fun b o e => hsb.extBut b o (Nat.ne_of_lt (Heap.lt_size e)) (Heap.get?_push_of_some _ e)
  obtain ⟨oL, es, ep, hL, hLd, hLk, hLf⟩ := F.ns
  have B₁ := pushX B F hf hke
  have B₂ : Below A base (env :: outer) s.heap := ⟨hA, fun b o e => F.keep b o (B.stays b o e), B₁.frames⟩
  refine kla_codeExpr (wpAny_mono (h (A.deeper (envX qual scope s.heap.objs.size f (.ref c') cl)) s.heap s.heap.objs.size { s with heap := h₁, toks := _ }
    ⟨A, base, env :: outer, pp, ls, mean, mg, mb, B₂, X', T.keeps F.keep, Around.frames_deeper hA, rfl, hk, hh, by rw [depth_deeper]; omega, by rw [units_deeper]; omega⟩
    ⟨⟨hns, hk₁, Nat.le_refl _⟩, (fun p hp => nomatch hp), List.nodup_nil, same⟩ F.keep (fun p hp => (N p hp).1)) (fun v s' hl => ?_) (fun _ _ y => y.elim))
  obtain ⟨m', own', more, J, k⟩ := hl
  obtain ⟨F', N', nd'', same'⟩ := J.take
  refine k ⟨⟨⟨oL, es, ep, F'.keep L oL hL, hLd, hLk, hLf⟩, fun b o e => F'.keep b o (F.keep b o e), F.above⟩, ?_, ?_, same'⟩
  · intro p hp
    rcases List.mem_append.mp hp with hp | hp
    · refine ⟨(N' p hp).1, fun q => ?_, ?_⟩
      · have := (N' p hp).2.2; rw [q, hL] at this; cases this
      · cases q : g.get? p.1 with
        | none => rfl
        | some o => have := (N' p hp).2.2; rw [F.keep _ _ q] at this; cases this
    · exact ⟨F'.keep _ _ (N p hp).1, (N p hp).2⟩
  · rw [List.map_append]
    refine List.nodup_append.mpr ⟨nd'', nd, fun a ha b hb e => ?_⟩
    subst e
    obtain ⟨p, hp, rfl⟩ := List.mem_map.mp ha
    obtain ⟨q, hq, e⟩ := List.mem_map.mp hb
    have := (N' p hp).2.2
    rw [← e, (N q hq).1] at this; cases this
section
variable {z : Shared} {w : World} {M : Model} {A : Around} {env : Env} {g : Heap} {L : Addr} {n : Nat} {m : Str → Option Value} {own rest pre post : Led} {s : Shared} {E : Value → Shared → Prop} {Q : Value → Shared → Prop}
theorem lam_new {cn : Str} {cs : Scope} {a : Addr} {cl : List (Str × Addr)} {name qual : Str} {params : Arguments} {body : Expr} {scope : Scope} {ps : Array Value} {pos : Pos} {firstLine : Nat} {clos : List (Str × Addr)} {P c : Addr}
    (C : Cx w A env g L n) (I : Inv z g L m (pre ++ (P, tabObj ps) :: post) s) (hC : CodeHd g c P) (ht : TriplesOk ps.toList) (hnf : codeAmong pos ps.toList = none) (hcl : closureFor scope (envX cn cs L a (.ref c) cl) = pure clos)
    (h : ∀ f c' oc vs t pm ctv s', oc.data = .fields vs → vs[1]? = some (.str qual t) →
      Inv z g L m ((f, kla_obj name qual params body scope clos pm c' ctv) :: (c', oc) :: (pre ++ (P, tabObj (ps ++ #[rawInt pos.line, rawInt pos.col, .ref c'])) :: post)) s' → Q (.ref f) s') :
    wpAny M A (makeFunction name qual params (.expr body) scope (envX cn cs L a (.ref c) cl) [] [] [] pos firstLine) Q E s := by
  obtain ⟨A₀, base, outer, pp, ls, mean, mg, mb, B, X, T, hA, hf, hke, hh, hd, hu⟩ := C
  have q := nd_mid I.nd
  refine kla_nest I.F I.N T hC rfl (updF_mid pre post q.1 q.2) ht hnf hcl fun f c' oc vs t ctv h' tk F' N' d1 d2 l1 l2 => h f c' oc vs t _ ctv _ d1 d2 ⟨F', N', ?_, I.same⟩
  have nd2 := nd_chg (o' := tabObj (ps ++ #[rawInt pos.line, rawInt pos.col, .ref c'])) I.nd
  have lt : ∀ p ∈ pre ++ (P, tabObj (ps ++ #[rawInt pos.line, rawInt pos.col, Value.ref c'])) :: post, p.1 < c' := fun p hp => by
    rcases List.mem_append.mp hp with hp | hp
    · exact l1 p (List.mem_append_left _ hp)
    · rcases List.mem_cons.mp hp with rfl | hp
      · exact l1 (P, tabObj ps) (List.mem_append_right _ (.head _))
      · exact l1 p (List.mem_append_right _ (.tail _ hp))
  rw [List.map_cons, List.map_cons]
  refine List.nodup_cons.mpr ⟨fun q => ?_, List.nodup_cons.mpr ⟨fun q => ?_, nd2⟩⟩
  · rcases List.mem_cons.mp q with e | q
    · exact absurd l2 (by rw [show f = c' from e]; exact Nat.lt_irrefl _)
    · obtain ⟨p, hp, e⟩ := List.mem_map.mp q
      have l3 := lt p hp
      rw [show p.1 = f from e] at l3
      exact Nat.lt_irrefl _ (Nat.lt_trans l2 l3)
  · obtain ⟨p, hp, e⟩ := List.mem_map.mp q
    have l3 := lt p hp
    rw [show p.1 = c' from e] at l3
    exact Nat.lt_irrefl _ l3
theorem n_free {cn : Str} {cs : Scope} {a : Addr} {ccd : Value} {cl : List (Str × Addr)} {x : Str} {pos : Pos} {c : Addr} {o : Obj} {v : Value} (I : Inv z g L m own s) (hc : cl.lookup x = some c) (he : g.get? c = some o) (hd : o.data = .cell (some v)) (hk : cs.kind = .function) (hx : (envX cn cs L a ccd cl).kindOf x = some .free)
    (hb : (x == ("__debug__" : Str)) = false) (hn : (x == ("__classdict__" : Str)) = false) (h : Q v s) :
    wpAny M A (eval (.Name x pos) (envX cn cs L a ccd cl)) Q E s := wpAny_Name (wpAny_loadName_free hk hx hc ⟨o, I.kp he, hd⟩ h hn) hb
theorem fnAt_ofInv {f : Addr} (hf : FnAt f g) (I : Inv z g L m own s) : FnAt f s.heap := let ⟨oc, od, fd, sl, e⟩ := hf; ⟨oc, od, fd, sl, I.kp e⟩
theorem cwl {pos : Pos} {f : Addr} {env' : Env} {e : Expr} {es : List Expr} (hf : FnAt f g) (I : Inv z g L m own s)
    (he : starEach (e :: es) env' = (false, eval e env') :: starEach es env') (hp : (backTo pos (starEach es env')).any (·.1) = false)
    (h : wpAny M A (spliced (backTo pos (starEach (e :: es) env'))) (fun vs s₁ => FnAt f s₁.heap ∧ wpAny M A (call (.ref f) vs) Q E s₁) E s) :
    wpAny M A (callWith pos (.ref f) [] (backTo pos (starEach (e :: es) env')) []) Q E s := callWith_F (fnAt_ofInv hf I) h he hp
theorem andF {f : Addr} {p : Prop} (hf : FnAt f g) (I : Inv z g L m own s) (h : p) : FnAt f s.heap ∧ p := ⟨fnAt_ofInv hf I, h⟩
end
end
/-! part N5 -/
section
set_option hygiene true
theorem fill_N5 (w : World) : hdKp w.params = hdKp w.params ∧ PySem.Challenge.rw_np0078_01 = PySem.Challenge.rw_np0078_01 := by
  k_fill
  exact ⟨rfl, rfl⟩
theorem ite_dneg {c : Prop} [Decidable c] {p q : Prop} (h1 : ¬ c) (h2 : q) : if decide c = true then p else q := by
  rw [if_neg (by rw [decide_eq_false h1]; exact Bool.false_ne_true)]; exact h2
theorem bools_append {vs : List Value} {bs : List Bool} (h : LSm.BoolsAre vs bs) (b : Bool) : LSm.BoolsAre (vs ++ [.bool b]) (bs ++ [b]) := by
  induction h with
  | nil => exact .cons b .nil
  | cons c r ih => exact .cons c ih
end
section
set_option hygiene false
local macro_rules | `(tactic| walk_at "ites") => `(tactic| (with_reducible refine ite_dneg (by assumption) ?_))
section
set_option hygiene true
section
variable {z : Shared} {w : World} {A : Around} {env : Env} {g : Heap} {L : Addr} {n : Nat} {m : Str → Option Value} {own rest : Led} {s : Shared} {E : Value → Shared → Prop} {x vw vt lo lc dr lt a : Addr} {sa : Int → Addr} {c : Ct} {st : St} {Q : Value → Shared → Prop}
theorem syn_make_spec {kd fl : Str} {t1 t2 : Tok} (C : Cx w A env g L 2) (I : Inv z g L m rest s) 
    (ret : ∀ a new s', SynAt (inL new) a ⟨kd, fl⟩ → Inv z g L m (new ++ rest) s' → Q (.ref a) s') :
    wpAny (model prg w) A (call (.ref 151) [.str kd t1, .none, .str fl t2]) Q E s := by
  refine' makeO (binds := fun x => [(Str.ofString "self", x), (Str.ofString "kind", .str kd t1), (Str.ofString "match", .none), (Str.ofString "flags", .str fl t2)]) C I ?hm ?hi ?hf ?ho ?hcd ?hb ?hl ?c1 ?c2 ?c3 ?c4 ?_
  walk_at "emake"
  intro x dx A' g' L' s₁ C' I' sb hr
  clear C I
  have D' := DictO.nil
  repeat' (first
  | ((with_reducible show wpAny _ _ (setAttr _ _ _) _ _ _); (with_reducible rename Inv _ _ _ _ _ _ => I9); (with_reducible rename DictO _ _ => D9); (refine' set_new (by assumption) I9 D9 (cls_151 _) ?ha ?hz ?_); (case hz => exact Nat.le_of_ble_eq_true rfl); (case ha => first | with_reducible exact own_151_kind _ | with_reducible exact own_151_match _ | with_reducible exact own_151_flags _); clear I9 D9; intro _ _ _ _)
    | ((with_reducible show wpAny _ _ _ _ _ _); walk1)
    | ((with_reducible show ite _ _ _); walk_at "ites")
    | ((with_reducible show And _ _); walk1)
    | (with_reducible refine Ent.next (by assumption) ?_)
    | (with_reducible refine Ent.ret (by assumption) ?_)
    | (with_reducible refine EntV.use (by assumption) ?_)
    | (with_reducible refine Ent.brk (by assumption) ?_)
    | (with_reducible refine Ent.cont (by assumption) ?_))
  rename DictO _ _ => D9
  rename Inv _ _ _ _ _ _ => I9
  refine ⟨_, [_, _], _, I9, fun I8 => ⟨rfl, ret _ _ _ ⟨⟨fun i => if i = 0 then t1 else t2, _, _, .head _, .tail _ (.head _), ?_⟩, trivial⟩ I8⟩⟩
  exact D9
theorem read_syntax_spec {text : Str} {u : Tok} (C : Cx w A env g L 3) (I : Inv z g L m (rest) s) (h0 : txtOk text = true)
    (ret : ∀ a new fl s', SynAt (inL new) a ⟨Txt.item text 0, fl⟩ → Inv z g L m (new ++ rest) s' → Q (.ref a) s') :
    wpAny (model prg w) A (call (.ref 165) [.str text u]) Q E s := by
  refine' callO (own := []) (binds := [(Str.ofString "text", .str text u)]) C I ?ho ?hcd ?hb ?hl ?c1 ?c2 ?c3 ?c4 ?_
  walk_at "enter"
  intro A' g' L' s₁ C' I' sb hr
  refine gen_post fun R9 hR9 => ?_
  clear C I
  simp only [txtOk, Bool.and_eq_true, decide_eq_true_eq, beq_iff_eq] at h0
  obtain ⟨⟨⟨⟨⟨⟨⟨q1, q2⟩, q3⟩, q4⟩, q5⟩, q6⟩, ⟨q7, q8⟩, q9⟩, q10⟩ := h0
  have q1' : (text == Str.ofString "") = false := by simpa using q1
  have q4' : (Txt.item text 0 == Str.ofString "-") = false := by simpa using q4
  have q5' : (Txt.item text 1 == Str.ofString " ") = true := by simpa using q5
  have q6' : (Builtin.Str.occurrences (Str.ofString " w_.()'\"\\/$<>@!|") (Txt.item text 0) 0 (Str.ofString " w_.()'\"\\/$<>@!|").length 1).isEmpty = false := by
    have := q6
    unfold inS' at this
    simpa using this
  have q2' : ¬ ((text.length : Int) < 2) := by omega
  repeat' (first
    | ((with_reducible show wpAny _ _ _ _ _ _); walk1)
    | ((with_reducible show ite _ _ _); walk_at "ites")
    | ((with_reducible show And _ _); walk1)
    | (with_reducible refine Ent.next (by assumption) ?_)
    | (with_reducible refine Ent.ret (by assumption) ?_)
    | (with_reducible refine EntV.use (by assumption) ?_)
    | (with_reducible refine Ent.brk (by assumption) ?_)
    | (with_reducible refine Ent.cont (by assumption) ?_))
  rename Inv _ _ _ _ _ _ => I9
  refine src_str C'.noHandled I9 q7 fun It fp St oI s' ok hfp st0 I8 => ?_
  refine compU_own ok hfp I8 st0 (by rw [PySem.sizeLine_eq]; omega) (by decide) rfl rfl (fun i ys ow => ow = _ ∧ ∃ bs, LSm.BoolsAre ys bs ∧ bs.all id = true) ⟨rfl, [], .nil, rfl⟩ (fun _ _ _ _ => trivial) (fun i v ys ow It oI Cc oC D m₂ s hlt hP hJ hC hx I7 => ?_) (fun D ys ow s' hJ I7 => ?_)
  · clear I8 I9 ok
    obtain ⟨rfl, bs, hbs, hall⟩ := hJ
    obtain ⟨cc, uu, hcc, rfl⟩ := hP
    have qc : inS' FLAGS ⟨#[cc]⟩ = true := Array.all_eq_true_iff_forall_mem.mp q9 cc (Array.mem_of_getElem? hcc)
    have qc' : (Builtin.Str.occurrences (Str.ofString "1234bcnp") ⟨#[cc]⟩ 0 (Str.ofString "1234bcnp").length 1).isEmpty = false := by
      unfold inS' at qc
      simpa using qc
    repeat' (first
      | ((with_reducible show wpAny _ _ _ _ _ _); walk1)
      | ((with_reducible show ite _ _ _); walk_at "ites")
      | ((with_reducible show And _ _); walk1)
      | (with_reducible refine Ent.next (by assumption) ?_)
      | (with_reducible refine Ent.ret (by assumption) ?_)
      | (with_reducible refine EntV.use (by assumption) ?_)
      | (with_reducible refine Ent.brk (by assumption) ?_)
      | (with_reducible refine Ent.cont (by assumption) ?_))
    all_goals rename Inv _ _ _ _ _ _ => I9
    exact ⟨_, I9, rfl, bs ++ [_], bools_append hbs _, by simp only [List.all_append, hall, List.all_cons, List.all_nil, qc', id_eq, Bool.not_false, Bool.and_self]⟩
  · clear I8 I9 ok
    obtain ⟨rfl, bs, hbs, hall⟩ := hJ
    repeat' (first
      | ((with_reducible show wpAny _ _ (call (Value.ref _) _ _) _ _ _); (with_reducible rename Inv _ _ _ _ _ _ => I9); first
        | ((with_reducible refine' sorted_spec (Cx.less (by assumption) (by decide)) I9 ?_); clear I9; intro _ _ _ _)
        | ((with_reducible refine' syn_make_spec (Cx.less (by assumption) (by decide)) I9 ?_); clear I9; intro _ _ _ _ _))
      | ((with_reducible show wpAny _ _ _ _ _ _); walk1)
      | ((with_reducible show ite _ _ _); walk_at "ites")
      | ((with_reducible show And _ _); walk1)
      | (with_reducible refine Ent.next (by assumption) ?_)
      | (with_reducible refine Ent.ret (by assumption) ?_)
      | (with_reducible refine EntV.use (by assumption) ?_)
      | (with_reducible refine Ent.brk (by assumption) ?_)
      | (with_reducible refine Ent.cont (by assumption) ?_))
    rename Inv _ _ _ _ _ _ => I9
    exact ⟨_, _, _, I9, fun I8 => ret _ _ _ _ (by assumption) I8⟩
end
end
/-! part N6 -/
section
set_option hygiene true
theorem fill_N6 (w : World) : hdKp w.params = hdKp w.params ∧ PySem.Challenge.rw_np0078_01 = PySem.Challenge.rw_np0078_01 := by
  k_fill
  exact ⟨rfl, rfl⟩
/-- the table while it is filled -/
def TbL (w : World) (T : Led) (vt dr : Addr) (kvs : List (Int × Value)) : Prop :=
  ∃ dx o od, T = [(vt, instObj 232 dx), (dx, o), (dr, od)] ∧ DictO o [(Str.ofString "parent", .none), (Str.ofString "rows", .ref dr)] ∧ od.IsDictOf (intK w) kvs ∧ (dr == sysModules) = false
section
variable {z : Shared} {w : World} {A : Around} {env : Env} {g : Heap} {L : Addr} {n : Nat} {m : Str → Option Value} {own rest T dk : Led} {s : Shared} {E : Value → Shared → Prop} {Q : Value → Shared → Prop} {vt dr D : Addr} {kvs : List (Int × Value)} {t : Nat} {p1 p2 : Addr × Obj}
theorem rNewDict3 {env' : Env} {pos : Pos} (C : Cx w A env' g L n) (I : Inv z g L m (p1 :: p2 :: rest) s) (h : ∀ d o s', Inv z g L m (p1 :: p2 :: (d, o) :: rest) s' → (d == sysModules) = false → o.IsDictOf (intK w) [] → Q (.ref d) s') : wpAny (model prg w) A (eval (.Dict [] [] pos) env) Q E s :=
  rNewDict C I fun d o s' J a b => h d o s' (J.perm (List.perm_middle (l₁ := [p1, p2])).symm) a b
theorem tb_rows {b : Bool} (C : Cx w A env g L n) (I : Inv z g L m (T ++ rest) s) (W : TbL w T vt dr kvs) (h : ∀ s', Inv z g L m (T ++ rest) s' → Q (.ref dr) s') : wpAny (model prg w) A (getAttr (.ref vt) "rows" b) Q E s := by
  obtain ⟨dx, o, od, rfl, D, hd, lo⟩ := W
  exact r_attr C I (I.get (.head _)) (I.get (.tail _ (.head _))) D (cls_232 w) (own_232_rows w) rfl rfl h
theorem tb_meth {pl : Sem Bool} {Q : Value × List Value → Shared → Prop} (C : Cx w A env g L n) (I : Inv z g L m (dk ++ (T ++ rest)) s) (W : TbL w T vt dr kvs) (h : Q (.ref 187, [.ref vt]) s) : wpAny (model prg w) A (getMethod (.ref vt) "modify" pl) Q E s := by
  obtain ⟨dx, o, od, rfl, D, hd, lo⟩ := W
  exact r_meth C I (I.get (List.mem_append_right _ (.head _))) (I.get (List.mem_append_right _ (.tail _ (.head _)))) D (cls_232 w) (meth_232_modify w) rfl h
theorem tb_set {k : Int} {u : Tok} {v : Value} {Q : Unit → Shared → Prop} (I : Inv z g L m (T ++ rest) s) (W : TbL w T vt dr kvs) (hz : kvs.length ≤ 1000)
    (h : ∀ T' s', TbL w T' vt dr (stored kvs k v) → Inv z g L m (T' ++ rest) s' → Q () s') : wpAny (model prg w) A (setItem (.ref dr) (.int k u) v) Q E s := by
  obtain ⟨dx, o, od, rfl, D, hd, lo⟩ := W
  exact rDictSet (pre := [(vt, instObj 232 dx), (dx, o)]) (post := rest) I hd hz fun o' s' hd' J => h [(vt, instObj 232 dx), (dx, o), (dr, o')] s' ⟨dx, o, o', rfl, D, hd', lo⟩ J
end
theorem perm_dT {α : Type} (new dk T R : List α) : (new ++ (dk ++ (T ++ R))).Perm (dk ++ (T ++ (new ++ R))) := by
  classical
  rw [List.perm_iff_count]; intro x; simp only [List.count_append]; omega
theorem perm_Td {α : Type} (dk T R : List α) : (dk ++ (T ++ R)).Perm (T ++ (dk ++ R)) := by
  classical
  rw [List.perm_iff_count]; intro x; simp only [List.count_append]; omega
theorem perm_i {α : Type} (i : α) (dk T R : List α) : (i :: (dk ++ (T ++ R))).Perm (dk ++ (T ++ (i :: R))) := by
  classical
  rw [List.perm_iff_count]; intro x; simp only [List.count_append, List.count_cons]; omega
theorem length_stored (kvs : List (Int × Value)) (k : Int) (v : Value) : (stored kvs k v).length ≤ kvs.length + 1 := by
  unfold stored; split <;> simp
end
section
set_option hygiene false
local macro_rules | `(tactic| walk_at "eval Dict") => `(tactic| ((with_reducible rename Inv _ _ _ _ _ _ => I9); (with_reducible refine' rNewDict3 (by assumption) I9 ?_); clear I9; intro _ _ _ _ _ _))
local macro_rules | `(tactic| walk_at "getAttr ref") => `(tactic| ((with_reducible rename Inv _ _ _ _ _ _ => I9); (with_reducible rename TbL _ _ _ _ _ => W9); (with_reducible refine tb_rows (by assumption) I9 W9 ?_); clear I9; intro _ _))
local macro_rules | `(tactic| walk_at "getMethod ref") => `(tactic| ((with_reducible rename TbL _ _ _ _ _ => W9); (with_reducible refine tb_meth (by assumption) (by assumption) W9 ?_)))
local macro_rules | `(tactic| walk_at "setItem ref") => `(tactic| ((with_reducible rename Inv _ _ _ _ _ _ => I9); (with_reducible rename TbL _ _ _ _ _ => W9); (with_reducible refine' tb_set I9 W9 ?hz ?_); (case hz => omega); clear I9 W9; intro _ _ _ _))
local macro_rules | `(tactic| walk_at "exec Assign") => `(tactic| (with_reducible refine' wpAny_Assign_Subscript ?_ ?q0; (case q0 => with_unfolding_all rfl)))
section
set_option hygiene true
section
variable {z : Shared} {w : World} {A : Around} {env : Env} {g : Heap} {L : Addr} {n : Nat} {m : Str → Option Value} {own rest : Led} {s : Shared} {E : Value → Shared → Prop} {x vw vt lo lc dr lt a D : Addr} {T dk : Led} {kvs : List (Int × Value)} {t : Nat} {sa : Int → Addr} {c : Ct} {st : St} {Q : Value → Shared → Prop}
theorem tbl_make_spec  (C : Cx w A env g L 2) (I : Inv z g L m rest s) 
    (ret : ∀ x dr T s', TbL w T x dr [] → Inv z g L m (T ++ rest) s' → Q (.ref x) s') :
    wpAny (model prg w) A (call (.ref 232) []) Q E s := by
  refine' makeO (binds := fun x => [(Str.ofString "self", x), (Str.ofString "parent", .none)]) C I ?hm ?hi ?hf ?ho ?hcd ?hb ?hl ?c1 ?c2 ?c3 ?c4 ?_
  (case hm => k_is); (case hi => k_is); (case hf => k_is); (case ho => k_is); (case hcd => k_is); (case hb => exact fun _ _ X => binds_K X rfl (by k_is) rfl rfl rfl); (case hl => exact fun _ => locs rfl); (case c1 => exact rfl); (case c2 => exact rfl); (case c3 => exact rfl); (case c4 => decide)
  intro x dx A' g' L' s₁ C' I' sb hr
  clear C I
  have D' := DictO.nil
  repeat' (first
  | ((with_reducible show wpAny _ _ (setAttr _ _ _) _ _ _); (with_reducible rename Inv _ _ _ _ _ _ => I9); (with_reducible rename DictO _ _ => D9); (refine' set_new (by assumption) I9 D9 (cls_232 _) ?ha ?hz ?_); (case hz => exact Nat.le_of_ble_eq_true rfl); (case ha => first | with_reducible exact own_232_parent _ | with_reducible exact own_232_rows _); clear I9 D9; intro _ _ _ _)
    | ((with_reducible show wpAny _ _ _ _ _ _); walk1)
    | ((with_reducible show ite _ _ _); walk_at "ites")
    | ((with_reducible show And _ _); walk1)
    | (with_reducible refine Ent.next (by assumption) ?_)
    | (with_reducible refine Ent.ret (by assumption) ?_)
    | (with_reducible refine EntV.use (by assumption) ?_)
    | (with_reducible refine Ent.brk (by assumption) ?_)
    | (with_reducible refine Ent.cont (by assumption) ?_))
  rename DictO _ _ => D9
  rename Inv _ _ _ _ _ _ => I9
  exact ⟨_, [_, _, _], _, I9, fun I8 => ⟨rfl, ret _ _ _ _ ⟨_, _, _, rfl, D9, by assumption, by assumption⟩ I8⟩⟩
theorem modify_spec {k : Int} {u : Tok} (C : Cx w A env g L 1) (I : Inv z g L m (T ++ rest) s) (W : TbL w T vt dr kvs) (hz : kvs.length ≤ 1000)
    (ret : ∀ T' s', TbL w T' vt dr (stored kvs k (.ref a)) → Inv z g L m (T' ++ rest) s' → Q .none s') :
    wpAny (model prg w) A (call (.ref 187) [.ref vt, .int k u, .ref a]) Q E s := by
  refine' callO (binds := [(Str.ofString "self", .ref vt), (Str.ofString "code", .int k u), (Str.ofString "syntax", .ref a)]) C I ?ho ?hcd ?hb ?hl ?c1 ?c2 ?c3 ?c4 ?_
  walk_at "enter"
  intro A' g' L' s₁ C' I' sb hr
  refine gen_post fun R9 hR9 => ?_
  clear C I
  repeat' (first
    | ((with_reducible show wpAny _ _ _ _ _ _); walk1)
    | ((with_reducible show ite _ _ _); walk_at "ites")
    | ((with_reducible show And _ _); walk1)
    | (with_reducible refine Ent.next (by assumption) ?_)
    | (with_reducible refine Ent.ret (by assumption) ?_)
    | (with_reducible refine EntV.use (by assumption) ?_)
    | (with_reducible refine Ent.brk (by assumption) ?_)
    | (with_reducible refine Ent.cont (by assumption) ?_))
  all_goals exact ⟨_, _, [], (by assumption), fun I8 => ret _ _ (by assumption) I8⟩
theorem modify_dT_spec {k : Int} {u : Tok} (C : Cx w A env g L 1) (I : Inv z g L m (dk ++ (T ++ rest)) s) (W : TbL w T vt dr kvs) (hz : kvs.length ≤ 1000) (ret : ∀ T' s', TbL w T' vt dr (stored kvs k (.ref a)) → Inv z g L m (dk ++ (T' ++ rest)) s' → Q .none s') :
    wpAny (model prg w) A (call (.ref 187) [.ref vt, .int k u, .ref a]) Q E s :=
  modify_spec C (I.perm (perm_Td _ _ _)) W hz fun T' s' W' J => ret T' s' W' (J.perm (perm_Td _ _ _))
theorem read_dT_spec {text : Str} {u : Tok} (C : Cx w A env g L 3) (I : Inv z g L m (dk ++ (T ++ rest)) s) (Wd : Dk dk D t) (Wt : TbL w T vt dr kvs) (h0 : txtOk text = true) (ret : ∀ a new fl s', SynAt (inL new) a ⟨Txt.item text 0, fl⟩ → Inv z g L m (dk ++ (T ++ (new ++ rest))) s' → Q (.ref a) s') :
    wpAny (model prg w) A (call (.ref 165) [.str text u]) Q E s :=
  read_syntax_spec C I h0 fun a new fl s' S J => ret a new fl s' S (J.perm (perm_dT _ _ _ _))
end
end
/-! part N7 -/
end
end
section
set_option hygiene true
theorem fill_N7 (w : World) : hdKp w.params = hdKp w.params ∧ PySem.Challenge.rw_np0078_01 = PySem.Challenge.rw_np0078_01 := by
  k_fill
  exact ⟨rfl, rfl⟩
theorem valueAt_stored (kvs : List (Int × Value)) (k c : Int) (v : Value) : valueAt (stored kvs k v) c = if c = k then some v else valueAt kvs c := by
  unfold stored valueAt
  split
  · rename_i h
    induction kvs with
    | nil => simp at h
    | cons p r ih =>
      obtain ⟨a, b⟩ := p
      by_cases ha : a = c
      · subst ha
        by_cases hk : a = k
        · subst hk; simp
        · simp [hk]
      · by_cases hk : a = k
        · subst hk
          have hne : ¬ c = a := fun e => ha e.symm
          simp only [List.map_cons, if_true, List.find?_cons, ha, decide_false, hne, if_false]
          clear ih h
          induction r with
          | nil => rfl
          | cons q r ih =>
            obtain ⟨a', b'⟩ := q
            by_cases hx : a' = c
            · subst hx; simp [hne]
            · by_cases hy : a' = a
              · subst hy; simp only [List.map_cons, if_true, List.find?_cons, hx, decide_false]; exact ih
              · simp only [List.map_cons, hy, if_false, List.find?_cons, hx, decide_false]; exact ih
        · have h' : (r.any fun kv => decide (kv.1 = k)) = true := by simpa [hk] using h
          simp only [List.map_cons, hk, if_false, List.find?_cons, ha, decide_false]
          exact ih h'
  · rename_i h
    rw [List.find?_append]
    by_cases hc : c = k
    · subst hc
      have : kvs.find? (fun kv => decide (kv.1 = c)) = none := by
        rw [List.find?_eq_none]
        intro x hx
        simp only [List.any_eq_true, not_exists, not_and] at h
        exact h x hx
      rw [this]; simp
    · have hne : ¬ k = c := fun e => hc e.symm
      simp [hc, hne]
theorem range_small {a b : Int} (ha : 0 ≤ a) (hab : a ≤ b) (hb : b ≤ 100000) : Builtin.Range.small a b 1 = true ∧ Builtin.Range.rangeSize a b 1 = (((b - a).toNat : Nat) : Int) := by
  have e : Builtin.Range.rangeSize a b 1 = (((b - a).toNat : Nat) : Int) := by
    unfold Builtin.Range.rangeSize
    rw [if_pos (by decide)]
    split
    · rw [Int.ediv_one]; omega
    · omega
  refine ⟨?_, e⟩
  unfold Builtin.Range.small
  rw [e]
  unfold Builtin.Range.rangeFitsLong
  simp only [Bool.and_eq_true, Bool.or_eq_true, decide_eq_true_eq, beq_iff_eq]
  refine ⟨⟨⟨⟨⟨?_, ?_⟩, ?_, ?_⟩, by decide, by decide⟩, ?_, ?_⟩, .inr ?_⟩ <;> first | omega | (rw [if_pos (by decide)]; simp only [Bool.and_eq_true, decide_eq_true_eq]; omega)
abbrev KS : Str := Str.ofString "ww_.()'\"\\/$<>!| "
abbrev FLS : List Str := [Str.ofString "", Str.ofString "", Str.ofString "", Str.ofString "1", Str.ofString "2", Str.ofString "3", Str.ofString "4", Str.ofString "12", Str.ofString "23", Str.ofString "14", Str.ofString "124b", Str.ofString "23n", Str.ofString "14n", Str.ofString "23bn", Str.ofString "b", Str.ofString "p"]
theorem tok_all {r r2 : Int} (h0 : 0 ≤ r) (h1 : r < (KS.length : Int)) (h2 : 0 ≤ r2) (h3 : r2 < (FLS.length : Int)) : txtOk ((Txt.item KS r ++ Str.ofString " ") ++ FLS.getD r2.toNat Str.empty) = true := by
  have key : ((List.range 16).all fun i => (List.range 16).all fun j => txtOk ((Txt.item KS (i : Int) ++ Str.ofString " ") ++ FLS.getD j Str.empty)) = true := by decide +kernel
  have hk : KS.length = 16 := by decide +kernel
  have h16 : (FLS.length : Int) = 16 := rfl
  rw [List.all_eq_true] at key
  have k1 := key r.toNat (List.mem_range.mpr (by omega))
  rw [List.all_eq_true] at k1
  have k2 := k1 r2.toNat (List.mem_range.mpr (by omega))
  rw [Int.toNat_of_nonneg h0] at k2
  exact k2
theorem fls_len (k : Nat) : (FLS.getD k Str.empty).length ≤ 10 := by
  have key : (FLS.all fun x => decide (x.length ≤ 10)) = true := by decide +kernel
  rw [List.getD_eq_getElem?_getD]
  cases e : FLS[k]? with
  | none => exact Nat.le_of_ble_eq_true rfl
  | some x => exact of_decide_eq_true (List.all_eq_true.mp key x (List.mem_of_getElem? e))
theorem tok_at {x : Str} (h : txtOk x = true) : (Txt.item x 0 == Str.ofString "@") = false := by
  simp only [txtOk, Bool.and_eq_true] at h
  have := h.2
  simpa using this
theorem perm_fl {α : Type} (f : α) (dk T : List α) : (f :: (dk ++ (T ++ []))).Perm (dk ++ (T ++ ([] ++ [f]))) := by
  classical
  rw [List.perm_iff_count]; intro x; simp only [List.count_append, List.count_cons, List.count_nil]; omega
theorem perm_end {α : Type} (i : α) (dk T new syn X : List α) : (dk ++ (T ++ (new ++ (i :: (syn ++ X))))).Perm (i :: (dk ++ (T ++ ((new ++ syn) ++ X)))) := by
  classical
  rw [List.perm_iff_count]; intro x; simp only [List.count_append, List.count_cons]; omega
section
variable {z : Shared} {w : World} {A : Around} {env : Env} {g : Heap} {L : Addr} {n : Nat} {m : Str → Option Value} {own rest T dk : Led} {s : Shared} {E : Value → Shared → Prop} {Q : Value → Shared → Prop} {vt dr D : Addr} {kvs : List (Int × Value)} {t : Nat}
theorem rRange2 {a b : Int} {t u : Tok} (I : Inv z g L m own s) (h : ∀ r t u v s', Inv z g L m own s' → IsRange s'.heap r a b 1 t u v → Q (.ref r) s') : wpAny (model prg w) A (call (.type "range") [.int a t, .int b u]) Q E s :=
  call_range_2 (h _ _ _ _ _ (I.push _ (s.toks + 1)).tail (Heap.get?_push_size _ rfl))
theorem rRange1 {b : Int} {u : Tok} (I : Inv z g L m own s) (h : ∀ r t u v s', Inv z g L m own s' → IsRange s'.heap r 0 b 1 t u v → Q (.ref r) s') : wpAny (model prg w) A (call (.type "range") [.int b u]) Q E s :=
  call_range_1 (h _ _ _ _ _ (I.push _ (s.toks + 1 + 1)).tail (Heap.get?_push_size _ rfl))
theorem strs_get {vs : List Value} {ns : List Str} (h : StrsAre vs ns) : ∀ i : Nat, i < ns.length → ∃ t, vs[i]? = some (.str (ns.getD i Str.empty) t) := by
  induction h with
  | nil => intro i hi; exact absurd hi (Nat.not_lt_zero _)
  | cons k t r ih =>
    intro i hi
    cases i with
    | zero => exact ⟨t, rfl⟩
    | succ i => exact ih i (Nat.lt_of_succ_lt_succ hi)
theorem strs_len {vs : List Value} {ys : List Str} (h : StrsAre vs ys) : vs.length = ys.length := by
  induction h with
  | nil => rfl
  | cons k t r ih => simp [ih]
theorem rLenStrs {l : Addr} {vs : List Value} {ys : List Str} {k : Nat} (I : Inv z g L m own s) (hm : (l, listOf vs.toArray k) ∈ own) (hi : StrsAre vs ys) (hz : ys.length ≤ 1000) (h : ∀ s' u, Inv z g L m own s' → Q (.int (ys.length : Int) u) s') : wpAny (model prg w) A (call (.builtin "len") [.ref l]) Q E s :=
  lenL I (I.get hm) (by rw [List.size_toArray, strs_len hi]; omega) fun s' u J => by rw [List.size_toArray, strs_len hi]; exact h s' u J
theorem rItemStrs {l : Addr} {vs : List Value} {ys : List Str} {k : Nat} {i : Int} {u : Tok} {value slice : Expr} (I : Inv z g L m own s) (hm : (l, listOf vs.toArray k) ∈ own) (hi : StrsAre vs ys) (h0 : 0 ≤ i) (h1 : i < (ys.length : Int)) (hz : i < 100000)
    (hs : subscripted slice false (.ref l) (.int i u) = operate [.ref l, .int i u] (getItem (.ref l) (.int i u))) (h : ∀ t, Q (.str (ys.getD i.toNat Str.empty) t) s) :
    wpAny (model prg w) A (subscriptTail value slice (.ref l) (.int i u)) Q E s := by
  obtain ⟨t, ht⟩ := strs_get hi i.toNat (by omega)
  exact getL I (I.get hm) h0 (by omega) (by simpa using ht) (h t) hs
theorem tbl_make_d {D : Addr} (C : Cx w A env g L 2) (I : Inv z g L m (dk ++ rest) s) (W : Dk dk D t) (ret : ∀ x dr T s', TbL w T x dr [] → Inv z g L m (dk ++ (T ++ rest)) s' → Q (.ref x) s') : wpAny (model prg w) A (call (.ref 232) []) Q E s :=
  tbl_make_spec C I fun x dr T s' W' J => ret x dr T s' W' (J.perm (perm_Td _ _ _))
end
theorem cat_len {r : Int} {y : Str} (h : y.length ≤ 10) : (Txt.item KS r ++ Str.ofString " ").length + y.length ≤ sizeLine := by
  rw [PySem.sizeLine_eq]; have : (Txt.item KS r ++ Str.ofString " ").length = 2 := rfl; omega
end
section
set_option hygiene false
local macro_rules | `(tactic| walk_at "eval Name") => `(tactic| (refine r_loc (by assumption) (by with_unfolding_all assumption) (by rfl) (by rfl) (by rfl) ?_))
section
local macro_rules | `(tactic| walk_at "exec For") => `(tactic| (refine' wpAny_For ?_ ?hs; (case hs => with_unfolding_all exact fun _ => rfl)))
local macro_rules | `(tactic| walk_at "call type:range") => `(tactic| ((with_reducible rename Inv _ _ _ _ _ _ => I9); (first | (with_reducible refine rRange2 I9 ?_) | (with_reducible refine rRange1 I9 ?_)); clear I9; intro _ _ _ _ _ _ _))
local macro_rules | `(tactic| walk_at "callWith ref") => `(tactic| (with_reducible refine' cwk0 (by assumption) (by assumption) ?hk ?_; (case hk => exact keepc_232 _)))
local macro_rules | `(tactic| walk_at "subscriptTail") => `(tactic| ((with_reducible rename Inv _ _ _ _ _ _ => I9); (with_reducible rename StrsAre _ _ => h8); (with_reducible refine' rItemStrs I9 ?hm h8 ?h0 ?h1 ?hz ?hs ?_); (case hm => first | exact List.mem_append_right _ (List.mem_append_right _ (.tail _ (List.mem_append_right _ (.head _)))) | assumption); (case h0 => omega); (case h1 => omega); (case hz => omega); (case hs => with_unfolding_all rfl); intro _))
local macro_rules | `(tactic| walk_at "call builtin:len") => `(tactic| ((with_reducible rename Inv _ _ _ _ _ _ => I9); (with_reducible refine' rLenS I9 ?hz ?_); (case hz => decide); clear I9; intro _ _ _))
local macro_rules | `(tactic| walk_at "call builtin:len") => `(tactic| ((with_reducible rename Inv _ _ _ _ _ _ => I9); (with_reducible rename StrsAre _ _ => h8); (with_reducible refine' rLenStrs I9 ?hm h8 ?hz ?_); (case hm => exact List.mem_append_right _ (List.mem_append_right _ (.tail _ (List.mem_append_right _ (.head _))))); (case hz => decide); clear I9; intro _ _ _))
local macro_rules | `(tactic| walk_at "subscriptTail") => `(tactic| ((with_reducible rename Inv _ _ _ _ _ _ => I9); (with_reducible refine' rItemS I9 ?h0 ?h1 ?hz ?hs ?ht ?_); (case h0 => assumption); (case h1 => assumption); (case hz => decide); (case hs => with_unfolding_all rfl); (case ht => intro _; with_unfolding_all rfl); clear I9; intro _ _ _))
local macro_rules | `(tactic| walk_at "binaryOp Add str str") => `(tactic| ((with_reducible rename Inv _ _ _ _ _ _ => I9); (with_reducible refine' bCat I9 ?hz ?_); (case hz => first | exact Nat.le_of_ble_eq_true rfl | exact cat_len (fls_len _)); clear I9; intro _ _ _))
local macro_rules | `(tactic| walk_at "getMethod ref") => `(tactic| ((with_reducible rename TbL _ _ _ _ _ => W9); (with_reducible refine tb_meth (by assumption) (by assumption) W9 ?_)))
section
set_option hygiene true
section
variable {z : Shared} {w : World} {A : Around} {env : Env} {g : Heap} {L : Addr} {n : Nat} {m : Str → Option Value} {own rest : Led} {s : Shared} {E : Value → Shared → Prop} {x vw vt lo lc dr lt a D : Addr} {T dk : Led} {kvs : List (Int × Value)} {t : Nat} {sa : Int → Addr} {c : Ct} {st : St} {Q : Value → Shared → Prop}
theorem table_spec  (C : Cx w A env g L 4) (I : Inv z g L m (own ++ rest) s) (W : Dk own D t) (ht : t ≤ 900)
    (ret : ∀ vt dr sa tb own' new s', TblAt (inL new) w vt dr tb sa → Dk own' D (t + 16) → Inv z g L m (own' ++ (new ++ rest)) s' → Q (.ref vt) s') :
    wpAny (model prg w) A (call (.ref 514) [.ref D]) Q E s := by
  refine' callO (binds := [(Str.ofString "deck", .ref D)]) C I ?ho ?hcd ?hb ?hl ?c1 ?c2 ?c3 ?c4 ?_
  walk_at "enter"
  intro A' g' L' s₁ C' I' sb hr
  refine gen_post fun R9 hR9 => ?_
  clear C I
  repeat' (first
    | ((with_reducible show wpAny _ _ (call (Value.ref _) _ _) _ _ _); (with_reducible rename Inv _ _ _ _ _ _ => I9); first
      | ((with_reducible refine' tbl_make_d (Cx.less (by assumption) (by decide)) I9 (by assumption) ?_); clear I9; intro _ _ _ _ _ _))
    | ((with_reducible show wpAny _ _ _ _ _ _); walk1)
    | ((with_reducible show ite _ _ _); walk_at "ites")
    | ((with_reducible show And _ _); walk1)
    | (with_reducible refine Ent.next (by assumption) ?_)
    | (with_reducible refine Ent.ret (by assumption) ?_)
    | (with_reducible refine EntV.use (by assumption) ?_)
    | (with_reducible refine Ent.brk (by assumption) ?_)
    | (with_reducible refine Ent.cont (by assumption) ?_))
  rename Inv _ _ _ _ _ _ => I9
  rename IsRange _ _ _ _ _ _ _ _ => hR
  rename TbL _ _ _ _ _ => T9
  obtain ⟨fvs, hfs, J9⟩ : ∃ fvs, StrsAre fvs FLS ∧ Inv z g' L' _ ((_, PySem.W.listOf (List.toArray fvs) 0) :: (own ++ (_ ++ []))) _ := ⟨_, by repeat constructor, I9⟩
  clear I9
  have J8 := J9.perm (perm_fl _ _ _)
  clear J9
  refine src_range (nn := 8) C'.noHandled J8 hR (by decide) (by decide) fun It fp St oI s' ok hfp st0 I8 => ?_
  refine for_own ok I8 st0 (fun i m ow => ∃ dk T syn kvs, ow = dk ++ (T ++ (syn ++ [(_, PySem.W.listOf (List.toArray fvs) 0)])) ∧ Dk dk D (t + 2 * i) ∧ TbL w T _ _ kvs ∧ kvs.length ≤ i ∧ (∀ c : Int, 97 ≤ c → c < 97 + (i : Int) → ∃ a y, valueAt kvs c = some (.ref a) ∧ SynAt (inL syn) a y ∧ (y.kind == Str.ofString "@") = false) ∧ m (Str.ofString "deck") = some (.ref D) ∧ m (Str.ofString "table") = some (.ref _) ∧ m (Str.ofString "kinds") = some (.str KS _) ∧ m (Str.ofString "flags") = some (.ref _))
    ⟨_, _, [], [], rfl, W, T9, Nat.le_refl _, (fun c h1 h2 => by omega), rfl, rfl, rfl, rfl⟩ (fun _ _ _ _ => trivial) (fun i v m9 ow oI s9 hlt hP hJ I7 => ?_) (fun m9 ow s9 I7 hJ => ?_)
  · clear J8 I8 ok W T9
    obtain ⟨dk, T, syn, kvs, rfl, W, hT, hk, hc, e1, e2, e3, e4⟩ := hJ
    obtain ⟨tk, rfl⟩ := hP
    have h16 : (FLS.length : Int) = 16 := rfl
    have I9 := I7.perm (perm_i _ _ _ _)
    clear I7
    repeat' (first
      | ((with_reducible show wpAny _ _ (call (Value.ref _) _ _) _ _ _); (with_reducible rename Inv _ _ _ _ _ _ => I9); first
        | ((with_reducible rename Dk _ _ _ => W9); (with_reducible refine' draw_spec (Cx.less (by assumption) (by decide)) I9 W9 ?hm ?hm2 ?ht ?_); (case hm => decide); (case hm2 => decide); (case ht => omega); clear I9 W9; intro _ _ _ _ _ _ _ _)
        | ((with_reducible refine' read_dT_spec (Cx.less (by assumption) (by decide)) I9 (by assumption) (by assumption) ?h0 ?_); (case h0 => exact tok_all (by assumption) (by assumption) (by assumption) (by assumption)); clear I9; intro _ _ _ _ _ _)
        | ((with_reducible rename TbL _ _ _ _ _ => W9); (with_reducible refine' modify_dT_spec (Cx.less (by assumption) (by decide)) I9 W9 ?hz ?_); (case hz => omega); clear I9 W9; intro _ _ _ _))
      | ((with_reducible show wpAny _ _ _ _ _ _); walk1)
      | ((with_reducible show ite _ _ _); walk_at "ites")
      | ((with_reducible show And _ _); walk1)
      | (with_reducible refine Ent.next (by assumption) ?_)
      | (with_reducible refine Ent.ret (by assumption) ?_)
      | (with_reducible refine EntV.use (by assumption) ?_)
      | (with_reducible refine Ent.brk (by assumption) ?_)
      | (with_reducible refine Ent.cont (by assumption) ?_))
    rename Inv _ _ _ _ _ _ => I9
    rename Dk _ _ _ => W9
    rename TbL _ _ _ _ _ => T9
    rename SynAt _ _ _ => S9
    refine ⟨_, _, I9.perm (perm_end _ _ _ _ _ _), _, _, _, _, rfl, (show t + 2 * (i + 1) = t + 2 * i + 1 + 1 by omega) ▸ W9, T9, Nat.le_trans (length_stored _ _ _) (by omega), fun c h1 h2 => ?_, by with_unfolding_all exact e1, by with_unfolding_all exact e2, by with_unfolding_all exact e3, by with_unfolding_all exact e4⟩
    rw [valueAt_stored]
    by_cases hcc : c = 97 + (i : Int)
    · rw [if_pos hcc]
      exact ⟨_, _, rfl, S9.mono fun _ _ h => List.mem_append_left _ h, tok_at (tok_all (by assumption) (by assumption) (by assumption) (by assumption))⟩
    · rw [if_neg hcc]
      obtain ⟨a, y, q1, q2, q3⟩ := hc c h1 (by omega)
      exact ⟨a, y, q1, q2.mono fun _ _ h => List.mem_append_right _ h, q3⟩
  · clear J8 I8 ok W T9
    obtain ⟨dk, T, syn, kvs, rfl, W, hT, hk, hc, e1, e2, e3, e4⟩ := hJ
    repeat' (first
      | ((with_reducible show wpAny _ _ _ _ _ _); walk1)
      | ((with_reducible show ite _ _ _); walk_at "ites")
      | ((with_reducible show And _ _); walk1)
      | (with_reducible refine Ent.next (by assumption) ?_)
      | (with_reducible refine Ent.ret (by assumption) ?_)
      | (with_reducible refine EntV.use (by assumption) ?_)
      | (with_reducible refine Ent.brk (by assumption) ?_)
      | (with_reducible refine Ent.cont (by assumption) ?_))
    have hc2 : ∀ c : Int, ∃ p : Addr × Sy, 97 ≤ c → c ≤ 104 → valueAt kvs c = some (.ref p.1) ∧ SynAt (inL syn) p.1 p.2 ∧ (p.2.kind == Str.ofString "@") = false := fun c => by
      by_cases h : 97 ≤ c ∧ c ≤ 104
      · obtain ⟨a, y, q⟩ := hc c h.1 (by omega)
        exact ⟨(a, y), fun _ _ => q⟩
      · exact ⟨(0, ⟨Str.empty, Str.empty⟩), fun h1 h2 => absurd ⟨h1, h2⟩ h⟩
    obtain ⟨fp2, hfp2⟩ := Classical.axiomOfChoice hc2
    obtain ⟨dx, o, od, rfl, D9, hd9, lo9⟩ := hT
    exact ⟨_, _ ++ (_ ++ _), [], I7.toNil, fun I8 => ret _ _ (fun c => (fp2 c).1) (fun c => (fp2 c).2) _ _ _ ⟨⟨_, ⟨dx, o, .head _, .tail _ (.head _), D9⟩, rfl⟩, lo9, od, kvs, .tail _ (.tail _ (.head _)), hd9, fun c h1 h2 => let q := hfp2 c h1 h2; ⟨q.1, q.2.1.mono fun _ _ h => .tail _ (.tail _ (.tail _ (List.mem_append_left _ h))), q.2.2⟩⟩ W I8.assoc⟩
end
end
/-! part N8 -/
end
end
end
end
section
set_option hygiene true
theorem fill_N8 (w : World) : hdKp w.params = hdKp w.params ∧ PySem.Challenge.rw_np0078_01 = PySem.Challenge.rw_np0078_01 := by
  k_fill
  exact ⟨rfl, rfl⟩
theorem bindAt {w : World} {f : Addr} {pos : List Value} {kw : List (Str × Value)} {binds : List (Str × Value)} {s : Shared} {name qual : Str} {params : Arguments} {body : List Stmt} {scope : Scope} {dV kV doc pm cdv ct oc : Value} {an od : Option Addr} {osl : Array (Option Value)}
    (ho : (hdKp w.params).lookup f = some ⟨oc, od, .func (fnOf name qual params body scope dV kV doc pm an cdv ct), osl⟩) (hb : BindsTo s (fnOf name qual params body scope dV kV doc pm an cdv ct) ⟨pos, kw⟩ binds) :
    ∀ fd oc od osl, (hdKp w.params).lookup f = some ⟨oc, od, .func fd, osl⟩ → BindsTo s fd ⟨pos, kw⟩ binds := by
  intro fd _ _ _ h; rw [ho] at h; cases h; exact hb
abbrev z0 (c : Ct) : St := St0.s_place c.b
section
variable {z : Shared} {w : World} {A : Around} {env : Env} {g : Heap} {L : Addr} {n : Nat} {m : Str → Option Value} {own rest : Led} {s : Shared} {E : Value → Shared → Prop} {Q : Value → Shared → Prop}
theorem listOfList {p1 p2 : Addr × Obj} {post : Led} {lt : Addr} {k : Nat} {vs : List Value} (I : Inv z g L m (p1 :: p2 :: post) s) (hl : g.get? lt = some (listOf vs.toArray k)) (hz : vs.length ≤ 100000)
    (h : ∀ D c s', Inv z g L m (p1 :: p2 :: (D, listOf vs.toArray c) :: post) s' → Q (.ref D) s') : wpAny (model prg w) A (call (.type "list") [.ref lt]) Q E s := by
  refine list_copyK I.F I.N ⟨_, I.kp hl, rfl, k, rfl⟩ (fun D c h' F' N' l1 => h D c _ ?_) (by rw [PySem.sizeLine_eq, List.size_toArray]; omega)
  have J : Inv z g L m ((D, listOf vs.toArray c) :: p1 :: p2 :: post) { s with heap := h' } := ⟨F', N', by
    rw [List.map_cons]
    refine List.nodup_cons.mpr ⟨fun q => ?_, I.nd⟩
    obtain ⟨p, hp, e⟩ := List.mem_map.mp q
    have := l1 p hp
    rw [e] at this
    exact Nat.lt_irrefl _ this, I.same⟩
  exact J.perm (List.perm_middle (l₁ := [p1, p2])).symm
end
end
section
set_option hygiene false
local macro_rules | `(tactic| walk_at "call type:list") => `(tactic| ((with_reducible rename Inv _ _ _ _ _ _ => I9); (with_reducible refine' listOfList I9 (by assumption) ?hz ?_); (case hz => first | assumption | omega); clear I9; intro _ _ _ _))
section
set_option hygiene true
section
variable {z : Shared} {w : World} {A : Around} {env : Env} {g : Heap} {L : Addr} {n : Nat} {m : Str → Option Value} {own rest : Led} {s : Shared} {E : Value → Shared → Prop} {x vw vt lo lc dr lt a : Addr} {sa : Int → Addr} {c : Ct} {st : St} {Q : Value → Shared → Prop}
theorem row_make_spec {l : Addr} {cs : List Int} {p : Int} {u : Tok} (C : Cx w A env g L 2) (I : Inv z g L m rest s) (V : LstAt (inGR g rest) l cs) (hz : cs.length ≤ 1000)
    (ret : ∀ x lc new s', RowAt (inL new) x lc p cs → Inv z g L m (new ++ rest) s' → Q (.ref x) s') :
    wpAny (model prg w) A (call (.ref 486) [.ref l, .int p u]) Q E s := by
  refine' makeO (binds := fun x => [(Str.ofString "self", x), (Str.ofString "codes", .ref l), (Str.ofString "place", .int p u)]) C I ?hm ?hi ?hf ?ho ?hcd ?hb ?hl ?c1 ?c2 ?c3 ?c4 ?_
  (case hm => k_is); (case hi => k_is); (case hf => k_is); (case ho => k_is); (case hcd => k_is); (case hb => exact fun _ _ X => binds_K X rfl (by k_is) rfl rfl rfl); (case hl => exact fun _ => locs rfl); (case c1 => exact rfl); (case c2 => exact rfl); (case c3 => exact rfl); (case c4 => decide)
  intro x dx A' g' L' s₁ C' I' sb hr
  clear C I
  have D' := DictO.nil
  have V' := V.mono (le_down sb hr)
  obtain ⟨k9, vs, hlt, hints⟩ := V'
  have hz9 : vs.length ≤ 100000 := by rw [hints.length]; omega
  repeat' (first
  | ((with_reducible show wpAny _ _ (setAttr _ _ _) _ _ _); (with_reducible rename Inv _ _ _ _ _ _ => I9); (with_reducible rename DictO _ _ => D9); (refine' set_new (by assumption) I9 D9 (cls_486 _) ?ha ?hz ?_); (case hz => exact Nat.le_of_ble_eq_true rfl); (case ha => first | with_reducible exact own_486_codes _ | with_reducible exact own_486_place _); clear I9 D9; intro _ _ _ _)
    | ((with_reducible show wpAny _ _ _ _ _ _); walk1)
    | ((with_reducible show ite _ _ _); walk_at "ites")
    | ((with_reducible show And _ _); walk1)
    | (with_reducible refine Ent.next (by assumption) ?_)
    | (with_reducible refine Ent.ret (by assumption) ?_)
    | (with_reducible refine EntV.use (by assumption) ?_)
    | (with_reducible refine Ent.brk (by assumption) ?_)
    | (with_reducible refine Ent.cont (by assumption) ?_))
  rename DictO _ _ => D9
  rename Inv _ _ _ _ _ _ => I9
  exact ⟨_, [_, _, _], _, I9, fun I8 => ⟨rfl, ret _ _ _ _ ⟨⟨fun _ => u, _, _, .head _, .tail _ (.head _), D9⟩, _, vs, .tail _ (.tail _ (.head _)), hints⟩ I8⟩⟩
theorem pp4_spec {l : Int} {u1 u2 : Tok} (C : Cx w A env g L 8) (I : Inv z g L m rest s) (V : Vw (inGR g rest) w vw lc vt dr sa c) (hp : c.b ≤ l) (he : l ≤ c.e)
    (ret : ∀ it a lt new u s', (it, tupO (List.toArray [.int l u, .ref a]) 0) ∈ new → PsAt (inL new) a lt (St.iter c (l - c.b).toNat (z0 c)) → Inv z g L m (new ++ rest) s' → Q (.ref it) s') :
    wpAny (model prg w) A (call (.ref 447) [.ref vw, .ref vt, .int c.b u1, .int l u2]) Q E s := by
  have X := I.kin C
  refine' pp_spec (p := c.b) (limit := l) (st := St0) (tg := none) (sc := false) (vst := .none) (u1 := u1) (u2 := u2) (u3 := 0) C I V (.inl ⟨rfl, rfl⟩) (Good.zero c) hp he (bindAt ?ho ?hb) fun it a lt new u s' h1 h2 h3 => ?_
  (case ho => k_is)
  (case hb => exact binds_K X rfl (by k_is) rfl rfl rfl)
  have e := run_plain c l (l - c.b).toNat (z0 c) hp (Nat.le_refl _)
  rw [show (z0 c).place = c.b from rfl] at e
  rw [e] at h1 h2
  rw [iter_place, show (z0 c).place = c.b from rfl, show c.b + ((l - c.b).toNat : Int) = l from by omega] at h1
  exact ret it a lt new u s' h1 h2 h3
theorem pp5_spec {p : Int} {u1 u2 : Tok} {st : St} (C : Cx w A env g L 8) (I : Inv z g L m rest s) (V : Vw (inGR g rest) w vw lc vt dr sa c) (S : PsAt (inGR g rest) a lt st) (G : Good c (st.s_place p)) (hp : p ≤ c.e)
    (ret : ∀ it a lt new u s', (it, tupO (List.toArray [.int c.e u, .ref a]) 0) ∈ new → PsAt (inL new) a lt (St.iter c (c.e - p).toNat (st.s_place p)) → Inv z g L m (new ++ rest) s' → Q (.ref it) s') :
    wpAny (model prg w) A (call (.ref 447) [.ref vw, .ref vt, .int p u1, .int c.e u2, .ref a]) Q E s := by
  have X := I.kin C
  refine' pp_spec (p := p) (limit := c.e) (st := st) (tg := none) (sc := false) (vst := .ref a) (u1 := u1) (u2 := u2) (u3 := 0) C I V (.inr ⟨a, lt, rfl, S⟩) G hp (Int.le_refl _) (bindAt ?ho ?hb) fun it a lt new u s' h1 h2 h3 => ?_
  (case ho => k_is)
  (case hb => exact binds_K X rfl (by k_is) rfl rfl rfl)
  have e := run_plain c c.e (c.e - p).toNat (st.s_place p) hp (Nat.le_refl _)
  rw [show (st.s_place p).place = p from rfl] at e
  rw [e] at h1 h2
  rw [iter_place, show (st.s_place p).place = p from rfl, show p + ((c.e - p).toNat : Int) = c.e from by omega] at h1
  exact ret it a lt new u s' h1 h2 h3
theorem ppT_spec {d : Int} {u1 u2 u3 : Tok} (C : Cx w A env g L 8) (I : Inv z g L m rest s) (V : Vw (inGR g rest) w vw lc vt dr sa c) (hl : c.b < c.e)
    (ret : ∀ it a lt new u k s', FirstK (stops c (some d) false (z0 c)) c.cs.length k → 1 ≤ k → (it, tupO (List.toArray [.int (c.b + (k : Int)) u, .ref a]) 0) ∈ new → PsAt (inL new) a lt (St.iter c k (z0 c)) → Inv z g L m (new ++ rest) s' → Q (.ref it) s') :
    wpAny (model prg w) A (call (.ref 447) [.ref vw, .ref vt, .int c.b u1, .int c.e u2] [(Str.ofString "target", .int d u3)]) Q E s := by
  have X := I.kin C
  refine' pp_spec (p := c.b) (limit := c.e) (st := St0) (tg := some d) (sc := false) (vst := .none) (u1 := u1) (u2 := u2) (u3 := u3) C I V (.inl ⟨rfl, rfl⟩) (Good.zero c) (by omega) (Int.le_refl _) (bindAt ?ho ?hb) fun it a lt new u s' h1 h2 h3 => ?_
  (case ho => k_is)
  (case hb => exact binds_K X rfl (by k_is) rfl rfl rfl)
  obtain ⟨k, e, f, o⟩ := run_stop c c.e (some d) false (c.e - c.b).toNat (z0 c) (show c.b ≤ c.e by omega) (Nat.le_refl _)
  rw [show (z0 c).place = c.b from rfl] at f o
  rw [show (c.e - c.b).toNat = c.cs.length from by unfold Ct.e; omega] at f e h1 h2
  rw [e] at h1 h2
  rw [iter_place, show (z0 c).place = c.b from rfl] at h1
  exact ret it a lt new u k s' f (o hl) h1 h2 h3
theorem ppC_spec {u1 u2 : Tok} (C : Cx w A env g L 8) (I : Inv z g L m rest s) (V : Vw (inGR g rest) w vw lc vt dr sa c) (hl : c.b < c.e)
    (ret : ∀ it a lt new u k s', FirstK (stops c none true (z0 c)) c.cs.length k → 1 ≤ k → (it, tupO (List.toArray [.int (c.b + (k : Int)) u, .ref a]) 0) ∈ new → PsAt (inL new) a lt (St.iter c k (z0 c)) → Inv z g L m (new ++ rest) s' → Q (.ref it) s') :
    wpAny (model prg w) A (call (.ref 447) [.ref vw, .ref vt, .int c.b u1, .int c.e u2] [(Str.ofString "stop_comment", .bool true)]) Q E s := by
  have X := I.kin C
  refine' pp_spec (p := c.b) (limit := c.e) (st := St0) (tg := none) (sc := true) (vst := .none) (u1 := u1) (u2 := u2) (u3 := 0) C I V (.inl ⟨rfl, rfl⟩) (Good.zero c) (by omega) (Int.le_refl _) (bindAt ?ho ?hb) fun it a lt new u s' h1 h2 h3 => ?_
  (case ho => k_is)
  (case hb => exact binds_K X rfl (by k_is) rfl rfl rfl)
  obtain ⟨k, e, f, o⟩ := run_stop c c.e none true (c.e - c.b).toNat (z0 c) (show c.b ≤ c.e by omega) (Nat.le_refl _)
  rw [show (z0 c).place = c.b from rfl] at f o
  rw [show (c.e - c.b).toNat = c.cs.length from by unfold Ct.e; omega] at f e h1 h2
  rw [e] at h1 h2
  rw [iter_place, show (z0 c).place = c.b from rfl] at h1
  exact ret it a lt new u k s' f (o hl) h1 h2 h3
end
end
/-! part N9 -/
end
section
set_option hygiene true
theorem fill_N9 (w : World) : hdKp w.params = hdKp w.params ∧ PySem.Challenge.rw_np0078_01 = PySem.Challenge.rw_np0078_01 := by
  k_fill
  exact ⟨rfl, rfl⟩
/-- the list of the walk's places: ys' j-th is a pair of the place and the state there -/
def StsAt (P : Reg) (ys : List Value) (c : Ct) (n : Nat) : Prop :=
  ys.length = n ∧ ∀ j, j < n → ∃ it a lt u, ys[j]? = some (.ref it) ∧ P it (tupO (List.toArray [.int (c.b + (j : Int)) u, .ref a]) 0) ∧ PsAt P a lt (St.iter c j (z0 c))
theorem StsAt.mono {P P' : Reg} {ys c n} (h : StsAt P ys c n) (l : P.le P') : StsAt P' ys c n :=
  ⟨h.1, fun j hj => let ⟨it, a, lt, u, h1, h2, h3⟩ := h.2 j hj; ⟨it, a, lt, u, h1, l _ _ h2, h3.mono l⟩⟩
theorem StsAt.snoc {P : Reg} {ys c n} (h : StsAt P ys c n) {it a lt : Addr} {u : Tok} (h1 : P it (tupO (List.toArray [.int (c.b + (n : Int)) u, .ref a]) 0)) (h2 : PsAt P a lt (St.iter c n (z0 c))) : StsAt P (ys ++ [.ref it]) c (n + 1) := by
  refine ⟨by rw [List.length_append, h.1]; rfl, fun j hj => ?_⟩
  by_cases e : j < n
  · obtain ⟨it', a', lt', u', q1, q2, q3⟩ := h.2 j e
    exact ⟨it', a', lt', u', by rw [List.getElem?_append_left (by rw [h.1]; exact e)]; exact q1, q2, q3⟩
  · have e' : j = n := by omega
    subst e'
    exact ⟨it, a, lt, u, by rw [List.getElem?_append_right (by rw [h.1]; exact Nat.le_refl _), h.1, Nat.sub_self]; rfl, h1, h2⟩
theorem perm_3 {α : Type} (new : List α) (i c d : α) (R : List α) : (new ++ (i :: c :: d :: R)).Perm (i :: c :: d :: (new ++ R)) := by
  classical
  rw [List.perm_iff_count]; intro x; simp only [List.count_append, List.count_cons]; omega
theorem ct_e {c : Ct} : c.e = c.b + (c.cs.length : Int) := rfl
end
section
set_option hygiene false
local macro_rules | `(tactic| walk_at "exec For") => `(tactic| (refine' wpAny_For ?_ ?hs; (case hs => with_unfolding_all exact fun _ => rfl)))
local macro_rules | `(tactic| walk_at "call type:range") => `(tactic| ((with_reducible rename Inv _ _ _ _ _ _ => I9); (first | (with_reducible refine rRange2 I9 ?_) | (with_reducible refine rRange1 I9 ?_)); clear I9; intro _ _ _ _ _ _ _))
local macro_rules | `(tactic| walk_at "callWith ref") => `(tactic| (with_reducible refine' cwk0 (by assumption) (by assumption) ?hk ?_; (case hk => exact keepc_232 _)))
section
local macro_rules | `(tactic| walk_at "eval Name") => `(tactic| ((fail_if_success (with_reducible show wpAny _ _ (eval (Expr.Name _ _) (PySem.W.envX _ _ _ _ _ [])) _ _ _)); with_unfolding_all (first
  | refine n_cell (by assumption) (by rfl) (by first | exact .head _ | exact .tail _ (.head _)) (by assumption) (by rfl) (by rfl) (by rfl) ?_
  | refine c_cell (by assumption) (by rfl) (by first | exact .tail _ (.tail _ (.tail _ (List.mem_append_right _ (.head _)))) | exact .tail _ (.tail _ (.tail _ (List.mem_append_right _ (.tail _ (.head _)))))) (by assumption) (by rfl) (by rfl) (by rfl) ?_)))
local macro_rules | `(tactic| walk_at "eval ListComp") => `(tactic| (refine' lc_pre ?_ ?qlb ?qlc ?qld ?qle; (case qlb => with_unfolding_all rfl); (case qlc => with_unfolding_all rfl); (case qld => with_unfolding_all decide); (case qle => with_unfolding_all exact fun _ => rfl)))
section
set_option hygiene true
section
variable {z : Shared} {w : World} {A : Around} {env : Env} {g : Heap} {L : Addr} {n : Nat} {m : Str → Option Value} {own rest : Led} {s : Shared} {E : Value → Shared → Prop} {x vw vt lo lc dr lt a : Addr} {sa : Int → Addr} {c : Ct} {st : St} {Q : Value → Shared → Prop}
theorem states_spec (C : Cx w A env g L 10) (I : Inv z g L m rest s) (V : Vw (inGR g rest) w vw lc vt dr sa c) (hb : 0 ≤ c.b ∧ c.b ≤ 1000)
    (ret : ∀ l k ys new s', (l, PySem.W.listOf (List.toArray ys) k) ∈ new → StsAt (inL new) ys c (c.cs.length + 1) → Inv z g L m (new ++ rest) s' → Q (.ref l) s') :
    wpAny (model prg w) A (call (.ref 519) [.ref vw, .ref vt]) Q E s := by
  refine' callOC (own := []) (binds := [(Str.ofString "view", .ref vw), (Str.ofString "table", .ref vt)]) C I ?ho ?hcd ?hb ?hl ?hnd ?c1 ?c2 ?c3 ?_
  (case ho => k_is); (case hcd => k_is); (case hb => exact BindsTo.of_eq rfl); (case hl => rfl); (case hnd => decide); (case c1 => exact rfl); (case c2 => exact rfl); (case c3 => exact rfl)
  intro A' g' L' s₁ cells C' I' hcl sb hr
  clear C I
  have V' := V.mono (le_down sb hr)
  have hrow := V'.row
  have hlen := V'.len
  have hce := ct_e (c := c)
  obtain ⟨oc, oc2, rfl, hd9, hd8⟩ := CellsAre.two hcl
  have hd9' : oc.data = .cell (some (.ref vt)) := hd9
  have hd8' : oc2.data = .cell (some (.ref vw)) := hd8
  clear hcl
  repeat' (first
    | ((with_reducible show wpAny _ _ (call (Value.ref _) _ _) _ _ _); (with_reducible rename Inv _ _ _ _ _ _ => I9); first
      | (with_reducible refine rbegin_spec (Cx.less (by assumption) (by decide)) I9 (by assumption) ?_; clear I9; intro _ _ _)
      | (with_reducible refine rbegin_spec (Cx.less (by assumption) (by decide)) I9 (Vw.mono (by assumption) le_up) ?_; clear I9; intro _ _ _)
      | (with_reducible refine rend_spec (Cx.less (by assumption) (by decide)) I9 (by assumption) ?_; clear I9; intro _ _ _)
      | (with_reducible refine rend_spec (Cx.less (by assumption) (by decide)) I9 (Vw.mono (by assumption) le_up) ?_; clear I9; intro _ _ _))
    | ((with_reducible show wpAny _ _ _ _ _ _); walk1)
    | ((with_reducible show ite _ _ _); walk_at "ites")
    | ((with_reducible show And _ _); walk1)
    | (with_reducible refine Ent.next (by assumption) ?_)
    | (with_reducible refine Ent.ret (by assumption) ?_)
    | (with_reducible refine EntV.use (by assumption) ?_)
    | (with_reducible refine Ent.brk (by assumption) ?_)
    | (with_reducible refine Ent.cont (by assumption) ?_))
  rename Inv _ _ _ _ _ _ => I9
  rename IsRange _ _ _ _ _ _ _ _ => hR
  have hsm := range_small (a := c.b) (b := c.b + c.cs.length + 1) (by omega) (by omega) (by omega)
  refine src_range C'.noHandled I9 hR hsm.1 hsm.2 fun It fp St oI s' ok hfp st0 I8 => ?_
  refine compU_own ok hfp I8 st0 (by rw [PySem.sizeLine_eq]; omega) (by decide) rfl rfl (fun i ys ow => ∃ new, ow = new ++ _ ∧ StsAt (inL new) ys c i) ⟨[], rfl, rfl, fun j hj => absurd hj (Nat.not_lt_zero _)⟩ (fun _ _ _ _ => trivial) (fun i v ys ow It oI Cc oC D m₂ s hlt hP hJ hC hx I7 => ?_) (fun D ys ow s' hJ I7 => ?_)
  · clear I8 I9 ok
    obtain ⟨new, rfl, hS⟩ := hJ
    obtain ⟨t, rfl⟩ := hP
    repeat' (first
      | ((with_reducible show wpAny _ _ (call (Value.ref _) _ _) _ _ _); (with_reducible rename Inv _ _ _ _ _ _ => I9); first
        | (with_reducible refine rbegin_spec (Cx.less (by assumption) (by decide)) I9 (by assumption) ?_; clear I9; intro _ _ _)
        | (with_reducible refine rbegin_spec (Cx.less (by assumption) (by decide)) I9 (Vw.mono (by assumption) le_up) ?_; clear I9; intro _ _ _)
        | ((with_reducible refine' pp4_spec (Cx.less (by assumption) (by decide)) I9 (by assumption) ?hp ?he ?_); (case hp => omega); (case he => rw [ct_e]; omega); clear I9; intro _ _ _ _ _ _ _ _ _)
        | ((with_reducible refine' pp4_spec (Cx.less (by assumption) (by decide)) I9 (Vw.mono (by assumption) le_up) ?hp ?he ?_); (case hp => omega); (case he => rw [ct_e]; omega); clear I9; intro _ _ _ _ _ _ _ _ _))
      | ((with_reducible show wpAny _ _ _ _ _ _); walk1)
      | ((with_reducible show ite _ _ _); walk_at "ites")
      | ((with_reducible show And _ _); walk1)
      | (with_reducible refine Ent.next (by assumption) ?_)
      | (with_reducible refine Ent.ret (by assumption) ?_)
      | (with_reducible refine EntV.use (by assumption) ?_)
      | (with_reducible refine Ent.brk (by assumption) ?_)
      | (with_reducible refine Ent.cont (by assumption) ?_))
    all_goals rename Inv _ _ _ _ _ _ => I9
    rename PsAt _ _ _ _ => P9
    rename (_ : Addr × Obj) ∈ _ => M9
    rw [show (c.b + (i : Int) - c.b).toNat = i from by omega] at P9
    refine ⟨_, I9.perm (perm_3 _ _ _ _ _), _ ++ new, (List.append_assoc _ _ _).symm, (hS.mono fun _ _ h => List.mem_append_right _ h).snoc (List.mem_append_left _ M9) (P9.mono fun _ _ h => List.mem_append_left _ h)⟩
  · clear I8 I9 ok
    obtain ⟨new, rfl, hS⟩ := hJ
    rw [show (c.b + (c.cs.length : Int) + 1 - c.b).toNat = c.cs.length + 1 from by omega] at hS
    repeat' (first
      | ((with_reducible show wpAny _ _ _ _ _ _); walk1)
      | ((with_reducible show ite _ _ _); walk_at "ites")
      | ((with_reducible show And _ _); walk1)
      | (with_reducible refine Ent.next (by assumption) ?_)
      | (with_reducible refine Ent.ret (by assumption) ?_)
      | (with_reducible refine EntV.use (by assumption) ?_)
      | (with_reducible refine Ent.brk (by assumption) ?_)
      | (with_reducible refine Ent.cont (by assumption) ?_))
    exact ⟨_, (D, LCg.lst ys) :: new, _, I7, fun I8 => ret _ _ _ _ _ (.head _) (hS.mono fun _ _ h => .tail _ h) I8⟩
end
end
/-! part N10 -/
end
end
section
set_option hygiene true
theorem fill_N10 (w : World) : hdKp w.params = hdKp w.params ∧ PySem.Challenge.rw_np0078_01 = PySem.Challenge.rw_np0078_01 := by
  k_fill
  exact ⟨rfl, rfl⟩
section
variable {z : Shared} {w : World} {A : Around} {env : Env} {g : Heap} {L : Addr} {n : Nat} {m : Str → Option Value} {own rest : Led} {s : Shared} {E : Value → Shared → Prop} {Q : Value → Shared → Prop} {l lt : Addr} {st : St} {t : Nat → Tok} {v3 v4 : Value} {u : Tok} {value slice : Expr}
theorem getTd0 (I : Inv z g L m own s) (hm : (l, tupO (toldV lt st t v3 v4).toArray 0) ∈ own) (hs : subscripted slice false (.ref l) (.int 0 u) = operate [.ref l, .int 0 u] (getItem (.ref l) (.int 0 u))) (h : Q (.int st.depth (t 0)) s) : wpAny (model prg w) A (subscriptTail value slice (.ref l) (.int 0 u)) Q E s :=
  getT I (I.get hm) (by decide) (by decide) rfl h hs
theorem getTd1 (I : Inv z g L m own s) (hm : (l, tupO (toldV lt st t v3 v4).toArray 0) ∈ own) (hs : subscripted slice false (.ref l) (.int 1 u) = operate [.ref l, .int 1 u] (getItem (.ref l) (.int 1 u))) (h : Q (lastV st.opens (t 1)) s) : wpAny (model prg w) A (subscriptTail value slice (.ref l) (.int 1 u)) Q E s :=
  getT I (I.get hm) (by decide) (by decide) rfl h hs
theorem getTd2 (I : Inv z g L m own s) (hm : (l, tupO (toldV lt st t v3 v4).toArray 0) ∈ own) (hs : subscripted slice false (.ref l) (.int 2 u) = operate [.ref l, .int 2 u] (getItem (.ref l) (.int 2 u))) (h : Q (optV st.whole (t 2)) s) : wpAny (model prg w) A (subscriptTail value slice (.ref l) (.int 2 u)) Q E s :=
  getT I (I.get hm) (by decide) (by decide) rfl h hs
theorem getTd5 (I : Inv z g L m own s) (hm : (l, tupO (toldV lt st t v3 v4).toArray 0) ∈ own) (hs : subscripted slice false (.ref l) (.int 5 u) = operate [.ref l, .int 5 u] (getItem (.ref l) (.int 5 u))) (h : Q (.bool st.quoted) s) : wpAny (model prg w) A (subscriptTail value slice (.ref l) (.int 5 u)) Q E s :=
  getT I (I.get hm) (by decide) (by decide) rfl h hs
theorem getTd6 (I : Inv z g L m own s) (hm : (l, tupO (toldV lt st t v3 v4).toArray 0) ∈ own) (hs : subscripted slice false (.ref l) (.int 6 u) = operate [.ref l, .int 6 u] (getItem (.ref l) (.int 6 u))) (h : Q (.int st.least (t 6)) s) : wpAny (model prg w) A (subscriptTail value slice (.ref l) (.int 6 u)) Q E s :=
  getT I (I.get hm) (by decide) (by decide) rfl h hs
theorem getTd9 (I : Inv z g L m own s) (hm : (l, tupO (toldV lt st t v3 v4).toArray 0) ∈ own) (hs : subscripted slice false (.ref l) (.int 9 u) = operate [.ref l, .int 9 u] (getItem (.ref l) (.int 9 u))) (h : Q (.ref lt) s) : wpAny (model prg w) A (subscriptTail value slice (.ref l) (.int 9 u)) Q E s :=
  getT I (I.get hm) (by decide) (by decide) rfl h hs
end
end
section
set_option hygiene false
local macro_rules | `(tactic| walk_at "ites") => `(tactic| (with_reducible show ite ((bne (and _ _) _) = true) _ _); (with_reducible refine ite_ff' (by simp only [*, Option.isNone_some, Option.isNone_none, Bool.false_and, Bool.true_and, bne_self_eq_false]) ?_))
local macro_rules | `(tactic| walk_at "compareOp NotEq ref ref") => `(tactic| ((with_reducible rename Inv _ _ _ _ _ _ => I9); (with_reducible refine' ne_tup0 (by assumption) ?l1 (I9.get ?hm) ?_); (case l1 => exact TupI.mono (by assumption) I9.regS); (case hm => (first | exact .head _ | exact .tail _ (.head _) | exact .tail _ (.tail _ (.head _)) | exact .tail _ (.tail _ (.tail _ (.head _)))))))
local macro_rules | `(tactic| walk_at "newList") => `(tactic| ((with_reducible rename Inv _ _ _ _ _ _ => I9); (with_reducible refine' newListO I9 ?hz ?_); (case hz => exact Nat.le_of_ble_eq_true rfl); clear I9; intro _ _ _))
section
local macro_rules | `(tactic| walk_at "subscriptTail") => `(tactic| ((with_reducible rename Inv _ _ _ _ _ _ => I9); (first | (with_reducible refine' getTd0 I9 ?hm ?hs ?_) | (with_reducible refine' getTd1 I9 ?hm ?hs ?_) | (with_reducible refine' getTd2 I9 ?hm ?hs ?_) | (with_reducible refine' getTd5 I9 ?hm ?hs ?_) | (with_reducible refine' getTd6 I9 ?hm ?hs ?_) | (with_reducible refine' getTd9 I9 ?hm ?hs ?_)); (case hm => (first | exact .head _ | exact .tail _ (.head _) | exact .tail _ (.tail _ (.head _)) | exact .tail _ (.tail _ (.tail _ (.head _))))); (case hs => with_unfolding_all rfl)))
section
set_option hygiene true
section
variable {z : Shared} {w : World} {A : Around} {env : Env} {g : Heap} {L : Addr} {n : Nat} {m : Str → Option Value} {own rest : Led} {s : Shared} {E : Value → Shared → Prop} {x vw vt lo lc dr lt a : Addr} {sa : Int → Addr} {c : Ct} {st : St} {Q : Value → Shared → Prop}
theorem law_told_spec  (C : Cx w A env g L 4) (I : Inv z g L m (rest) s) (V : PsAt (inGR g rest) a lt st) (hz : st.opens.length ≤ 1001)
    (ret : ∀ s', Inv z g L m rest s' → Q (.bool true) s') :
    wpAny (model prg w) A (call (.ref 540) [.ref a]) Q E s := by
  refine' callO (own := []) (binds := [(Str.ofString "state", .ref a)]) C I ?ho ?hcd ?hb ?hl ?c1 ?c2 ?c3 ?c4 ?_
  walk_at "enter"
  intro A' g' L' s₁ C' I' sb hr
  refine gen_post fun R9 hR9 => ?_
  clear C I
  have V' := V.mono (le_down sb hr)
  have T' := V'.tup
  have hd1 : (st.depth != (st.opens.length : Int) - st.below) = false := by simp [St.depth]
  repeat' (first
    | ((with_reducible show wpAny _ _ (call (Value.ref _) _ _) _ _ _); (with_reducible rename Inv _ _ _ _ _ _ => I9); first
      | ((with_reducible refine' told_state_spec (Cx.less (by assumption) (by decide)) I9 (PsAt.mono (by assumption) le_up) ?hz ?_); (case hz => assumption); clear I9; intro _ _ _ _ _ _)
      | ((with_reducible refine' ps_depth_spec (Cx.less (by assumption) (by decide)) I9 (by assumption) ?hz ?_); (case hz => first | assumption | omega); clear I9; intro _ _ _)
      | ((with_reducible refine' ps_depth_spec (Cx.less (by assumption) (by decide)) I9 (PsAt.mono (by assumption) le_up) ?hz ?_); (case hz => first | assumption | omega); clear I9; intro _ _ _)
      | ((with_reducible refine' ps_plain_spec (Cx.less (by assumption) (by decide)) I9 (by assumption) ?_); clear I9; intro _ _)
      | ((with_reducible refine' ps_plain_spec (Cx.less (by assumption) (by decide)) I9 (PsAt.mono (by assumption) le_up) ?_); clear I9; intro _ _))
    | ((with_reducible show wpAny _ _ _ _ _ _); walk1)
    | ((with_reducible show ite _ _ _); walk_at "ites")
    | ((with_reducible show And _ _); walk1)
    | (with_reducible refine Ent.next (by assumption) ?_)
    | (with_reducible refine Ent.ret (by assumption) ?_)
    | (with_reducible refine EntV.use (by assumption) ?_)
    | (with_reducible refine Ent.brk (by assumption) ?_)
    | (with_reducible refine Ent.cont (by assumption) ?_))
  all_goals (rename Inv _ _ _ _ _ _ => I9
             refine eq_told C' (I9.get (.head _)) (I9.get (.tail _ (.head _))) (reads_last _ _) ?_ (T'.mono I9.regS) (by (repeat (first | (with_reducible refine Ent.next (by assumption) ?_) | (with_reducible refine Ent.ret (by assumption) ?_) | (with_reducible refine EntV.use (by assumption) ?_))); exact ⟨_, [], _, I9, fun I8 => ret _ I8⟩)
             first | exact reads_last_pos (by assumption) | exact reads_last_neg (by assumption))
end
end
/-! part N11 -/
end
end
section
set_option hygiene true
theorem fill_N11 (w : World) : hdKp w.params = hdKp w.params ∧ PySem.Challenge.rw_np0078_01 = PySem.Challenge.rw_np0078_01 := by
  k_fill
  exact ⟨rfl, rfl⟩
section
variable {z : Shared} {w : World} {A : Around} {env : Env} {g : Heap} {L : Addr} {n N : Nat} {m : Str → Option Value} {own rest : Led} {s : Shared} {E : Value → Shared → Prop} {Q : Value → Shared → Prop} {l it : Addr} {ys : List Value} {k : Nat} {u : Tok} {value slice : Expr} {c : Ct} {i : Int}
theorem stsItem (I : Inv z g L m own s) (hl : inG g l (PySem.W.listOf (List.toArray ys) k)) (V : StsAt (inG g) ys c N) (h0 : 0 ≤ i) (h1 : i < (N : Int)) (hz : N ≤ 100000) (hs : subscripted slice false (.ref l) (.int i u) = operate [.ref l, .int i u] (getItem (.ref l) (.int i u)))
    (h : ∀ it a lt u, inG g it (tupO (List.toArray [.int (c.b + i) u, .ref a]) 0) → PsAt (inG g) a lt (St.iter c i.toNat (z0 c)) → Q (.ref it) s) : wpAny (model prg w) A (subscriptTail value slice (.ref l) (.int i u)) Q E s := by
  obtain ⟨it, a, lt, u', h2, h3, h4⟩ := V.2 i.toNat (by omega)
  rw [show ((i.toNat : Nat) : Int) = i from by omega] at h3
  exact getL I (I.kp hl) h0 (by omega) (by simpa using h2) (h it a lt u' h3 h4) hs
theorem pairSnd {x0 x1 : Value} (I : Inv z g L m own s) (hm : inG g it (tupO (List.toArray [x0, x1]) 0)) (hs : subscripted slice false (.ref it) (.int 1 u) = operate [.ref it, .int 1 u] (getItem (.ref it) (.int 1 u))) (h : Q x1 s) : wpAny (model prg w) A (subscriptTail value slice (.ref it) (.int 1 u)) Q E s :=
  getT I (I.kp hm) (by decide) (by decide) rfl h hs
theorem stsLen (I : Inv z g L m own s) (hl : inG g l (PySem.W.listOf (List.toArray ys) k)) (V : StsAt (inG g) ys c N) (hz : N ≤ 100000) (h : ∀ s' u, Inv z g L m own s' → Q (.int (N : Int) u) s') : wpAny (model prg w) A (call (.builtin "len") [.ref l]) Q E s :=
  lenL I (I.kp hl) (by rw [List.size_toArray, V.1]; exact hz) fun s' u J => by rw [List.size_toArray, V.1]; exact h s' u J
end
theorem iter_opens {c : Ct} {k : Nat} (h : k ≤ 1001) : (St.iter c k (z0 c)).opens.length ≤ 1001 := by
  have G := Good.iter (c := c) k (Good.zero c)
  have h1 := G.opens
  rw [iter_place] at h1
  have h2 : (z0 c).place = c.b := rfl
  have h1' : ((St.iter c k (z0 c)).opens.length : Int) ≤ (z0 c).place + k - c.b := h1
  rw [h2] at h1'
  omega
end
section
set_option hygiene false
local macro_rules | `(tactic| walk_at "exec For") => `(tactic| (refine' wpAny_For ?_ ?hs; (case hs => with_unfolding_all exact fun _ => rfl)))
local macro_rules | `(tactic| walk_at "call type:range") => `(tactic| ((with_reducible rename Inv _ _ _ _ _ _ => I9); (first | (with_reducible refine rRange2 I9 ?_) | (with_reducible refine rRange1 I9 ?_)); clear I9; intro _ _ _ _ _ _ _))
local macro_rules | `(tactic| walk_at "callWith ref") => `(tactic| (with_reducible refine' cwk0 (by assumption) (by assumption) ?hk ?_; (case hk => exact keepc_232 _)))
section
local macro_rules | `(tactic| walk_at "eval Name") => `(tactic| (refine r_loc (by assumption) (by with_unfolding_all assumption) (by rfl) (by rfl) (by rfl) ?_))
local macro_rules | `(tactic| walk_at "subscriptTail") => `(tactic| ((with_reducible rename Inv _ _ _ _ _ _ => I9); (with_reducible refine' stsItem I9 (by assumption) (by assumption) ?h0 ?h1 ?hz ?hs ?_); (case h0 => omega); (case h1 => omega); (case hz => omega); (case hs => with_unfolding_all rfl); intro _ _ _ _ _ _))
local macro_rules | `(tactic| walk_at "subscriptTail") => `(tactic| ((with_reducible rename Inv _ _ _ _ _ _ => I9); (with_reducible refine' pairSnd I9 (by assumption) ?hs ?_); (case hs => with_unfolding_all rfl)))
local macro_rules | `(tactic| walk_at "call builtin:len") => `(tactic| ((with_reducible rename Inv _ _ _ _ _ _ => I9); (with_reducible refine' stsLen I9 (by assumption) (by assumption) ?hz ?_); (case hz => omega); clear I9; intro _ _ _))
local macro_rules | `(tactic| walk_at "callWith ref") => `(tactic| ((with_reducible rename Inv _ _ _ _ _ _ => I9); (with_reducible refine' cwl (by assumption) I9 ?he ?hp ?_); (case he => with_unfolding_all rfl); (case hp => with_unfolding_all rfl)))
local macro_rules | `(tactic| walk_at "And") => `(tactic| (with_reducible refine andF (by assumption) (by assumption) ?_))
section
set_option hygiene true
section
variable {z : Shared} {w : World} {A : Around} {env : Env} {g : Heap} {L : Addr} {n : Nat} {m : Str → Option Value} {own rest : Led} {s : Shared} {E : Value → Shared → Prop} {x vw vt lo lc dr lt a : Addr} {sa : Int → Addr} {c : Ct} {st : St} {Q : Value → Shared → Prop}
theorem first_spec {l f : Addr} {k N : Nat} {ys : List Value} {sb : St → St → Bool} {Lam : Reg → Prop} (C : Cx w A env g L 8) (I : Inv z g L m rest s) (hl : inGR g rest l (PySem.W.listOf (List.toArray ys) k)) (V : StsAt (inGR g rest) ys c (N + 1)) (h1N : 1 ≤ N) (hN : N ≤ 1000)
    (hLam : Lam (inGR g rest)) (hmono : ∀ P P', Lam P → Reg.le P P' → Lam P') (hfn : ∀ g, Lam (inG g) → FnAt f g)
    (hcall : ∀ {A : Around} {env : Env} {g : Heap} {L : Addr} {m : Str → Option Value} {rest : Led} {s : Shared} {Q E : Value → Shared → Prop} {a1 a2 lt1 lt2 : Addr} {st1 st2 : St}, Cx w A env g L 6 → Inv z g L m rest s → Lam (inG g) → PsAt (inG g) a1 lt1 st1 → PsAt (inG g) a2 lt2 st2 → st1.opens.length ≤ 1001 → st2.opens.length ≤ 1001 →
      (∀ s', Inv z g L m rest s' → Q (.bool (sb st1 st2)) s') → wpAny (model prg w) A (call (.ref f) [.ref a1, .ref a2]) Q E s)
    (ret : ∀ k u s', FirstK (fun j => sb (St.iter c (j - 1) (z0 c)) (St.iter c j (z0 c))) N k → 1 ≤ k → Inv z g L m rest s' → Q (.int (k : Int) u) s') :
    wpAny (model prg w) A (call (.ref 526) [.ref l, .ref f]) Q E s := by
  refine' callO (own := []) (binds := [(Str.ofString "states", .ref l), (Str.ofString "is_stop", .ref f)]) C I ?ho ?hcd ?hb ?hl ?c1 ?c2 ?c3 ?c4 ?_
  walk_at "enter"
  intro A' g' L' s₁ C' I' sb' hr
  have V' := V.mono (le_down sb' hr)
  have hl' := le_down sb' hr _ _ hl
  have hLam := hmono _ _ hLam (le_down sb' hr)
  have hf := hfn _ hLam
  clear C I V hl
  repeat' (first
    | ((with_reducible show wpAny _ _ _ _ _ _); walk1)
    | ((with_reducible show ite _ _ _); walk_at "ites")
    | ((with_reducible show And _ _); walk1)
    | (with_reducible refine Ent.next (by assumption) ?_)
    | (with_reducible refine Ent.ret (by assumption) ?_)
    | (with_reducible refine EntV.use (by assumption) ?_)
    | (with_reducible refine Ent.brk (by assumption) ?_)
    | (with_reducible refine Ent.cont (by assumption) ?_))
  rename Inv _ _ _ _ _ _ => I9
  rename IsRange _ _ _ _ _ _ _ _ => hR
  have hsm := range_small (a := 1) (b := (N + 1 : Nat)) (by omega) (by omega) (by omega)
  refine src_range C'.noHandled I9 hR hsm.1 hsm.2 fun It fp St' oI s' ok hfp st0 I8 => ?_
  refine for_own ok I8 st0 (fun i m ow => ow = _ ∧ (∀ j, 1 ≤ j → j ≤ i → sb (St.iter c (j - 1) (z0 c)) (St.iter c j (z0 c)) = false) ∧ m (Str.ofString "states") = some (.ref l) ∧ m (Str.ofString "is_stop") = some (.ref f)) ⟨rfl, (fun j a b => by omega), rfl, rfl⟩ (fun _ _ _ _ => trivial) (fun i v m9 ow oI s9 hlt hP hJ I7 => ?_) (fun m9 ow s9 I7 hJ => ?_)
  · clear I8 I9 ok
    obtain ⟨rfl, hno, e1, e2⟩ := hJ
    obtain ⟨tk, rfl⟩ := hP
    repeat' (first
      | ((with_reducible show wpAny _ _ (call (Value.ref _) _ _) _ _ _); (with_reducible rename Inv _ _ _ _ _ _ => I9); first
        | ((with_reducible refine' hcall (Cx.less (by assumption) (by decide)) I9 hLam (by assumption) (by assumption) ?hz1 ?hz2 ?_); (case hz1 => exact iter_opens (by omega)); (case hz2 => exact iter_opens (by omega)); clear I9; intro _ _))
      | ((with_reducible show wpAny _ _ _ _ _ _); walk1)
      | ((with_reducible show ite _ _ _); walk_at "ites")
      | ((with_reducible show And _ _); walk1)
      | (with_reducible refine Ent.next (by assumption) ?_)
      | (with_reducible refine Ent.ret (by assumption) ?_)
      | (with_reducible refine EntV.use (by assumption) ?_)
      | (with_reducible refine Ent.brk (by assumption) ?_)
      | (with_reducible refine Ent.cont (by assumption) ?_))
    · rename Inv _ _ _ _ _ _ => I9
      rename sb _ _ = true => hs9
      rw [show (1 + (i : Int) - 1).toNat = i + 1 - 1 from by omega, show (1 + (i : Int)).toNat = i + 1 from by omega] at hs9
      refine ⟨_, [], _, I9, fun I8 => ?_⟩
      have q := ret (i + 1) tk _ ⟨by omega, fun j a b => hno j a (by omega), .inr ⟨by omega, hs9⟩⟩ (by omega) I8
      rw [show ((i + 1 : Nat) : Int) = 1 + (i : Int) from by omega] at q
      exact q
    · rename Inv _ _ _ _ _ _ => I9
      rename sb _ _ = false => hs9
      rw [show (1 + (i : Int) - 1).toNat = i + 1 - 1 from by omega, show (1 + (i : Int)).toNat = i + 1 from by omega] at hs9
      refine ⟨_, _, I9, rfl, fun j a b => ?_, by with_unfolding_all exact e1, by with_unfolding_all exact e2⟩
      by_cases hj : j = i + 1
      · subst hj; exact hs9
      · exact hno j a (by omega)
  · clear I8 I9 ok
    obtain ⟨rfl, hno, e1, e2⟩ := hJ
    repeat' (first
      | ((with_reducible show wpAny _ _ _ _ _ _); walk1)
      | ((with_reducible show ite _ _ _); walk_at "ites")
      | ((with_reducible show And _ _); walk1)
      | (with_reducible refine Ent.next (by assumption) ?_)
      | (with_reducible refine Ent.ret (by assumption) ?_)
      | (with_reducible refine EntV.use (by assumption) ?_)
      | (with_reducible refine Ent.brk (by assumption) ?_)
      | (with_reducible refine Ent.cont (by assumption) ?_))
    rename Inv _ _ _ _ _ _ => I9
    refine ⟨_, [], [], I9, fun I8 => ?_⟩
    show Q (.int (((N + 1 : Nat) : Int) - 1) _) _
    rw [show ((N + 1 : Nat) : Int) - 1 = ((N : Nat) : Int) from by omega]
    exact ret N _ _ ⟨Nat.le_refl _, fun j a b => hno j a (by omega), .inl rfl⟩ h1N I8
end
end
/-! part N12 -/
end
section
set_option hygiene true
theorem fill_N12 (w : World) : hdKp w.params = hdKp w.params ∧ PySem.Challenge.rw_np0078_01 = PySem.Challenge.rw_np0078_01 := by
  k_fill
  exact ⟨rfl, rfl⟩
theorem perm_lam {α : Type} (a b f c t : α) (new r : List α) : (a :: b :: (new ++ (f :: c :: t :: r))).Perm (t :: (a :: b :: (new ++ (f :: c :: r)))) := by
  classical
  rw [List.perm_iff_count]; intro x; simp only [List.count_append, List.count_cons]; omega
theorem stp_T (d : Int) (s t : St) : stp (some d) false s t = (t.depth == d && s.depth != d) := by
  unfold stp
  simp only [Bool.false_and, Bool.or_false]
  by_cases h1 : t.depth = d
  · subst h1
    by_cases h2 : t.depth = s.depth
    · simp [h2]
    · simp only [beq_self_eq_true, Bool.and_true, Bool.true_and]; exact bne_comm
  · have : (t.depth == d) = false := by simpa using h1
    rw [this]; simp
theorem stp_C (s t : St) : stp none true s t = (t.comment != 0 && s.comment == 0) := by
  unfold stp
  simp only [Bool.true_and, Bool.false_or]
  exact Bool.and_comm _ _
theorem FirstK.congr {P P' : Nat → Bool} {N k : Nat} (h : FirstK P N k) (e : ∀ j, P j = P' j) : FirstK P' N k := ⟨h.le, fun j a b => (e j) ▸ h.no j a b, h.here.imp id fun q => ⟨q.1, (e k) ▸ q.2⟩⟩
section
variable {z : Shared} {w : World} {A : Around} {env : Env} {g : Heap} {L : Addr} {n : Nat} {m : Str → Option Value} {own rest : Led} {s : Shared} {E : Value → Shared → Prop} {Q : Value → Shared → Prop} {vw vt lc dr : Addr} {sa : Int → Addr} {c : Ct}
theorem psUp {new R : Led} {a lt : Addr} {st : St} (I : Inv z g L m (new ++ R) s) (h : PsAt (inL new) a lt st) : PsAt (inGR g (new ++ R)) a lt st := h.mono le_new
theorem unpackNM {vs : List Value} {a : Addr} {n' : Nat} {elts : List Expr} {k} {pos : Pos} {Q : Unit → Shared → Prop} (C : Cx w A env g L n) (I : Inv z g L m own s) (ht : s.heap.get? a = some (tupO vs.toArray n')) (hk : (assignEach elts env).length = vs.length) (hstar : (assignEach elts env).findIdx? (·.1) = none)
    (h : ∀ s', Inv z g L m own s' → wpAny (model prg w) A (assignInOrder ((assignEach elts env).map (·.2)) vs) Q E s') : wpAny (model prg w) A (assign (.Tuple elts k pos) env (.ref a)) Q E s :=
  unpackN_ I.F I.N ⟨_, ht, rfl, n', rfl⟩ C.noHandled (by rw [List.size_toArray]; exact hk) hstar fun h' F' N' => h _ (I.mk' s.toks F' N' I.nd)
theorem cwkw {M : Model} {pos : Pos} {f : Addr} {env' : Env} {e : Expr} {es : List Expr} {kws : List Keyword} (C : Cx w A env g L n) (hk : ((hdKp w.params).lookup f).any fnO = true) (hall : (backToKw pos (keywordEach kws env')).all (·.1.isSome) = true)
    (hplain : ((backTo pos (starEach (e :: es) env')).any (·.1) || (backToKw pos (keywordEach kws env')).any (·.1.isNone)) = false) (he : starEach (e :: es) env' = (false, eval e env') :: starEach es env')
    (h : wpAny M A (spliced (backTo pos (starEach (e :: es) env'))) (fun vs s₁ => wpAny M A (evalAll ((backToKw pos (keywordEach kws env')).map (·.2)))
      (fun ks s₂ => (hdKp w.params).In s₂.heap ∧ wpAny M A (call (.ref f) vs (((backToKw pos (keywordEach kws env')).filterMap (·.1)).zip ks)) Q E s₂) E s₁) E s) :
    wpAny M A (callWith pos (.ref f) [] (backTo pos (starEach (e :: es) env')) (backToKw pos (keywordEach kws env'))) Q E s := callWith_KW C.K (keep_of hk) hall h hplain he
theorem ppT_known {d : Int} {u1 u2 u3 : Tok} {k1 : Nat} (C : Cx w A env g L 8) (I : Inv z g L m rest s) (V : Vw (inGR g rest) w vw lc vt dr sa c) (hl : c.b < c.e) (hk : FirstK (fun j => (St.iter c j (z0 c)).depth == d && (St.iter c (j - 1) (z0 c)).depth != d) c.cs.length k1) (h1 : 1 ≤ k1)
    (ret : ∀ it a lt new u s', (it, tupO (List.toArray [.int (c.b + (k1 : Int)) u, .ref a]) 0) ∈ new → PsAt (inL new) a lt (St.iter c k1 (z0 c)) → Inv z g L m (new ++ rest) s' → Q (.ref it) s') :
    wpAny (model prg w) A (call (.ref 447) [.ref vw, .ref vt, .int c.b u1, .int c.e u2] [(Str.ofString "target", .int d u3)]) Q E s :=
  ppT_spec C I V hl fun it a lt new u k s' hf hk1 h2 h3 h4 => by
    have e : k = k1 := hf.uniq (hk.congr fun j => (stp_T d _ _).symm) hk1 h1
    subst e
    exact ret it a lt new u s' h2 h3 h4
theorem ppC_known {u1 u2 : Tok} {k1 : Nat} (C : Cx w A env g L 8) (I : Inv z g L m rest s) (V : Vw (inGR g rest) w vw lc vt dr sa c) (hl : c.b < c.e) (hk : FirstK (fun j => (St.iter c j (z0 c)).comment != 0 && (St.iter c (j - 1) (z0 c)).comment == 0) c.cs.length k1) (h1 : 1 ≤ k1)
    (ret : ∀ it a lt new u s', (it, tupO (List.toArray [.int (c.b + (k1 : Int)) u, .ref a]) 0) ∈ new → PsAt (inL new) a lt (St.iter c k1 (z0 c)) → Inv z g L m (new ++ rest) s' → Q (.ref it) s') :
    wpAny (model prg w) A (call (.ref 447) [.ref vw, .ref vt, .int c.b u1, .int c.e u2] [(Str.ofString "stop_comment", .bool true)]) Q E s :=
  ppC_spec C I V hl fun it a lt new u k s' hf hk1 h2 h3 h4 => by
    have e : k = k1 := hf.uniq (hk.congr fun j => (stp_C _ _).symm) hk1 h1
    subst e
    exact ret it a lt new u s' h2 h3 h4
end
end
section
set_option hygiene false
local macro_rules | `(tactic| walk_at "subscriptTail") => `(tactic| ((with_reducible rename Inv _ _ _ _ _ _ => I9); (with_reducible refine' stsItem I9 (by assumption) (by assumption) ?h0 ?h1 ?hz ?hs ?_); (case h0 => omega); (case h1 => omega); (case hz => omega); (case hs => with_unfolding_all rfl); intro _ _ _ _ _ _))
local macro_rules | `(tactic| walk_at "subscriptTail") => `(tactic| ((with_reducible rename Inv _ _ _ _ _ _ => I9); (with_reducible refine' pairSnd I9 (by assumption) ?hs ?_); (case hs => with_unfolding_all rfl)))
local macro_rules | `(tactic| walk_at "call builtin:len") => `(tactic| ((with_reducible rename Inv _ _ _ _ _ _ => I9); (with_reducible refine' stsLen I9 (by assumption) (by assumption) ?hz ?_); (case hz => omega); clear I9; intro _ _ _))
local macro_rules | `(tactic| walk_at "callWith ref") => `(tactic| ((with_reducible rename Inv _ _ _ _ _ _ => I9); (with_reducible refine' cwl (by assumption) I9 ?he ?hp ?_); (case he => with_unfolding_all rfl); (case hp => with_unfolding_all rfl)))
local macro_rules | `(tactic| walk_at "And") => `(tactic| (with_reducible refine andF (by assumption) (by assumption) ?_))
local macro_rules | `(tactic| walk_at "assign Tuple") => `(tactic| ((with_reducible rename Inv _ _ _ _ _ _ => I9); (refine' unpackNM (by assumption) I9 (I9.get (List.mem_append_left _ (by assumption))) ?hk ?hs ?_); (case hk => rfl); (case hs => rfl); clear I9; intro _ _))
section
local macro_rules | `(tactic| walk_at "ites") => `(tactic| (with_reducible refine ite_ff' (bne_self_eq_false _) ?_))
section
local macro_rules | `(tactic| walk_at "ites") => `(tactic| (with_reducible refine ite_tt' (beq_self_eq_true _) ?_))
local macro_rules | `(tactic| walk_at "callWith ref") => `(tactic| (with_reducible refine' cwkw (by assumption) ?hk ?hall ?hplain ?he ?_; (case hk => kernel_rfl); (case hall => with_unfolding_all rfl); (case hplain => with_unfolding_all rfl); (case he => with_unfolding_all rfl)))
local macro_rules | `(tactic| walk_at "eval Name") => `(tactic| ((fail_if_success (with_reducible show wpAny _ _ (eval (Expr.Name _ _) (PySem.W.envX _ _ _ _ _ [])) _ _ _)); with_unfolding_all (refine n_free (by assumption) (by rfl) (by assumption) (by assumption) (by rfl) (by rfl) (by rfl) (by rfl) ?_)))
local macro_rules | `(tactic| walk_at "eval Name") => `(tactic| ((fail_if_success (with_reducible show wpAny _ _ (eval (Expr.Name _ _) (PySem.W.envX _ _ _ _ _ [])) _ _ _)); with_unfolding_all (refine n_cell (by assumption) (by rfl) (by first | exact .head _ | exact .tail _ (.head _) | exact .tail _ (.tail _ (.tail _ (.head _)))) (by assumption) (by rfl) (by rfl) (by rfl) ?_)))
section
set_option hygiene true
section
variable {z : Shared} {w : World} {A : Around} {env : Env} {g : Heap} {L : Addr} {n : Nat} {m : Str → Option Value} {own rest : Led} {s : Shared} {E : Value → Shared → Prop} {x vw vt lo lc dr lt a : Addr} {sa : Int → Addr} {c : Ct} {st : St} {Q : Value → Shared → Prop}
theorem stops_spec {l : Addr} {k : Nat} {ys : List Value} {d : Int} {u : Tok} (C : Cx w A env g L 10) (I : Inv z g L m ([(528, tabObj #[])] ++ rest) s) (V : Vw (inGR g rest) w vw lc vt dr sa c) (hl : inGR g rest l (PySem.W.listOf (List.toArray ys) k)) (S : StsAt (inGR g rest) ys c (c.cs.length + 1)) (h1N : 1 ≤ c.cs.length)
    (hC : CodeHd g 532 528)
    (ret : ∀ ps s', Inv z g L m ([(528, tabObj ps)] ++ rest) s' → Q (.bool true) s') :
    wpAny (model prg w) A (call (.ref 533) [.ref vw, .ref vt, .ref l, .int d u]) Q E s := by
  refine' callOC (own := [(528, tabObj #[])]) (binds := [(Str.ofString "view", .ref vw), (Str.ofString "table", .ref vt), (Str.ofString "states", .ref l), (Str.ofString "target", .int d u)]) C I ?ho ?hcd ?hb ?hl ?hnd ?c1 ?c2 ?c3 ?_
  (case ho => k_is); (case hcd => k_is); (case hb => exact BindsTo.of_eq rfl); (case hl => rfl); (case hnd => decide); (case c1 => exact rfl); (case c2 => exact rfl); (case c3 => exact rfl)
  intro A' g' L' s₁ cells C' I' hcl sb hr
  have V' := V.mono (le_down sb hr)
  have hrow := V'.row
  have hlen := V'.len
  have hce := ct_e (c := c)
  have hl' := le_down sb hr _ _ hl
  have S' := S.mono (le_down sb hr)
  have hC' := hC.keeps sb
  clear C I V hl S hC
  obtain ⟨oc, rfl, hd9⟩ := CellsAre.one hcl
  have hd9' : oc.data = .cell (some (.int d u)) := hd9
  clear hcl
  repeat' (first
    | ((with_reducible show wpAny _ _ (call (Value.ref _) _ _) _ _ _); (with_reducible rename Inv _ _ _ _ _ _ => I9); first
      | (with_reducible refine rbegin_spec (Cx.less (by assumption) (by decide)) I9 (by assumption) ?_; clear I9; intro _ _ _)
      | (with_reducible refine rbegin_spec (Cx.less (by assumption) (by decide)) I9 (Vw.mono (by assumption) le_up) ?_; clear I9; intro _ _ _)
      | (with_reducible refine rend_spec (Cx.less (by assumption) (by decide)) I9 (by assumption) ?_; clear I9; intro _ _ _)
      | (with_reducible refine rend_spec (Cx.less (by assumption) (by decide)) I9 (Vw.mono (by assumption) le_up) ?_; clear I9; intro _ _ _))
    | ((with_reducible show wpAny _ _ _ _ _ _); walk1)
    | ((with_reducible show ite _ _ _); walk_at "ites")
    | ((with_reducible show And _ _); walk1)
    | (with_reducible refine Ent.next (by assumption) ?_)
    | (with_reducible refine Ent.ret (by assumption) ?_)
    | (with_reducible refine EntV.use (by assumption) ?_)
    | (with_reducible refine Ent.brk (by assumption) ?_)
    | (with_reducible refine Ent.cont (by assumption) ?_))
  refine' kla_eval ?d0 ?_
  (case d0 => rfl)
  rename Inv _ _ _ _ _ _ => I9
  have I8 := I9.perm (List.Perm.swap _ _ _)
  clear I9
  refine lam_new (pre := []) C' I8 hC' True.intro rfl (by with_unfolding_all rfl) fun f c' oc' vs t pm ctv s' d1 d2 I9 => ?_
  clear I8
  repeat' (first
    | ((with_reducible show wpAny _ _ (call (Value.ref _) _ _) _ _ _); (with_reducible rename Inv _ _ _ _ _ _ => I9); first
      | (with_reducible refine rbegin_spec (Cx.less (by assumption) (by decide)) I9 (by assumption) ?_; clear I9; intro _ _ _)
      | (with_reducible refine rbegin_spec (Cx.less (by assumption) (by decide)) I9 (Vw.mono (by assumption) le_up) ?_; clear I9; intro _ _ _)
      | (with_reducible refine rend_spec (Cx.less (by assumption) (by decide)) I9 (by assumption) ?_; clear I9; intro _ _ _)
      | (with_reducible refine rend_spec (Cx.less (by assumption) (by decide)) I9 (Vw.mono (by assumption) le_up) ?_; clear I9; intro _ _ _))
    | ((with_reducible show wpAny _ _ _ _ _ _); walk1)
    | ((with_reducible show ite _ _ _); walk_at "ites")
    | ((with_reducible show And _ _); walk1)
    | (with_reducible refine Ent.next (by assumption) ?_)
    | (with_reducible refine Ent.ret (by assumption) ?_)
    | (with_reducible refine EntV.use (by assumption) ?_)
    | (with_reducible refine Ent.brk (by assumption) ?_)
    | (with_reducible refine Ent.cont (by assumption) ?_))
  rename Inv _ _ _ _ _ _ => I9
  refine' first_spec (N := c.cs.length) (sb := fun s t => t.depth == d && s.depth != d) (Lam := fun P => P f _ ∧ P c' oc' ∧ P (L' + 1) oc) (Cx.less C' (by decide)) I9 (.inl hl') (S'.mono le_up) h1N hlen ⟨.inr (.head _), .inr (.tail _ (.head _)), .inr (.tail _ (.tail _ (.tail _ (.head _))))⟩ (fun P P' h le => ⟨le _ _ h.1, le _ _ h.2.1, le _ _ h.2.2⟩) (fun g h => ⟨_, _, _, _, h.1⟩) ?hcall ?ret
  case hcall =>
    intro A env g L m rest s Q E a1 a2 lt1 lt2 st1 st2 C I hL P1 P2 z1 z2 rt
    obtain ⟨hf, hc', hcell⟩ := hL
    refine wpAny_call (callLam (binds := [(Str.ofString "ahead", .ref a1), (Str.ofString "now", .ref a2)]) C I (I.kp hf) ⟨_, _, _, _, rfl, I.kp hc', d1, d2⟩ rfl (locs rfl) rfl rfl rfl (by decide) fun A' g' L' s₁ C' I' sb hr => ?_)
    have P1' := P1.mono (le_sub sb)
    have P2' := P2.mono (le_sub sb)
    have hcell' := sb _ _ hcell
    repeat' (first
      | ((with_reducible show wpAny _ _ (call (Value.ref _) _ _) _ _ _); (with_reducible rename Inv _ _ _ _ _ _ => I9); first
        | ((with_reducible refine' ps_depth_spec (Cx.less (by assumption) (by decide)) I9 (by assumption) ?hz ?_); (case hz => first | assumption | omega); clear I9; intro _ _ _)
        | ((with_reducible refine' ps_depth_spec (Cx.less (by assumption) (by decide)) I9 (PsAt.mono (by assumption) le_up) ?hz ?_); (case hz => first | assumption | omega); clear I9; intro _ _ _))
      | ((with_reducible show wpAny _ _ _ _ _ _); walk1)
      | ((with_reducible show ite _ _ _); walk_at "ites")
      | ((with_reducible show And _ _); walk1)
      | (with_reducible refine Ent.next (by assumption) ?_)
      | (with_reducible refine Ent.ret (by assumption) ?_)
      | (with_reducible refine EntV.use (by assumption) ?_)
      | (with_reducible refine Ent.brk (by assumption) ?_)
      | (with_reducible refine Ent.cont (by assumption) ?_))
    all_goals rename Inv _ _ _ _ _ _ => I9
    · rename (_ == _) = true => hb9
      refine ⟨_, [], [], I9, fun I8 => ?_⟩
      have q : Q (.bool (st2.depth == d && st1.depth != d)) _ := rt _ I8
      rw [hb9, Bool.true_and] at q
      exact q
    · rename (_ == _) = false => hb9
      refine ⟨_, [], [], I9, fun I8 => ?_⟩
      have q : Q (.bool (st2.depth == d && st1.depth != d)) _ := rt _ I8
      rw [hb9, Bool.false_and, ← hb9] at q
      exact q
  intro k1 u1 s1 hk hk1 I9
  have hkle := hk.le
  repeat' (first
    | ((with_reducible show wpAny _ _ (call (Value.ref _) _ _) _ _ _); (with_reducible rename Inv _ _ _ _ _ _ => I9); first
      | (with_reducible refine rbegin_spec (Cx.less (by assumption) (by decide)) I9 (by assumption) ?_; clear I9; intro _ _ _)
      | (with_reducible refine rbegin_spec (Cx.less (by assumption) (by decide)) I9 (Vw.mono (by assumption) le_up) ?_; clear I9; intro _ _ _)
      | (with_reducible refine rend_spec (Cx.less (by assumption) (by decide)) I9 (by assumption) ?_; clear I9; intro _ _ _)
      | (with_reducible refine rend_spec (Cx.less (by assumption) (by decide)) I9 (Vw.mono (by assumption) le_up) ?_; clear I9; intro _ _ _))
    | ((with_reducible show wpAny _ _ _ _ _ _); walk1)
    | ((with_reducible show ite _ _ _); walk_at "ites")
    | ((with_reducible show And _ _); walk1)
    | (with_reducible refine Ent.next (by assumption) ?_)
    | (with_reducible refine Ent.ret (by assumption) ?_)
    | (with_reducible refine EntV.use (by assumption) ?_)
    | (with_reducible refine Ent.brk (by assumption) ?_)
    | (with_reducible refine Ent.cont (by assumption) ?_))
  rename Inv _ _ _ _ _ _ => I9
  refine ppT_known (Cx.less C' (by decide)) I9 (V'.mono le_up) (by rw [ct_e]; omega) hk hk1 fun it a lt new u2 s2 hM hP I8 => ?_
  clear I9
  have hP' := psUp I8 hP
  repeat' (first
    | ((with_reducible show wpAny _ _ (call (Value.ref _) _ _) _ _ _); (with_reducible rename Inv _ _ _ _ _ _ => I9); first
      | (with_reducible refine rbegin_spec (Cx.less (by assumption) (by decide)) I9 (by assumption) ?_; clear I9; intro _ _ _)
      | (with_reducible refine rbegin_spec (Cx.less (by assumption) (by decide)) I9 (Vw.mono (by assumption) le_up) ?_; clear I9; intro _ _ _)
      | (with_reducible refine rend_spec (Cx.less (by assumption) (by decide)) I9 (by assumption) ?_; clear I9; intro _ _ _)
      | (with_reducible refine rend_spec (Cx.less (by assumption) (by decide)) I9 (Vw.mono (by assumption) le_up) ?_; clear I9; intro _ _ _)
      | ((with_reducible refine' ps_items_spec (Cx.less (by assumption) (by decide)) I9 (by assumption) ?_); clear I9; intro _ _ _ _)
      | ((with_reducible refine' ps_items_spec (Cx.less (by assumption) (by decide)) I9 (PsAt.mono (by assumption) le_up) ?_); clear I9; intro _ _ _ _))
    | ((with_reducible show wpAny _ _ _ _ _ _); walk1)
    | ((with_reducible show ite _ _ _); walk_at "ites")
    | ((with_reducible show And _ _); walk1)
    | (with_reducible refine Ent.next (by assumption) ?_)
    | (with_reducible refine Ent.ret (by assumption) ?_)
    | (with_reducible refine EntV.use (by assumption) ?_)
    | (with_reducible refine Ent.brk (by assumption) ?_)
    | (with_reducible refine Ent.cont (by assumption) ?_))
  rename Inv _ _ _ _ _ _ => I9
  rename PsAt (inG g') _ _ _ => P2
  refine ne_items (st := St.iter c k1 (z0 c)) C' (I9.get (.tail _ (.head _))) (I9.get (.head _)) (hP.tup.mono fun _ _ h => I9.get (.tail _ (.tail _ (List.mem_append_left _ h)))) (P2.tup.mono I9.regS) (Sok.iter _ (Sok.zero _)) ?_
  clear P2 hP' hP hM
  repeat' (first
    | ((with_reducible show wpAny _ _ _ _ _ _); walk1)
    | ((with_reducible show ite _ _ _); walk_at "ites")
    | ((with_reducible show And _ _); walk1)
    | (with_reducible refine Ent.next (by assumption) ?_)
    | (with_reducible refine Ent.ret (by assumption) ?_)
    | (with_reducible refine EntV.use (by assumption) ?_)
    | (with_reducible refine Ent.brk (by assumption) ?_)
    | (with_reducible refine Ent.cont (by assumption) ?_))
  refine' kla_eval ?d0 ?_
  (case d0 => rfl)
  rename Inv _ _ _ _ _ _ => I9
  have I8 := I9.perm (perm_lam _ _ _ _ _ _ _)
  clear I9
  refine lam_new (pre := []) C' I8 hC' (by simp [TriplesOk, rawInt]) (by simp [codeAmong, rawInt]) (by with_unfolding_all rfl) fun f2 c2 oc2 vs2 t2 pm2 ctv2 s3 d3 d4 I9 => ?_
  clear I8
  repeat' (first
    | ((with_reducible show wpAny _ _ _ _ _ _); walk1)
    | ((with_reducible show ite _ _ _); walk_at "ites")
    | ((with_reducible show And _ _); walk1)
    | (with_reducible refine Ent.next (by assumption) ?_)
    | (with_reducible refine Ent.ret (by assumption) ?_)
    | (with_reducible refine EntV.use (by assumption) ?_)
    | (with_reducible refine Ent.brk (by assumption) ?_)
    | (with_reducible refine Ent.cont (by assumption) ?_))
  rename Inv _ _ _ _ _ _ => I9
  clear hk hk1 hkle
  refine' first_spec (N := c.cs.length) (sb := fun s t => t.comment != 0 && s.comment == 0) (Lam := fun P => P f2 _ ∧ P c2 oc2) (Cx.less C' (by decide)) I9 (.inl hl') (S'.mono le_up) h1N hlen ⟨.inr (.head _), .inr (.tail _ (.head _))⟩ (fun P P' h le => ⟨le _ _ h.1, le _ _ h.2⟩) (fun g h => ⟨_, _, _, _, h.1⟩) ?hcall2 ?ret2
  case hcall2 =>
    intro A env g L m rest s Q E a1 a2 lt1 lt2 st1 st2 C I hL P1 P2 z1 z2 rt
    obtain ⟨hf, hc'⟩ := hL
    refine wpAny_call (callLam (binds := [(Str.ofString "ahead", .ref a1), (Str.ofString "now", .ref a2)]) C I (I.kp hf) ⟨_, _, _, _, rfl, I.kp hc', d3, d4⟩ rfl (locs rfl) rfl rfl rfl (by decide) fun A' g' L' s₁ C' I' sb hr => ?_)
    have P1' := P1.mono (le_sub sb)
    have P2' := P2.mono (le_sub sb)
    repeat' (first
      | ((with_reducible show wpAny _ _ _ _ _ _); walk1)
      | ((with_reducible show ite _ _ _); walk_at "ites")
      | ((with_reducible show And _ _); walk1)
      | (with_reducible refine Ent.next (by assumption) ?_)
      | (with_reducible refine Ent.ret (by assumption) ?_)
      | (with_reducible refine EntV.use (by assumption) ?_)
      | (with_reducible refine Ent.brk (by assumption) ?_)
      | (with_reducible refine Ent.cont (by assumption) ?_))
    all_goals rename Inv _ _ _ _ _ _ => I9
    · rename (_ != _) = true => hb9
      refine ⟨_, [], [], I9, fun I8 => ?_⟩
      have q : Q (.bool (st2.comment != 0 && st1.comment == 0)) _ := rt _ I8
      rw [hb9, Bool.true_and] at q
      exact q
    · rename (_ != _) = false => hb9
      refine ⟨_, [], [], I9, fun I8 => ?_⟩
      have q : Q (.bool (st2.comment != 0 && st1.comment == 0)) _ := rt _ I8
      rw [hb9, Bool.false_and, ← hb9] at q
      exact q
  intro k2 u3 s4 hk hk1 I9
  have hkle := hk.le
  repeat' (first
    | ((with_reducible show wpAny _ _ (call (Value.ref _) _ _) _ _ _); (with_reducible rename Inv _ _ _ _ _ _ => I9); first
      | (with_reducible refine rbegin_spec (Cx.less (by assumption) (by decide)) I9 (by assumption) ?_; clear I9; intro _ _ _)
      | (with_reducible refine rbegin_spec (Cx.less (by assumption) (by decide)) I9 (Vw.mono (by assumption) le_up) ?_; clear I9; intro _ _ _)
      | (with_reducible refine rend_spec (Cx.less (by assumption) (by decide)) I9 (by assumption) ?_; clear I9; intro _ _ _)
      | (with_reducible refine rend_spec (Cx.less (by assumption) (by decide)) I9 (Vw.mono (by assumption) le_up) ?_; clear I9; intro _ _ _))
    | ((with_reducible show wpAny _ _ _ _ _ _); walk1)
    | ((with_reducible show ite _ _ _); walk_at "ites")
    | ((with_reducible show And _ _); walk1)
    | (with_reducible refine Ent.next (by assumption) ?_)
    | (with_reducible refine Ent.ret (by assumption) ?_)
    | (with_reducible refine EntV.use (by assumption) ?_)
    | (with_reducible refine Ent.brk (by assumption) ?_)
    | (with_reducible refine Ent.cont (by assumption) ?_))
  rename Inv _ _ _ _ _ _ => I9
  refine ppC_known (Cx.less C' (by decide)) I9 (V'.mono le_up) (by rw [ct_e]; omega) hk hk1 fun it3 a3 lt3 new3 u5 s5 hM hP I8 => ?_
  clear I9
  have hP' := psUp I8 hP
  repeat' (first
    | ((with_reducible show wpAny _ _ (call (Value.ref _) _ _) _ _ _); (with_reducible rename Inv _ _ _ _ _ _ => I9); first
      | (with_reducible refine rbegin_spec (Cx.less (by assumption) (by decide)) I9 (by assumption) ?_; clear I9; intro _ _ _)
      | (with_reducible refine rbegin_spec (Cx.less (by assumption) (by decide)) I9 (Vw.mono (by assumption) le_up) ?_; clear I9; intro _ _ _)
      | (with_reducible refine rend_spec (Cx.less (by assumption) (by decide)) I9 (by assumption) ?_; clear I9; intro _ _ _)
      | (with_reducible refine rend_spec (Cx.less (by assumption) (by decide)) I9 (Vw.mono (by assumption) le_up) ?_; clear I9; intro _ _ _)
      | ((with_reducible refine' ps_items_spec (Cx.less (by assumption) (by decide)) I9 (by assumption) ?_); clear I9; intro _ _ _ _)
      | ((with_reducible refine' ps_items_spec (Cx.less (by assumption) (by decide)) I9 (PsAt.mono (by assumption) le_up) ?_); clear I9; intro _ _ _ _))
    | ((with_reducible show wpAny _ _ _ _ _ _); walk1)
    | ((with_reducible show ite _ _ _); walk_at "ites")
    | ((with_reducible show And _ _); walk1)
    | (with_reducible refine Ent.next (by assumption) ?_)
    | (with_reducible refine Ent.ret (by assumption) ?_)
    | (with_reducible refine EntV.use (by assumption) ?_)
    | (with_reducible refine Ent.brk (by assumption) ?_)
    | (with_reducible refine Ent.cont (by assumption) ?_))
  rename Inv _ _ _ _ _ _ => I9
  rename PsAt (inG g') _ _ _ => P2
  refine eq_items (st := St.iter c k2 (z0 c)) C' (I9.get (.tail _ (.head _))) (I9.get (.head _)) (hP.tup.mono fun _ _ h => I9.get (.tail _ (.tail _ (List.mem_append_left _ h)))) (P2.tup.mono I9.regS) (Sok.iter _ (Sok.zero _)) ?_
  repeat (first | (with_reducible refine Ent.next (by assumption) ?_) | (with_reducible refine Ent.ret (by assumption) ?_) | (with_reducible refine EntV.use (by assumption) ?_))
  exact ⟨_, [(528, _)], _, I9.perm (perm_lam _ _ _ _ _ _ _), fun I8 => ret _ _ I8⟩
end
end
/-! part N13 -/
end
end
end
section
set_option hygiene true
theorem fill_N13 (w : World) : hdKp w.params = hdKp w.params ∧ PySem.Challenge.rw_np0078_01 = PySem.Challenge.rw_np0078_01 := by
  k_fill
  exact ⟨rfl, rfl⟩
theorem enterLaw {w : World} {pp : Program} {ls : List Str} {mean : ExcName → Option Value} {mg mb : Str → Option Value} {env : Env} {g : Heap} {L : Addr} {m : Str → Option Value} {o : Obj} {s : Shared} {body : List Stmt} {Q : Flow → Shared → Prop} {E : Value → Shared → Prop}
    (F : Fr g L s.heap m) (N : News g L s.heap [(L + 1, o), (528, tabObj #[])]) (T : Top pp ls mean mg mb g) (B : Below callerA g [] g) (X : (hdKp w.params).In g) (hl : 528 < L) (hf : env.frame = some L) (hk : env.scope.kind = .function)
    (main : ∀ z, Cx w (callerA.deeper env) env g L 20 → Inv z g L m ([(L + 1, o), (528, tabObj #[])] ++ []) s → wpAny (model prg w) (callerA.deeper env) (execs body env) (fun fl s' => fl = .ret (.bool true) ∧ ∃ m' own' ps, Inv z g L m' ((528, tabObj ps) :: own') s') (fun _ _ => False) s)
    (post : ∀ fl s', fl = .ret (.bool true) → (∀ b o, g.get? b = some o → s'.heap.get? b = some o) → s'.gens = s.gens → s'.os = s.os → (∃ ps, s'.heap.get? 528 = some (tabObj ps)) → Q fl s') :
    wpAny (model prg w) (callerA.deeper env) (execs body env) Q E s := by
  refine wpAny_mono (main s ⟨callerA, g, [], pp, ls, mean, mg, mb, ?_, X, T, Around.frames_deeper B.stack, hf, hk, rfl, ?_, ?_⟩ ⟨F, by rw [List.append_nil]; exact N, ?_, rfl, rfl, rfl⟩) (fun fl s' h => ?_) (fun _ _ y => y.elim)
  · exact B
  · rw [depth_deeper]; decide
  · rw [units_deeper]; decide
  · simp only [List.append_nil, List.map_cons, List.map_nil, List.nodup_cons, List.mem_singleton, List.not_mem_nil, not_false_eq_true, List.nodup_nil, and_true]
    intro e
    have e' : L + 1 = 528 := e
    have hl' : (528 : Nat) < L := hl
    exact absurd e' (Nat.ne_of_gt (Nat.lt_succ_of_lt hl'))
  · obtain ⟨e, m', own', ps, J⟩ := h
    exact post fl s' e J.F.keep J.same.1 J.same.2.2 ⟨ps, (J.N _ (.head _)).1⟩
theorem claim_post (d : WData) (ds : List WData) : PySem.Challenge.rw_np0078_01.row.claim.post [d] (WData.bool true) ds = true := by
  show (WShape.has [] (WData.bool true) .bool && WTm.holds [] (.eq .res (.lit (.bool true))) { args := [d], res := some (WData.bool true), after := ds }) = true
  rw [Bool.and_eq_true]
  refine ⟨by simp [WShape.has, WShape.arms], ?_⟩
  refine holdsW_of_value ?_
  simp [WTm.value]
  exact PySem.W.same_self _
theorem mkVw {w : World} {Z new2 newT : Led} {vw lc vt dr : Addr} {p : Int} {ns : List Int} {tb : Int → Sy} {sa : Int → Addr} (hR : RowAt (inL new2) vw lc p ns) (hT : TblAt (inL newT) w vt dr tb sa) (h2 : ∀ x ∈ new2, x ∈ Z) (h3 : ∀ x ∈ newT, x ∈ Z) (hl : ns.length ≤ 1000) (hin : ∀ x ∈ ns, 97 ≤ x ∧ x ≤ 104) :
    ∃ c : Ct, c.b = p ∧ c.cs = ns ∧ Vw (inL Z) w vw lc vt dr sa c := ⟨⟨p, ns, tb⟩, rfl, rfl, hR.mono fun _ _ h => h2 _ h, hT.mono fun _ _ h => h3 _ h, hl, hin⟩
theorem perm_z0 {α : Type} (new2 dk newT r : List α) (d cT t : α) : (new2 ++ (dk ++ (d :: (newT ++ (cT :: t :: r))))).Perm (dk ++ (t :: (new2 ++ (d :: (newT ++ (cT :: r)))))) := by
  classical
  rw [List.perm_iff_count]; intro x; simp only [List.count_append, List.count_cons]; omega
theorem perm_z1 {α : Type} (new3 dk R : List α) (t : α) : (new3 ++ (dk ++ (t :: R))).Perm (dk ++ (t :: (new3 ++ R))) := by
  classical
  rw [List.perm_iff_count]; intro x; simp only [List.count_append, List.count_cons]; omega
theorem perm_z4 {α : Type} (X dk R : List α) (t : α) : (X ++ (dk ++ (t :: R))).Perm (dk ++ (t :: (R ++ X))) := by
  classical
  rw [List.perm_iff_count]; intro x; simp only [List.count_append, List.count_cons]; omega
theorem perm_z5 {α : Type} (dk R : List α) (t : α) : (dk ++ (t :: R)).Perm ([t] ++ (dk ++ R)) := by
  classical
  rw [List.perm_iff_count]; intro x; simp only [List.count_append, List.count_cons, List.count_nil]; omega
theorem perm_w {α : Type} (a i : α) (new X W : List α) : (a :: (new ++ (i :: (X ++ W)))).Perm (i :: ((a :: (new ++ X)) ++ W)) := by
  classical
  rw [List.perm_iff_count]; intro x; simp only [List.count_append, List.count_cons]; omega
theorem perm_w2 {α : Type} (i : α) (X Y Z : List α) : (X ++ (i :: (Y ++ Z))).Perm (i :: ((X ++ Y) ++ Z)) := by
  classical
  rw [List.perm_iff_count]; intro x; simp only [List.count_append, List.count_cons]; omega
theorem perm_w3 {α : Type} (tp q i : α) (new X Z : List α) : (tp :: (new ++ (q :: (i :: (X ++ Z))))).Perm (i :: ((tp :: (new ++ (q :: X))) ++ Z)) := by
  classical
  rw [List.perm_iff_count]; intro x; simp only [List.count_append, List.count_cons]; omega
theorem wFacts {z g L m s} {tp it q : Addr × Obj} {new X Z : Led} (I : Inv z g L m (tp :: (new ++ (q :: (it :: (X ++ Z))))) s) :
    ∃ W, Inv z g L m W s ∧ W.Perm (it :: ((tp :: (new ++ (q :: X))) ++ Z)) ∧ (∀ p ∈ Z, p ∈ W) ∧ tp ∈ W ∧ (∀ p ∈ new, p ∈ W) :=
  ⟨_, I, perm_w3 _ _ _ _ _ _, fun p h => .tail _ (List.mem_append_right _ (.tail _ (.tail _ (List.mem_append_right _ h)))), .head _, fun p h => .tail _ (List.mem_append_left _ h)⟩
theorem sp_iter {c : Ct} (k : Nat) : (Mine.St.iter c k (z0 c)).s_place (c.b + (k : Int)) = Mine.St.iter c k (z0 c) := by
  have h := iter_place c k (z0 c)
  rw [show (z0 c).place = c.b from rfl] at h
  rw [← h]; rfl
theorem sp_iterZ {c : Ct} {j : Int} (h : 0 ≤ j) : (Mine.St.iter c j.toNat (z0 c)).s_place (c.b + j) = Mine.St.iter c j.toNat (z0 c) := by
  have e := sp_iter (c := c) j.toNat
  rw [show ((j.toNat : Nat) : Int) = j from by omega] at e
  exact e
theorem leR {g : Heap} {R own : Led} (h : ∀ p, p ∈ R → p ∈ own) : Reg.le (inL R) (inGR g own) := fun _ _ q => .inr (h _ q)
theorem zFacts {z g L m s} {new2 dk newT r : Led} {d cT t : Addr × Obj} (I : Inv z g L m (new2 ++ (dk ++ (d :: (newT ++ (cT :: t :: r))))) s) :
    ∃ R, Inv z g L m (dk ++ (t :: R)) s ∧ cT ∈ R ∧ d ∈ R ∧ (∀ x ∈ new2, x ∈ R) ∧ (∀ x ∈ newT, x ∈ R) :=
  ⟨_, I.perm (perm_z0 _ _ _ _ _ _ _), List.mem_append_right _ (.tail _ (List.mem_append_right _ (.head _))), List.mem_append_right _ (.head _), fun x h => List.mem_append_left _ h, fun x h => List.mem_append_right _ (.tail _ (List.mem_append_left _ h))⟩
theorem zFacts2 {z g L m s} {new3 dk R0 : Led} {t : Addr × Obj} (I : Inv z g L m (new3 ++ (dk ++ (t :: R0))) s) :
    ∃ R, Inv z g L m (dk ++ (t :: R)) s ∧ (∀ x ∈ new3, x ∈ R) ∧ (∀ x ∈ R0, x ∈ R) :=
  ⟨_, I.perm (perm_z1 _ _ _ _), fun x h => List.mem_append_left _ h, fun x h => List.mem_append_right _ h⟩
theorem zFacts3 {z g L m s} {dk R0 : Led} {p t : Addr × Obj} (I : Inv z g L m (p :: (dk ++ (t :: R0))) s) :
    ∃ R, Inv z g L m (dk ++ (t :: R)) s ∧ p ∈ R ∧ (∀ x ∈ R0, x ∈ R) :=
  ⟨_, I.perm (perm_z1 [p] _ _ _), .head _, fun x h => .tail _ h⟩
section
variable {z : Shared} {w : World} {A : Around} {env : Env} {g : Heap} {L : Addr} {n N : Nat} {m : Str → Option Value} {own R : Led} {s : Shared} {E : Value → Shared → Prop} {Q : Value → Shared → Prop} {l it : Addr} {ys : List Value} {k : Nat} {u : Tok} {value slice : Expr} {c : Ct} {i : Int}
theorem stsItemZ (I : Inv z g L m own s) (sub : ∀ p ∈ R, p ∈ own) (hl : (l, PySem.W.listOf (List.toArray ys) k) ∈ R) (V : StsAt (inL R) ys c N) (h0 : 0 ≤ i) (h1 : i < (N : Int)) (hz : N ≤ 100000) (hs : subscripted slice false (.ref l) (.int i u) = operate [.ref l, .int i u] (getItem (.ref l) (.int i u)))
    (h : ∀ it a lt u, (it, tupO (List.toArray [.int (c.b + i) u, .ref a]) 0) ∈ R → PsAt (inL R) a lt (Mine.St.iter c i.toNat (z0 c)) → Q (.ref it) s) : wpAny (model prg w) A (subscriptTail value slice (.ref l) (.int i u)) Q E s := by
  obtain ⟨it, a, lt, u', h2, h3, h4⟩ := V.2 i.toNat (by omega)
  have h3' : (it, tupO (List.toArray [.int (c.b + ((i.toNat : Nat) : Int)) u', .ref a]) 0) ∈ R := h3
  rw [show ((i.toNat : Nat) : Int) = i from by omega] at h3'
  exact getL I (I.get (sub _ hl)) h0 (by omega) (by simpa using h2) (h it a lt u' h3' h4) hs
theorem stsLastZ (I : Inv z g L m own s) (sub : ∀ p ∈ R, p ∈ own) (hl : (l, PySem.W.listOf (List.toArray ys) k) ∈ R) (V : StsAt (inL R) ys c (N + 1)) (hz : N ≤ 100000) (hs : subscripted slice false (.ref l) (.int (-1) u) = operate [.ref l, .int (-1) u] (getItem (.ref l) (.int (-1) u)))
    (h : ∀ it a lt u, (it, tupO (List.toArray [.int (c.b + (N : Int)) u, .ref a]) 0) ∈ R → PsAt (inL R) a lt (Mine.St.iter c N (z0 c)) → Q (.ref it) s) : wpAny (model prg w) A (subscriptTail value slice (.ref l) (.int (-1) u)) Q E s := by
  obtain ⟨it, a, lt, u', h2, h3, h4⟩ := V.2 N (by omega)
  have il : s.heap.IsList l ys.toArray := ⟨_, I.get (sub _ hl), rfl, k, rfl⟩
  have hy := V.1
  refine tail_any il.typeIs slot_list_getitem.lookup (wpAny_getItem_list_neg il (by decide) (by rw [List.size_toArray]; omega) (by decide) ?_ (h it a lt u' h3 h4)) hs
  rw [List.size_toArray, hy, show ((-1 : Int) + ((N + 1 : Nat) : Int)).toNat = N from by omega]
  simpa using h2
theorem pairSndZ {x0 x1 : Value} (I : Inv z g L m own s) (hm : (it, tupO (List.toArray [x0, x1]) 0) ∈ own) (hs : subscripted slice false (.ref it) (.int 1 u) = operate [.ref it, .int 1 u] (getItem (.ref it) (.int 1 u))) (h : Q x1 s) : wpAny (model prg w) A (subscriptTail value slice (.ref it) (.int 1 u)) Q E s :=
  getT I (I.get hm) (by decide) (by decide) rfl h hs
theorem stsLenZ (I : Inv z g L m own s) (sub : ∀ p ∈ R, p ∈ own) (hl : (l, PySem.W.listOf (List.toArray ys) k) ∈ R) (V : StsAt (inL R) ys c N) (hz : N ≤ 100000) (h : ∀ s' u, Inv z g L m own s' → Q (.int (N : Int) u) s') : wpAny (model prg w) A (call (.builtin "len") [.ref l]) Q E s :=
  lenL I (I.get (sub _ hl)) (by rw [List.size_toArray, V.1]; exact hz) fun s' u J => by rw [List.size_toArray, V.1]; exact h s' u J
end
theorem perm_c {α : Type} (a b c : α) (dk R : List α) : (a :: b :: c :: (dk ++ R)).Perm (dk ++ (a :: b :: c :: R)) := by
  classical
  rw [List.perm_iff_count]; intro x; simp only [List.count_append, List.count_cons]; omega
section
variable {z : Shared} {w : World} {M : Model} {A : Around} {env : Env} {g : Heap} {L : Addr} {n : Nat} {m : Str → Option Value} {dk post : Led} {s : Shared} {E : Value → Shared → Prop}
theorem r_stoC {cn : Str} {cs : Scope} {a : Addr} {ccd : Value} {cl : List (Str × Addr)} {x : Str} {v : Value} {c : Addr} {o : Obj} {v₀ : Option Value} {Q : Unit → Shared → Prop} (I : Inv z g L m (dk ++ ((c, o) :: post)) s) (hc : cl.lookup x = some c) (hd : o.data = .cell v₀)
    (hk : cs.kind = .function) (hx : (envX cn cs L a ccd cl).kindOf x = some .cell) (h : ∀ o' s', o'.data = .cell (some v) → Inv z g L m (dk ++ ((c, o') :: post)) s' → Q () s') : wpAny M A (storeName (envX cn cs L a ccd cl) x v) Q E s := by
  have q := nd_mid I.nd
  exact storeX_C I.F I.N hc (updF_mid dk post q.1 q.2) hd (fun h' o' F' N' hd' => h o' _ hd' ⟨F', N', nd_chg I.nd, I.same⟩) hk hx
end
end
section
set_option hygiene false
local macro_rules | `(tactic| walk_at "assign Tuple") => `(tactic| ((with_reducible rename Inv _ _ _ _ _ _ => I9); (refine' unpackNM (by assumption) I9 (I9.get (by walk_at "memZ")) ?hk ?hs ?_); (case hk => rfl); (case hs => rfl); clear I9; intro _ _))
local macro_rules | `(tactic| walk_at "ites") => `(tactic| (with_reducible refine ite_ff' (bne_self_eq_false _) ?_))
local macro_rules | `(tactic| walk_at "ites") => `(tactic| (with_reducible refine ite_tt' (beq_self_eq_true _) ?_))
local macro_rules | `(tactic| walk_at "Zsub") => `(tactic| ((with_reducible rename Inv _ _ _ _ _ _ => I9); (first | ((with_reducible refine' pairSndZ I9 ?hm ?hs ?_); (case hm => walk_at "memZ"); (case hs => with_unfolding_all rfl)) | ((with_reducible refine' stsLastZ I9 ?sub ?hl (by assumption) ?hz ?hs ?_); (case hl => assumption); (case sub => intro _ _; walk_at "memZ"); (case hz => omega); (case hs => with_unfolding_all rfl); intro _ _ _ _ _ _) | ((with_reducible refine' stsItemZ I9 ?sub ?hl (by assumption) ?h0 ?h1 ?hz ?hs ?_); (case hl => assumption); (case sub => intro _ _; walk_at "memZ"); (case h0 => omega); (case h1 => omega); (case hz => omega); (case hs => with_unfolding_all rfl); intro _ _ _ _ _ _))))
local macro_rules | `(tactic| walk_at "getMethod ref") => `(tactic| (first
  | (with_reducible refine psmethR_items (by assumption) (by assumption) (PsAt.mono (by assumption) (leR (by intro _ _; walk_at "memZ"))) ?_)
  | (with_reducible refine rowmethR_begin (by assumption) (by assumption) (RowAt.mono (by assumption) (leR (by intro _ _; walk_at "memZ"))) ?_)
  | (with_reducible refine rowmethR_end (by assumption) (by assumption) (RowAt.mono (by assumption) (leR (by intro _ _; walk_at "memZ"))) ?_)))
local macro_rules | `(tactic| walk_at "getAttr ref") => `(tactic| ((with_reducible rename Inv _ _ _ _ _ _ => I9); (with_reducible refine rowgetR_codes (by assumption) I9 (RowAt.mono (by assumption) (leR (by intro _ _; walk_at "memZ"))) ?_); clear I9; intro _ _))
section
local macro_rules | `(tactic| walk_at "call builtin:len") => `(tactic| ((with_reducible rename Inv _ _ _ _ _ _ => I9); (with_reducible refine' stsLenZ I9 ?sub ?hl (by assumption) ?hz ?_); (case hl => assumption); (case sub => intro _ _; walk_at "memZ"); (case hz => omega); clear I9; intro _ _ _))
section
local macro_rules | `(tactic| walk_at "eval Name") => `(tactic| (refine r_loc (by assumption) (by with_unfolding_all assumption) (by rfl) (by rfl) (by rfl) ?_))
local macro_rules | `(tactic| walk_at "storeName") => `(tactic| ((with_reducible rename Inv _ _ _ _ _ _ => I9); with_unfolding_all (refine r_stoC I9 (by rfl) (by assumption) (by rfl) (by rfl) ?_; clear I9; intro _ _ _ _)))
local macro_rules | `(tactic| walk_at "memZ") => `(tactic| k_dflt first | assumption | exact List.Mem.head _ | exact List.mem_append_left _ (by assumption) | (refine List.Mem.tail _ ?_; walk_at "memZ") | (refine List.mem_append_right _ ?_; walk_at "memZ"))
local macro_rules | `(tactic| walk_at "eval Name") => `(tactic| ((fail_if_success (with_reducible show wpAny _ _ (eval (Expr.Name _ _) (PySem.W.envX _ _ _ _ _ [])) _ _ _)); with_unfolding_all (first
  | refine n_cell (by assumption) (by rfl) (by walk_at "memZ") (by assumption) (by rfl) (by rfl) (by rfl) ?_
  | refine c_cell (by assumption) (by rfl) (by walk_at "memZ") (by assumption) (by rfl) (by rfl) (by rfl) ?_)))
section
local macro_rules | `(tactic| walk_at "pad") => `(tactic| skip)
section
set_option hygiene true
set_option maxHeartbeats 8000000 in
theorem law_holds : PySem.Challenge.rw_np0078_01.Holds := by
  w_on
  refine holds_law law_said fun said => ?_
  refine holds_open (q := hdQv) (loose := hdLo) (Xt := fun s => xlAt hdQv [] s && recOk hdRr.records s) (XP := XL hdQv []) (Yf := Hook.obs hdHk) (Ya := Hook.val hdHk) (YP := Hook.says hdHk) (N := 7358) hdLeft (Hook.of hdHk) (Hook.keeps hdHk) (fun s e => xl_of s (Bool.and_eq_true_iff.mp e).1) XL.keeps (by rfl) (by rfl) (by rfl) (fun s e => recFacts_of (Bool.and_eq_true_iff.mp e).2) (by rfl) said (by decide +kernel) ⟨rfl, rfl, rfl, rfl, rfl, by decide +kernel⟩ ?hw ?hc
  case hw => w_witness2
  case hc =>
    clear said
    k_go0
    rename Fr (ghostOf _ _) _ _ _ => F9
    rename News (ghostOf _ _) _ _ _ => N9
    rename Top topProg _ _ _ _ _ => T9
    rename Below _ _ _ _ => B9
    rename Frag.In _ (ghostOf _ _) => X9
    rename IntsAre _ _ => hI9
    rename Heap.IsList (ghostOf _ _) _ _ => hS9
    rename CodeHd _ _ _ => hC9
    rename (¬ _ < _) => hlen9
    rename (_ = #[]) => hg9
    rename (_ < _) => hlt9
    dsimp only at F9 ⊢
    refine enterLaw F9 N9 T9 B9 X9 hlt9 rfl rfl (fun z C' I' => ?_) (fun fl s' e hk hg ho ht => ?_)
    rotate_left
    · subst e
      refine ⟨⟨.inl ⟨.bool true, _, [], rfl, fun cls => ?_, .bool true, ?_, fun hu => ⟨List.nodup_nil, fun a ha => nomatch ha⟩⟩, hk, ho, hg.trans hg9⟩, ht, trivial⟩
      · rfl
      · exact claim_post _ _
    rename_i w s0 s1 mg mb G Y fa o pm cd doc ho hcd X V T B TE TW w6 hs hlay0 hL1 hr1 hl2 w5 w4 w3 w2 w1 hL ra wl r0 hr hcond hD h1 tk1 wobj rgt X0
    have hcell : wobj.data = .cell none := rgt
    have hS : ScrAt (inG (ghostOf s1.heap [(532, 528)])) w3 w6 := by
      obtain ⟨o, ho, hc, n, hd⟩ := hS9
      exact ⟨o, w2, n, ho, hc, hd, hI9⟩
    have hC8 : CodeHd (ghostOf s1.heap [(532, 528)]) 532 528 := hC9
    have hlen8 : w6.length ≤ 63 := by omega
    clear hS9 hI9 hC9 hlen9 F9 N9 T9 B9 X9 hlt9 G Y ho hcd X V T B TE TW hs hlay0 hL1 hr1 hl2 hL ra wl r0 hr hcond hD rgt X0 hT9 hg9
    try clear hT8
    have hlen7 : w6.length ≤ 100000 := by omega
    repeat' (first
      | ((with_reducible show wpAny _ _ (call (Value.ref _) _ _) _ _ _); (with_reducible rename Inv _ _ _ _ _ _ => I9); first
        | ((with_reducible refine' deck2_spec (Cx.less (by assumption) (by decide)) I9 (ScrAt.mono (by assumption) le_up) ?hz ?_); (case hz => omega); clear I9; intro _ _ _ _ _)
        | ((with_reducible rename Dk _ _ _ => W9); (with_reducible refine' table_spec (Cx.less (by assumption) (by decide)) I9 W9 ?ht ?_); (case ht => omega); clear I9 W9; intro _ _ _ _ _ _ _ _ _ _)
        | ((with_reducible refine' many2_spec (Cx.less (by assumption) (by decide)) I9 (ScrAt.mono (by assumption) le_up) ?hz ?_); (case hz => omega); clear I9; intro _ _ _ _ _ _))
      | ((with_reducible show wpAny _ _ _ _ _ _); walk1)
      | ((with_reducible show ite _ _ _); walk_at "ites")
      | ((with_reducible show And _ _); walk1)
      | (with_reducible refine Ent.next (by assumption) ?_)
      | (with_reducible refine Ent.ret (by assumption) ?_)
      | (with_reducible refine EntV.use (by assumption) ?_)
      | (with_reducible refine Ent.brk (by assumption) ?_)
      | (with_reducible refine Ent.cont (by assumption) ?_))
    rename Inv _ _ _ _ _ _ => I9
    rename IsRange _ _ _ _ _ _ _ _ => hR
    rename Dk _ _ _ => W9
    rename TblAt _ _ _ _ _ _ => TB9
    refine src_range C'.noHandled I9 hR (range_small (by omega) (by omega) (by omega)).1 (range_small (by omega) (by omega) (by omega)).2 fun It fp St oI s' ok hfp st0 I8 => ?_
    clear I9 hR
    refine compA_own ok hfp I8 st0 (by rw [PySem.sizeLine_eq]; omega) (by decide) rfl rfl (fun i ys ow => ∃ dk, ow = dk ++ _ ∧ Dk dk _ (16 + i) ∧ ∃ ns, IntsAre ys ns ∧ ns.length = i ∧ ∀ x ∈ ns, 97 ≤ x ∧ x ≤ 104) ⟨_, rfl, W9, [], .nil, rfl, nofun⟩ (fun _ _ _ _ => trivial) (fun i v ys ow It oI Cc oC Dl m₂ s hlt hP hJ hC hx I7 => ?_) (fun Cc oC Dl ys ow s' hJ I7 => ?_)
    · clear I8 ok W9
      obtain ⟨dk, rfl, W9, ns, hns, hln, hin⟩ := hJ
      have I9 := I7.perm (perm_c _ _ _ _ _)
      clear I7
      repeat' (first
        | ((with_reducible show wpAny _ _ (call (Value.ref _) _ _) _ _ _); (with_reducible rename Inv _ _ _ _ _ _ => I9); first
          | ((with_reducible rename Dk _ _ _ => W9); (with_reducible refine' draw_spec (Cx.less (by assumption) (by decide)) I9 W9 ?hm ?hm2 ?ht ?_); (case hm => decide); (case hm2 => decide); (case ht => omega); clear I9 W9; intro _ _ _ _ _ _ _ _))
        | ((with_reducible show wpAny _ _ _ _ _ _); walk1)
        | ((with_reducible show ite _ _ _); walk_at "ites")
        | ((with_reducible show And _ _); walk1)
        | (with_reducible refine Ent.next (by assumption) ?_)
        | (with_reducible refine Ent.ret (by assumption) ?_)
        | (with_reducible refine EntV.use (by assumption) ?_)
        | (with_reducible refine Ent.brk (by assumption) ?_)
        | (with_reducible refine Ent.cont (by assumption) ?_))
      rename Inv _ _ _ _ _ _ => I9
      rename Dk _ _ _ => W9
      refine ⟨_, I9.perm (perm_c _ _ _ _ _).symm, _, rfl, W9, ns ++ [_], ints_append hns _ _, by rw [List.length_append, hln]; rfl, fun x hx => ?_⟩
      rcases List.mem_append.mp hx with hx | hx
      · exact hin x hx
      · rw [List.mem_singleton.mp hx]; omega
    · clear I8 ok W9
      obtain ⟨dk, rfl, W9, ns, hns, hln, hin⟩ := hJ
      with_unfolding_all (refine r_sto I7 (by rfl) (by rfl) fun s'' I6 => ⟨_, _, I6, fun s3 I5 => ?_⟩)
      clear I7 I6
      have I9 := I5.perm List.perm_middle.symm
      clear I5
      repeat' (first
        | ((with_reducible show wpAny _ _ (call (Value.ref _) _ _) _ _ _); (with_reducible rename Inv _ _ _ _ _ _ => I9); first
          | ((with_reducible rename Dk _ _ _ => W9); (with_reducible refine' draw_spec (Cx.less (by assumption) (by decide)) I9 W9 ?hm ?hm2 ?ht ?_); (case hm => decide); (case hm2 => decide); (case ht => omega); clear I9 W9; intro _ _ _ _ _ _ _ _))
        | ((with_reducible show wpAny _ _ _ _ _ _); walk1)
        | ((with_reducible show ite _ _ _); walk_at "ites")
        | ((with_reducible show And _ _); walk1)
        | (with_reducible refine Ent.next (by assumption) ?_)
        | (with_reducible refine Ent.ret (by assumption) ?_)
        | (with_reducible refine EntV.use (by assumption) ?_)
        | (with_reducible refine Ent.brk (by assumption) ?_)
        | (with_reducible refine Ent.cont (by assumption) ?_))
      rename Inv _ _ _ _ _ _ => I9
      rename Dk _ _ _ => W9
      rename (_ : Obj).data = _ => hd9
      refine row_make_spec (cs := ns) (Cx.less C' (by decide)) I9 ⟨_, ys, .inr (by walk_at "memZ"), hns⟩ (by omega) fun vw lc new2 s4 hRow I8 => ?_
      clear I9
      obtain ⟨R0, I9, hcT, hcodes, h2, h3⟩ := zFacts I8
      clear I8
      obtain ⟨c, hcb, hcs, hV⟩ := mkVw (Z := R0) hRow TB9 h2 h3 (by omega) hin
      clear TB9 hRow h2 h3
      repeat' (first
        | ((with_reducible show wpAny _ _ _ _ _ _); walk1)
        | ((with_reducible show ite _ _ _); walk_at "ites")
        | ((with_reducible show And _ _); walk1)
        | (with_reducible refine Ent.next (by assumption) ?_)
        | (with_reducible refine Ent.ret (by assumption) ?_)
        | (with_reducible refine EntV.use (by assumption) ?_)
        | (with_reducible refine Ent.brk (by assumption) ?_)
        | (with_reducible refine Ent.cont (by assumption) ?_))
      rename Inv _ _ _ _ _ _ => I9
      refine states_spec (c := c) (Cx.less C' (by decide)) I9 (hV.mono fun _ _ h => .inr (List.mem_append_right _ (.tail _ h))) (by constructor <;> omega) fun l kk ys3 new3 s5 hl3 hS3 I8 => ?_
      clear I9
      obtain ⟨R, I9, h2, h3⟩ := zFacts2 I8
      clear I8
      have hV2 := hV.mono (P' := inL R) fun _ _ h => h3 _ h
      have hS4 : StsAt (inL R) ys3 c (c.cs.length + 1) := hS3.mono fun _ _ h => h2 _ h
      have hl4 := h2 _ hl3
      have hcodes2 := h3 _ hcodes
      have hcT2 := h3 _ hcT
      have hrow2 := hV2.row
      have hce := ct_e (c := c)
      have hcl : c.cs.length = ns.length := by rw [hcs]
      have hcl2 : 5 ≤ c.cs.length ∧ c.cs.length ≤ 12 := by omega
      have hcb2 : 1 ≤ c.b ∧ c.b ≤ 3 := by omega
      clear hV hS3 hl3 hcodes hcT h2 h3
      repeat' (first
        | ((with_reducible show wpAny _ _ (exec (Stmt.For _ _ _ _ _) _) _ _ _); (refine' wpAny_For ?_ ?hs; (case hs => exact fun _ => rfl)))
        | ((with_reducible show wpAny _ _ (subscriptTail _ _ _ _) _ _ _); walk_at "Zsub")
        | ((with_reducible show wpAny _ _ (call (Value.ref _) _ _) _ _ _); (with_reducible rename Inv _ _ _ _ _ _ => I9); first
          | ((with_reducible refine' ps_items_spec (Cx.less (by assumption) (by decide)) I9 (PsAt.mono (by assumption) (leR (by intro _ _; walk_at "memZ"))) ?_); clear I9; intro _ _ _ _))
        | ((with_reducible show wpAny _ _ _ _ _ _); walk1)
        | ((with_reducible show ite _ _ _); walk_at "ites")
        | ((with_reducible show And _ _); walk1)
        | (with_reducible refine Ent.next (by assumption) ?_)
        | (with_reducible refine Ent.ret (by assumption) ?_)
        | (with_reducible refine EntV.use (by assumption) ?_)
        | (with_reducible refine Ent.brk (by assumption) ?_)
        | (with_reducible refine Ent.cont (by assumption) ?_))
      rename Inv _ _ _ _ _ _ => I9
      rename IsRange _ _ _ _ _ _ _ _ => hR9
      rename PsAt (inL R) _ _ _ => PE
      have TE := PE.tup
      clear PE
      obtain ⟨R2, I8, hE, h3⟩ := zFacts3 I9
      clear I9
      have hV3 := hV2.mono (P' := inL R2) fun _ _ h => h3 _ h
      have hS5 := hS4.mono (P' := inL R2) fun _ _ h => h3 _ h
      have TE2 := TE.mono (P' := inL R2) fun _ _ h => h3 _ h
      have hl5 := h3 _ hl4
      have hcodes3 := h3 _ hcodes2
      have hcT3 := h3 _ hcT2
      have hrow3 := hV3.row
      clear hV2 hS4 TE hl4 hcodes2 hcT2 hrow2 h3
      refine src_range C'.noHandled I8 hR9 (range_small (by omega) (by omega) (by omega)).1 (range_small (by omega) (by omega) (by omega)).2 fun It fp St' oI s' ok hfp st0 I9 => ?_
      clear I8 hR9
      refine for_own ok I9 st0 (fun i m ow => (∃ X, ow = X ++ (_ ++ ((528, tabObj #[]) :: R2))) ∧ m (Str.ofString "states") = some (.ref l) ∧ m (Str.ofString "view") = some (.ref vw) ∧ m (Str.ofString "table") = some (.ref _) ∧ m (Str.ofString "entire") = some (.ref _) ∧ m (Str.ofString "codes") = some (.ref Dl)) ⟨⟨[], rfl⟩, rfl, rfl, rfl, rfl, rfl⟩ (fun _ _ _ _ => trivial) (fun i v m9 ow oI9 s9 hlt hP hJ I7 => ?_) (fun m9 ow s9 I7 hJ => ?_)
      · clear I9 ok
        obtain ⟨⟨X, rfl⟩, e1, e2, e3, e4, e5⟩ := hJ
        obtain ⟨tk, rfl⟩ := hP
        repeat' (first
          | ((with_reducible show wpAny _ _ (exec (Stmt.For _ _ _ _ _) _) _ _ _); (refine' wpAny_For ?_ ?hs; (case hs => exact fun _ => rfl)))
          | ((with_reducible show wpAny _ _ (subscriptTail _ _ _ _) _ _ _); walk_at "Zsub")
          | ((with_reducible show wpAny _ _ (call (Value.ref _) _ _) _ _ _); (with_reducible rename Inv _ _ _ _ _ _ => I9); first
            | ((with_reducible refine rbegin_spec (Cx.less (by assumption) (by decide)) I9 (Vw.mono (by assumption) (leR (by intro _ _; walk_at "memZ"))) ?_); clear I9; intro _ _ _)
            | ((with_reducible refine' law_told_spec (Cx.less (by assumption) (by decide)) I9 (PsAt.mono (by assumption) (leR (by intro _ _; walk_at "memZ"))) ?hz ?_); (case hz => exact iter_opens (by omega)); clear I9; intro _ _)
            | ((with_reducible refine' ps_items_spec (Cx.less (by assumption) (by decide)) I9 (PsAt.mono (by assumption) (leR (by intro _ _; walk_at "memZ"))) ?_); clear I9; intro _ _ _ _)
            | ((with_reducible refine' state_of_spec (Cx.less (by assumption) (by decide)) I9 ?ht ?_); (case ht => exact Or.inr (List.Mem.head _)); clear I9; intro _ _ _ _ _))
          | ((with_reducible show wpAny _ _ _ _ _ _); walk1)
          | ((with_reducible show ite _ _ _); walk_at "ites")
          | ((with_reducible show And _ _); walk1)
          | (with_reducible refine Ent.next (by assumption) ?_)
          | (with_reducible refine Ent.ret (by assumption) ?_)
          | (with_reducible refine EntV.use (by assumption) ?_)
          | (with_reducible refine Ent.brk (by assumption) ?_)
          | (with_reducible refine Ent.cont (by assumption) ?_))
        rename Inv _ _ _ _ _ _ => I9
        rename PsNew _ _ _ _ => PN
        rename PsAt (inL R2) _ _ _ => PS
        obtain ⟨W, I8, hperm, hZ, htp, hn⟩ := wFacts I9
        clear I9
        have PS1 := PS.mono (P' := inL W) fun _ _ h => hZ _ (List.mem_append_right _ (.tail _ h))
        have PS2 := PN.at (P := inL W) (fun _ _ h => hn _ h) PS1.tup
        have hVW := hV3.mono (P' := inL W) fun _ _ h => hZ _ (List.mem_append_right _ (.tail _ h))
        have hEW := hZ _ (List.mem_append_right _ (.tail _ hE))
        have TEW := TE2.mono (P' := inL W) fun _ _ h => hZ _ (List.mem_append_right _ (.tail _ h))
        have hrowW := hVW.row
        have hsp := sp_iterZ (c := c) (j := 0 + (i : Int)) (by omega)
        have hG : Good c ((Mine.St.iter c (0 + (i : Int)).toNat (z0 c)).s_place (c.b + (0 + (i : Int)))) := by rw [hsp]; exact Good.iter _ (Good.zero c)
        refine src_tup C'.noHandled I8 htp fun It2 fp2 St2 oI2 s2 ok2 hfp2 st2 I9 => ?_
        clear I8
        refine for_own ok2 I9 st2 (fun i m ow => (∃ X2, ow = X2 ++ W) ∧ m (Str.ofString "place") = some (.int _ _) ∧ m (Str.ofString "states") = some (.ref l) ∧ m (Str.ofString "view") = some (.ref vw) ∧ m (Str.ofString "table") = some (.ref _) ∧ m (Str.ofString "entire") = some (.ref _) ∧ m (Str.ofString "codes") = some (.ref Dl))
          ⟨⟨[], rfl⟩, by with_unfolding_all rfl, by with_unfolding_all exact e1, by with_unfolding_all exact e2, by with_unfolding_all exact e3, by with_unfolding_all exact e4, by with_unfolding_all exact e5⟩ (fun i m ow h => by obtain ⟨⟨X2, rfl⟩, _⟩ := h; exact List.mem_append_right _ htp) (fun i2 v2 m8 ow2 oI3 s8 hlt2 hP2 hJ2 I7 => ?_) (fun m8 ow2 s8 I7 hJ2 => ?_)
        · clear I9 ok2 hV3 hS5 TE2 hrow3 PS
          obtain ⟨⟨X2, rfl⟩, f0, f1, f2, f3, f4, f5⟩ := hJ2
          have hv : ∃ ak lt, v2 = .ref ak ∧ PsAt (inL W) ak lt (Mine.St.iter c (0 + (i : Int)).toNat (z0 c)) := by
            match i2, hP2 with
            | 0, h => exact ⟨_, _, (Option.some.inj h).symm, PS1⟩
            | 1, h => exact ⟨_, _, (Option.some.inj h).symm, PS2⟩
          obtain ⟨ak, lt2, rfl, PK⟩ := hv
          clear PS1 PS2 PN
          repeat' (first
            | ((with_reducible show wpAny _ _ (exec (Stmt.For _ _ _ _ _) _) _ _ _); (refine' wpAny_For ?_ ?hs; (case hs => exact fun _ => rfl)))
            | ((with_reducible show wpAny _ _ (subscriptTail _ _ _ _) _ _ _); walk_at "Zsub")
            | ((with_reducible show wpAny _ _ (call (Value.ref _) _ _) _ _ _); (with_reducible rename Inv _ _ _ _ _ _ => I9); first
              | ((with_reducible refine rend_spec (Cx.less (by assumption) (by decide)) I9 (Vw.mono (by assumption) (leR (by intro _ _; walk_at "memZ"))) ?_); clear I9; intro _ _ _)
              | ((with_reducible refine' pp5_spec (Cx.less (by assumption) (by decide)) I9 (Vw.mono (by assumption) (leR (by intro _ _; walk_at "memZ"))) (PsAt.mono (by assumption) (leR (by intro _ _; walk_at "memZ"))) (by assumption) ?hp ?_); (case hp => rw [ct_e]; omega); clear I9; intro _ _ _ _ _ _ _ _ _)
              | ((with_reducible refine' ps_items_spec (Cx.less (by assumption) (by decide)) I9 (PsAt.mono (by assumption) (leR (by intro _ _; walk_at "memZ"))) ?_); clear I9; intro _ _ _ _))
            | ((with_reducible show wpAny _ _ _ _ _ _); walk1)
            | ((with_reducible show ite _ _ _); walk_at "ites")
            | ((with_reducible show And _ _); walk1)
            | (with_reducible refine Ent.next (by assumption) ?_)
            | (with_reducible refine Ent.ret (by assumption) ?_)
            | (with_reducible refine EntV.use (by assumption) ?_)
            | (with_reducible refine Ent.brk (by assumption) ?_)
            | (with_reducible refine Ent.cont (by assumption) ?_))
          rename Inv _ _ _ _ _ _ => I9
          rename PsAt (inL _) _ _ (Mine.St.iter c (c.e - _).toNat _) => P5
          have hfin : Mine.St.iter c (c.e - (c.b + (0 + (i : Int)))).toNat ((Mine.St.iter c (0 + (i : Int)).toNat (z0 c)).s_place (c.b + (0 + (i : Int)))) = Mine.St.iter c c.cs.length (z0 c) := by
            rw [hsp, iter_add]
            congr 1
            omega
          rw [hfin] at P5 I9
          refine ne_items C' (I9.get (.head _)) (I9.get (by walk_at "memZ")) (P5.tup.mono fun _ _ h => I9.get (.tail _ (List.mem_append_left _ h))) (TEW.mono fun _ _ h => I9.get (by walk_at "memZ")) (Sok.iter _ (Sok.zero _)) ?_
          repeat' (first
            | ((with_reducible show wpAny _ _ (exec (Stmt.For _ _ _ _ _) _) _ _ _); (refine' wpAny_For ?_ ?hs; (case hs => exact fun _ => rfl)))
            | ((with_reducible show wpAny _ _ (subscriptTail _ _ _ _) _ _ _); walk_at "Zsub")
            | ((with_reducible show wpAny _ _ _ _ _ _); walk1)
            | ((with_reducible show ite _ _ _); walk_at "ites")
            | ((with_reducible show And _ _); walk1)
            | (with_reducible refine Ent.next (by assumption) ?_)
            | (with_reducible refine Ent.ret (by assumption) ?_)
            | (with_reducible refine EntV.use (by assumption) ?_)
            | (with_reducible refine Ent.brk (by assumption) ?_)
            | (with_reducible refine Ent.cont (by assumption) ?_))
          exact ⟨_, _, I9.perm (perm_w _ _ _ _ _), ⟨_, rfl⟩, by with_unfolding_all exact f0, by with_unfolding_all exact f1, by with_unfolding_all exact f2, by with_unfolding_all exact f3, by with_unfolding_all exact f4, by with_unfolding_all exact f5⟩
        · clear I9 ok2
          obtain ⟨⟨X2, rfl⟩, f0, f1, f2, f3, f4, f5⟩ := hJ2
          repeat' (first
            | ((with_reducible show wpAny _ _ (exec (Stmt.For _ _ _ _ _) _) _ _ _); (refine' wpAny_For ?_ ?hs; (case hs => exact fun _ => rfl)))
            | ((with_reducible show wpAny _ _ (subscriptTail _ _ _ _) _ _ _); walk_at "Zsub")
            | ((with_reducible show wpAny _ _ _ _ _ _); walk1)
            | ((with_reducible show ite _ _ _); walk_at "ites")
            | ((with_reducible show And _ _); walk1)
            | (with_reducible refine Ent.next (by assumption) ?_)
            | (with_reducible refine Ent.ret (by assumption) ?_)
            | (with_reducible refine EntV.use (by assumption) ?_)
            | (with_reducible refine Ent.brk (by assumption) ?_)
            | (with_reducible refine Ent.cont (by assumption) ?_))
          exact ⟨_, _, I7.perm ((hperm.append_left X2).trans (perm_w2 _ _ _ _)), ⟨_, rfl⟩, by with_unfolding_all exact f1, by with_unfolding_all exact f2, by with_unfolding_all exact f3, by with_unfolding_all exact f4, by with_unfolding_all exact f5⟩
      · clear I9 ok
        obtain ⟨⟨X, rfl⟩, e1, e2, e3, e4, e5⟩ := hJ
        have I9 := I7.perm (perm_z4 _ _ _ _)
        clear I7
        repeat' (first
          | ((with_reducible show wpAny _ _ (exec (Stmt.For _ _ _ _ _) _) _ _ _); (refine' wpAny_For ?_ ?hs; (case hs => exact fun _ => rfl)))
          | ((with_reducible show wpAny _ _ (subscriptTail _ _ _ _) _ _ _); walk_at "Zsub")
          | ((with_reducible show wpAny _ _ _ _ _ _); walk1)
          | ((with_reducible show ite _ _ _); walk_at "ites")
          | ((with_reducible show And _ _); walk1)
          | (with_reducible refine Ent.next (by assumption) ?_)
          | (with_reducible refine Ent.ret (by assumption) ?_)
          | (with_reducible refine EntV.use (by assumption) ?_)
          | (with_reducible refine Ent.brk (by assumption) ?_)
          | (with_reducible refine Ent.cont (by assumption) ?_))
        rename Inv _ _ _ _ _ _ => I9
        obtain ⟨kk2, vs2, hl2, hi2⟩ := hrow3.lst
        refine eq_intsK ⟨_, I9.get (by walk_at "memZ"), rfl, _, rfl⟩ hi2 ⟨_, I9.get (by walk_at "memZ"), rfl, _, rfl⟩ hns (by have := C'.units; omega) ?_
        rw [decide_eq_true hcs]
        repeat' (first
          | ((with_reducible show wpAny _ _ (exec (Stmt.For _ _ _ _ _) _) _ _ _); (refine' wpAny_For ?_ ?hs; (case hs => exact fun _ => rfl)))
          | ((with_reducible show wpAny _ _ (subscriptTail _ _ _ _) _ _ _); walk_at "Zsub")
          | ((with_reducible show wpAny _ _ (call (Value.ref _) _ _) _ _ _); (with_reducible rename Inv _ _ _ _ _ _ => I9); first
            | ((with_reducible rename Dk _ _ _ => W9); (with_reducible refine' draw_spec (Cx.less (by assumption) (by decide)) I9 W9 ?hm ?hm2 ?ht ?_); (case hm => decide); (case hm2 => decide); (case ht => omega); clear I9 W9; intro _ _ _ _ _ _ _ _))
          | ((with_reducible show wpAny _ _ _ _ _ _); walk1)
          | ((with_reducible show ite _ _ _); walk_at "ites")
          | ((with_reducible show And _ _); walk1)
          | (with_reducible refine Ent.next (by assumption) ?_)
          | (with_reducible refine Ent.ret (by assumption) ?_)
          | (with_reducible refine EntV.use (by assumption) ?_)
          | (with_reducible refine Ent.brk (by assumption) ?_)
          | (with_reducible refine Ent.cont (by assumption) ?_))
        rename Inv _ _ _ _ _ _ => I9
        refine stops_spec (c := c) (Cx.less C' (by decide)) (I9.perm (perm_z5 _ _ _)) (hV3.mono fun _ _ h => .inr (List.mem_append_right _ (List.mem_append_left _ h))) (.inr (List.mem_append_right _ (List.mem_append_left _ hl5))) (hS5.mono fun _ _ h => .inr (List.mem_append_right _ (List.mem_append_left _ h))) (by omega) hC8 fun ps s10 I10 => ?_
        repeat' (first
          | ((with_reducible show wpAny _ _ (exec (Stmt.For _ _ _ _ _) _) _ _ _); (refine' wpAny_For ?_ ?hs; (case hs => exact fun _ => rfl)))
          | ((with_reducible show wpAny _ _ (subscriptTail _ _ _ _) _ _ _); walk_at "Zsub")
          | ((with_reducible show wpAny _ _ _ _ _ _); walk1)
          | ((with_reducible show ite _ _ _); walk_at "ites")
          | ((with_reducible show And _ _); walk1)
          | (with_reducible refine Ent.next (by assumption) ?_)
          | (with_reducible refine Ent.ret (by assumption) ?_)
          | (with_reducible refine EntV.use (by assumption) ?_)
          | (with_reducible refine Ent.brk (by assumption) ?_)
          | (with_reducible refine Ent.cont (by assumption) ?_))
        · exact rfl
        · exact ⟨_, _, _, I10⟩
end
end
end
end
end
end
end
end
end
end
end
end Mine
theorem PySem.Challenge.cw_np0078_01_holds : PySem.Challenge.rw_np0078_01.Holds := by
  exact Mine.law_holds
