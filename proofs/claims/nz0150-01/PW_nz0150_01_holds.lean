import PyProof.Rows.All
import Wide.All
import OpenK.AllK
import Wide.FinOn
import KE.KDictSum
import KE.KDictOf
import PyProof.Rows.SetFrom
import PyProof.AttrMissHeap
import Lean
import PySem.Challenge.RW_nz0150_01
open PySem PySem.W PySem.Calls PyProof.Rows
set_option Elab.async false
set_option maxRecDepth 100000
set_option linter.all false
set_option genSizeOf false
set_option exponentiation.threshold 10000
namespace Mine
set_option autoImplicit false
/- part N1 -/
/- ## the program's own texts, by their places -/
noncomputable def nthS : List Stmt → Nat → Stmt
  | [], _ => .Pass ⟨0, 0, 0, 0⟩
  | s :: _, 0 => s
  | _ :: r, n + 1 => nthS r n
noncomputable def bodyS : Stmt → List Stmt
  | .FunctionDef _ _ body _ _ _ _ _ _ _ => body
  | .ClassDef _ _ _ body .. => body
  | _ => []
noncomputable def scopeS : Stmt → Scope
  | .FunctionDef _ _ _ _ _ _ scope _ _ _ => scope
  | _ => { kind := .function, names := [], isGenerator := false, isCoroutine := false, more := [] }
noncomputable def top (i : Nat) : Stmt := nthS PySem.Challenge.pw_nz0150_01.main.body i
noncomputable def meth (i j : Nat) : Stmt := nthS (bodyS (top i)) j
noncomputable def topRunF (p : Program) (w : World) (n₀ : Nat) (ann : Option Value) : Nat → SharedT → Thread → Option SharedT
  | 0, _, _ => none
  | n + 1, s, t => match through t with
    | true => some s
    | false => match Fast.tw6613529449190102663 n₀ ann t with
      | false => none
      | true => match Fast.tw10156331382660048174 (Fast.tw11892475500146522536 Fast.tw14364793385576792824) p w s t with
        | some (s', t') => topRunF p w n₀ ann n s' t'
        | none => none
theorem topRunF_of {p : Program} {w : World} {n₀ : Nat} {ann : Option Value} : ∀ {n : Nat} {s s' : SharedT} {t : Thread}, topRunF p w n₀ ann n s t = some s' → topRun treeTable p w n₀ ann n s.abs t = some s'.abs
  | 0, _, _, _, h => by cases h
  | n + 1, s, s', t, h => by
    unfold topRunF at h
    rw [← Fast.te6613529449190102663, ← Fast.te10156331382660048174, ← Fast.te11892475500146522536, ← Fast.te14364793385576792824] at h
    unfold topRun
    cases h1 : through t with
    | true => rw [h1] at h; rw [Option.some.inj h]
    | false =>
      rw [h1] at h
      dsimp only at h ⊢
      cases h2 : stepOk n₀ ann t with
      | false => rw [h2] at h; cases h
      | true =>
        rw [h2] at h
        dsimp only at h ⊢
        cases h3 : stepT (denote treeTable) p w s t with
        | none => rw [h3] at h; cases h
        | some r =>
          obtain ⟨s2, t2⟩ := r
          rw [h3] at h
          rw [stepT_spec h3]
          exact topRunF_of h
noncomputable def fillT (T : BT) : Nat → List Obj → BT
  | _, [] => T
  | n, o :: r => fillT (T.ins n o) (n + 1) r
noncomputable def bootT (P : Params) : BT := fillT .nil 0 (boot_heap P).objs.toList
theorem leftT {p q : Program} {loose : List Str} {Xt : Shared → Bool} {α : Type} {Yf : Shared → α} {Ya : World → α} {N : Nat} {g0 : Bool} {H₀ : Params → Heap} {d₀ : Drawn} {k₀ m₀ : Nat} {ann : Option Value} {T₀ : Params → BT} {life : Life} {Yt : SharedT → Option α}
    (obs : ∀ (w : World) (s : SharedT), Yt s = some (Ya w) → Yf s.abs = Ya w)
    (open_ : ∀ w : World, (fencedOpening treeTable p w N).map (fun s => (s.heap, s.gens, s.drawn, s.toks)) = some (H₀ w.params, Array.mk [], d₀, k₀))
    (tree : ∀ P, H₀ P = absHeap (T₀ P) m₀ life)
    (size : ∀ w : World, ((H₀ w.params).isNs mainGlobals, (H₀ w.params).objs.size, (H₀ w.params).nsMap mainGlobals "__annotations__") = (true, m₀, ann))
    (run : ∀ (w : World), (fun os => (topRunF p w m₀ ann N ⟨T₀ w.params, m₀, life, Array.mk [], d₀, k₀, os⟩ (topStub p)).map fun s => ((staticsOk (importedModules p.main.body) (H₀ w.params) s.abs.heap && namesBound p s.abs.heap && gensDone s.abs && laidKept (H₀ w.params) s.abs.heap),
      Fast.tw4187177175401517315 q loose (importedModules p.main.body) Xt g0 s.abs, Yt s)) = fun _ => some (true, openGood q loose, some (Ya w))) : LeftO p q loose Xt Yf Ya N g0 := fun w => by
  obtain ⟨⟨h, gs, d, k, os⟩, e, e'⟩ := Option.map_eq_some_iff.mp (open_ w)
  obtain ⟨rfl, rfl, rfl, rfl⟩ : h = H₀ w.params ∧ gs = Array.mk [] ∧ d = d₀ ∧ k = k₀ := by simpa using e'
  obtain ⟨z1, z2, z3⟩ : _ ∧ _ ∧ _ := by simpa only [Prod.mk.injEq] using size w
  obtain ⟨s, r, l⟩ := Option.map_eq_some_iff.mp (congrFun (run w) os)
  obtain ⟨l1, l2, l3⟩ : _ ∧ _ ∧ _ := by simpa only [Prod.mk.injEq] using l
  have r := topRunF_of r
  have ea : (SharedT.mk (T₀ w.params) m₀ life (Array.mk []) d k os).abs = ⟨H₀ w.params, Array.mk [], d, k, os⟩ := by unfold SharedT.abs; rw [tree]
  rw [ea] at r
  have t : topFrom treeTable p w N ⟨H₀ w.params, Array.mk [], d, k, os⟩ = some s.abs := by
    unfold topFrom
    dsimp only
    rw [z1, z2, z3, r]
    show (match staticsOk (importedModules p.main.body) (H₀ w.params) s.abs.heap && namesBound p s.abs.heap && gensDone s.abs && laidKept (H₀ w.params) s.abs.heap with | true => _ | false => _) = _
    rw [l1]
  unfold openEnds
  rw [e]
  show (topFrom treeTable p w N _).map _ = _
  rw [t]
  rw [← Fast.te4187177175401517315] at l2
  exact congrArg some (Prod.ext l2 (obs w s l3))
noncomputable def hdView : Program := view PySem.Challenge.pw_nz0150_01 [39]
noncomputable def hdLoose : List Str := (List.range 39).filterMap fun i => PySem.Challenge.pw_nz0150_01.main.body[i]?.bind fun s => match s with
  | .FunctionDef n .. | .ClassDef n .. => some n
  | .Assign (.Name n _ :: _) _ _ => some n
  | _ => none
theorem hdOpen : ∀ w : World, (fencedOpening treeTable PySem.Challenge.pw_nz0150_01 w 9000).map (fun s => (s.heap, s.gens, s.drawn, s.toks)) = some (boot_heap w.params, Array.mk [], boot_drawn, boot_toks) :=
  boot_open (by kernel_rfl) (by decide) (fun s => rfl)
theorem hdTree (P : Params) : boot_heap P = absHeap (bootT P) 11 {} := by kernel_rfl
theorem hdSize : ∀ w : World, ((boot_heap w.params).isNs mainGlobals, (boot_heap w.params).objs.size, (boot_heap w.params).nsMap mainGlobals "__annotations__") = (true, 11, some (.ref 6)) := fun w => by kernel_rfl
/- ## what the program's heap tells of its defs -/
noncomputable def refV : Value → Option Addr
  | .ref a => some a
  | _ => none
noncomputable def intV : Value → Option Int
  | .int j _ => some j
  | _ => none
noncomputable def funD : Data → Option FuncData
  | .func fd => some fd
  | _ => none
noncomputable def seqD : Data → Option (List Value)
  | .seq xs _ => some xs.toList
  | _ => none
noncomputable def anyO {α : Type} (o : Option α) (p : α → Bool) : Bool := match o with
  | some x => p x
  | none => false
noncomputable def defOf (K : Frag) (f : Value) : Option FuncData := (refV f).bind fun a => (K.lookup a).bind fun o => funD o.data
noncomputable def isNoneV : Value → Bool
  | .none => true
  | _ => false
noncomputable def defB (K : Frag) (f : Value) (ps : List Str) : Bool := anyO (defOf K f) fun fd =>
  codeIn K fd.code fd.qualname && fd.closure.isEmpty && (fd.globals == mainGlobals) && (fd.builtins == builtinsNs) && fd.params.posonlyargs.isEmpty && (fd.params.args.map (·.arg) == ps) && fd.params.vararg.isNone &&
      fd.params.kwonlyargs.isEmpty && fd.params.kwarg.isNone && isNoneV fd.defaults && !fd.scope.isCoroutine && !fd.scope.isGenerator && decide (fd.scope.kind = .function) && keepIn K f
noncomputable def glO (K : Frag) (x : Str) : Option Value := (nsIn K mainGlobals x).join
noncomputable def glIn (K : Frag) (x : Str) : Value := (glO K x).getD .none
noncomputable def glB (K : Frag) (x : Str) : Bool := (glO K x).isSome
noncomputable def clB (K : Frag) (c : Str) : Bool := glB K c && anyO (refV (glIn K c)) fun C =>
  keepIn K (.ref C) && plainGet K C "" && hasDictIn K C && (findIn K (.ref C) "__setattr__" == some (some (.builtin "object.__setattr__"))) && plainOver K C && makesIn K C
noncomputable def mtO (K : Frag) (c x : Str) : Option Value := (findIn K (glIn K c) x).join
noncomputable def mtF (K : Frag) (c x : Str) : Value := (mtO K c x).getD .none
noncomputable def mtB (K : Frag) (c x : Str) (ps : List Str) : Bool := anyO (mtO K c x) fun v => (refV v).isSome && (typeIn K v == some (.type "function")) && defB K v ps
noncomputable def intB (K : Frag) (x : Str) (i : Int) : Bool := ((glO K x).bind intV == some i)
noncomputable def pairB (K : Frag) (x : Str) (i j : Int) : Bool := anyO ((glO K x).bind refV) fun a => anyO (K.lookup a) fun o => (o.cls == .type "tuple") && o.dict.isNone && anyO (seqD o.data) fun l => (l.map intV == [some i, some j])
/- ## the fragment of the heap that the law stands on -/
noncomputable def asK : List Addr := [mainGlobals, 79, 78, 86, 85, 93, 92, 100, 99, 107, 106, 168, 167, 175, 174, 182, 181, 189, 188, 605, 604, 612, 611, 619, 618, 626, 625, 633, 632, 640, 639, 647, 646, 654, 653, 661, 660, 668, 667, 673, 672, 678, 677, 683, 682, 70, 71, 72, 157, 596, 156, 595, 507, 506, 402, 401, 121, 120, 128, 127, 135, 134, 142, 141, 147, 146, 154, 153, 203, 202, 231, 230, 245, 244, 259, 258, 294, 293, 301, 300, 308, 307, 315, 314, 336, 335, 357, 356, 364, 363, 371, 370, 462, 461, 476, 475, 483, 482, 523, 522, 530, 529, 537, 536, 544, 543, 565, 564, 572, 571, 579, 578, 586, 585]
noncomputable def pickK (h : Heap) : List Addr → Frag
  | [] => []
  | a :: r => match h.get? a with
    | some o => (a, o) :: pickK h r
    | none => pickK h r
theorem pickK_in (h : Heap) : ∀ l, (pickK h l).In h
  | [], a, o, e => by cases e
  | b :: r, a, o, e => by
    unfold pickK at e
    cases q : h.get? b with
    | none => rw [q] at e; exact pickK_in h r a o e
    | some p =>
      rw [q] at e
      simp only [List.lookup_cons] at e
      cases z : a == b with
      | false => rw [z] at e; exact pickK_in h r a o e
      | true =>
        rw [z] at e
        rw [beq_iff_eq] at z; subst z
        rw [q]; exact e
noncomputable def pickT (t : BT) (n : Nat) : List Addr → Option Frag
  | [] => some []
  | a :: r => match Nat.blt a n with
    | true => match (t.get a).bind alive with
      | some o => (pickT t n r).map ((a, o) :: ·)
      | none => none
    | false => none
theorem pickT_of {t : BT} {n : Nat} {life : Life} : ∀ {l : List Addr} {K : Frag}, pickT t n l = some K → pickK (absHeap t n life) l = K
  | [], K, h => Option.some.inj h
  | a :: r, K, h => by
    unfold pickT at h
    cases e : Nat.blt a n with
    | false => rw [e] at h; cases h
    | true =>
      rw [e] at h
      cases q : (t.get a).bind alive with
      | none => rw [q] at h; cases h
      | some o =>
        rw [q] at h
        obtain ⟨ob, g, al⟩ := Option.bind_eq_some_iff.mp q
        obtain ⟨K', h1, rfl⟩ := Option.map_eq_some_iff.mp h
        unfold pickK
        rw [abs_get (Nat.le_of_ble_eq_true e) g, al, pickT_of h1]
noncomputable def fnTab : List (Str × List Str × Stmt) := [("gcd_of", ["a", "b"], top 8), ("ratio", ["top", "bottom"], top 9), ("add", ["a", "b"], top 10), ("mul", ["a", "b"], top 11), ("is_whole", ["a"], top 12), ("form_of", ["bank", "t"], top 15), ("difference_of", ["bank", "one", "other"], top 16), ("term_of_form", ["bank", "form", "sort"], top 17), ("atom_of_row", ["bank", "row", "sort"], top 18), ("_law_next", ["tape", "many"], top 27), ("_law_pick", ["tape", "some"], top 28), ("_law_low", ["top", "bottom"], top 29), ("_law_sum", ["a", "b", "factor"], top 30), ("_law_row_sum", ["one", "other", "factor"], top 31), ("_law_told", ["form"], top 32), ("_law_factor", ["tape", "sort"], top 33), ("_law_term", ["tape", "bank", "sort", "pool"], top 34), ("_law_is_written", ["bank", "t", "row", "sort"], top 35), ("_law_worth", ["row", "point"], top 36), ("_law_is_form_led", ["tape", "sort", "leaves"], top 37), ("_law_is_atom_right", ["bank", "sort", "row", "relation", "bound"], top 38), ("law", ["script"], top 39)]
noncomputable def mtTab : List (Str × Str × List Str × Stmt) := [("LinearForm", "__init__", ["self"], meth 14 0), ("LinearForm", "add_part", ["self", "term", "factor"], meth 14 1), ("LinearForm", "add_constant", ["self", "number"], meth 14 2), ("LinearForm", "add_form", ["self", "other", "factor"], meth 14 3), ("LinearForm", "sorted_parts", ["self"], meth 14 4), ("LinearForm", "evaluate", ["self", "values"], meth 14 5), ("NumberBank", "__init__", ["self"], meth 23 0), ("NumberBank", "is_number_sort", ["self", "s"], meth 23 4), ("NumberBank", "declare_fun", ["self", "name", "arg_sorts", "result"], meth 23 6), ("NumberBank", "fresh_const", ["self", "name", "s"], meth 23 8), ("NumberBank", "op", ["self", "t"], meth 23 13), ("NumberBank", "args", ["self", "t"], meth 23 14), ("NumberBank", "sort", ["self", "t"], meth 23 15), ("NumberBank", "data", ["self", "t"], meth 23 16), ("NumberBank", "make", ["self", "op", "args", "sort", "data"], meth 23 19), ("NumberBank", "want", ["self", "t", "s", "where"], meth 23 22), ("NumberBank", "want_all", ["self", "some", "s", "where"], meth 23 23), ("NumberBank", "true_term", ["self"], meth 23 24), ("NumberBank", "eq", ["self", "a", "b"], meth 24 6), ("NumberBank", "ite", ["self", "c", "a", "b"], meth 24 8), ("NumberBank", "app", ["self", "f", "some"], meth 24 9), ("NumberBank", "num", ["self", "value", "s"], meth 25 0), ("NumberBank", "want_number", ["self", "t", "where"], meth 25 1), ("NumberBank", "plus", ["self", "some"], meth 25 2), ("NumberBank", "times_num", ["self", "value", "t"], meth 25 3), ("NumberBank", "negative", ["self", "t"], meth 25 6), ("NumberBank", "minus", ["self", "a", "b"], meth 25 7), ("NumberBank", "le", ["self", "a", "b"], meth 25 8), ("NumberBank", "lt", ["self", "a", "b"], meth 25 9)]
noncomputable def nbTab : List Str := [ "abs", "len", "max", "min", "sorted", "tuple", "list", "dict", "set", "range", "enumerate", "zip" ]
noncomputable def naTab : List (Str × List Str) := [("LinearForm", ["parts", "constant"]), ("NumberBank", ["sort_names", "sort_widths", "fun_names", "fun_args", "fun_results", "fresh_count", "term_ops", "term_args", "term_sorts", "term_datas", "numbers", "true_number", "false_number"])]
noncomputable def intTab : List (Str × Int) := [("BOOL", 0), ("INT", 1), ("REAL", 2)]
noncomputable def pairTab : List (Str × Int × Int) := [("ZERO", 0, 1), ("ONE", 1, 1), ("MINUS_ONE", (-1), 1)]
noncomputable def clTab : List Str := ["LinearForm", "NumberBank"]
noncomputable def bodyAt (K : Frag) (f : Value) : Option (FuncBody × Scope) := (defOf K f).map fun fd => (fd.body, fd.scope)
noncomputable def bodyOf (st : Stmt) : Option (FuncBody × Scope) := some (.stmts (bodyS st), scopeS st)
noncomputable def factsK (K : Frag) : List Bool × List (Option (FuncBody × Scope)) × List (Option (FuncBody × Scope)) :=
  ([nbTab.all fun x => nsIn K mainGlobals x == some none, pairTab.all fun x => pairB K x.1 x.2.1 x.2.2, intTab.all fun x => intB K x.1 x.2, fnTab.all fun x => glB K x.1 && defB K (glIn K x.1) x.2.1, clTab.all fun x => clB K x,
    mtTab.all fun x => mtB K x.1 x.2.1 x.2.2.1, naTab.all fun x => x.2.all fun y => findIn K (glIn K x.1) y == some none], fnTab.map fun x => bodyAt K (glIn K x.1), mtTab.map fun x => bodyAt K (mtF K x.1 x.2.1))
noncomputable def goodK : List Bool × List (Option (FuncBody × Scope)) × List (Option (FuncBody × Scope)) := ([true, true, true, true, true, true, true], fnTab.map fun x => bodyOf x.2.2, mtTab.map fun x => bodyOf x.2.2.2)
theorem map_same {α β : Type} {f g : α → β} : ∀ {l : List α}, l.map f = l.map g → ∀ x ∈ l, f x = g x
  | [], _, _, h => by cases h
  | a :: l, e, x, h => by
    simp only [List.map_cons, List.cons.injEq] at e
    cases h with
    | head => exact e.1
    | tail _ h => exact map_same e.2 x h
structure Facts (K : Frag) : Prop where
  nb : ∀ x ∈ nbTab, (nsIn K mainGlobals x == some none) = true
  pair : ∀ x ∈ pairTab, pairB K x.1 x.2.1 x.2.2 = true
  int : ∀ x ∈ intTab, intB K x.1 x.2 = true
  fn : ∀ x ∈ fnTab, (glB K x.1 && defB K (glIn K x.1) x.2.1) = true
  cl : ∀ x ∈ clTab, clB K x = true
  mt : ∀ x ∈ mtTab, mtB K x.1 x.2.1 x.2.2.1 = true
  na : ∀ x ∈ naTab, (x.2.all fun y => findIn K (glIn K x.1) y == some none) = true
  fb : ∀ x ∈ fnTab, bodyAt K (glIn K x.1) = bodyOf x.2.2
  mb : ∀ x ∈ mtTab, bodyAt K (mtF K x.1 x.2.1) = bodyOf x.2.2.2
theorem facts_of {K : Frag} (e : factsK K = goodK) : Facts K := by
  unfold factsK goodK at e
  simp only [Prod.mk.injEq, List.cons.injEq, and_true] at e
  obtain ⟨⟨e1, e2, e3, e4, e5, e6, e7⟩, e8, e9⟩ := e
  exact ⟨List.all_eq_true.mp e1, List.all_eq_true.mp e2, List.all_eq_true.mp e3, List.all_eq_true.mp e4, List.all_eq_true.mp e5, List.all_eq_true.mp e6, List.all_eq_true.mp e7, map_same e8, map_same e9⟩
noncomputable def hookL : Hook where
  α := List Bool × List (Option (FuncBody × Scope)) × List (Option (FuncBody × Scope))
  obs := fun s => factsK (pickK s.heap asK)
  val := fun _ => goodK
  says := fun _ h => ∃ K : Frag, K.In h ∧ Facts K
  of := fun w s e => ⟨_, pickK_in s.heap asK, facts_of e⟩
  keeps := fun w h h' ⟨K, X, F⟩ k => ⟨K, X.keeps k, F⟩
noncomputable def obsT (s : SharedT) : Option (List Bool × List (Option (FuncBody × Scope)) × List (Option (FuncBody × Scope))) := (pickT s.tree s.n asK).map factsK
theorem obsT_of (s : SharedT) (h : obsT s = some goodK) : hookL.obs s.abs = goodK := by
  obtain ⟨K, h1, h2⟩ := Option.map_eq_some_iff.mp h
  show factsK (pickK (absHeap s.tree s.n s.life) asK) = goodK
  rw [pickT_of h1, h2]
theorem leftL : LeftO PySem.Challenge.pw_nz0150_01 hdView hdLoose (fun s => xlAt hdView [] s && recOk (RowW.records PySem.Challenge.rw_nz0150_01.row.toRowW) s) hookL.obs hookL.val 9000 true :=
  leftT (T₀ := bootT) (life := {}) (Yt := obsT) (fun _ s h => obsT_of s h) hdOpen hdTree hdSize fun w => by kernel_rfl
theorem band {a b : Bool} (h : a = true) (k : b = true) : (a && b) = true := by rw [h, k]; rfl
set_option maxHeartbeats 4000000 in
theorem saidL : PySem.Challenge.rw_nz0150_01.wellSaid = true := by
  refine (congrFun Fast.te9446332074065402090 _).trans ?_
  unfold Fast.tw9446332074065402090
  repeat' with_reducible refine band ?_ ?_
  all_goals decide +kernel
theorem headL (hw : PySem.Challenge.rw_nz0150_01.row.toRowW.promised) (hc : ∀ d kwd, PySem.W.defOf hdView PySem.Challenge.rw_nz0150_01.row.name = some (d, kwd) → WalkO hdView hdLoose (XL hdView []) hookL.says PySem.Challenge.rw_nz0150_01.row.toRowW d kwd fun f vs => PySem.call f vs) : PySem.Challenge.rw_nz0150_01.Holds := by
  refine holds_law saidL fun said => ?_
  refine holds_open (q := hdView) (loose := hdLoose) (Xt := fun s => xlAt hdView [] s && recOk (RowW.records PySem.Challenge.rw_nz0150_01.row.toRowW) s) (XP := XL hdView []) (Yf := hookL.obs) (Ya := hookL.val) (YP := hookL.says) (N := 9000)
    leftL hookL.of hookL.keeps (fun s e => xl_of s (Bool.and_eq_true_iff.mp e).1) XL.keeps (by rfl) (by rfl) (by rfl) (fun s e => recFacts_of (Bool.and_eq_true_iff.mp e).2) (by rfl) said (by decide +kernel) ⟨rfl, rfl, rfl, rfl, rfl, by decide +kernel⟩ hw (hc _ _ rfl)
/- part A1 -/
/- ## what is given, taken apart with no motive -/
theorem nn {α : Type} {v : α} {g : Prop} (h : none = some v) : g := nomatch h
theorem ft {g : Prop} (h : false = true) : g := nomatch h
theorem tf {g : Prop} (h : true = false) : g := nomatch h
theorem fa1 {α : Type} {p : α → Prop} {a : α} (h : p a) : ∀ x ∈ [a], p x := fun _ m => List.mem_singleton.mp m ▸ h
theorem fa2 {α : Type} {p : α → Prop} {a b : α} (h : p a) (k : p b) : ∀ x ∈ [a, b], p x := List.forall_mem_cons.mpr ⟨h, fa1 k⟩
theorem fa3 {α : Type} {p : α → Prop} {a b c : α} (h : p a) (k : p b) (l : p c) : ∀ x ∈ [a, b, c], p x := List.forall_mem_cons.mpr ⟨h, fa2 k l⟩
theorem fa4 {α : Type} {p : α → Prop} {a b c d : α} (h : p a) (k : p b) (l : p c) (m : p d) : ∀ x ∈ [a, b, c, d], p x := List.forall_mem_cons.mpr ⟨h, fa3 k l m⟩
theorem nh {α : Type} {c a : α} {l : List α} (h : c ∉ a :: l) : c ≠ a := List.ne_of_not_mem_cons h
theorem nt {α : Type} {c a : α} {l : List α} (h : c ∉ a :: l) : c ∉ l := List.not_mem_of_not_mem_cons h
theorem nc {α : Type} {c a : α} {l : List α} (h : c ≠ a) (k : c ∉ l) : c ∉ a :: l := List.not_mem_cons_of_ne_of_not_mem h k
theorem ni2 {α : Type} {c a b : α} (h : c ≠ a) (k : c ≠ b) : c ∉ [a, b] := nc h (nc k List.not_mem_nil)
theorem ni4 {α : Type} {c a b d e : α} (h : c ≠ a) (k : c ≠ b) (l : c ≠ d) (m : c ≠ e) : c ∉ [a, b, d, e] := nc h (nc k (ni2 l m))
theorem el02 {p q : Prop} {g : Prop} (h : p ∧ q) (k : p → q → g) : g := k h.1 h.2
theorem el03 {p q r : Prop} {g : Prop} (h : p ∧ q ∧ r) (k : p → q → r → g) : g := k h.1 h.2.1 h.2.2
theorem el04 {p q r s : Prop} {g : Prop} (h : p ∧ q ∧ r ∧ s) (k : p → q → r → s → g) : g := k h.1 h.2.1 h.2.2.1 h.2.2.2
theorem el05 {p q r s t : Prop} {g : Prop} (h : p ∧ q ∧ r ∧ s ∧ t) (k : p → q → r → s → t → g) : g := k h.1 h.2.1 h.2.2.1 h.2.2.2.1 h.2.2.2.2
theorem el06 {p q r s t u : Prop} {g : Prop} (h : p ∧ q ∧ r ∧ s ∧ t ∧ u) (k : p → q → r → s → t → u → g) : g := k h.1 h.2.1 h.2.2.1 h.2.2.2.1 h.2.2.2.2.1 h.2.2.2.2.2
theorem el07 {p q r s t u v : Prop} {g : Prop} (h : p ∧ q ∧ r ∧ s ∧ t ∧ u ∧ v) (k : p → q → r → s → t → u → v → g) : g := k h.1 h.2.1 h.2.2.1 h.2.2.2.1 h.2.2.2.2.1 h.2.2.2.2.2.1 h.2.2.2.2.2.2
theorem el11 {α : Type} {p : α → Prop} {g : Prop} (h : ∃ a, p a) (k : ∀ a, p a → g) : g := h.elim fun a h => k a h
theorem el12 {α : Type} {p q : α → Prop} {g : Prop} (h : ∃ a, p a ∧ q a) (k : ∀ a, p a → q a → g) : g := h.elim fun a h => k a h.1 h.2
theorem el13 {α : Type} {p q r : α → Prop} {g : Prop} (h : ∃ a, p a ∧ q a ∧ r a) (k : ∀ a, p a → q a → r a → g) : g := h.elim fun a h => k a h.1 h.2.1 h.2.2
theorem el14 {α : Type} {p q r s : α → Prop} {g : Prop} (h : ∃ a, p a ∧ q a ∧ r a ∧ s a) (k : ∀ a, p a → q a → r a → s a → g) : g := h.elim fun a h => k a h.1 h.2.1 h.2.2.1 h.2.2.2
theorem el15 {α : Type} {p q r s t : α → Prop} {g : Prop} (h : ∃ a, p a ∧ q a ∧ r a ∧ s a ∧ t a) (k : ∀ a, p a → q a → r a → s a → t a → g) : g := h.elim fun a h => k a h.1 h.2.1 h.2.2.1 h.2.2.2.1 h.2.2.2.2
theorem el16 {α : Type} {p q r s t u : α → Prop} {g : Prop} (h : ∃ a, p a ∧ q a ∧ r a ∧ s a ∧ t a ∧ u a) (k : ∀ a, p a → q a → r a → s a → t a → u a → g) : g := h.elim fun a h => k a h.1 h.2.1 h.2.2.1 h.2.2.2.1 h.2.2.2.2.1 h.2.2.2.2.2
theorem el21 {α : Type} {β : Type} {p : α → β → Prop} {g : Prop} (h : ∃ a b, p a b) (k : ∀ a b, p a b → g) : g := h.elim fun a h => h.elim fun b h => k a b h
theorem el22 {α : Type} {β : Type} {p q : α → β → Prop} {g : Prop} (h : ∃ a b, p a b ∧ q a b) (k : ∀ a b, p a b → q a b → g) : g := h.elim fun a h => h.elim fun b h => k a b h.1 h.2
theorem el23 {α : Type} {β : Type} {p q r : α → β → Prop} {g : Prop} (h : ∃ a b, p a b ∧ q a b ∧ r a b) (k : ∀ a b, p a b → q a b → r a b → g) : g := h.elim fun a h => h.elim fun b h => k a b h.1 h.2.1 h.2.2
theorem el24 {α : Type} {β : Type} {p q r s : α → β → Prop} {g : Prop} (h : ∃ a b, p a b ∧ q a b ∧ r a b ∧ s a b) (k : ∀ a b, p a b → q a b → r a b → s a b → g) : g := h.elim fun a h => h.elim fun b h => k a b h.1 h.2.1 h.2.2.1 h.2.2.2
theorem el25 {α : Type} {β : Type} {p q r s t : α → β → Prop} {g : Prop} (h : ∃ a b, p a b ∧ q a b ∧ r a b ∧ s a b ∧ t a b) (k : ∀ a b, p a b → q a b → r a b → s a b → t a b → g) : g := h.elim fun a h => h.elim fun b h => k a b h.1 h.2.1 h.2.2.1 h.2.2.2.1 h.2.2.2.2
theorem el32 {α : Type} {β : Type} {γ : Type} {p q : α → β → γ → Prop} {g : Prop} (h : ∃ a b c, p a b c ∧ q a b c) (k : ∀ a b c, p a b c → q a b c → g) : g := h.elim fun a h => h.elim fun b h => h.elim fun c h => k a b c h.1 h.2
theorem el33 {α : Type} {β : Type} {γ : Type} {p q r : α → β → γ → Prop} {g : Prop} (h : ∃ a b c, p a b c ∧ q a b c ∧ r a b c) (k : ∀ a b c, p a b c → q a b c → r a b c → g) : g := h.elim fun a h => h.elim fun b h => h.elim fun c h => k a b c h.1 h.2.1 h.2.2
theorem el34 {α : Type} {β : Type} {γ : Type} {p q r s : α → β → γ → Prop} {g : Prop} (h : ∃ a b c, p a b c ∧ q a b c ∧ r a b c ∧ s a b c) (k : ∀ a b c, p a b c → q a b c → r a b c → s a b c → g) : g := h.elim fun a h => h.elim fun b h => h.elim fun c h => k a b c h.1 h.2.1 h.2.2.1 h.2.2.2
theorem el35 {α : Type} {β : Type} {γ : Type} {p q r s t : α → β → γ → Prop} {g : Prop} (h : ∃ a b c, p a b c ∧ q a b c ∧ r a b c ∧ s a b c ∧ t a b c) (k : ∀ a b c, p a b c → q a b c → r a b c → s a b c → t a b c → g) : g := h.elim fun a h => h.elim fun b h => h.elim fun c h => k a b c h.1 h.2.1 h.2.2.1 h.2.2.2.1 h.2.2.2.2
theorem el36 {α : Type} {β : Type} {γ : Type} {p q r s t u : α → β → γ → Prop} {g : Prop} (h : ∃ a b c, p a b c ∧ q a b c ∧ r a b c ∧ s a b c ∧ t a b c ∧ u a b c) (k : ∀ a b c, p a b c → q a b c → r a b c → s a b c → t a b c → u a b c → g) : g := h.elim fun a h => h.elim fun b h => h.elim fun c h => k a b c h.1 h.2.1 h.2.2.1 h.2.2.2.1 h.2.2.2.2.1 h.2.2.2.2.2
theorem el42 {α : Type} {β : Type} {γ : Type} {δ : Type} {p q : α → β → γ → δ → Prop} {g : Prop} (h : ∃ a b c d, p a b c d ∧ q a b c d) (k : ∀ a b c d, p a b c d → q a b c d → g) : g := h.elim fun a h => h.elim fun b h => h.elim fun c h => h.elim fun d h => k a b c d h.1 h.2
theorem el43 {α : Type} {β : Type} {γ : Type} {δ : Type} {p q r : α → β → γ → δ → Prop} {g : Prop} (h : ∃ a b c d, p a b c d ∧ q a b c d ∧ r a b c d) (k : ∀ a b c d, p a b c d → q a b c d → r a b c d → g) : g := h.elim fun a h => h.elim fun b h => h.elim fun c h => h.elim fun d h => k a b c d h.1 h.2.1 h.2.2
theorem el44 {α : Type} {β : Type} {γ : Type} {δ : Type} {p q r s : α → β → γ → δ → Prop} {g : Prop} (h : ∃ a b c d, p a b c d ∧ q a b c d ∧ r a b c d ∧ s a b c d) (k : ∀ a b c d, p a b c d → q a b c d → r a b c d → s a b c d → g) : g := h.elim fun a h => h.elim fun b h => h.elim fun c h => h.elim fun d h => k a b c d h.1 h.2.1 h.2.2.1 h.2.2.2
theorem el45 {α : Type} {β : Type} {γ : Type} {δ : Type} {p q r s t : α → β → γ → δ → Prop} {g : Prop} (h : ∃ a b c d, p a b c d ∧ q a b c d ∧ r a b c d ∧ s a b c d ∧ t a b c d) (k : ∀ a b c d, p a b c d → q a b c d → r a b c d → s a b c d → t a b c d → g) : g := h.elim fun a h => h.elim fun b h => h.elim fun c h => h.elim fun d h => k a b c d h.1 h.2.1 h.2.2.1 h.2.2.2.1 h.2.2.2.2
/- tactics, one for each name in a row of names -/
def tacs (k : Lean.Ident → Lean.MacroM (Lean.TSyntax `tactic)) (s : String) : Lean.MacroM (Array (Lean.TSyntax `Lean.Parser.Tactic.tacticSeq)) := (s.splitOn " ").toArray.mapM fun x => do
  let t ← k (Lean.mkIdent x.toName)
  `(Lean.Parser.Tactic.tacticSeq| $t:tactic)
def mE (x : Lean.Ident) : Lean.MacroM (Lean.TSyntax `tactic) := `(tactic| exact $x)
def mA (x : Lean.Ident) : Lean.MacroM (Lean.TSyntax `tactic) := `(tactic| exact $x ‹_›)
def mR (t : Lean.Term) : Lean.MacroM (Lean.TSyntax `tactic) := `(tactic| with_reducible refine' $t)
def mT (x h : Lean.Ident) : Lean.MacroM (Lean.TSyntax `tactic) := `(tactic| exact $x $h)
/- obtain, with no motive -/
local macro_rules | `(tactic| obtain ⟨$xs,*⟩ := $e) => do
  let mut ids : Array Lean.Ident := #[]
  let mut post : Array (Lean.TSyntax `tactic) := #[]
  for x in xs.getElems do
    let y := x.raw[0][0]
    let one := y.getArgs.size == 1 && y[0].isOfKind `Lean.Parser.Tactic.rcasesPat.one
    if one && y[0][0].getId != `rfl then
      ids := ids.push ⟨y[0][0]⟩
    else
      let t := Lean.mkIdent (← Lean.Macro.addMacroScope (.mkSimple s!"z{ids.size}"))
      ids := ids.push t
      unless y.getArgs.size == 1 && y[0].isOfKind `Lean.Parser.Tactic.rcasesPat.ignore do
        let p : Lean.TSyntax `Lean.Parser.Tactic.rcasesPatMed := ⟨x.raw[0]⟩
        post := post.push (← if one then `(tactic| subst $t:ident) else `(tactic| obtain $p:rcasesPatMed := $t:ident))
  let n := ids.size
  let as ← (Array.range n).mapM fun k => do
    let f := Lean.mkIdent (.mkSimple s!"el{k}{n - k}")
    if e.raw.isIdent then `(Lean.Parser.Tactic.tacticSeq| ((refine $f $e ?_); (try clear $(⟨e.raw⟩)); (intro $[$ids:ident]*); $[$post]*))
    else `(Lean.Parser.Tactic.tacticSeq| ((refine $f $e fun $ids* => ?_); $[$post]*))
  let as := as.push (← `(Lean.Parser.Tactic.tacticSeq| rcases $e:term with ⟨$xs,*⟩))
  `(tactic| first $[| $as]*)
/- what cannot be -/
local macro_rules | `(tactic| cases $h:ident) => do
  let a ← tacs (mT · h) "nn ft tf"
  `(tactic| first $[| $a]* | cases ($h))
/- cases with no equations -/
local macro_rules | `(tactic| cases $h:ident $alts:inductionAlts) => do
  let a ← tacs (fun x => `(tactic| induction $h:ident using $x $alts:inductionAlts)) "List.casesOn Bool.casesOn Option.casesOn V.casesOn Expr.casesOn Fl.casesOn Value.casesOn Const.casesOn CmpOp.casesOn Operator.casesOn Int.casesOn NameKind.casesOn"
  `(tactic| first $[| $a]* | cases ($h) $alts:inductionAlts)
/- ## the little proofs that the rules below ask for, by name -/
def tRfl : Lean.Syntax := (Lean.Unhygienic.run `(Lean.Parser.Tactic.tacticSeq| with_unfolding_all rfl)).raw
def tRfl1 : Lean.Syntax := (Lean.Unhygienic.run `(Lean.Parser.Tactic.tacticSeq| intro _; with_unfolding_all rfl)).raw
def tRfl2 : Lean.Syntax := (Lean.Unhygienic.run `(Lean.Parser.Tactic.tacticSeq| intro _ _; with_unfolding_all rfl)).raw
def tSw : Lean.Syntax := (Lean.Unhygienic.run `(Lean.Parser.Tactic.tacticSeq| intro _ h; with_unfolding_all (first | rfl | (unfold swappedStores; (try unfold Env.blockKind); unfold Env.kindOf; rw [h]; rfl)))).raw
def tRfl3 : Lean.Syntax := (Lean.Unhygienic.run `(Lean.Parser.Tactic.tacticSeq| intro _; with_unfolding_all exact ⟨_, _, rfl⟩)).raw
def tDec : Lean.Syntax := (Lean.Unhygienic.run `(Lean.Parser.Tactic.tacticSeq| decide)).raw
def tDecK : Lean.Syntax := (Lean.Unhygienic.run `(Lean.Parser.Tactic.tacticSeq| decide +kernel)).raw
/- ## worlds, values -/
set_option genInjectivity false in
structure Wd where
  prog : Program
  w : World
  h0 : Heap
  K : Frag
  mg : Str → Option Value
  mb : Str → Option Value
  KIn : K.In h0
  g : h0.Ns mainGlobals mg
  b : h0.Ns builtinsNs mb
  nolimit : h0.NoLimit
  builtins : ∀ x : Str, x ≠ "__name__" → mb x = bootBuiltins x
  sys : ∃ o, h0.get? sysModules = some o
noncomputable abbrev Wd.M (W : Wd) : Model := model W.prog W.w
inductive V where
  | none
  | bool (b : Bool)
  | int (i : Int)
  | str (s : Str)
  | con (v : Value)
  | tup (vs : List V)
  | flist (vs : List V)
  | fdict (ks : List Int) (vs : List V)
noncomputable abbrev V.ref (a : Addr) : V := .con (.ref a)
noncomputable abbrev tupO (xs : List Value) (n : Nat) : Obj := { cls := .type "tuple", data := .seq xs.toArray n }
noncomputable def IsTupO (o : Obj) (xs : List Value) (n : Nat) : Prop := o.cls = .type "tuple" ∧ o.data = .seq xs.toArray n ∧ o.dict = none
noncomputable abbrev lstO (xs : List Value) (n : Nat) : Obj := { cls := .type "list", data := .seq xs.toArray n }
mutual
noncomputable def VRel (W : Wd) (Z : Addr → Obj → Prop) : V → Value → Prop
  | .none, x => x = .none
  | .bool b, x => x = .bool b
  | .int i, x => ∃ t, x = .int i t
  | .str s, x => ∃ t, x = .str s t
  | .con v, x => x = v
  | .tup vs, x => ∃ a o xs n, x = .ref a ∧ Z a o ∧ IsTupO o xs n ∧ VRels W Z vs xs
  | .flist vs, x => ∃ a xs n, x = .ref a ∧ Z a (lstO xs n) ∧ VRels W Z vs xs
  | .fdict ks vs, x => ∃ a o xs, x = .ref a ∧ (a == sysModules) = false ∧ Z a o ∧ VRels W Z vs xs ∧ ks.length = vs.length ∧ o.IsDictOf (intKind W.prog W.w) (ks.zip xs)
noncomputable def VRels (W : Wd) (Z : Addr → Obj → Prop) : List V → List Value → Prop
  | [], xs => xs = []
  | v :: vs, xs => ∃ y ys, xs = y :: ys ∧ VRel W Z v y ∧ VRels W Z vs ys
end
mutual
theorem VRel.mono {W : Wd} {Z Z' : Addr → Obj → Prop} (hz : ∀ a o, Z a o → Z' a o) : ∀ (v : V) (x : Value), VRel W Z v x → VRel W Z' v x
  | .none, _, h => h
  | .bool _, _, h => h
  | .int _, _, h => h
  | .str _, _, h => h
  | .con _, _, h => h
  | .tup vs, _, h => by
    simp only [VRel] at h ⊢
    obtain ⟨a, o, xs, n, h1, h2, h4, h3⟩ := h
    exact ⟨a, o, xs, n, h1, hz _ _ h2, h4, VRels.mono hz vs xs h3⟩
  | .flist vs, _, h => by
    simp only [VRel] at h ⊢
    obtain ⟨a, xs, n, h1, h2, h3⟩ := h
    exact ⟨a, xs, n, h1, hz _ _ h2, VRels.mono hz vs xs h3⟩
  | .fdict ks vs, _, h => by
    simp only [VRel] at h ⊢
    obtain ⟨a, o, xs, h1, h2, h3, h4, h5, h6⟩ := h
    exact ⟨a, o, xs, h1, h2, hz _ _ h3, VRels.mono hz vs xs h4, h5, h6⟩
theorem VRels.mono {W : Wd} {Z Z' : Addr → Obj → Prop} (hz : ∀ a o, Z a o → Z' a o) : ∀ (vs : List V) (xs : List Value), VRels W Z vs xs → VRels W Z' vs xs
  | [], _, h => h
  | v :: vs, _, h => by
    simp only [VRels] at h ⊢
    obtain ⟨y, ys, h1, h2, h3⟩ := h
    exact ⟨y, ys, h1, VRel.mono hz v y h2, VRels.mono hz vs ys h3⟩
end
theorem VRels.length {W : Wd} {Z} : ∀ {vs : List V} {xs : List Value}, VRels W Z vs xs → xs.length = vs.length
  | [], _, h => by obtain rfl := h; rfl
  | v :: vs, _, h => by
    obtain ⟨y, ys, rfl, _, h3⟩ := h
    simp [VRels.length h3]
theorem VRels.get {W : Wd} {Z} : ∀ {vs : List V} {xs : List Value} {i : Nat} {v : V}, VRels W Z vs xs → vs[i]? = some v → ∃ y, xs[i]? = some y ∧ VRel W Z v y
  | [], _, _, _, _, e => by simp at e
  | u :: vs, _, 0, v, h, e => by
    obtain ⟨y, ys, rfl, h2, h3⟩ := h
    simp at e; subst e
    exact ⟨y, by simp, h2⟩
  | u :: vs, _, i + 1, v, h, e => by
    obtain ⟨y, ys, rfl, h2, h3⟩ := h
    simp at e
    obtain ⟨z, h4, h5⟩ := VRels.get h3 e
    exact ⟨z, by simpa using h4, h5⟩
theorem VRels.append {W : Wd} {Z} : ∀ {vs us : List V} {xs ys : List Value}, VRels W Z vs xs → VRels W Z us ys → VRels W Z (vs ++ us) (xs ++ ys)
  | [], _, _, _, h, h' => by obtain rfl := h; simpa using h'
  | v :: vs, _, _, _, h, h' => by
    obtain ⟨y, ys, rfl, h2, h3⟩ := h
    simp only [List.cons_append, VRels]
    exact ⟨y, _, rfl, h2, VRels.append h3 h'⟩
theorem VRels.one {W : Wd} {Z} {v : V} {x : Value} (h : VRel W Z v x) : VRels W Z [v] [x] := by
  simp only [VRels]; exact ⟨x, [], rfl, h, rfl⟩
theorem VRels.cons {W : Wd} {Z} {v : V} {x : Value} {vs xs} (h : VRel W Z v x) (h' : VRels W Z vs xs) : VRels W Z (v :: vs) (x :: xs) := by
  simp only [VRels]; exact ⟨x, xs, rfl, h, h'⟩
theorem VRels.nil {W : Wd} {Z} : VRels W Z [] [] := by simp only [VRels]
/- ## mutable objects -/
set_option genInjectivity false in
inductive MO where
  | list (vs : List V)
  | idict (kvs : List (Int × V))
  | sdict (kvs : List (Str × V))
  | tdict (kvs : List (V × V))
  | inst (C dx : Addr) (attrs : List (Str × V))
  | raw (R : Obj → Prop)
noncomputable abbrev St := List (Addr × MO)
noncomputable def fp : Addr × MO → List Addr
  | (a, .inst _ dx _) => [a, dx]
  | (a, _) => [a]
noncomputable def own (σ : St) : List Addr := σ.flatMap fp
@[simp] theorem own_nil : own [] = [] := rfl
@[simp] theorem own_cons (p : Addr × MO) (σ : St) : own (p :: σ) = fp p ++ own σ := rfl
@[simp] theorem own_append (σ τ : St) : own (σ ++ τ) = own σ ++ own τ := by simp [own]
theorem own_perm {σ τ : St} (h : σ.Perm τ) : (own σ).Perm (own τ) := h.flatMap_right _
noncomputable abbrev instO (C dx : Addr) : Obj := { cls := .ref C, dict := some dx, data := .plain }
noncomputable def AttrsRel (W : Wd) (Z : Addr → Obj → Prop) : List (Str × V) → List DictEntry → Prop
  | [], es => es = []
  | (x, v) :: r, es => ∃ hs t y es', es = ⟨hs, .str x t, y⟩ :: es' ∧ VRel W Z v y ∧ AttrsRel W Z r es'
theorem AttrsRel.mono {W : Wd} {Z Z' : Addr → Obj → Prop} (hz : ∀ a o, Z a o → Z' a o) : ∀ (vs : List (Str × V)) (es : List DictEntry), AttrsRel W Z vs es → AttrsRel W Z' vs es
  | [], _, h => h
  | (x, v) :: r, _, h => by
    simp only [AttrsRel] at h ⊢
    obtain ⟨hs, t, y, es', h1, h2, h3⟩ := h
    exact ⟨hs, t, y, es', h1, VRel.mono hz _ _ h2, AttrsRel.mono hz r es' h3⟩
/- part A2 -/
noncomputable abbrev atH (h : Heap) : Addr → Obj → Prop := fun a o => h.get? a = some o
mutual
noncomputable def eqOk : V → Bool
  | .none => true
  | .int _ => true
  | .str x => PyData.strOk x
  | .tup vs => eqOks vs
  | .flist vs => eqOks vs
  | _ => false
noncomputable def eqOks : List V → Bool
  | [] => true
  | v :: vs => eqOk v && eqOks vs
end
mutual
noncomputable def isKey : V → Bool
  | .int _ => true
  | .str x => PyData.strOk x
  | .tup vs => isKeys vs
  | _ => false
noncomputable def isKeys : List V → Bool
  | [] => true
  | v :: vs => isKey v && isKeys vs
end
mutual
noncomputable def vdep : V → Nat
  | .tup vs => vdeps vs + 1
  | .flist vs => vdeps vs + 1
  | _ => 0
noncomputable def vdeps : List V → Nat
  | [] => 0
  | v :: vs => max (vdep v) (vdeps vs)
end
mutual
noncomputable def pd : V → PyData
  | .none => .none
  | .int i => .int i
  | .str x => .str x
  | .tup vs => .tuple (pds vs)
  | .flist vs => .list (pds vs)
  | .bool b => .bool b
  | _ => .none
noncomputable def pds : List V → List PyData
  | [] => []
  | v :: vs => pd v :: pds vs
end
mutual
theorem eqOk_of_key : ∀ v : V, isKey v = true → eqOk v = true
  | .int _, _ => rfl
  | .str x, h => by simpa [isKey, eqOk] using h
  | .tup vs, h => by simp only [isKey] at h; simp only [eqOk]; exact eqOks_of_keys vs h
  | .none, h => by simp [isKey] at h
  | .bool _, h => by simp [isKey] at h
  | .con _, h => by simp [isKey] at h
  | .flist _, h => by simp [isKey] at h
  | .fdict _ _, h => by simp [isKey] at h
theorem eqOks_of_keys : ∀ vs : List V, isKeys vs = true → eqOks vs = true
  | [], _ => rfl
  | v :: vs, h => by
    simp only [isKeys, Bool.and_eq_true] at h
    simp only [eqOks, Bool.and_eq_true]
    exact ⟨eqOk_of_key v h.1, eqOks_of_keys vs h.2⟩
end
mutual
theorem reads_of {W : Wd} {Z : Addr → Obj → Prop} {h : Heap} (hZ : ∀ a o, Z a o → h.get? a = some o) : ∀ (v : V) (x : Value), VRel W Z v x → eqOk v = true → ∃ as, Reads h x (pd v) as
  | .none, x, r, _ => by obtain rfl := r; exact ⟨_, .none⟩
  | .int i, x, r, _ => by obtain ⟨t, rfl⟩ := r; exact ⟨_, .int i t⟩
  | .str s, x, r, _ => by obtain ⟨t, rfl⟩ := r; exact ⟨_, .str s t⟩
  | .tup vs, x, r, k => by
    obtain ⟨a, o, xs, n, rfl, hz, hto, hr⟩ := r
    simp only [eqOk] at k
    obtain ⟨as, ha⟩ := readsAll_of hZ vs xs hr k
    exact ⟨_, .tuple (hZ _ _ hz) hto.1 hto.2.1 (by simpa using ha)⟩
  | .flist vs, x, r, k => by
    obtain ⟨a, xs, n, rfl, hz, hr⟩ := r
    simp only [eqOk] at k
    obtain ⟨as, ha⟩ := readsAll_of hZ vs xs hr k
    exact ⟨_, .list (hZ _ _ hz) rfl rfl (by simpa using ha)⟩
  | .bool _, _, _, k => by simp [eqOk] at k
  | .con _, _, _, k => by simp [eqOk] at k
  | .fdict _ _, _, _, k => by simp [eqOk] at k
theorem readsAll_of {W : Wd} {Z : Addr → Obj → Prop} {h : Heap} (hZ : ∀ a o, Z a o → h.get? a = some o) : ∀ (vs : List V) (xs : List Value), VRels W Z vs xs → eqOks vs = true → ∃ as, ReadsAll h xs (pds vs) as
  | [], xs, r, _ => by obtain rfl := r; exact ⟨_, .nil⟩
  | v :: vs, xs, r, k => by
    obtain ⟨y, ys, rfl, h1, h2⟩ := r
    simp only [eqOks, Bool.and_eq_true] at k
    obtain ⟨as, ha⟩ := reads_of hZ v y h1 k.1
    obtain ⟨bs, hb⟩ := readsAll_of hZ vs ys h2 k.2
    exact ⟨_, .cons ha hb⟩
end
mutual
theorem canLay_pd : ∀ v : V, eqOk v = true → (pd v).canLay0 = true ∧ (pd v).depth = vdep v
  | .none, _ => by simp [pd, PyData.canLay0, PyData.depth, vdep]
  | .int i, _ => by simp [pd, PyData.canLay0, PyData.depth, vdep]
  | .str s, k => by simp only [eqOk] at k; simp [pd, PyData.canLay0, PyData.depth, vdep, k]
  | .tup vs, k => by
    simp only [eqOk] at k
    have := canLays_pd vs k
    simp [pd, PyData.canLay0, PyData.depth, vdep, this.1, this.2]
  | .flist vs, k => by
    simp only [eqOk] at k
    have := canLays_pd vs k
    simp [pd, PyData.canLay0, PyData.depth, vdep, this.1, this.2]
  | .bool _, k => by simp [eqOk] at k
  | .con _, k => by simp [eqOk] at k
  | .fdict _ _, k => by simp [eqOk] at k
theorem canLays_pd : ∀ vs : List V, eqOks vs = true → PyData.canLayAll0 (pds vs) = true ∧ PyData.depthAll (pds vs) = vdeps vs
  | [], _ => by simp [pds, PyData.canLayAll0, PyData.depthAll, vdeps]
  | v :: vs, k => by
    simp only [eqOks, Bool.and_eq_true] at k
    have h1 := canLay_pd v k.1
    have h2 := canLays_pd vs k.2
    simp [pds, PyData.canLayAll0, PyData.depthAll, vdeps, h1.1, h1.2, h2.1, h2.2]
end
noncomputable abbrev veq (v u : V) : Bool := PyData.eqv (pd v) (pd u)
mutual
theorem veq_iff : ∀ (v u : V), eqOk v = true → eqOk u = true → (veq v u = true ↔ v = u)
  | .none, u, _, k => by cases u <;> simp [veq, pd, PyData.eqv, eqOk] at k ⊢
  | .int i, u, _, k => by cases u <;> simp [veq, pd, PyData.eqv, eqOk] at k ⊢
  | .str s, u, _, k => by cases u <;> simp [veq, pd, PyData.eqv, eqOk] at k ⊢
  | .tup vs, u, h, k => by
    cases u with
    | tup us =>
      simp only [eqOk] at h k
      have := veqs_iff vs us h k
      simp only [veq, pd, PyData.eqv, this, V.tup.injEq]
    | _ => simp [veq, pd, PyData.eqv, eqOk] at k ⊢
  | .flist vs, u, h, k => by
    cases u with
    | flist us =>
      simp only [eqOk] at h k
      have := veqs_iff vs us h k
      simp only [veq, pd, PyData.eqv, this, V.flist.injEq]
    | _ => simp [veq, pd, PyData.eqv, eqOk] at k ⊢
  | .bool _, _, k, _ => by simp [eqOk] at k
  | .con _, _, k, _ => by simp [eqOk] at k
  | .fdict _ _, _, k, _ => by simp [eqOk] at k
theorem veqs_iff : ∀ (vs us : List V), eqOks vs = true → eqOks us = true → (PyData.eqvAll (pds vs) (pds us) = true ↔ vs = us)
  | [], us, _, _ => by cases us <;> simp [pds, PyData.eqvAll]
  | v :: vs, us, h, k => by
    cases us with
    | nil => simp [pds, PyData.eqvAll]
    | cons u us =>
      simp only [eqOks, Bool.and_eq_true] at h k
      have h1 := veq_iff v u h.1 k.1
      have h2 := veqs_iff vs us h.2 k.2
      simp only [veq] at h1
      simp only [pds, PyData.eqvAll, Bool.and_eq_true, h1, h2, List.cons.injEq]
end
theorem eqAt_V {W : Wd} {Z : Addr → Obj → Prop} {A : Around} {s : Shared} (hZ : ∀ a o, Z a o → s.heap.get? a = some o) {v u : V} {x y : Value} (hv : VRel W Z v x) (hu : VRel W Z u y)
    (kv : eqOk v = true) (ku : eqOk u = true) (hr : A.units + vdep v < cLine) : SeqAt.EqAt A s x y (veq v u) := by
  obtain ⟨as, ha⟩ := reads_of hZ v x hv kv
  obtain ⟨bs, hb⟩ := reads_of hZ u y hu ku
  have h1 := canLay_pd v kv
  have h2 := canLay_pd u ku
  exact SeqAt.eqAt_reads _ _ A s x y as bs ha hb h1.1 h2.1 (by rw [h1.2]; (first | lia | omega))
/- ## hashes -/
mutual
noncomputable def hashV (w : World) : V → Int
  | .int i => hashInt i
  | .str s => hashStr w s
  | .tup vs => reduceHash (Builtin.Tuple.tupleHashOf (hashVs w vs))
  | _ => 0
noncomputable def hashVs (w : World) : List V → List Int
  | [] => []
  | v :: vs => hashV w v :: hashVs w vs
end
mutual
noncomputable def draws : V → Nat
  | .tup vs => drawss vs + 1
  | _ => 1
noncomputable def drawss : List V → Nat
  | [] => 0
  | v :: vs => draws v + drawss vs
end
mutual
theorem VRel.key_inj {W : Wd} {h : Heap} : ∀ (v u : V) (x : Value), isKey v = true → isKey u = true → VRel W (atH h) v x → VRel W (atH h) u x → v = u
  | .int i, u, x, _, ku, hv, hu => by
    obtain ⟨t, rfl⟩ := hv
    cases u <;> simp [VRel, isKey] at hu ku ⊢
    exact hu
  | .str s, u, x, _, ku, hv, hu => by
    obtain ⟨t, rfl⟩ := hv
    cases u <;> simp [VRel, isKey] at hu ku ⊢
    exact hu
  | .tup vs, u, x, kv, ku, hv, hu => by
    obtain ⟨a, o, xs, n, rfl, h1, hto, h2⟩ := hv
    cases u with
    | tup us =>
      obtain ⟨b, o', ys, m, e, h3, hto', h4⟩ := hu
      cases e
      have e : o = o' := Option.some.inj (h1.symm.trans h3)
      subst e
      have e' : xs = ys := by have e := hto.2.1.symm.trans hto'.2.1; injection e with e _; injection e
      subst e'
      simp only [isKey] at kv ku
      rw [VRels.key_inj vs us xs kv ku h2 h4]
    | _ => simp [VRel, isKey] at hu ku
  | .none, _, _, k, _, _, _ => by simp [isKey] at k
  | .bool _, _, _, k, _, _, _ => by simp [isKey] at k
  | .con _, _, _, k, _, _, _ => by simp [isKey] at k
  | .flist _, _, _, k, _, _, _ => by simp [isKey] at k
  | .fdict _ _, _, _, k, _, _, _ => by simp [isKey] at k
theorem VRels.key_inj {W : Wd} {h : Heap} : ∀ (vs us : List V) (xs : List Value), isKeys vs = true → isKeys us = true → VRels W (atH h) vs xs → VRels W (atH h) us xs → vs = us
  | [], us, xs, _, _, hv, hu => by
    obtain rfl := hv
    cases us with
    | nil => rfl
    | cons _ _ => simp [VRels] at hu
  | v :: vs, us, xs, kv, ku, hv, hu => by
    obtain ⟨y, ys, rfl, h1, h2⟩ := hv
    cases us with
    | nil => simp [VRels] at hu
    | cons u us =>
      obtain ⟨y', ys', e, h3, h4⟩ := hu
      cases e
      simp only [isKeys, Bool.and_eq_true] at kv ku
      rw [VRel.key_inj v u y kv.1 ku.1 h1 h3, VRels.key_inj vs us ys kv.2 ku.2 h2 h4]
end
mutual
theorem VRel.key_keeps {W : Wd} {h h' : Heap} {d : Addr} {od : Obj} {es ep} (ho : h.get? d = some od) (hd : od.data = .dict es ep) (hs : Heap.SameBut d h h') : ∀ (v : V) (x : Value), isKey v = true → VRel W (atH h) v x → VRel W (atH h') v x
  | .int i, x, _, hv => hv
  | .str s, x, _, hv => hv
  | .tup vs, x, k, hv => by
    simp only [VRel] at hv ⊢; obtain ⟨a, o, xs, n, rfl, h1, hto, h2⟩ := hv
    simp only [isKey] at k
    have hne : a ≠ d := by
      rintro rfl
      have e : o = od := Option.some.inj (h1.symm.trans ho)
      rw [← e, hto.2.1] at hd; exact nomatch hd
    exact ⟨a, o, xs, n, rfl, (hs.2 a hne).trans h1, hto, VRels.key_keeps ho hd hs vs xs k h2⟩
  | .none, _, k, _ => by simp [isKey] at k
  | .bool _, _, k, _ => by simp [isKey] at k
  | .con _, _, k, _ => by simp [isKey] at k
  | .flist _, _, k, _ => by simp [isKey] at k
  | .fdict _ _, _, k, _ => by simp [isKey] at k
theorem VRels.key_keeps {W : Wd} {h h' : Heap} {d : Addr} {od : Obj} {es ep} (ho : h.get? d = some od) (hd : od.data = .dict es ep) (hs : Heap.SameBut d h h') : ∀ (vs : List V) (xs : List Value), isKeys vs = true → VRels W (atH h) vs xs → VRels W (atH h') vs xs
  | [], xs, _, hv => hv
  | v :: vs, xs, k, hv => by
    simp only [VRels] at hv ⊢; obtain ⟨y, ys, rfl, h1, h2⟩ := hv
    simp only [isKeys, Bool.and_eq_true] at k
    exact ⟨y, ys, rfl, VRel.key_keeps ho hd hs v y k.1 h1, VRels.key_keeps ho hd hs vs ys k.2 h2⟩
end
theorem wpAny_pyHash_V {W : Wd} : ∀ (n : Nat) (v : V), vdep v ≤ n → isKey v = true → ∀ (A : Around) (E : Value → Shared → Prop) (s : Shared) (x : Value) (Q : Int → Shared → Prop), A.units + vdep v < cLine →
    VRel W (atH s.heap) v x → Q (hashV W.w v) { s with toks := s.toks + draws v } → wpAny W.M A (pyHash x) Q E s
  | n, .int i, _, _, A, E, s, x, Q, _, hv, hQ => by obtain ⟨t, rfl⟩ := hv; exact wpAny_pyHash_int hQ
  | n, .str y, _, _, A, E, s, x, Q, _, hv, hQ => by obtain ⟨t, rfl⟩ := hv; exact wpAny_pyHash_str hQ
  | 0, .tup vs, hn, _, _, _, _, _, _, _, _, _ => by simp [vdep] at hn
  | n + 1, .tup vs, hn, k, A, E, s, x, Q, hu, hv, hQ => by
    obtain ⟨a, o, xs, m, rfl, h1, hto, h2⟩ := hv
    simp only [isKey] at k
    simp only [vdep] at hn hu
    have hT : s.TypeIs (.ref a) "tuple" := ⟨_, h1, hto.1⟩
    unfold pyHash
    first | unfold pyHashByItsType | skip
    first | refine wpAny_bind (wpAny_cRoomFor_or (.inr (by (first | lia | omega))) ?_) | skip
    refine wpAny_bind (wpAny_specialOf hT F.slot_tuple_hash.lookup ?_)
    show wpAny _ _ (if (some (Value.builtin "tuple.__hash__") == some Value.none) = true then _ else _) Q E s
    rw [if_neg (by rw [beq_builtin_none]; exact Bool.false_ne_true)]
    refine wpAny_bind (wpAny_specialOf hT F.slot_tuple_hash.lookup ?_)
    show wpAny _ _ (callSpecialIfBoundUnlessNone? (.ref a) "__hash__" _ >>= _) Q E s
    refine wpAny_bind (wpAny_callSpecialIfBoundUnlessNone?_slot hT F.slot_tuple_hash (wpAny_call_entry F.slot_tuple_hash hT F.entry_tuple_hash ?_ (F.args_tuple_hash_1 _)))
    show wpAny _ _ (Builtin.Tuple.tupleItemsOf (.ref a) >>= _) _ _ s
    refine wpAny_bind (wpAny_tupleItemsOf h1 hto.2.1 ?_)
    refine wpAny_bind ?_
    rw [← Array.forIn_toList]
    refine wpAny_forIn_list _
      (fun rest (b : Array Int) s' => ∃ done left, vs = done ++ left ∧ isKeys left = true ∧ vdeps left ≤ vdeps vs ∧ VRels W (atH s.heap) left rest ∧ b.toList = hashVs W.w done ∧ s' = { s with toks := s.toks + drawss done })
      _ ?_ ?_ _ _ ⟨[], vs, rfl, k, Nat.le_refl _, by simpa using h2, rfl, rfl⟩
    · rintro x rest b s' ⟨done, left, rfl, hk, hd, hl, hb, rfl⟩
      cases left with
      | nil => simp [VRels] at hl
      | cons u left =>
        obtain ⟨y, ys, e, h3, h4⟩ := hl
        cases e
        simp only [isKeys, Bool.and_eq_true] at hk
        simp only [vdeps] at hd
        have happ : ∀ (l : List V), hashVs W.w (l ++ [u]) = hashVs W.w l ++ [hashV W.w u] ∧ drawss (l ++ [u]) = drawss l + draws u := by
          intro l; induction l with
          | nil => simp [hashVs, drawss]
          | cons c l ih => simp [hashVs, drawss, ih.1, ih.2, Nat.add_assoc]
        refine wpAny_bind (wpAny_pyHash_V n u (by (first | lia | omega)) hk.1 A.in1 E _ _ _ (by simp only [Around.in1_units]; (first | lia | omega)) h3 ?_)
        first
          | exact wpAny_pure ⟨done ++ [u], left, by simp, hk.2, by (first | lia | omega), h4, by simp [hb, happ], by simp [happ, Nat.add_assoc]⟩
          | exact wpAny_bind (wpAny_pure (wpAny_pure ⟨done ++ [u], left, by simp, hk.2, by (first | lia | omega), h4, by simp [hb, happ], by simp [happ, Nat.add_assoc]⟩))
    · rintro b s' ⟨done, left, rfl, hk, hd, hl, hb, rfl⟩
      cases left with
      | cons _ _ => simp [VRels] at hl
      | nil =>
      rw [List.append_nil] at hQ
      show wpAny _ _ (retInt (Builtin.Tuple.tupleHashOf b.toList)) _ _ _
      rw [hb]
      refine wpAny_ret_mkInt ?_
      show wpAny _ _ (if (decide (-(2 : Int) ^ 63 ≤ Builtin.Tuple.tupleHashOf (hashVs W.w done)) && decide (Builtin.Tuple.tupleHashOf (hashVs W.w done) < 2 ^ 63)) = true then _ else _) Q E _
      simp only [hashV, draws] at hQ
      unfold reduceHash at hQ
      by_cases hr : (decide (-(2 : Int) ^ 63 ≤ Builtin.Tuple.tupleHashOf (hashVs W.w done)) && decide (Builtin.Tuple.tupleHashOf (hashVs W.w done) < 2 ^ 63)) = true
      · rw [if_pos hr]
        rw [if_pos hr] at hQ
        exact wpAny_pure (by simpa [Nat.add_assoc] using hQ)
      · rw [if_neg hr]
        rw [if_neg hr] at hQ
        exact wpAny_bind (wpAny_rule (wpAny_pure (by simpa [Nat.add_assoc] using hQ)))
  | _, .none, _, k, _, _, _, _, _, _, _, _ => by simp [isKey] at k
  | _, .bool _, _, k, _, _, _, _, _, _, _, _ => by simp [isKey] at k
  | _, .con _, _, k, _, _, _, _, _, _, _, _ => by simp [isKey] at k
  | _, .flist _, _, k, _, _, _, _, _, _, _, _ => by simp [isKey] at k
  | _, .fdict _ _, _, k, _, _, _, _, _, _, _, _ => by simp [isKey] at k
theorem wpAny_eqIsQuiet_V {W : Wd} : ∀ (n : Nat) (v : V), vdep v ≤ n → isKey v = true → ∀ (A : Around) (E : Value → Shared → Prop) (s : Shared) (x : Value) (Q : Bool → Shared → Prop),
    VRel W (atH s.heap) v x → Q true s → wpAny W.M A (eqIsQuiet n x) Q E s
  | n, .int i, _, _, A, E, s, x, Q, hv, hQ => by obtain ⟨t, rfl⟩ := hv; rw [eqIsQuiet_byValue _ rfl]; exact wpAny_pure hQ
  | n, .str y, _, _, A, E, s, x, Q, hv, hQ => by obtain ⟨t, rfl⟩ := hv; rw [eqIsQuiet_byValue _ rfl]; exact wpAny_pure hQ
  | 0, .tup vs, hn, _, _, _, _, _, _, _, _ => by simp [vdep] at hn
  | n + 1, .tup vs, hn, k, A, E, s, x, Q, hv, hQ => by
    obtain ⟨a, o, xs, m, rfl, h1, hto, h2⟩ := hv
    simp only [isKey] at k
    simp only [vdep] at hn
    have hT : s.TypeIs (.ref a) "tuple" := ⟨_, h1, hto.1⟩
    unfold eqIsQuiet
    refine wpAny_bind (wpAny_specialOf hT F.slot_tuple_eq.lookup ?_)
    show wpAny _ _ (isInstance (.ref a) (.type "tuple") >>= _) _ _ s
    refine wpAny_bind (wpAny_isInstance hT isSubtype_tuple_tuple ?_)
    simp only [Bool.not_true, Bool.false_eq_true, if_false]
    refine wpAny_bind (wpAny_seqItems h1 hto.2.1 ?_)
    refine wpAny_bind ?_
    show wpAny _ _ (forIn xs.toArray _ _) _ _ s
    rw [← Array.forIn_toList]
    refine wpAny_forIn_list _ (fun rest r s' => r.1 = none ∧ s' = s ∧ ∃ left, isKeys left = true ∧ vdeps left ≤ n ∧ VRels W (atH s.heap) left rest) _ ?_ ?_ _ _ ⟨rfl, rfl, vs, k, by (first | lia | omega), by simpa using h2⟩
    · rintro v rest r s' ⟨hr, rfl, left, hk, hd, hl⟩
      cases left with
      | nil => simp [VRels] at hl
      | cons u left =>
        obtain ⟨y, ys, e, h3, h4⟩ := hl
        cases e
        simp only [isKeys, Bool.and_eq_true] at hk
        simp only [vdeps] at hd
        refine wpAny_bind (wpAny_eqIsQuiet_V n u (by (first | lia | omega)) hk.1 A E _ _ _ h3 ?_)
        simp only [Bool.not_true, Bool.false_eq_true, if_false]
        exact wpAny_pure ⟨rfl, rfl, left, hk.2, by (first | lia | omega), h4⟩
    · rintro ⟨r1, r2⟩ s' ⟨hr, rfl, _⟩
      simp only at hr
      subst hr
      exact wpAny_pure hQ
  | _, .none, _, k, _, _, _, _, _, _, _ => by simp [isKey] at k
  | _, .bool _, _, k, _, _, _, _, _, _, _ => by simp [isKey] at k
  | _, .con _, _, k, _, _, _, _, _, _, _ => by simp [isKey] at k
  | _, .flist _, _, k, _, _, _, _, _, _, _ => by simp [isKey] at k
  | _, .fdict _ _, _, k, _, _, _, _, _, _, _ => by simp [isKey] at k
open Classical in
noncomputable def vKind (W : Wd) : HeapKind W.prog W.w V where
  is := fun h k a => isKey k = true ∧ vdep k ≤ 8 ∧ VRel W (atH h) k (.ref a)
  hash := hashV W.w
  draws := draws
  room := fun A => A.units + 16 < cLine
  inj := fun hx hy => VRel.key_inj _ _ _ hx.1 hy.1 hx.2.2 hy.2.2
  keeps := fun x ho hd hs => ⟨x.1, x.2.1, VRel.key_keeps ho hd hs _ _ x.1 x.2.2⟩
  pyHash := fun hu hk h => wpAny_pyHash_V 8 _ hk.2.1 hk.1 _ _ _ _ _ (by have := hk.2.1; (first | lia | omega)) hk.2.2 h
  eqBool := fun {A E s x y a b Q} hu hx hy h => by
    have e := eqAt_V (A := A) (s := s) (Z := atH s.heap) (fun _ _ h => h) hx.2.2 hy.2.2 (eqOk_of_key _ hx.1) (eqOk_of_key _ hy.1) (by have := hx.2.1; (first | lia | omega))
    refine e _ _ _ _ ?_
    have hiff := veq_iff x y (eqOk_of_key _ hx.1) (eqOk_of_key _ hy.1)
    have : veq x y = decide (x = y) := by
      by_cases hxy : x = y
      · rw [decide_eq_true hxy]; exact hiff.mpr hxy
      · rw [decide_eq_false hxy]; cases hv : veq x y with
        | false => rfl
        | true => exact absurd (hiff.mp hv) hxy
    rw [this]; exact h
  quiet := fun hk h => wpAny_eqIsQuiet_V 8 _ hk.2.1 hk.1 _ _ _ _ _ hk.2.2 h
/- part A3 -/
/- ## the state -/
open Classical in
noncomputable def MRel (W : Wd) (Z : Addr → Obj → Prop) (h : Heap) (a : Addr) : MO → Prop
  | .list vs => ∃ xs n, h.get? a = some (lstO xs n) ∧ VRels W Z vs xs
  | .idict kvs => ∃ o xs, h.get? a = some o ∧ VRels W Z (kvs.map (·.2)) xs ∧ o.IsDictOf (intKind W.prog W.w) ((kvs.map (·.1)).zip xs)
  | .sdict kvs => ∃ o xs, h.get? a = some o ∧ VRels W Z (kvs.map (·.2)) xs ∧ o.IsDictOf (strKind W.prog W.w) ((kvs.map (·.1)).zip xs)
  | .tdict kvs => ∃ (o : Obj) (es : Array DictEntry) (ep : Nat) (xs : List (V × Addr × Value)), h.get? a = some o ∧ o.ExactDict ∧ o.data = .dict es ep ∧ es.toList = xs.map (entryOfKey (vKind W)) ∧ (∀ x ∈ xs, isKey x.1 = true ∧ vdep x.1 ≤ 8 ∧ VRel W Z x.1 (.ref x.2.1)) ∧
      (xs.map (·.1)).Nodup ∧ kvs.map (·.1) = xs.map (·.1) ∧ VRels W Z (kvs.map (·.2)) (xs.map (·.2.2))
  | .inst C dx attrs => ∃ es n, h.get? a = some (instO C dx) ∧ h.get? dx = some (dictOf es n) ∧ AttrsRel W Z attrs es
  | .raw R => ∃ o, h.get? a = some o ∧ R o
theorem MRel.get {W Z h a mo} (m : MRel W Z h a mo) : ∀ b ∈ fp (a, mo), ∃ o, h.get? b = some o := by
  intro b hb
  cases mo <;> simp only [fp, List.mem_cons, List.not_mem_nil, or_false] at hb <;> simp only [MRel] at m
  · subst hb; obtain ⟨xs, n, h1, _⟩ := m; exact ⟨_, h1⟩
  · subst hb; obtain ⟨o, xs, h1, _⟩ := m; exact ⟨_, h1⟩
  · subst hb; obtain ⟨o, xs, h1, _⟩ := m; exact ⟨_, h1⟩
  · subst hb; obtain ⟨o, es, ep, xs, h1, _⟩ := m; exact ⟨_, h1⟩
  · obtain ⟨es, n, h1, h2, _⟩ := m
    rcases hb with rfl | rfl
    · exact ⟨_, h1⟩
    · exact ⟨_, h2⟩
  · subst hb; obtain ⟨o, h1, _⟩ := m; exact ⟨_, h1⟩
theorem MRel.mono {W Z Z' h h' a mo} (m : MRel W Z h a mo) (hz : ∀ b o, Z b o → Z' b o) (hk : ∀ b ∈ fp (a, mo), ∀ o, h.get? b = some o → h'.get? b = some o) : MRel W Z' h' a mo := by
  cases mo <;> simp only [fp, List.mem_cons, List.not_mem_nil, or_false, forall_eq, forall_eq_or_imp] at hk <;> simp only [MRel] at m ⊢
  · obtain ⟨xs, n, h1, h2⟩ := m; exact ⟨xs, n, hk _ h1, VRels.mono hz _ _ h2⟩
  · obtain ⟨o, xs, h1, h2, h3⟩ := m; exact ⟨o, xs, hk _ h1, VRels.mono hz _ _ h2, h3⟩
  · obtain ⟨o, xs, h1, h2, h3⟩ := m; exact ⟨o, xs, hk _ h1, VRels.mono hz _ _ h2, h3⟩
  · obtain ⟨o, es, ep, xs, h1, h2, h3, h4, h5, h6, h7, h8⟩ := m
    exact ⟨o, es, ep, xs, hk _ h1, h2, h3, h4, fun x hx => ⟨(h5 x hx).1, (h5 x hx).2.1, VRel.mono hz _ _ (h5 x hx).2.2⟩, h6, h7, VRels.mono hz _ _ h8⟩
  · obtain ⟨es, n, h1, h2, h3⟩ := m; exact ⟨es, n, hk.1 _ h1, hk.2 _ h2, AttrsRel.mono hz _ _ h3⟩
  · obtain ⟨o, h1, h2⟩ := m; exact ⟨o, hk _ h1, h2⟩
noncomputable def Fz (X : Addr → Prop) (σ : St) (h : Heap) : Addr → Obj → Prop := fun a o => h.get? a = some o ∧ ¬ X a ∧ a ∉ own σ
structure Bears (W : Wd) (X : Addr → Prop) (σ : St) (h : Heap) : Prop where
  objs : ∀ p ∈ σ, MRel W (Fz X σ h) h p.1 p.2
  nodup : (own σ).Nodup
  hid : ∀ a ∈ own σ, ¬ X a
  xex : ∀ a, X a → ∃ o, h.get? a = some o
  base : ∀ b o, W.h0.get? b = some o → h.get? b = some o ∧ b ∉ own σ ∧ ¬ X b
noncomputable def Ext (F : Addr → Prop) (σ : St) (h : Heap) (σ' : St) (h' : Heap) : Prop :=
  ∀ a o, h.get? a = some o → ¬ F a → a ∉ own σ → h'.get? a = some o ∧ a ∉ own σ'
noncomputable abbrev noF : Addr → Prop := fun _ => False
theorem Ext.refl {F σ h} : Ext F σ h σ h := fun _ _ h1 _ h2 => ⟨h1, h2⟩
theorem Ext.trans {F σ h σ' h' σ'' h''} (x : Ext F σ h σ' h') (y : Ext F σ' h' σ'' h'') : Ext F σ h σ'' h'' :=
  fun a o e f n => let z := x a o e f n; y a o z.1 f z.2
theorem Ext.weak {F σ h σ' h'} (x : Ext noF σ h σ' h') : Ext F σ h σ' h' := fun a o e _ n => x a o e id n
theorem Ext.sub {F F' : Addr → Prop} {σ h σ' h'} (x : Ext F σ h σ' h') (hs : ∀ a, F a → F' a) : Ext F' σ h σ' h' := fun a o e f n => x a o e (fun q => f (hs a q)) n
theorem Ext.fz {F X : Addr → Prop} {σ h σ' h'} (x : Ext F σ h σ' h') (hs : ∀ a, F a → X a) : ∀ a o, Fz X σ h a o → Fz X σ' h' a o :=
  fun a o e => let z := x a o e.1 (fun q => e.2.1 (hs a q)) e.2.2; ⟨z.1, e.2.1, z.2⟩
theorem Ext.fz0 {X : Addr → Prop} {σ h σ' h'} (x : Ext noF σ h σ' h') : ∀ a o, Fz X σ h a o → Fz X σ' h' a o := x.fz (fun _ q => q.elim)
theorem Bears.ex {W X σ h} (B : Bears W X σ h) {a : Addr} (ha : a ∈ own σ) : ∃ o, h.get? a = some o := by
  obtain ⟨p, hp, hb⟩ := List.mem_flatMap.mp ha
  exact (B.objs p hp).get a (by obtain ⟨x, m⟩ := p; exact hb)
/- the one step lemma: old resources turn into new ones; the hidden addresses of F may turn too -/
theorem Bears.stepF {W} {X F : Addr → Prop} {σ h h'} {old new τ : St} (B : Bears W X σ h) (hp : σ.Perm (old ++ τ)) (hF : ∀ a, F a → X a) (hFe : ∀ a, F a → ∃ o, h'.get? a = some o)
    (hk : ∀ b o, h.get? b = some o → ¬ F b → b ∉ own old → h'.get? b = some o) (hnew : ∀ a ∈ own new, a ∈ own old ∨ h.get? a = none) (hnd : (own new).Nodup) :
    Ext F σ h (new ++ τ) h' ∧ ((∀ p ∈ new, MRel W (Fz X (new ++ τ) h') h' p.1 p.2) → Bears W X (new ++ τ) h') := by
  have hpo := own_perm hp
  have hmem : ∀ a, a ∈ own σ ↔ a ∈ own old ∨ a ∈ own τ := fun a => by rw [hpo.mem_iff]; simp
  have hndσ : (own old ++ own τ).Nodup := by have := hpo.nodup_iff.mp B.nodup; simpa using this
  have hdis : ∀ a ∈ own old, a ∉ own τ := fun a h1 h2 => (List.nodup_append.mp hndσ).2.2 a h1 a h2 rfl
  have hE : Ext F σ h (new ++ τ) h' := by
    refine fun a o e f n => ?_
    rw [hmem] at n
    have n1 : a ∉ own old := fun q => n (.inl q)
    refine ⟨hk a o e f n1, ?_⟩
    rw [own_append, List.mem_append]
    rintro (q | q)
    · rcases hnew a q with r | r
      · exact n1 r
      · rw [e] at r; cases r
    · exact n (.inr q)
  have hown : ∀ a ∈ own τ, ¬ F a := fun a ha f => B.hid a ((hmem a).mpr (.inr ha)) (hF a f)
  refine ⟨hE, fun hm => ⟨fun p hpm => ?_, ?_, fun a ha => ?_, fun a ha => ?_, fun b o e => ?_⟩⟩
  · rcases List.mem_append.mp hpm with q | q
    · exact hm p q
    · have hpσ : p ∈ σ := hp.mem_iff.mpr (List.mem_append_right _ q)
      have hfp : ∀ b ∈ fp (p.1, p.2), b ∈ own τ := fun b hb => List.mem_flatMap.mpr ⟨p, q, by obtain ⟨x, m⟩ := p; exact hb⟩
      exact (B.objs p hpσ).mono (hE.fz hF) fun b hb o e => hk b o e (hown b (hfp b hb)) fun r => hdis b r (hfp b hb)
  · rw [own_append, List.nodup_append]
    refine ⟨hnd, (List.nodup_append.mp hndσ).2.1, ?_⟩
    rintro a ha b hb rfl
    rcases hnew a ha with r | r
    · exact hdis a r hb
    · obtain ⟨o, e⟩ := B.ex ((hmem a).mpr (.inr hb))
      rw [e] at r; cases r
  · rw [own_append, List.mem_append] at ha
    rcases ha with q | q
    · rcases hnew a q with r | r
      · exact B.hid a ((hmem a).mpr (.inl r))
      · intro hx
        obtain ⟨o, e⟩ := B.xex a hx
        rw [e] at r; cases r
    · exact B.hid a ((hmem a).mpr (.inr q))
  · by_cases f : F a
    · exact hFe a f
    · obtain ⟨o, e⟩ := B.xex a ha
      exact ⟨o, hk a o e f fun q => B.hid a ((hmem a).mpr (.inl q)) ha⟩
  · obtain ⟨e1, e2, e3⟩ := B.base b o e
    exact ⟨(hE b o e1 (fun f => e3 (hF b f)) e2).1, (hE b o e1 (fun f => e3 (hF b f)) e2).2, e3⟩
theorem Bears.step {W} {X : Addr → Prop} {σ h h'} {old new τ : St} (B : Bears W X σ h) (hp : σ.Perm (old ++ τ))
    (hk : ∀ b o, h.get? b = some o → b ∉ own old → h'.get? b = some o) (hnew : ∀ a ∈ own new, a ∈ own old ∨ h.get? a = none) (hnd : (own new).Nodup) :
    Ext noF σ h (new ++ τ) h' ∧ ((∀ p ∈ new, MRel W (Fz X (new ++ τ) h') h' p.1 p.2) → Bears W X (new ++ τ) h') :=
  Bears.stepF B hp (fun _ q => q.elim) (fun _ q => q.elim) (fun b o e _ n => hk b o e n) hnew hnd
/- nothing of the state's changes -/
theorem Bears.keep {W X σ h h'} (B : Bears W X σ h) (hk : ∀ b o, h.get? b = some o → h'.get? b = some o) : Ext noF σ h σ h' ∧ Bears W X σ h' := by
  obtain ⟨e, b⟩ := Bears.step (old := []) (new := []) (τ := σ) B (List.Perm.refl _) (fun b o x _ => hk b o x) (by simp) (by simp)
  exact ⟨e, b (by simp)⟩
theorem Bears.keepF {W} {X F : Addr → Prop} {σ h h'} (B : Bears W X σ h) (hF : ∀ a, F a → X a) (hFe : ∀ a, F a → ∃ o, h'.get? a = some o) (hk : ∀ b o, h.get? b = some o → ¬ F b → h'.get? b = some o) : Ext F σ h σ h' ∧ Bears W X σ h' := by
  obtain ⟨e, b⟩ := Bears.stepF (old := []) (new := []) (τ := σ) B (List.Perm.refl _) hF hFe (fun b o x f _ => hk b o x f) (by simp) (by simp)
  exact ⟨e, b (by simp)⟩
theorem Bears.perm {W X σ σ' h} (B : Bears W X σ h) (hp : σ.Perm σ') : Ext noF σ h σ' h ∧ Bears W X σ' h := by
  obtain ⟨e, b⟩ := Bears.step (old := []) (new := []) (τ := σ') B hp (fun b o x _ => x) (by simp) (by simp)
  exact ⟨e, b (by simp)⟩
/- hide more addresses: they are none of the state's, none of the base's; values that stand on none of them stay -/
theorem Bears.hide {W} {X X' : Addr → Prop} {σ h} (B : Bears W X σ h) (hx : ∀ a, X a → X' a) (hex : ∀ a, X' a → ∃ o, h.get? a = some o) (hown : ∀ a ∈ own σ, ¬ X' a) (hbase : ∀ b o, W.h0.get? b = some o → ¬ X' b)
    (hz : ∀ p ∈ σ, MRel W (Fz X' σ h) h p.1 p.2) : Bears W X' σ h := ⟨hz, B.nodup, hown, hex, fun b o e => ⟨(B.base b o e).1, (B.base b o e).2.1, hbase b o e⟩⟩
theorem Bears.show {W} {X X' : Addr → Prop} {σ h} (B : Bears W X' σ h) (hx : ∀ a, X a → X' a) : Bears W X σ h :=
  ⟨fun p hp => (B.objs p hp).mono (fun a o e => ⟨e.1, fun q => e.2.1 (hx a q), e.2.2⟩) (fun _ _ _ e => e), B.nodup, fun a ha q => B.hid a ha (hx a q), fun a ha => B.xex a (hx a ha), fun b o e => ⟨(B.base b o e).1, (B.base b o e).2.1, fun q => (B.base b o e).2.2 (hx b q)⟩⟩
inductive Pull (p : Addr × MO) : St → St → Prop
  | head {r} : Pull p (p :: r) r
  | tail {q r r'} : Pull p r r' → Pull p (q :: r) (q :: r')
theorem Pull.perm {p σ τ} (h : Pull p σ τ) : σ.Perm (p :: τ) := by
  induction h with
  | head => exact List.Perm.refl _
  | tail _ ih => exact (List.Perm.cons _ ih).trans (List.Perm.swap _ _ _)
theorem Pull.mem {p σ τ} (h : Pull p σ τ) : p ∈ σ := h.perm.mem_iff.mpr (.head _)
/- ## frames -/
structure Fram (W : Wd) (X : Addr → Prop) (sc : Scope) (ρ : List (Option V)) (env : Env) (Z : Addr → Obj → Prop) (h : Heap) : Prop where
  sc_eq : env.scope = sc
  kind : sc.kind = .function
  gl : env.globals = mainGlobals
  bi : env.builtins = builtinsNs
  nodup : (sc.names.map (·.1)).Nodup
  len : ρ.length = sc.names.length
  xl : X env.locals
  loc : ∃ m, h.Ns env.locals m ∧ ∀ (i : Nat) (x : Str) (v : V), sc.names[i]? = some (x, NameKind.local) → ρ[i]? = some (some v) → ∃ y, m x = some y ∧ VRel W Z v y
  cel : ∀ (i : Nat) (x : Str), sc.names[i]? = some (x, NameKind.cell) → ∃ c y, env.cells.lookup x = some c ∧ X c ∧ c ≠ env.locals ∧ h.IsCell c y ∧ ∀ v, ρ[i]? = some (some v) → ∃ z, y = some z ∧ VRel W Z v z
  apart : ∀ (i j : Nat) (x y : Str) (c : Addr), sc.names[i]? = some (x, NameKind.cell) → sc.names[j]? = some (y, NameKind.cell) → env.cells.lookup x = some c → env.cells.lookup y = some c → x = y
/- the addresses that a frame's statements may write -/
noncomputable def frF (env : Env) (sc : Scope) : Addr → Prop := fun a => a = env.locals ∨ ∃ (i : Nat) (x : Str), sc.names[i]? = some (x, NameKind.cell) ∧ env.cells.lookup x = some a
theorem lookup_of_get {α β : Type} [BEq α] [LawfulBEq α] : ∀ {l : List (α × β)} {i : Nat} {x : α} {k : β}, (l.map (·.1)).Nodup → l[i]? = some (x, k) → l.lookup x = some k
  | [], _, _, _, _, h => by simp at h
  | (y, k') :: r, 0, x, k, _, h => by simp at h; obtain ⟨rfl, rfl⟩ := h; simp
  | (y, k') :: r, i + 1, x, k, hn, h => by
    simp at h
    rw [List.map_cons, List.nodup_cons] at hn
    have hne : (x == y) = false := by
      cases hb : x == y with
      | false => rfl
      | true =>
        have e : x = y := eq_of_beq hb
        exact absurd (List.mem_map.mpr ⟨(x, k), List.mem_of_getElem? h, e⟩) hn.1
    rw [List.lookup_cons, hne]
    exact lookup_of_get hn.2 h
theorem idx_unique {α β : Type} : ∀ {l : List (α × β)} {i j : Nat} {x : α} {k k' : β}, (l.map (·.1)).Nodup → l[i]? = some (x, k) → l[j]? = some (x, k') → i = j := by
  intro l i j x k k' hn hi hj
  have hi' : (l.map (·.1))[i]? = some x := by rw [List.getElem?_map, hi]; rfl
  have hj' : (l.map (·.1))[j]? = some x := by rw [List.getElem?_map, hj]; rfl
  obtain ⟨hlt, _⟩ := List.getElem?_eq_some_iff.mp hi'
  exact (List.getElem?_inj hlt hn).mp (hi'.trans hj'.symm)
theorem Fram.kindOf {W X sc ρ env Z h} (F : Fram W X sc ρ env Z h) {i : Nat} {x : Str} {k : NameKind} (hi : sc.names[i]? = some (x, k)) : env.kindOf x = some k := by
  unfold Env.kindOf; rw [F.sc_eq]; exact lookup_of_get F.nodup hi
/- a frame under an extension that leaves its own addresses -/
theorem Fram.mono {W X sc ρ env Z Z' h h'} (F : Fram W X sc ρ env Z h) (hz : ∀ a o, Z a o → Z' a o) (hk : ∀ a o, X a → h.get? a = some o → h'.get? a = some o) : Fram W X sc ρ env Z' h' where
  sc_eq := F.sc_eq
  kind := F.kind
  gl := F.gl
  bi := F.bi
  nodup := F.nodup
  len := F.len
  xl := F.xl
  loc := by
    obtain ⟨m, h1, h2⟩ := F.loc
    refine ⟨m, h1.at' fun o e => hk _ o F.xl e, fun i x v a b => ?_⟩
    obtain ⟨y, h3, h4⟩ := h2 i x v a b
    exact ⟨y, h3, VRel.mono hz _ _ h4⟩
  cel := fun i x hx => by
    obtain ⟨c, y, h1, h2, h3, h4, h5⟩ := F.cel i x hx
    obtain ⟨o, ho, hd⟩ := h4
    refine ⟨c, y, h1, h2, h3, ⟨o, hk _ _ h2 ho, hd⟩, fun v hv => ?_⟩
    obtain ⟨z, h6, h7⟩ := h5 v hv
    exact ⟨z, h6, VRel.mono hz _ _ h7⟩
  apart := F.apart
theorem Fram.hide {W X X' sc ρ env Z h} (F : Fram W X sc ρ env Z h) (hx : ∀ a, X a → X' a) : Fram W X' sc ρ env Z h where
  sc_eq := F.sc_eq
  kind := F.kind
  gl := F.gl
  bi := F.bi
  nodup := F.nodup
  len := F.len
  xl := hx _ F.xl
  loc := F.loc
  cel := fun i x hi => by
    obtain ⟨c, y, h1, h2, r⟩ := F.cel i x hi
    exact ⟨c, y, h1, hx _ h2, r⟩
  apart := F.apart
/- ## abstract steps -/
noncomputable def Room (n : Nat) (A : Around) : Prop := A.handled = none ∧ A.depth + 3 * n + 3 < recursionLimit ∧ A.units + 20 * n + 100 < cLine
noncomputable def Nx (W : Wd) (X F : Addr → Prop) (σ : St) (s : Shared) (σ' : St) (s' : Shared) : Prop :=
  (∃ h' tk, s' = { s with heap := h', toks := tk }) ∧ Bears W X σ' s'.heap ∧ Ext F σ s.heap σ' s'.heap
theorem sh_trans {s s1 s2 : Shared} (h : ∃ h' tk, s1 = { s with heap := h', toks := tk }) (k : ∃ h' tk, s2 = { s1 with heap := h', toks := tk }) : ∃ h' tk, s2 = { s with heap := h', toks := tk } := by
  obtain ⟨_, _, rfl⟩ := h; obtain ⟨c, d, rfl⟩ := k; exact ⟨c, d, rfl⟩
theorem sh_heap {s s1 : Shared} {h2 : Heap} (h : ∃ h' tk, s1 = { s with heap := h', toks := tk }) : ∃ h' tk, { s1 with heap := h2 } = { s with heap := h', toks := tk } := by
  obtain ⟨_, t, rfl⟩ := h; exact ⟨h2, t, rfl⟩
theorem sh_toks {s s1 : Shared} {h2 : Heap} {tk : Nat} (h : ∃ h' tk, s1 = { s with heap := h', toks := tk }) : ∃ h' tk', { s1 with heap := h2, toks := tk } = { s with heap := h', toks := tk' } := by
  obtain ⟨_, t, rfl⟩ := h; exact ⟨h2, tk, rfl⟩
theorem Nx.refl {W X F σ s} (B : Bears W X σ s.heap) : Nx W X F σ s σ s := ⟨⟨s.heap, s.toks, rfl⟩, B, Ext.refl⟩
theorem Nx.trans {W X F σ s σ' s' σ'' s''} (x : Nx W X F σ s σ' s') (y : Nx W X F σ' s' σ'' s'') : Nx W X F σ s σ'' s'' := by
  exact ⟨sh_trans x.1 y.1, y.2.1, x.2.2.trans y.2.2⟩
theorem Nx.weak {W X F σ s σ' s'} (x : Nx W X noF σ s σ' s') : Nx W X F σ s σ' s' := ⟨x.1, x.2.1, x.2.2.weak⟩
theorem Nx.mk' {W X F σ σ' h'} {s : Shared} {tk : Nat} (B : Bears W X σ' h') (e : Ext F σ s.heap σ' h') : Nx W X F σ s σ' { s with heap := h', toks := tk } := ⟨⟨h', tk, rfl⟩, B, e⟩
theorem Nx.fram {W X σ s σ' s' sc ρ env} (x : Nx W X noF σ s σ' s') (B : Bears W X σ s.heap) (F : Fram W X sc ρ env (Fz X σ s.heap) s.heap) : Fram W X sc ρ env (Fz X σ' s'.heap) s'.heap :=
  F.mono x.2.2.fz0 fun a o hx e => (x.2.2 a o e id fun q => B.hid a q hx).1
/- a tree's abstract step -/
noncomputable def aM {α β : Type} (W : Wd) (X F : Addr → Prop) (A : Around) (σ : St) (s : Shared) (t : Sem α) (R : (Addr → Obj → Prop) → β → α → Prop) (Q : β → St → Prop) : Prop :=
  ∀ (E : Value → Shared → Prop) (K : α → Shared → Prop), (∀ b a σ' s', Nx W X F σ s σ' s' → R (Fz X σ' s'.heap) b a → Q b σ' → K a s') → wpAny W.M A t K E s
theorem aM.mono {α β W X F A σ s} {t : Sem α} {R : (Addr → Obj → Prop) → β → α → Prop} {Q Q' : β → St → Prop} (h : aM W X F A σ s t R Q) (hq : ∀ b σ', Q b σ' → Q' b σ') : aM W X F A σ s t R Q' :=
  fun E K k => h E K fun b a σ' s' n r q => k b a σ' s' n r (hq _ _ q)
noncomputable def Sames {β : Type} (_ : Addr → Obj → Prop) (b a : β) : Prop := a = b
/- part A4 -/
noncomputable abbrev Ro := List (Option V)
/- ## what a value must be for a rule: each an inductive with one maker (its use is one flat term) -/
inductive IsB (P : Bool → Prop) (v : V) : Prop
  | mk (b : Bool) (e : v = .bool b) (h : P b) : IsB P v
inductive IsI (P : Int → Prop) (v : V) : Prop
  | mk (i : Int) (e : v = .int i) (h : P i) : IsI P v
inductive IsF (P : List V → Prop) (v : V) : Prop
  | mk (vs : List V) (e : v = .flist vs) (h : P vs) : IsF P v
inductive IsU (P : List V → Prop) (v : V) : Prop
  | mk (vs : List V) (e : v = .tup vs) (h : P vs) : IsU P v
inductive Is2 (P : V → V → Prop) (v : V) : Prop
  | mk (a b : V) (e : v = .tup [a, b]) (h : P a b) : Is2 P v
inductive Is3 (P : V → V → V → Prop) (v : V) : Prop
  | mk (a b c : V) (e : v = .tup [a, b, c]) (h : P a b c) : Is3 P v
noncomputable def slotIn (x : Str) : List (Str × NameKind) → Nat → Option (Nat × NameKind)
  | [], _ => none
  | (y, k) :: r, i => if x = y then some (i, k) else slotIn x r (i + 1)
noncomputable def slot (sc : Scope) (x : Str) : Option (Nat × NameKind) := slotIn x sc.names 0
theorem slotIn_get {x : Str} : ∀ {l : List (Str × NameKind)} {j i : Nat} {k : NameKind}, slotIn x l j = some (i, k) → j ≤ i ∧ l[i - j]? = some (x, k)
  | [], _, _, _, h => by simp [slotIn] at h
  | (y, k') :: r, j, i, k, h => by
    unfold slotIn at h
    split at h
    · rename_i e
      cases h; subst e
      exact ⟨Nat.le_refl _, by simp⟩
    · obtain ⟨h1, h2⟩ := slotIn_get h
      refine ⟨by (first | lia | omega), ?_⟩
      have : i - j = (i - (j + 1)) + 1 := by (first | lia | omega)
      rw [this]; simpa using h2
theorem slot_get {sc : Scope} {x : Str} {i : Nat} {k : NameKind} (h : slot sc x = some (i, k)) : sc.names[i]? = some (x, k) := by
  have := (slotIn_get h).2; simpa using this
/- ## abstract wp of expressions -/
section
variable (W : Wd) (n : Nat) (sc : Scope) (ρ : List (Option V)) (σ : St)
noncomputable def aX {α β : Type} (t : Env → Sem α) (R : (Addr → Obj → Prop) → β → α → Prop) (Q : β → St → Prop) : Prop :=
  ∀ (X : Addr → Prop) (env : Env) (A : Around) (s : Shared), Room n A → Bears W X σ s.heap → Fram W X sc ρ env (Fz X σ s.heap) s.heap → aM W X noF A σ s (t env) R Q
noncomputable def aE (e : Expr) (Q : V → St → Prop) : Prop := aX W n sc ρ σ (fun env => eval e env) (VRel W) Q
noncomputable def aEs (es : List Expr) (Q : List V → St → Prop) : Prop := ∀ pos, aX W n sc ρ σ (fun env => spliced (backTo pos (starEach es env))) (VRels W) Q
noncomputable def aT (e : Expr) (Q : Bool → St → Prop) : Prop := aX W n sc ρ σ (fun env => isTrue e env (eval e env)) Sames Q
noncomputable def aTs (op : BoolOp) (es : List Expr) (Q : Bool → St → Prop) : Prop := aX W n sc ρ σ (fun env => allTrue op es env) Sames Q
end
/- an operation over values, whatever the frame -/
noncomputable def aO {α β : Type} (W : Wd) (n : Nat) (σ : St) (vs : List V) (t : List Value → Sem α) (R : (Addr → Obj → Prop) → β → α → Prop) (Q : β → St → Prop) : Prop :=
  ∀ (X : Addr → Prop) (A : Around) (s : Shared) (xs : List Value), Room n A → Bears W X σ s.heap → VRels W (Fz X σ s.heap) vs xs → aM W X noF A σ s (t xs) R Q
noncomputable def op2 (f : Value → Value → Sem Value) : List Value → Sem Value
  | [a, b] => f a b
  | _ => unsupported "op2"
noncomputable def op1 {α : Type} (f : Value → Sem α) : List Value → Sem α
  | [a] => f a
  | _ => unsupported "op1"
noncomputable def op3 {α : Type} (f : Value → Value → Value → Sem α) : List Value → Sem α
  | [a, b, c] => f a b c
  | _ => unsupported "op3"
section
variable {W : Wd} {n : Nat} {sc : Scope} {ρ : List (Option V)} {σ : St}
theorem aX.mono {α β : Type} {t : Env → Sem α} {R : (Addr → Obj → Prop) → β → α → Prop} {Q Q' : β → St → Prop} (h : aX W n sc ρ σ t R Q) (hq : ∀ b σ', Q b σ' → Q' b σ') : aX W n sc ρ σ t R Q' :=
  fun X env A s r B F => (h X env A s r B F).mono hq
theorem aE.mono {e : Expr} {Q Q' : V → St → Prop} (h : aE W n sc ρ σ e Q) (hq : ∀ b σ', Q b σ' → Q' b σ') : aE W n sc ρ σ e Q' := aX.mono h hq
theorem aT.mono {e : Expr} {Q Q' : Bool → St → Prop} (h : aT W n sc ρ σ e Q) (hq : ∀ b σ', Q b σ' → Q' b σ') : aT W n sc ρ σ e Q' := aX.mono h hq
theorem aE_int {i : Int} {k : Nat} {pos : Pos} {Q : V → St → Prop} (h : Q (.int i) σ) : aE W n sc ρ σ (.Constant (.int i) k pos) Q :=
  fun X env A s _ B F E K kk => wpAny_Constant_int (kk (.int i) _ _ _ (Nx.mk' (h' := s.heap) B Ext.refl) (by simp only [VRel]; exact ⟨_, rfl⟩) h)
theorem aE_str {x : Str} {k : Nat} {pos : Pos} {Q : V → St → Prop} (h : Q (.str x) σ) : aE W n sc ρ σ (.Constant (.str x) k pos) Q :=
  fun X env A s _ B F E K kk => wpAny_Constant_str (kk (.str x) _ _ _ (Nx.mk' (h' := s.heap) B Ext.refl) (by simp only [VRel]; exact ⟨_, rfl⟩) h)
theorem aE_bool {b : Bool} {k : Nat} {pos : Pos} {Q : V → St → Prop} (h : Q (.bool b) σ) : aE W n sc ρ σ (.Constant (.bool b) k pos) Q :=
  fun X env A s _ B F E K kk => wpAny_Constant_bool (kk (.bool b) _ _ _ (Nx.refl B) (by simp only [VRel]) h)
theorem aE_none {k : Nat} {pos : Pos} {Q : V → St → Prop} (h : Q .none σ) : aE W n sc ρ σ (.Constant .none k pos) Q :=
  fun X env A s _ B F E K kk => wpAny_Constant_none (kk .none _ _ _ (Nx.refl B) (by simp only [VRel]) h)
theorem aE_local {x : Str} {i : Nat} {pos : Pos} {v : V} {Q : V → St → Prop} (hs : autoParam (slot sc x = some (i, NameKind.local)) tRfl) (hv : autoParam (ρ[i]? = some (some v)) tRfl) (h : Q v σ)
    (hd : autoParam ((x == ("__debug__" : Str)) = false) tDec) : aE W n sc ρ σ (.Name x pos) Q := fun X env A s _ B F E K kk => by
  have hi := slot_get hs
  obtain ⟨m, hm, hl⟩ := F.loc
  obtain ⟨y, h1, h2⟩ := hl i x v hi hv
  exact wpAny_Name (wpAny_loadName_local (by rw [F.sc_eq]; exact F.kind) (F.kindOf hi) hm h1 (kk v y _ _ (Nx.refl B) h2 h)) hd
theorem aE_cell {x : Str} {i : Nat} {pos : Pos} {v : V} {Q : V → St → Prop} (hs : autoParam (slot sc x = some (i, NameKind.cell)) tRfl) (hv : autoParam (ρ[i]? = some (some v)) tRfl) (h : Q v σ)
    (hd : autoParam ((x == ("__debug__" : Str)) = false) tDec) : aE W n sc ρ σ (.Name x pos) Q := fun X env A s _ B F E K kk => by
  have hi := slot_get hs
  obtain ⟨c, y, h1, _, _, h4, h5⟩ := F.cel i x hi
  obtain ⟨z, rfl, h7⟩ := h5 v hv
  exact wpAny_Name (wpAny_loadName_cell (by rw [F.sc_eq]; exact F.kind) (F.kindOf hi) h1 h4 (kk v z _ _ (Nx.refl B) h7 h)) hd
noncomputable def GV (W : Wd) (x : Str) (v : V) : Prop := ∃ val, W.mg x = some val ∧ VRel W (atH W.h0) v val
theorem Bears.fz_base {X h} (B : Bears W X σ h) : ∀ a o, atH W.h0 a o → Fz X σ h a o := fun a o e => let z := B.base a o e; ⟨z.1, z.2.2, z.2.1⟩
theorem Bears.keeps {X h} (B : Bears W X σ h) : ∀ b o, W.h0.get? b = some o → h.get? b = some o := fun a o e => (B.base a o e).1
theorem aE_glob {x : Str} {i : Nat} {pos : Pos} {v : V} {Q : V → St → Prop} (hs : slot sc x = some (i, NameKind.globalImplicit)) (hg : GV W x v) (h : Q v σ)
    (hd : autoParam ((x == ("__debug__" : Str)) = false) tDec) : aE W n sc ρ σ (.Name x pos) Q := fun X env A s _ B F E K kk => by
  have hi := slot_get hs
  obtain ⟨val, h1, h2⟩ := hg
  refine Name_function_global (by rw [F.sc_eq]; exact F.kind) (F.kindOf hi) (loadGlobal_global (mg := W.mg) ?_ h1 (kk v val _ _ (Nx.refl B) (VRel.mono B.fz_base _ _ h2) h)) hd
  rw [F.gl]; exact W.g.keeps B.keeps
theorem aE_builtin {x : Str} {i : Nat} {pos : Pos} {v : Value} {Q : V → St → Prop} (hs : slot sc x = some (i, NameKind.globalImplicit)) (hg : W.mg x = none) (hb : bootBuiltins x = some v) (h : Q (.con v) σ)
    (hd : autoParam ((x == ("__debug__" : Str)) = false) tDec) (hn : autoParam (x ≠ "__name__") tDec) : aE W n sc ρ σ (.Name x pos) Q := fun X env A s _ B F E K kk => by
  have hi := slot_get hs
  refine Name_function_global (by rw [F.sc_eq]; exact F.kind) (F.kindOf hi) (loadGlobal_builtin (mg := W.mg) (mb := W.mb) ?_ hg ?_ ((W.builtins x hn).trans hb) (kk (.con v) v _ _ (Nx.refl B) (by simp only [VRel]) h)) hd
  · rw [F.gl]; exact W.g.keeps B.keeps
  · rw [F.bi]; exact W.b.keeps B.keeps
/- ### lists of expressions -/
/- ### what comes after a step, by name: no step's text grows with it -/
noncomputable abbrev KCons2 (Q : List V → St → Prop) (v : V) : List V → St → Prop := fun vs σ => Q (v :: vs) σ
noncomputable abbrev KCons (W : Wd) (n : Nat) (sc : Scope) (ρ : Ro) (es : List Expr) (Q : List V → St → Prop) : V → St → Prop := fun v σ => aEs W n sc ρ σ es (KCons2 Q v)
noncomputable abbrev KTup (Q : V → St → Prop) : List V → St → Prop := fun vs σ => vs.length ≤ 1000 ∧ Q (.tup vs) σ
noncomputable abbrev KListF (Q : V → St → Prop) : List V → St → Prop := fun vs σ => vs.length ≤ 1000 ∧ Q (.flist vs) σ
noncomputable abbrev KList (Q : V → St → Prop) : List V → St → Prop := fun vs σ => vs.length ≤ 1000 ∧ ∀ a, Q (.ref a) ((a, .list vs) :: σ)
noncomputable abbrev KBin2 (W : Wd) (n : Nat) (op : Operator) (v : V) (Q : V → St → Prop) : V → St → Prop := fun u σ => aO W n σ [v, u] (op2 (binaryOp op)) (VRel W) Q
noncomputable abbrev KBin (W : Wd) (n : Nat) (sc : Scope) (ρ : Ro) (r : Expr) (op : Operator) (Q : V → St → Prop) : V → St → Prop := fun v σ => aE W n sc ρ σ r (KBin2 W n op v Q)
noncomputable abbrev KUn (W : Wd) (n : Nat) (op : UnaryOp) (Q : V → St → Prop) : V → St → Prop := fun v σ => aO W n σ [v] (op1 (unaryOp op)) (VRel W) Q
noncomputable abbrev KB (Q : V → St → Prop) : Bool → St → Prop := fun b => Q (.bool b)
noncomputable abbrev KNot (Q : Bool → St → Prop) : Bool → St → Prop := fun b => Q (!b)
noncomputable abbrev KAnd (W : Wd) (n : Nat) (sc : Scope) (ρ : Ro) (es : List Expr) (Q : Bool → St → Prop) : Bool → St → Prop := fun b σ => if b = true then aTs W n sc ρ σ .And es Q else Q false σ
noncomputable abbrev KOr (W : Wd) (n : Nat) (sc : Scope) (ρ : Ro) (es : List Expr) (Q : Bool → St → Prop) : Bool → St → Prop := fun b σ => if b = true then Q true σ else aTs W n sc ρ σ .Or es Q
noncomputable abbrev KTru (W : Wd) (n : Nat) (Q : Bool → St → Prop) : V → St → Prop := fun v σ => aO W n σ [v] (op1 truthy) Sames Q
noncomputable abbrev KAndE (W : Wd) (n : Nat) (sc : Scope) (ρ : Ro) (f : Expr) (Q : V → St → Prop) : V → St → Prop := fun v σ => IsB (fun b => if b = true then aE W n sc ρ σ f Q else Q (.bool false) σ) v
noncomputable abbrev KOrE (W : Wd) (n : Nat) (sc : Scope) (ρ : Ro) (f : Expr) (Q : V → St → Prop) : V → St → Prop := fun v σ => IsB (fun b => if b = true then Q (.bool true) σ else aE W n sc ρ σ f Q) v
noncomputable abbrev KIfE (W : Wd) (n : Nat) (sc : Scope) (ρ : Ro) (b o : Expr) (Q : V → St → Prop) : Bool → St → Prop := fun c σ => if c = true then aE W n sc ρ σ b Q else aE W n sc ρ σ o Q
theorem aEs_nil {Q : List V → St → Prop} (h : Q [] σ) : aEs W n sc ρ σ [] Q := fun pos X env A s _ B F E K kk =>
  wpAny_items_nil (kk [] [] _ _ (Nx.refl B) VRels.nil h)
theorem aEs_cons {e : Expr} {es : List Expr} {Q : List V → St → Prop} (h : aE W n sc ρ σ e (KCons W n sc ρ es Q))
    (he : autoParam (∀ env, starEach (e :: es) env = (false, eval e env) :: starEach es env) tRfl1) : aEs W n sc ρ σ (e :: es) Q := fun pos X env A s r B F E K kk => by
  refine wpAny_items_cons (h X env A s r B F E _ fun v x σ' s' nx rv hq => ?_) (he env)
  refine hq pos X env A s' r nx.2.1 (nx.fram B F) E _ fun vs xs σ'' s'' nx' rvs hq' => ?_
  exact kk (v :: vs) (x :: xs) _ _ (nx.trans nx') (VRels.cons (VRel.mono nx'.2.2.fz0 _ _ rv) rvs) hq'
/- ### displays -/
theorem size_none (h : Heap) : h.get? h.objs.size = none := by
  cases e : h.get? h.objs.size with
  | none => rfl
  | some o => exact absurd (Heap.lt_size e) (Nat.lt_irrefl _)
theorem push_bears {X h} (B : Bears W X σ h) (o : Obj) : Ext noF σ h σ (h.push o) ∧ Bears W X σ (h.push o) :=
  B.keep fun b o' e => Heap.get?_push_of_some _ e
theorem fresh_own {X h a} (B : Bears W X σ h) (e : h.get? a = none) : a ∉ own σ := fun q => by obtain ⟨o, x⟩ := B.ex q; rw [x] at e; cases e
theorem fresh_hid {X h a} (B : Bears W X σ h) (e : h.get? a = none) : ¬ X a := fun q => by obtain ⟨o, x⟩ := B.xex a q; rw [x] at e; cases e
theorem push_fz {X h} (B : Bears W X σ h) {o : Obj} (ho : o.isFreed = false) : Fz X σ (h.push o) h.objs.size o :=
  ⟨Heap.get?_push_size _ ho, fresh_hid B (size_none h), fresh_own B (size_none h)⟩
theorem aE_tuple {es : List Expr} {k : Nat} {pos : Pos} {Q : V → St → Prop} (h : aEs W n sc ρ σ es (KTup Q)) : aE W n sc ρ σ (.Tuple es k pos) Q := by
  intro X env A s r B F E K kk
  show wpAny _ _ (eval (.Tuple es k pos) env) _ _ _
  refine wpAny_Tuple ?_
  refine h pos X env A s r B F E _ fun vs xs σ' s' nx rvs hq => ?_
  have hb := push_bears nx.2.1 (tupO xs 0)
  have hl : xs.length ≤ sizeLine := by rw [rvs.length]; exact Nat.le_trans hq.1 (by decide)
  refine ⟨hl, kk (.tup vs) _ _ _ (nx.trans (Nx.mk' (tk := s'.toks) hb.2 hb.1)) ?_ hq.2⟩
  simp only [VRel]; exact ⟨_, tupO xs 0, xs, 0, rfl, push_fz nx.2.1 rfl, ⟨rfl, rfl, rfl⟩, VRels.mono hb.1.fz0 _ _ rvs⟩
/- a list display that nothing will write -/
theorem aE_listF {es : List Expr} {pos : Pos} {Q : V → St → Prop} (h : aEs W n sc ρ σ es (KListF Q)) : aE W n sc ρ σ (.List es pos) Q := by
  intro X env A s r B F E K kk
  show wpAny _ _ (eval (.List es pos) env) _ _ _
  refine wpAny_List ?_
  refine h pos X env A s r B F E _ fun vs xs σ' s' nx rvs hq => ?_
  have hb := push_bears nx.2.1 (lstO xs 0)
  have hl : xs.length ≤ sizeLine := by rw [rvs.length]; exact Nat.le_trans hq.1 (by decide)
  refine ⟨hl, kk (.flist vs) _ _ _ (nx.trans (Nx.mk' (tk := s'.toks) hb.2 hb.1)) ?_ hq.2⟩
  simp only [VRel]; exact ⟨_, xs, 0, rfl, push_fz nx.2.1 rfl, VRels.mono hb.1.fz0 _ _ rvs⟩
/- a list display to be written -/
theorem aE_list {es : List Expr} {pos : Pos} {Q : V → St → Prop} (h : aEs W n sc ρ σ es (KList Q)) : aE W n sc ρ σ (.List es pos) Q := by
  intro X env A s r B F E K kk
  show wpAny _ _ (eval (.List es pos) env) _ _ _
  refine wpAny_List ?_
  refine h pos X env A s r B F E _ fun vs xs σ' s' nx rvs hq => ?_
  have hl : xs.length ≤ sizeLine := by rw [rvs.length]; exact Nat.le_trans hq.1 (by decide)
  obtain ⟨he, hb⟩ := Bears.step (h' := s'.heap.push (lstO xs 0)) (old := []) (new := [(s'.heap.objs.size, .list vs)]) (τ := σ') nx.2.1 (List.Perm.refl _) (fun b o' x _ => Heap.get?_push_of_some _ x)
    (by intro a ha; simp [fp] at ha; subst ha; exact .inr (size_none _)) (by simp [fp])
  have hb' := hb fun p hp => by
    simp only [List.mem_singleton] at hp; subst hp
    exact ⟨xs, 0, Heap.get?_push_size _ rfl, VRels.mono he.fz0 _ _ rvs⟩
  exact ⟨hl, kk (.ref s'.heap.objs.size) _ _ _ (nx.trans (Nx.mk' (tk := s'.toks) hb' he)) (by simp only [VRel]) (hq.2 _)⟩
/- ### operators -/
theorem aE_binop {l r : Expr} {op : Operator} {pos : Pos} {Q : V → St → Prop} (h : aE W n sc ρ σ l (KBin W n sc ρ r op Q)) :
    aE W n sc ρ σ (.BinOp l op r pos) Q := fun X env A s rm B F E K kk =>
  wpAny_BinOp (h X env A s rm B F E _ fun v x σ' s' nx rv hq => hq X env A s' rm nx.2.1 (nx.fram B F) E _ fun u y σ'' s'' nx' ru hq' =>
    hq' X A s'' [x, y] rm nx'.2.1 (.cons (VRel.mono nx'.2.2.fz0 _ _ rv) (.one ru)) E K fun b a σ3 s3 nx3 rb q => kk b a σ3 s3 ((nx.trans nx').trans nx3) rb q)
theorem aE_unop {e : Expr} {op : UnaryOp} {pos : Pos} {Q : V → St → Prop} (h : aE W n sc ρ σ e (KUn W n op Q)) :
    aE W n sc ρ σ (.UnaryOp op e pos) Q := fun X env A s rm B F E K kk =>
  wpAny_UnaryOp (h X env A s rm B F E _ fun v x σ' s' nx rv hq =>
    hq X A s' [x] rm nx.2.1 (.one rv) E K fun b a σ3 s3 nx3 rb q => kk b a σ3 s3 (nx.trans nx3) rb q)
/- one comparison: its answer is a bool -/
noncomputable def aC (W : Wd) (n : Nat) (σ : St) (op : CmpOp) (v u : V) (Q : Bool → St → Prop) : Prop := aO W n σ [v, u] (op2 (compareOp op)) (fun _ b a => a = Value.bool b) Q
noncomputable abbrev KCmp2 (W : Wd) (n : Nat) (op : CmpOp) (v : V) (Q : Bool → St → Prop) : V → St → Prop := fun u σ => aC W n σ op v u Q
noncomputable abbrev KCmp (W : Wd) (n : Nat) (sc : Scope) (ρ : Ro) (r : Expr) (op : CmpOp) (Q : Bool → St → Prop) : V → St → Prop := fun v σ => aE W n sc ρ σ r (KCmp2 W n op v Q)
theorem aE_cmp {l r : Expr} {op : CmpOp} {pos : Pos} {Q : V → St → Prop} (h : aE W n sc ρ σ l (KCmp W n sc ρ r op (KB Q)))
    (hm : autoParam (behindInMarks op r = false) tRfl) : aE W n sc ρ σ (.Compare l [op] [r] pos) Q := fun X env A s rm B F E K kk =>
  wpAny_Compare1 (h X env A s rm B F E _ fun v x σ' s' nx rv hq => hq X env A s' rm nx.2.1 (nx.fram B F) E _ fun u y σ'' s'' nx' ru hq' =>
    hq' X A s'' [x, y] rm nx'.2.1 (.cons (VRel.mono nx'.2.2.fz0 _ _ rv) (.one ru)) E K fun b a σ3 s3 nx3 rb q => kk (.bool b) a σ3 s3 ((nx.trans nx').trans nx3) (by simp only [VRel]; exact rb) q) hm
theorem aT_cmp {l r : Expr} {op : CmpOp} {pos : Pos} {Q : Bool → St → Prop} (h : aE W n sc ρ σ l (KCmp W n sc ρ r op Q))
    (hm : autoParam (behindInMarks op r = false) tRfl) : aT W n sc ρ σ (.Compare l [op] [r] pos) Q := fun X env A s rm B F E K kk =>
  wpAny_isTrue_Compare1 (h X env A s rm B F E _ fun v x σ' s' nx rv hq => hq X env A s' rm nx.2.1 (nx.fram B F) E _ fun u y σ'' s'' nx' ru hq' =>
    hq' X A s'' [x, y] rm nx'.2.1 (.cons (VRel.mono nx'.2.2.fz0 _ _ rv) (.one ru)) E _ fun b a σ3 s3 nx3 rb q => by
      subst rb
      exact wpAny_truthy_bool (kk b b σ3 s3 ((nx.trans nx').trans nx3) rfl q)) hm
/- a chain of two, in a test -/
theorem aT_cmp2 {l m r : Expr} {op op' : CmpOp} {pos : Pos} {Q : Bool → St → Prop}
    (h : aE W n sc ρ σ l (fun v σ1 => aE W n sc ρ σ1 m (fun u σ2 => aC W n σ2 op v u (fun b σ3 => if b = true then aE W n sc ρ σ3 r (fun z σ4 => aC W n σ4 op' u z Q) else Q false σ3))))
    (hm : autoParam (∀ t1 t2, markedEach [op, op'] [m, r] [t1, t2] = [t1, t2]) tRfl2) : aT W n sc ρ σ (.Compare l [op, op'] [m, r] pos) Q := fun X env A s rm B F E K kk => by
  show wpAny _ _ (eval l env >>= fun v => testChain pos v [op, op'] (markedEach [op, op'] [m, r] [eval m env, eval r env])) _ _ _
  rw [hm]
  refine wpAny_bind (h X env A s rm B F E _ fun v x σ1 s1 nx1 rv hq => ?_)
  show wpAny _ _ (holding [x] (eval m env) >>= _) _ _ _
  have F1 := nx1.fram B F
  refine wpAny_bind (wpAny_holding (hq X env A s1 rm nx1.2.1 F1 E _ fun u y σ2 s2 nx2 ru hq2 => ?_))
  refine wpAny_bind (wpAny_standAt (wpAny_bind (wpAny_holding (hq2 X A s2 [x, y] rm nx2.2.1 (.cons (VRel.mono nx2.2.2.fz0 _ _ rv) (.one ru)) E _ fun b c σ3 s3 nx3 rb hq3 => ?_))))
  subst rb
  refine wpAny_bind (wpAny_release (wpAny_bind (wpAny_holding (wpAny_truthy_bool ?_))))
  cases b with
  | false =>
    simp only [Bool.false_eq_true, if_false] at hq3 ⊢
    exact wpAny_pure (kk false false σ3 s3 ((nx1.trans nx2).trans nx3) rfl hq3)
  | true =>
    simp only [if_true] at hq3 ⊢
    show wpAny _ _ (holding [y] (eval r env) >>= _) _ _ _
    refine wpAny_bind (wpAny_holding (hq3 X env A s3 rm nx3.2.1 (nx3.fram nx2.2.1 (nx2.fram nx1.2.1 F1)) E _ fun z w σ4 s4 nx4 rz hq4 => ?_))
    refine wpAny_bind (wpAny_standAt (wpAny_bind (wpAny_operateT (hq4 X A s4 [y, w] rm nx4.2.1 (.cons (VRel.mono nx4.2.2.fz0 _ _ (VRel.mono nx3.2.2.fz0 _ _ ru)) (.one rz)) E _ fun b c σ5 s5 nx5 rb q => ?_))))
    subst rb
    exact wpAny_holding (wpAny_truthy_bool (kk b b σ5 s5 ((((nx1.trans nx2).trans nx3).trans nx4).trans nx5) rfl q))
theorem aT_not {e : Expr} {pos : Pos} {Q : Bool → St → Prop} (h : aT W n sc ρ σ e (KNot Q)) : aT W n sc ρ σ (.UnaryOp .Not e pos) Q := fun X env A s rm B F E K kk =>
  wpAny_isTrue_Not (h X env A s rm B F E _ fun b a σ' s' nx rb hq => by obtain rfl : a = b := rb; exact kk _ _ σ' s' nx rfl hq)
theorem aT_bool {op : BoolOp} {es : List Expr} {pos : Pos} {Q : Bool → St → Prop} (h : aTs W n sc ρ σ op es Q) : aT W n sc ρ σ (.BoolOp op es pos) Q := fun X env A s rm B F E K kk =>
  wpAny_isTrue_BoolOp (h X env A s rm B F E K kk)
theorem aTs_and_nil {Q : Bool → St → Prop} (h : Q true σ) : aTs W n sc ρ σ .And [] Q := fun X env A s rm B F E K kk => wpAny_allTrue_And_nil (kk _ _ _ _ (.refl B) rfl h)
theorem aTs_or_nil {Q : Bool → St → Prop} (h : Q false σ) : aTs W n sc ρ σ .Or [] Q := fun X env A s rm B F E K kk => wpAny_allTrue_Or_nil (kk _ _ _ _ (.refl B) rfl h)
theorem aTs_and {e : Expr} {es : List Expr} {Q : Bool → St → Prop} (h : aT W n sc ρ σ e (KAnd W n sc ρ es Q)) : aTs W n sc ρ σ .And (e :: es) Q := fun X env A s rm B F E K kk =>
  wpAny_allTrue_And_cons (h X env A s rm B F E _ fun b a σ' s' nx rb hq => by
    obtain rfl : a = b := rb
    cases a with
    | true => simp only [if_true] at hq ⊢; exact hq X env A s' rm nx.2.1 (nx.fram B F) E K fun b a σ'' s'' nx' rb q => kk b a σ'' s'' (nx.trans nx') rb q
    | false => simp only [Bool.false_eq_true, if_false] at hq ⊢; exact kk _ _ σ' s' nx rfl hq)
theorem aTs_or {e : Expr} {es : List Expr} {Q : Bool → St → Prop} (h : aT W n sc ρ σ e (KOr W n sc ρ es Q)) : aTs W n sc ρ σ .Or (e :: es) Q := fun X env A s rm B F E K kk =>
  wpAny_allTrue_Or_cons (h X env A s rm B F E _ fun b a σ' s' nx rb hq => by
    obtain rfl : a = b := rb
    cases a with
    | false => simp only [Bool.false_eq_true, if_false] at hq ⊢; exact hq X env A s' rm nx.2.1 (nx.fram B F) E K fun b a σ'' s'' nx' rb q => kk b a σ'' s'' (nx.trans nx') rb q
    | true => simp only [if_true] at hq ⊢; exact kk _ _ σ' s' nx rfl hq)
/- a test that is an expression -/
theorem aT_value {e : Expr} {Q : Bool → St → Prop} (h : aE W n sc ρ σ e (KTru W n Q))
    (he : autoParam (∀ env whole, isTrue e env whole = (do let v ← whole; standAt e.pos; holding [v] (truthy v))) tRfl2) : aT W n sc ρ σ e Q := fun X env A s rm B F E K kk =>
  wpAny_isTrue_value (h X env A s rm B F E _ fun v x σ' s' nx rv hq => hq X A s' [x] rm nx.2.1 (.one rv) E K fun b a σ'' s'' nx' rb q => kk b a σ'' s'' (nx.trans nx') rb q) (he env _)
theorem truthy_bool {b : Bool} {Q : Bool → St → Prop} (h : Q b σ) : aO W n σ [.bool b] (op1 truthy) Sames Q := fun X A s xs rm B rv E K kk => by
  simp only [VRels, VRel] at rv
  obtain ⟨y, ys, rfl, rfl, rfl⟩ := rv
  exact wpAny_truthy_bool (kk b b σ s (.refl B) rfl h)
theorem aE_and2 {e f : Expr} {pos : Pos} {Q : V → St → Prop} (h : aE W n sc ρ σ e (KAndE W n sc ρ f Q)) : aE W n sc ρ σ (.BoolOp .And [e, f] pos) Q := fun X env A s rm B F E K kk =>
  wpAny_And2 (h X env A s rm B F E _ fun v x σ' s' nx rv hq => by
    obtain ⟨b, rfl, hq⟩ := hq
    obtain rfl := rv
    refine wpAny_truthy_bool ?_
    cases b with
    | true => simp only [if_true] at hq ⊢; exact hq X env A s' rm nx.2.1 (nx.fram B F) E K fun b a σ'' s'' nx' rb q => kk b a σ'' s'' (nx.trans nx') rb q
    | false => simp only [Bool.false_eq_true, if_false] at hq ⊢; exact kk _ _ σ' s' nx (by simp only [VRel]) hq)
theorem aE_or2 {e f : Expr} {pos : Pos} {Q : V → St → Prop} (h : aE W n sc ρ σ e (KOrE W n sc ρ f Q)) : aE W n sc ρ σ (.BoolOp .Or [e, f] pos) Q := fun X env A s rm B F E K kk =>
  wpAny_Or2 (h X env A s rm B F E _ fun v x σ' s' nx rv hq => by
    obtain ⟨b, rfl, hq⟩ := hq
    obtain rfl := rv
    refine wpAny_truthy_bool ?_
    cases b with
    | false => simp only [Bool.false_eq_true, if_false] at hq ⊢; exact hq X env A s' rm nx.2.1 (nx.fram B F) E K fun b a σ'' s'' nx' rb q => kk b a σ'' s'' (nx.trans nx') rb q
    | true => simp only [if_true] at hq ⊢; exact kk _ _ σ' s' nx (by simp only [VRel]) hq)
theorem aE_ifexp {t b o : Expr} {pos : Pos} {Q : V → St → Prop} (h : aT W n sc ρ σ t (KIfE W n sc ρ b o Q)) : aE W n sc ρ σ (.IfExp t b o pos) Q := fun X env A s rm B F E K kk =>
  wpAny_IfExp (h X env A s rm B F E _ fun c a σ' s' nx rb hq => by
    obtain rfl : a = c := rb
    cases a <;> simp only [Bool.false_eq_true, if_false, if_true] at hq ⊢ <;> exact hq X env A s' rm nx.2.1 (nx.fram B F) E K fun b a σ'' s'' nx' rb q => kk b a σ'' s'' (nx.trans nx') rb q)
end
/- part A5 -/
section
variable {W : Wd} {n : Nat} {sc : Scope} {ρ : List (Option V)} {σ : St}
theorem vrels2 {Z} {a b : V} {xs : List Value} (h : VRels W Z [a, b] xs) : ∃ x y, xs = [x, y] ∧ VRel W Z a x ∧ VRel W Z b y := by
  obtain ⟨x, _, rfl, h1, y, _, rfl, h2, rfl⟩ := h
  exact ⟨x, y, rfl, h1, h2⟩
theorem vrels1 {Z} {a : V} {xs : List Value} (h : VRels W Z [a] xs) : ∃ x, xs = [x] ∧ VRel W Z a x := by
  obtain ⟨x, _, rfl, h1, rfl⟩ := h
  exact ⟨x, rfl, h1⟩
theorem vrels3 {Z} {a b c : V} {xs : List Value} (h : VRels W Z [a, b, c] xs) : ∃ x y z, xs = [x, y, z] ∧ VRel W Z a x ∧ VRel W Z b y ∧ VRel W Z c z := by
  obtain ⟨x, _, rfl, h1, y, _, rfl, h2, z, _, rfl, h3, rfl⟩ := h
  exact ⟨x, y, z, rfl, h1, h2, h3⟩
/- ### ints -/
theorem o_add {a b : Int} {Q : V → St → Prop} (h : Q (.int (a + b)) σ) : aO W n σ [.int a, .int b] (op2 (binaryOp .Add)) (VRel W) Q := fun X A s xs rm B rv E K kk => by
  obtain ⟨x, y, rfl, hx, hy⟩ := vrels2 rv
  obtain ⟨t, rfl⟩ := hx; obtain ⟨u, rfl⟩ := hy
  exact P.add_int (kk (.int (a + b)) _ _ _ (Nx.mk' (h' := s.heap) B Ext.refl) (by simp only [VRel]; exact ⟨_, rfl⟩) h)
theorem o_sub {a b : Int} {Q : V → St → Prop} (h : Q (.int (a - b)) σ) : aO W n σ [.int a, .int b] (op2 (binaryOp .Sub)) (VRel W) Q := fun X A s xs rm B rv E K kk => by
  obtain ⟨x, y, rfl, hx, hy⟩ := vrels2 rv
  obtain ⟨t, rfl⟩ := hx; obtain ⟨u, rfl⟩ := hy
  exact P.sub_int (kk (.int (a - b)) _ _ _ (Nx.mk' (h' := s.heap) B Ext.refl) (by simp only [VRel]; exact ⟨_, rfl⟩) h)
theorem o_mul {a b : Int} {Q : V → St → Prop} (hm : IntMulOk a b) (h : Q (.int (a * b)) σ) : aO W n σ [.int a, .int b] (op2 (binaryOp .Mult)) (VRel W) Q := fun X A s xs rm B rv E K kk => by
  obtain ⟨x, y, rfl, hx, hy⟩ := vrels2 rv
  obtain ⟨t, rfl⟩ := hx; obtain ⟨u, rfl⟩ := hy
  exact P.mul_int (kk (.int (a * b)) _ _ _ (Nx.mk' (h' := s.heap) B Ext.refl) (by simp only [VRel]; exact ⟨_, rfl⟩) h) hm
theorem o_fdiv {a b : Int} {Q : V → St → Prop} (hb : b ≠ 0) (hp : b.natAbs.log2 < 9000) (h : Q (.int (a.fdiv b)) σ) : aO W n σ [.int a, .int b] (op2 (binaryOp .FloorDiv)) (VRel W) Q := fun X A s xs rm B rv E K kk => by
  obtain ⟨x, y, rfl, hx, hy⟩ := vrels2 rv
  obtain ⟨t, rfl⟩ := hx; obtain ⟨u, rfl⟩ := hy
  exact floordiv_int hb (kk (.int (a.fdiv b)) _ _ _ (Nx.mk' (h' := s.heap) B Ext.refl) (by simp only [VRel]; exact ⟨_, rfl⟩) h) (.inl (PyProof.noPylong_of_log2 hp))
theorem o_mod {a b : Int} {Q : V → St → Prop} (hb : b ≠ 0) (h : Q (.int (a.fmod b)) σ) : aO W n σ [.int a, .int b] (op2 (binaryOp .Mod)) (VRel W) Q := fun X A s xs rm B rv E K kk => by
  obtain ⟨x, y, rfl, hx, hy⟩ := vrels2 rv
  obtain ⟨t, rfl⟩ := hx; obtain ⟨u, rfl⟩ := hy
  exact mod_int' hb (kk (.int (a.fmod b)) _ _ _ (Nx.mk' (h' := s.heap) B Ext.refl) (by simp only [VRel]; exact ⟨_, rfl⟩) h)
theorem o_neg {a : Int} {Q : V → St → Prop} (h : Q (.int (-a)) σ) : aO W n σ [.int a] (op1 (unaryOp .USub)) (VRel W) Q := fun X A s xs rm B rv E K kk => by
  obtain ⟨x, rfl, hx⟩ := vrels1 rv
  obtain ⟨t, rfl⟩ := hx
  exact P.neg_int (kk (.int (-a)) _ _ _ (Nx.mk' (h' := s.heap) B Ext.refl) (by simp only [VRel]; exact ⟨_, rfl⟩) h)
/- ### comparisons -/
theorem c_eq_int {a b : Int} {Q : Bool → St → Prop} (h : Q (decide (a = b)) σ) : aC W n σ .Eq (.int a) (.int b) Q := fun X A s xs rm B rv E K kk => by
  obtain ⟨x, y, rfl, hx, hy⟩ := vrels2 rv
  obtain ⟨t, rfl⟩ := hx; obtain ⟨u, rfl⟩ := hy
  exact P.eq_int (kk (decide (a = b)) _ _ _ (.refl B) (by rw [show (a == b) = decide (a = b) from rfl]) h)
theorem c_ne_int {a b : Int} {Q : Bool → St → Prop} (h : Q (decide (a ≠ b)) σ) : aC W n σ .NotEq (.int a) (.int b) Q := fun X A s xs rm B rv E K kk => by
  obtain ⟨x, y, rfl, hx, hy⟩ := vrels2 rv
  obtain ⟨t, rfl⟩ := hx; obtain ⟨u, rfl⟩ := hy
  refine PyProof.Rows.ne_int (kk (decide (a ≠ b)) _ _ _ (.refl B) ?_ h)
  by_cases e : a = b <;> simp [e]
theorem c_lt_int {a b : Int} {Q : Bool → St → Prop} (h : Q (decide (a < b)) σ) : aC W n σ .Lt (.int a) (.int b) Q := fun X A s xs rm B rv E K kk => by
  obtain ⟨x, y, rfl, hx, hy⟩ := vrels2 rv
  obtain ⟨t, rfl⟩ := hx; obtain ⟨u, rfl⟩ := hy
  exact PyProof.Rows.lt_int (kk (decide (a < b)) _ _ _ (.refl B) rfl h)
theorem c_gt_int {a b : Int} {Q : Bool → St → Prop} (h : Q (decide (b < a)) σ) : aC W n σ .Gt (.int a) (.int b) Q := fun X A s xs rm B rv E K kk => by
  obtain ⟨x, y, rfl, hx, hy⟩ := vrels2 rv
  obtain ⟨t, rfl⟩ := hx; obtain ⟨u, rfl⟩ := hy
  exact PyProof.Rows.gt_int (kk (decide (b < a)) _ _ _ (.refl B) rfl h)
theorem c_eq_str {a b : Str} {Q : Bool → St → Prop} (h : Q (decide (a = b)) σ) : aC W n σ .Eq (.str a) (.str b) Q := fun X A s xs rm B rv E K kk => by
  obtain ⟨x, y, rfl, hx, hy⟩ := vrels2 rv
  obtain ⟨t, rfl⟩ := hx; obtain ⟨u, rfl⟩ := hy
  refine eq_str (kk (decide (a = b)) _ _ _ (.refl B) ?_ h)
  by_cases e : a = b
  · subst e; simp
  · simp [e]
theorem fz_get {X : Addr → Prop} {h : Heap} : ∀ a o, Fz X σ h a o → h.get? a = some o := fun _ _ e => e.1
theorem shaped_of {v : V} (k : eqOk v = true) (d : vdep v ≤ 64) : SeqAt.shaped (pd v) = true := by
  have h := canLay_pd v k
  unfold SeqAt.shaped
  rw [h.1, h.2]; simp [d]
theorem room_units {m : Nat} {A : Around} (r : Room m A) : A.units + 100 < cLine := by have := r.2.2; (first | lia | omega)
/- general equality -/
theorem c_eq {v u : V} {Q : Bool → St → Prop} (kv : eqOk v = true) (ku : eqOk u = true) (dv : vdep v ≤ 64) (du : vdep u ≤ 64) (h : Q (veq v u) σ) : aC W n σ .Eq v u Q := fun X A s xs rm B rv E K kk => by
  obtain ⟨x, y, rfl, hx, hy⟩ := vrels2 rv
  obtain ⟨as, ha⟩ := reads_of fz_get v x hx kv
  obtain ⟨bs, hb⟩ := reads_of fz_get u y hy ku
  exact SeqAt.compareEq_shaped ha hb (shaped_of kv dv) (shaped_of ku du) (by have := room_units rm; (first | lia | omega)) (kk (veq v u) _ _ _ (.refl B) rfl h)
theorem c_ne {v u : V} {Q : Bool → St → Prop} (kv : eqOk v = true) (ku : eqOk u = true) (dv : vdep v ≤ 64) (du : vdep u ≤ 64) (h : Q (!veq v u) σ) : aC W n σ .NotEq v u Q := fun X A s xs rm B rv E K kk => by
  obtain ⟨x, y, rfl, hx, hy⟩ := vrels2 rv
  obtain ⟨as, ha⟩ := reads_of fz_get v x hx kv
  obtain ⟨bs, hb⟩ := reads_of fz_get u y hy ku
  exact SeqAt.compareNe_shaped ha hb (shaped_of kv dv) (shaped_of ku du) (by have := room_units rm; (first | lia | omega)) (kk (!veq v u) _ _ _ (.refl B) rfl h)
/- ### reading of objects -/
theorem Bears.rel {X : Addr → Prop} {h : Heap} (B : Bears W X σ h) {a : Addr} {mo : MO} (hm : (a, mo) ∈ σ) : MRel W (Fz X σ h) h a mo := B.objs _ hm
theorem own_mem {a : Addr} {mo : MO} (hm : (a, mo) ∈ σ) : a ∈ own σ := List.mem_flatMap.mpr ⟨_, hm, by cases mo <;> simp [fp]⟩
theorem own_ne_sys {X : Addr → Prop} {h : Heap} (B : Bears W X σ h) {a : Addr} (ha : a ∈ own σ) : (a == sysModules) = false := by
  cases hb : a == sysModules with
  | false => rfl
  | true =>
    have e : a = sysModules := eq_of_beq hb
    obtain ⟨o, ho⟩ := W.sys
    exact absurd (e ▸ ha) (B.base _ _ ho).2.1
/- ### subscripts -/
noncomputable abbrev KSub2 (W : Wd) (n : Nat) (value slice : Expr) (o : V) (Q : V → St → Prop) : V → St → Prop := fun i σ => aO W n σ [o, i] (op2 (subscriptTail value slice)) (VRel W) Q
noncomputable abbrev KSub (W : Wd) (n : Nat) (sc : Scope) (ρ : Ro) (value slice : Expr) (Q : V → St → Prop) : V → St → Prop := fun o σ => aE W n sc ρ σ slice (KSub2 W n value slice o Q)
theorem aE_sub {value slice : Expr} {pos : Pos} {Q : V → St → Prop} (h : aE W n sc ρ σ value (KSub W n sc ρ value slice Q)) :
    aE W n sc ρ σ (.Subscript value slice pos) Q := fun X env A s rm B F E K kk =>
  Subscript_ (h X env A s rm B F E _ fun v x σ' s' nx rv hq => hq X env A s' rm nx.2.1 (nx.fram B F) E _ fun u y σ'' s'' nx' ru hq' =>
    hq' X A s'' [x, y] rm nx'.2.1 (.cons (VRel.mono nx'.2.2.fz0 _ _ rv) (.one ru)) E K fun b a σ3 s3 nx3 rb q => kk b a σ3 s3 ((nx.trans nx').trans nx3) rb q)
theorem isTup_of {h : Heap} {a : Addr} {o : Obj} {xs : List Value} {k : Nat} (e : h.get? a = some o) (t : IsTupO o xs k) : IsTup h a xs.toArray := ⟨_, e, t.1, k, t.2.1⟩
theorem isList_of {h : Heap} {a : Addr} {xs : List Value} {k : Nat} (e : h.get? a = some (lstO xs k)) : h.IsList a xs.toArray := ⟨_, e, rfl, k, rfl⟩
theorem isTuple_of {h : Heap} {a : Addr} {o : Obj} {xs : List Value} {k : Nat} (e : h.get? a = some o) (t : IsTupO o xs k) : h.IsTuple a xs.toArray := ⟨_, e, t.1, k, t.2.1⟩
theorem s_tup {value slice : Expr} {vs : List V} {i : Int} {v : V} {Q : V → St → Prop} (h0 : autoParam (0 ≤ i) tDec) (h63 : autoParam (i < 2 ^ 63) tDec) (hv : autoParam (vs[i.toNat]? = some v) tRfl) (h : Q v σ)
    (hs : autoParam (∀ o i, subscripted slice false o i = operate [o, i] (getItem o i)) tRfl2) : aO W n σ [.tup vs, .int i] (op2 (subscriptTail value slice)) (VRel W) Q := fun X A s xs rm B rv E K kk => by
  obtain ⟨x, y, rfl, hx, hy⟩ := vrels2 rv
  obtain ⟨a, o, ys, k, rfl, hz, hto, hr⟩ := hx; obtain ⟨u, rfl⟩ := hy
  obtain ⟨z, h1, h2⟩ := hr.get hv
  refine item_tupleT (j := i.toNat) (isTup_of hz.1 hto) (by (first | lia | omega)) h63 ?_ h1 (kk v z _ _ (.refl B) h2 h) (hs _ _)
  have hlt : i.toNat < ys.length := (List.getElem?_eq_some_iff.mp h1).1
  unfold seqIndex?
  simp only [if_neg (show ¬ i < 0 by (first | lia | omega)), Bool.and_eq_true, decide_eq_true_eq, h0, true_and, Int.add_zero]
  rw [if_pos (by (first | lia | omega))]
theorem s_flist {value slice : Expr} {vs : List V} {i : Int} {v : V} {Q : V → St → Prop} (h0 : 0 ≤ i) (h63 : i < 2 ^ 63) (hv : vs[i.toNat]? = some v) (h : Q v σ)
    (hs : autoParam (∀ o i, subscripted slice false o i = operate [o, i] (getItem o i)) tRfl2) : aO W n σ [.flist vs, .int i] (op2 (subscriptTail value slice)) (VRel W) Q := fun X A s xs rm B rv E K kk => by
  obtain ⟨x, y, rfl, hx, hy⟩ := vrels2 rv
  obtain ⟨a, ys, k, rfl, hz, hr⟩ := hx; obtain ⟨u, rfl⟩ := hy
  obtain ⟨z, h1, h2⟩ := hr.get hv
  have hL := isList_of hz.1
  exact tail_any hL.typeIs slot_list_getitem.lookup (wpAny_getItem_list hL h0 h63 (by simpa using h1) (kk v z _ _ (.refl B) h2 h)) (hs _ _)
theorem s_list {value slice : Expr} {a : Addr} {vs : List V} {i : Int} {v : V} {Q : V → St → Prop} (hm : (a, .list vs) ∈ σ) (h0 : 0 ≤ i) (h63 : i < 2 ^ 63) (hv : vs[i.toNat]? = some v) (h : Q v σ)
    (hs : autoParam (∀ o i, subscripted slice false o i = operate [o, i] (getItem o i)) tRfl2) : aO W n σ [.ref a, .int i] (op2 (subscriptTail value slice)) (VRel W) Q := fun X A s xs rm B rv E K kk => by
  obtain ⟨x, y, rfl, hx, hy⟩ := vrels2 rv
  simp only [VRel] at hx hy; subst hx; obtain ⟨u, rfl⟩ := hy
  obtain ⟨ys, k, hz, hr⟩ := B.rel hm
  obtain ⟨z, h1, h2⟩ := hr.get hv
  have hL := isList_of hz
  exact tail_any hL.typeIs slot_list_getitem.lookup (wpAny_getItem_list hL h0 h63 (by simpa using h1) (kk v z _ _ (.refl B) h2 h)) (hs _ _)
/- dict values -/
noncomputable def lookI (kvs : List (Int × V)) (k : Int) : Option V := (kvs.find? fun kv => decide (kv.1 = k)).map (·.2)
noncomputable def lookS (kvs : List (Str × V)) (k : Str) : Option V := (kvs.find? fun kv => decide (kv.1 = k)).map (·.2)
theorem valueAt_zip {K : Type} [DecidableEq K] {Z} : ∀ {kvs : List (K × V)} {xs : List Value} {k : K}, VRels W Z (kvs.map (·.2)) xs →
    (∀ v, (kvs.find? fun kv => decide (kv.1 = k)).map (·.2) = some v → ∃ x, valueAt ((kvs.map (·.1)).zip xs) k = some x ∧ VRel W Z v x) ∧
    ((kvs.find? fun kv => decide (kv.1 = k)).map (·.2) = none → valueAt ((kvs.map (·.1)).zip xs) k = none)
  | [], xs, k, h => by simp only [List.map_nil, VRels] at h; subst h; simp [valueAt]
  | (k', v') :: r, xs, k, h => by
    simp only [List.map_cons, VRels] at h
    obtain ⟨y, ys, rfl, h1, h2⟩ := h
    have ih := valueAt_zip (k := k) h2
    by_cases e : k' = k
    · subst e; simp [valueAt, h1]
    · simp only [List.map_cons, List.zip_cons_cons, valueAt, List.find?_cons, e, decide_false] at ih ⊢
      exact ih
theorem MRel.idict_of {Z h a kvs} (m : MRel W Z h a (.idict kvs)) : ∃ xs, h.DictOf (intKind W.prog W.w) a ((kvs.map (·.1)).zip xs) ∧ VRels W Z (kvs.map (·.2)) xs := by
  obtain ⟨o, xs, h1, h2, h3⟩ := m
  exact ⟨xs, Heap.dictOf_iff.mpr ⟨o, h1, h3⟩, h2⟩
theorem MRel.sdict_of {Z h a kvs} (m : MRel W Z h a (.sdict kvs)) : ∃ xs, h.DictOf (strKind W.prog W.w) a ((kvs.map (·.1)).zip xs) ∧ VRels W Z (kvs.map (·.2)) xs := by
  obtain ⟨o, xs, h1, h2, h3⟩ := m
  exact ⟨xs, Heap.dictOf_iff.mpr ⟨o, h1, h3⟩, h2⟩
theorem s_idict {value slice : Expr} {a : Addr} {kvs : List (Int × V)} {i : Int} {v : V} {Q : V → St → Prop} (hm : (a, .idict kvs) ∈ σ) (hv : lookI kvs i = some v) (h : Q v σ)
    (hs : autoParam (∀ o i, subscripted slice false o i = operate [o, i] (getItem o i)) tRfl2) : aO W n σ [.ref a, .int i] (op2 (subscriptTail value slice)) (VRel W) Q := fun X A s xs rm B rv E K kk => by
  obtain ⟨x, y, rfl, hx, hy⟩ := vrels2 rv
  simp only [VRel] at hx hy; subst hx; obtain ⟨u, rfl⟩ := hy
  obtain ⟨ys, hd, hr⟩ := (B.rel hm).idict_of
  obtain ⟨z, h1, h2⟩ := (valueAt_zip hr).1 v hv
  exact tail_any hd.typeIs slot_dict_getitem.lookup (wpAny_getItem_of (intKind_is _ _ i u) hd.mapOf h1 (kk v z _ _ (Nx.mk' (h' := s.heap) B Ext.refl) h2 h)) (hs _ _)
theorem s_sdict {value slice : Expr} {a : Addr} {kvs : List (Str × V)} {i : Str} {v : V} {Q : V → St → Prop} (hm : (a, .sdict kvs) ∈ σ) (hv : lookS kvs i = some v) (h : Q v σ)
    (hs : autoParam (∀ o i, subscripted slice false o i = operate [o, i] (getItem o i)) tRfl2) : aO W n σ [.ref a, .str i] (op2 (subscriptTail value slice)) (VRel W) Q := fun X A s xs rm B rv E K kk => by
  obtain ⟨x, y, rfl, hx, hy⟩ := vrels2 rv
  simp only [VRel] at hx hy; subst hx; obtain ⟨u, rfl⟩ := hy
  obtain ⟨ys, hd, hr⟩ := (B.rel hm).sdict_of
  obtain ⟨z, h1, h2⟩ := (valueAt_zip hr).1 v hv
  exact tail_any hd.typeIs slot_dict_getitem.lookup (wpAny_getItem_of (strKind_is _ _ i u) hd.mapOf h1 (kk v z _ _ (Nx.mk' (h' := s.heap) B Ext.refl) h2 h)) (hs _ _)
/- a frozen dict by its pairs -/
noncomputable abbrev fd (kvs : List (Int × V)) : V := .fdict (kvs.map (·.1)) (kvs.map (·.2))
theorem fd_rel {Z : Addr → Obj → Prop} {h : Heap} (hZ : ∀ a o, Z a o → h.get? a = some o) {kvs : List (Int × V)} {x : Value} (r : VRel W Z (fd kvs) x) :
    ∃ a xs, x = .ref a ∧ (a == sysModules) = false ∧ h.DictOf (intKind W.prog W.w) a ((kvs.map (·.1)).zip xs) ∧ VRels W Z (kvs.map (·.2)) xs ∧ ∃ o, Z a o ∧ o.IsDictOf (intKind W.prog W.w) ((kvs.map (·.1)).zip xs) := by
  obtain ⟨a, o, xs, rfl, h2, h3, h4, h5, h6⟩ := r
  exact ⟨a, xs, rfl, h2, Heap.dictOf_iff.mpr ⟨o, hZ _ _ h3, h6⟩, h4, o, h3, h6⟩
theorem s_fdict {value slice : Expr} {kvs : List (Int × V)} {i : Int} {v : V} {Q : V → St → Prop} (hv : lookI kvs i = some v) (h : Q v σ)
    (hs : autoParam (∀ o i, subscripted slice false o i = operate [o, i] (getItem o i)) tRfl2) : aO W n σ [fd kvs, .int i] (op2 (subscriptTail value slice)) (VRel W) Q := fun X A s xs rm B rv E K kk => by
  obtain ⟨x, y, rfl, hx, hy⟩ := vrels2 rv
  obtain ⟨a, ys, rfl, _, hd, hr, _⟩ := fd_rel fz_get hx
  obtain ⟨u, rfl⟩ := hy
  obtain ⟨z, h1, h2⟩ := (valueAt_zip hr).1 v hv
  exact tail_any hd.typeIs slot_dict_getitem.lookup (wpAny_getItem_of (intKind_is _ _ i u) hd.mapOf h1 (kk v z _ _ (Nx.mk' (h' := s.heap) B Ext.refl) h2 h)) (hs _ _)
/- ### in -/
theorem lookI_isSome {Z} {kvs : List (Int × V)} {xs : List Value} {k : Int} (h : VRels W Z (kvs.map (·.2)) xs) : (valueAt ((kvs.map (·.1)).zip xs) k).isSome = (lookI kvs k).isSome := by
  have e := valueAt_zip (k := k) h
  cases q : lookI kvs k with
  | none => rw [e.2 q]; rfl
  | some v => obtain ⟨x, h1, _⟩ := e.1 v q; rw [h1]; rfl
theorem in_idict {a : Addr} {kvs : List (Int × V)} {i : Int} {Q : Bool → St → Prop} (hm : (a, .idict kvs) ∈ σ) (h : Q (lookI kvs i).isSome σ) : aC W n σ .In (.int i) (.ref a) Q := fun X A s xs rm B rv E K kk => by
  obtain ⟨x, y, rfl, hx, hy⟩ := vrels2 rv
  simp only [VRel] at hx hy; subst hy; obtain ⟨u, rfl⟩ := hx
  obtain ⟨ys, hd, hr⟩ := (B.rel hm).idict_of
  refine wpAny_in_of (intKind_is _ _ i u) (own_ne_sys B (own_mem hm)) hd.mapOf ?_
  rw [lookI_isSome hr]
  exact kk _ _ _ _ (Nx.mk' (h' := s.heap) B Ext.refl) rfl h
theorem in_fdict {kvs : List (Int × V)} {i : Int} {Q : Bool → St → Prop} (h : Q (lookI kvs i).isSome σ) : aC W n σ .In (.int i) (fd kvs) Q := fun X A s xs rm B rv E K kk => by
  obtain ⟨x, y, rfl, hx, hy⟩ := vrels2 rv
  obtain ⟨u, rfl⟩ := hx
  obtain ⟨a, ys, rfl, hs, hd, hr, _⟩ := fd_rel fz_get hy
  refine wpAny_in_of (intKind_is _ _ i u) hs hd.mapOf ?_
  rw [lookI_isSome hr]
  exact kk _ _ _ _ (Nx.mk' (h' := s.heap) B Ext.refl) rfl h
/- ### dict equality (keys ints, values of the class eqOk) -/
noncomputable def deq (a b : List (Int × V)) : Bool := a.length == b.length && a.all fun kv => match lookI b kv.1 with | some v => veq kv.2 v | none => false
noncomputable def valsOk (a : List (Int × V)) : Prop := ∀ kv ∈ a, eqOk kv.2 = true ∧ vdep kv.2 ≤ 8
theorem keqHits_of {A : Around} {s : Shared} {Z : Addr → Obj → Prop} (hZ : ∀ a o, Z a o → s.heap.get? a = some o) {b : List (Int × V)} {ys : List Value} (hb : VRels W Z (b.map (·.2)) ys) (kb : valsOk b) (hu : A.units + 64 < cLine) :
    ∀ {a : List (Int × V)} {xs : List Value}, VRels W Z (a.map (·.2)) xs → valsOk a → ∃ r, KeqHits A s ((b.map (·.1)).zip ys) ((a.map (·.1)).zip xs) r ∧ r = a.all fun kv => match lookI b kv.1 with | some v => veq kv.2 v | none => false
  | [], xs, h, _ => by simp only [List.map_nil, VRels] at h; subst h; exact ⟨true, .nil, rfl⟩
  | (k, v) :: r, xs, h, ka => by
    simp only [List.map_cons, VRels] at h
    obtain ⟨x, xs', rfl, h1, h2⟩ := h
    obtain ⟨rr, ih1, ih2⟩ := keqHits_of hZ hb kb hu h2 (fun q hq => ka q (.tail _ hq))
    have e := valueAt_zip (k := k) hb
    cases q : lookI b k with
    | none =>
      refine ⟨false, .miss (e.2 q), ?_⟩
      simp [List.all_cons, q]
    | some u =>
      obtain ⟨y, h3, h4⟩ := e.1 u q
      have hmem : (k, u) ∈ b := by
        unfold lookI at q
        obtain ⟨kv, hf, rfl⟩ := Option.map_eq_some_iff.mp q
        have := List.find?_some hf
        have e' : kv.1 = k := of_decide_eq_true this
        exact e' ▸ List.mem_of_find?_eq_some hf
      have ku := kb _ hmem
      have kv := ka _ (.head _)
      refine ⟨veq v u && rr, .hit h3 (eqAt_V hZ h1 h4 kv.1 ku.1 (by have := kv.2; simp only at this; (first | lia | omega))) ih1, ?_⟩
      simp [List.all_cons, q, ih2]
theorem zip_len {Z} {a : List (Int × V)} {xs : List Value} (h : VRels W Z (a.map (·.2)) xs) : ((a.map (·.1)).zip xs).length = a.length := by
  have := h.length; simp only [List.length_map] at this; simp [this]
theorem c_eqd {a b : List (Int × V)} {Q : Bool → St → Prop} (ka : valsOk a) (kb : valsOk b) (h : Q (deq a b) σ) : aC W n σ .Eq (fd a) (fd b) Q := fun X A s xs rm B rv E K kk => by
  obtain ⟨x, y, rfl, hx, hy⟩ := vrels2 rv
  obtain ⟨d, xs, rfl, hs, hd, hr, _⟩ := fd_rel fz_get hx
  obtain ⟨d', ys, rfl, hs', hd', hr', _⟩ := fd_rel fz_get hy
  have hu := room_units rm
  obtain ⟨r, h1, h2⟩ := keqHits_of (A := A.in1) (s := s) fz_get hr' kb (by simp only [Around.in1_units]; (first | lia | omega)) hr ka
  refine keq_eq hs hs' hd hd' (by (first | lia | omega)) (fun _ => h1) ?_
  rw [zip_len hr, zip_len hr', h2]
  exact kk (deq a b) _ _ _ (.refl B) rfl h
theorem c_ned {a b : List (Int × V)} {Q : Bool → St → Prop} (ka : valsOk a) (kb : valsOk b) (h : Q (!deq a b) σ) : aC W n σ .NotEq (fd a) (fd b) Q := fun X A s xs rm B rv E K kk => by
  obtain ⟨x, y, rfl, hx, hy⟩ := vrels2 rv
  obtain ⟨d, xs, rfl, hs, hd, hr, _⟩ := fd_rel fz_get hx
  obtain ⟨d', ys, rfl, hs', hd', hr', _⟩ := fd_rel fz_get hy
  have hu := room_units rm
  obtain ⟨r, h1, h2⟩ := keqHits_of (A := A.in1) (s := s) fz_get hr' kb (by simp only [Around.in1_units]; (first | lia | omega)) hr ka
  refine keq_ne hs hs' hd hd' (by (first | lia | omega)) (fun _ => h1) ?_
  rw [zip_len hr, zip_len hr', h2]
  exact kk (!deq a b) _ _ _ (.refl B) rfl h
end
/- part A6 -/
set_option genInjectivity false in
inductive Fl where
  | next | brk | cont
  | ret (v : V)
noncomputable def FlRel (W : Wd) (Z : Addr → Obj → Prop) : Fl → Flow → Prop
  | .next, f => f = .next
  | .brk, f => f = .brk
  | .cont, f => f = .cont
  | .ret v, f => ∃ x, f = .ret x ∧ VRel W Z v x
section
variable (W : Wd) (n : Nat) (sc : Scope) (ρ : Ro) (σ : St)
noncomputable def aS {α : Type} (t : Env → Sem Flow) (Q : Fl → Ro → St → Prop) : Prop :=
  ∀ (X : Addr → Prop) (env : Env) (A : Around) (s : Shared), Room n A → Bears W X σ s.heap → Fram W X sc ρ env (Fz X σ s.heap) s.heap →
    ∀ (E : Value → Shared → Prop) (K : Flow → Shared → Prop),
      (∀ fl f ρ' σ' s', Nx W X (frF env sc) σ s σ' s' → Fram W X sc ρ' env (Fz X σ' s'.heap) s'.heap → FlRel W (Fz X σ' s'.heap) fl f → Q fl ρ' σ' → K f s') → wpAny W.M A (t env) K E s
noncomputable def aSs (ss : List Stmt) (Q : Fl → Ro → St → Prop) : Prop := aS (α := Unit) W n sc ρ σ (fun env => execs ss env) Q
/- an assignment's target -/
noncomputable def aA (t : Expr) (v : V) (Q : Ro → St → Prop) : Prop :=
  ∀ (X : Addr → Prop) (env : Env) (A : Around) (s : Shared) (x : Value), Room n A → Bears W X σ s.heap → Fram W X sc ρ env (Fz X σ s.heap) s.heap → VRel W (Fz X σ s.heap) v x →
    ∀ (E : Value → Shared → Prop) (K : Unit → Shared → Prop),
      (∀ ρ' σ' s', Nx W X (frF env sc) σ s σ' s' → Fram W X sc ρ' env (Fz X σ' s'.heap) s'.heap → Q ρ' σ' → K () s') → wpAny W.M A (assign t env x) K E s
noncomputable def aAs (ts : List Expr) (vs : List V) (Q : Ro → St → Prop) : Prop :=
  ∀ (X : Addr → Prop) (env : Env) (A : Around) (s : Shared) (xs : List Value), Room n A → Bears W X σ s.heap → Fram W X sc ρ env (Fz X σ s.heap) s.heap → VRels W (Fz X σ s.heap) vs xs →
    ∀ (E : Value → Shared → Prop) (K : Unit → Shared → Prop),
      (∀ ρ' σ' s', Nx W X (frF env sc) σ s σ' s' → Fram W X sc ρ' env (Fz X σ' s'.heap) s'.heap → Q ρ' σ' → K () s') → wpAny W.M A (assignInOrder ((assignEach ts env).map (·.2)) xs) K E s
end
section
variable {W : Wd} {n : Nat} {sc : Scope} {ρ : Ro} {σ : St}
theorem frF_hid {X : Addr → Prop} {env : Env} {Z h} (F : Fram W X sc ρ env Z h) : ∀ a, frF env sc a → X a := by
  rintro a (rfl | ⟨i, x, hi, hc⟩)
  · exact F.xl
  · obtain ⟨c, y, h1, h2, _⟩ := F.cel i x hi
    rw [hc] at h1; cases h1; exact h2
theorem frF_ex {X : Addr → Prop} {env : Env} {Z h} (F : Fram W X sc ρ env Z h) : ∀ a, frF env sc a → ∃ o, h.get? a = some o := by
  rintro a (rfl | ⟨i, x, hi, hc⟩)
  · obtain ⟨m, ⟨o, es, ep, ho, _⟩, _⟩ := F.loc; exact ⟨o, ho⟩
  · obtain ⟨c, y, h1, h2, _, ⟨o, ho, _⟩, _⟩ := F.cel i x hi
    rw [hc] at h1; cases h1; exact ⟨o, ho⟩
/- ### storing of a local name -/
theorem set_get {ρ : Ro} {i j : Nat} {v u : V} (h : (ρ.set i (some v))[j]? = some (some u)) : (i = j ∧ v = u) ∨ (i ≠ j ∧ ρ[j]? = some (some u)) := by
  by_cases e : i = j
  · subst e
    rw [List.getElem?_set] at h
    simp only [if_true] at h
    split at h
    · cases h; exact .inl ⟨rfl, rfl⟩
    · cases h
  · rw [List.getElem?_set_ne e] at h; exact .inr ⟨e, h⟩
theorem store_local {X : Addr → Prop} {env : Env} {A : Around} {s : Shared} {E : Value → Shared → Prop} {K : Unit → Shared → Prop} {i : Nat} {x : Str} {v : V} {y : Value} (hi : sc.names[i]? = some (x, NameKind.local)) (B : Bears W X σ s.heap)
    (F : Fram W X sc ρ env (Fz X σ s.heap) s.heap) (hv : VRel W (Fz X σ s.heap) v y)
    (kk : ∀ s', Nx W X (frF env sc) σ s σ s' → Fram W X sc (ρ.set i (some v)) env (Fz X σ s'.heap) s'.heap → K () s') : wpAny W.M A (storeName env x y) K E s := by
  obtain ⟨m, hm, hl⟩ := F.loc
  refine wpAny_storeName_local (F.kindOf hi) hm (fun h' hn hs => ?_) (by rw [F.sc_eq, F.kind]; rfl)
  have hk : ∀ b o, s.heap.get? b = some o → ¬ frF env sc b → h'.get? b = some o := fun b o e f => (hs.2 b fun q => f (.inl q)).trans e
  have hex : ∀ a, frF env sc a → ∃ o, h'.get? a = some o := by
    intro a ha
    by_cases e : a = env.locals
    · subst e; obtain ⟨o, _, _, ho, _⟩ := hn; exact ⟨o, ho⟩
    · obtain ⟨o, ho⟩ := frF_ex F a ha; exact ⟨o, (hs.2 a e).trans ho⟩
  obtain ⟨eE, bB⟩ := B.keepF (frF_hid F) hex hk
  have hz := eE.fz (frF_hid F)
  refine kk _ (Nx.mk' bB eE) ?_
  refine ⟨F.sc_eq, F.kind, F.gl, F.bi, F.nodup, by rw [List.length_set]; exact F.len, F.xl, ⟨_, hn, fun j z u hj hu => ?_⟩, fun j z hj => ?_, F.apart⟩
  · rcases set_get hu with ⟨rfl, rfl⟩ | ⟨ne, hu⟩
    · rw [hi] at hj; cases hj
      exact ⟨y, by simp, VRel.mono hz _ _ hv⟩
    · have hne : z ≠ x := by
        rintro rfl
        exact ne (idx_unique F.nodup hi hj)
      obtain ⟨q, h1, h2⟩ := hl j z u hj hu
      exact ⟨q, by simp [hne, h1], VRel.mono hz _ _ h2⟩
  · obtain ⟨c, q, h1, h2, h3, h4, h5⟩ := F.cel j z hj
    refine ⟨c, q, h1, h2, h3, h4.sameBut hs h3, fun u hu => ?_⟩
    rcases set_get hu with ⟨rfl, rfl⟩ | ⟨_, hu⟩
    · rw [hi] at hj; cases hj
    · obtain ⟨r, h6, h7⟩ := h5 u hu
      exact ⟨r, h6, VRel.mono hz _ _ h7⟩
theorem store_cell {X : Addr → Prop} {env : Env} {A : Around} {s : Shared} {E : Value → Shared → Prop} {K : Unit → Shared → Prop} {i : Nat} {x : Str} {v : V} {y : Value} (hi : sc.names[i]? = some (x, NameKind.cell)) (B : Bears W X σ s.heap)
    (F : Fram W X sc ρ env (Fz X σ s.heap) s.heap) (hv : VRel W (Fz X σ s.heap) v y)
    (kk : ∀ s', Nx W X (frF env sc) σ s σ s' → Fram W X sc (ρ.set i (some v)) env (Fz X σ s'.heap) s'.heap → K () s') : wpAny W.M A (storeName env x y) K E s := by
  obtain ⟨c, y0, h1, h2, h3, h4, h5⟩ := F.cel i x hi
  refine wpAny_storeName_cell (by rw [F.sc_eq]; exact F.kind) (F.kindOf hi) h1 h4 (fun h' hc hs => ?_)
  have hk : ∀ b o, s.heap.get? b = some o → ¬ frF env sc b → h'.get? b = some o := fun b o e f => (hs.2 b fun q => f (.inr ⟨i, x, hi, q ▸ h1⟩)).trans e
  have hex : ∀ a, frF env sc a → ∃ o, h'.get? a = some o := by
    intro a ha
    by_cases e : a = c
    · subst e; obtain ⟨o, ho, _⟩ := hc; exact ⟨o, ho⟩
    · obtain ⟨o, ho⟩ := frF_ex F a ha; exact ⟨o, (hs.2 a e).trans ho⟩
  obtain ⟨eE, bB⟩ := B.keepF (frF_hid F) hex hk
  have hz := eE.fz (frF_hid F)
  refine kk _ (Nx.mk' (h' := h') (tk := s.toks) bB eE) ?_
  refine ⟨F.sc_eq, F.kind, F.gl, F.bi, F.nodup, by rw [List.length_set]; exact F.len, F.xl, ?_, fun j z hj => ?_, F.apart⟩
  · obtain ⟨m, hm, hl⟩ := F.loc
    refine ⟨m, hm.sameBut hs (Ne.symm h3), fun j z u hj hu => ?_⟩
    rcases set_get hu with ⟨rfl, rfl⟩ | ⟨_, hu⟩
    · rw [hi] at hj; cases hj
    · obtain ⟨q, h6, h7⟩ := hl j z u hj hu
      exact ⟨q, h6, VRel.mono hz _ _ h7⟩
  · obtain ⟨d, q, k1, k2, k3, k4, k5⟩ := F.cel j z hj
    by_cases e : d = c
    · subst e
      obtain rfl := F.apart i j x z d hi hj h1 k1
      obtain rfl := idx_unique F.nodup hi hj
      refine ⟨d, _, k1, k2, k3, hc, fun u hu => ?_⟩
      rcases set_get hu with ⟨_, rfl⟩ | ⟨ne, _⟩
      · exact ⟨y, rfl, VRel.mono hz _ _ hv⟩
      · exact absurd rfl ne
    · refine ⟨d, q, k1, k2, k3, k4.sameBut hs e, fun u hu => ?_⟩
      rcases set_get hu with ⟨rfl, rfl⟩ | ⟨_, hu⟩
      · rw [hi] at hj; cases hj
        rw [h1] at k1; cases k1; exact absurd rfl e
      · obtain ⟨r, h6, h7⟩ := k5 u hu
        exact ⟨r, h6, VRel.mono hz _ _ h7⟩
/- ### targets -/
theorem aA_local {x : Str} {pos : Pos} {i : Nat} {v : V} {Q : Ro → St → Prop} (hs : autoParam (slot sc x = some (i, NameKind.local)) tRfl) (h : Q (ρ.set i (some v)) σ) : aA W n sc ρ σ (.Name x pos) v Q :=
  fun X env A s y rm B F hv E K kk => wpAny_assign_Name (store_local (slot_get hs) B F hv fun s' nx F' => kk _ _ s' nx F' h)
theorem aA_cell {x : Str} {pos : Pos} {i : Nat} {v : V} {Q : Ro → St → Prop} (hs : autoParam (slot sc x = some (i, NameKind.cell)) tRfl) (h : Q (ρ.set i (some v)) σ) : aA W n sc ρ σ (.Name x pos) v Q :=
  fun X env A s y rm B F hv E K kk => wpAny_assign_Name (store_cell (slot_get hs) B F hv fun s' nx F' => kk _ _ s' nx F' h)
theorem aAs_nil {Q : Ro → St → Prop} (h : Q ρ σ) : aAs W n sc ρ σ [] [] Q := fun X env A s xs rm B F hv E K kk => by
  obtain rfl := hv
  exact wpAny_pure (kk _ _ s (.refl B) F h)
noncomputable abbrev KAAs (W : Wd) (n : Nat) (sc : Scope) (ts : List Expr) (vs : List V) (Q : Ro → St → Prop) : Ro → St → Prop := fun ρ σ => aAs W n sc ρ σ ts vs Q
theorem aAs_cons {t : Expr} {ts : List Expr} {v : V} {vs : List V} {Q : Ro → St → Prop} (h : aA W n sc ρ σ t v (KAAs W n sc ts vs Q))
    (he : autoParam (∀ env, assignEach (t :: ts) env = (false, assign t env) :: assignEach ts env) tRfl1) : aAs W n sc ρ σ (t :: ts) (v :: vs) Q := fun X env A s xs rm B F hv E K kk => by
  obtain ⟨y, ys, rfl, h1, h2⟩ := hv
  rw [he env]
  show wpAny _ _ (holding ys (assign t env y) >>= fun _ => assignInOrder ((assignEach ts env).map (·.2)) ys) _ _ _
  refine wpAny_bind (wpAny_holding (h X env A s y rm B F h1 E _ fun ρ' σ' s' nx F' hq => ?_))
  exact hq X env A s' ys rm nx.2.1 F' (VRels.mono (nx.2.2.fz (frF_hid F)) _ _ h2) E K fun ρ'' σ'' s'' nx' F'' q => kk _ _ s'' (nx.trans nx') F'' q
theorem assignEach_plain {ts : List Expr} {env : Env} (h : ts.all (fun t => match t with | .Starred .. => false | _ => true) = true) : (assignEach ts env).length = ts.length ∧ (assignEach ts env).findIdx? (·.1) = none := by
  induction ts with
  | nil => exact ⟨rfl, rfl⟩
  | cons t ts ih =>
    have hh := List.all_eq_true.mp h
    have ih := ih (List.all_eq_true.mpr fun x hx => hh x (.tail _ hx))
    have ht := hh t (.head _)
    have e : assignEach (t :: ts) env = (false, assign t env) :: assignEach ts env := by cases t <;> first | rfl | exact Bool.noConfusion ht
    rw [e]
    exact ⟨congrArg (· + 1) ih.1, by rw [List.findIdx?_cons, ih.2]; rfl⟩
theorem aA_tuple {ts : List Expr} {k : Nat} {pos : Pos} {vs : List V} {Q : Ro → St → Prop} (hlen : autoParam (ts.length = vs.length) tRfl) (h : aAs W n sc ρ σ ts vs Q)
    (hp : autoParam (ts.all (fun t => match t with | .Starred .. => false | _ => true) = true) tRfl) : aA W n sc ρ σ (.Tuple ts k pos) (.tup vs) Q := fun X env A s x rm B F hv E K kk => by
  obtain ⟨a, o, xs, m, rfl, hz, hto, hr⟩ := hv
  have hl := hr.length
  obtain ⟨e1, e2⟩ := assignEach_plain (env := env) hp
  refine wpAny_assign_Tuple rm.1 (isTuple_of hz.1 hto) (by rw [e1]; simp [hl, hlen]) e2 fun h' he => ?_
  have hk : ∀ b o, s.heap.get? b = some o → h'.get? b = some o := fun b o e => he b o (Nat.ne_of_lt (Heap.lt_size e)) e
  obtain ⟨eE, bB⟩ := B.keep hk
  have nx : Nx W X (frF env sc) σ s σ { s with heap := h' } := Nx.mk' (tk := s.toks) bB eE.weak
  refine h X env A _ xs.toArray.toList rm bB ((Nx.mk' (F := noF) (tk := s.toks) bB eE).fram B F) (by simpa using VRels.mono eE.fz0 _ _ hr) E K fun ρ' σ' s' nx' F' q => kk _ _ s' (nx.trans nx') F' q
/- ### statements -/
theorem ss_nil {Q : Fl → Ro → St → Prop} (h : Q .next ρ σ) : aSs W n sc ρ σ [] Q := fun X env A s rm B F E K kk => wpAny_execs_nil (kk .next _ _ _ _ (.refl B) F rfl h)
noncomputable def aSt (W : Wd) (n : Nat) (sc : Scope) (ρ : Ro) (σ : St) (st : Stmt) (Q : Fl → Ro → St → Prop) : Prop := aS (α := Unit) W n sc ρ σ (fun env => exec st env) Q
noncomputable abbrev KSeq (W : Wd) (n : Nat) (sc : Scope) (rest : List Stmt) (Q : Fl → Ro → St → Prop) : Fl → Ro → St → Prop := fun fl ρ σ => match fl with
  | .next => aSs W n sc ρ σ rest Q
  | fl => Q fl ρ σ
noncomputable abbrev KSs (W : Wd) (n : Nat) (sc : Scope) (rest : List Stmt) (Q : Fl → Ro → St → Prop) : Ro → St → Prop := fun ρ σ => aSs W n sc ρ σ rest Q
noncomputable abbrev KAsg (W : Wd) (n : Nat) (sc : Scope) (ρ : Ro) (t : Expr) (rest : List Stmt) (Q : Fl → Ro → St → Prop) : V → St → Prop := fun v σ => aA W n sc ρ σ t v (KSs W n sc rest Q)
noncomputable abbrev KRet (ρ : Ro) (Q : Fl → Ro → St → Prop) : V → St → Prop := fun v σ => Q (.ret v) ρ σ
noncomputable abbrev KExp (W : Wd) (n : Nat) (sc : Scope) (ρ : Ro) (rest : List Stmt) (Q : Fl → Ro → St → Prop) : V → St → Prop := fun v σ => v = .none ∧ aSs W n sc ρ σ rest Q
noncomputable abbrev KIf (W : Wd) (n : Nat) (sc : Scope) (ρ : Ro) (b o : List Stmt) (Q : Fl → Ro → St → Prop) : Bool → St → Prop := fun c σ => aSs W n sc ρ σ (if c = true then b else o) Q
noncomputable abbrev KSw2 (W : Wd) (n : Nat) (sc : Scope) (ρ : Ro) (i j : Nat) (rest : List Stmt) (Q : Fl → Ro → St → Prop) : V → St → Prop := fun v σ => Is2 (fun a b => aSs W n sc ((ρ.set j (some b)).set i (some a)) σ rest Q) v
noncomputable abbrev KWhQ (W : Wd) (n : Nat) (sc : Scope) (rest : List Stmt) (Q : Fl → Ro → St → Prop) (I : Nat → Ro → St → Prop) (k : Nat) : Fl → Ro → St → Prop := fun fl ρ σ => match fl with
  | .next => ∃ m, m < k ∧ I m ρ σ
  | .cont => ∃ m, m < k ∧ I m ρ σ
  | .brk => aSs W n sc ρ σ rest Q
  | .ret v => Q (.ret v) ρ σ
noncomputable abbrev KWh (W : Wd) (n : Nat) (sc : Scope) (ρ : Ro) (b rest : List Stmt) (Q : Fl → Ro → St → Prop) (I : Nat → Ro → St → Prop) (k : Nat) : Bool → St → Prop := fun c σ => if c = true then aSs W n sc ρ σ b (KWhQ W n sc rest Q I k) else aSs W n sc ρ σ rest Q
theorem ss_cons {st : Stmt} {rest : List Stmt} {Q : Fl → Ro → St → Prop} (h : aSt W n sc ρ σ st (KSeq W n sc rest Q)) : aSs W n sc ρ σ (st :: rest) Q :=
  fun X env A s rm B F E K kk => wpAny_execs_cons (h X env A s rm B F E _ fun fl f ρ' σ' s' nx F' rf hq => by
    cases fl with
    | next =>
      obtain rfl := rf
      exact hq X env A s' rm nx.2.1 F' E K fun fl f ρ'' σ'' s'' nx' F'' rf q => kk fl f ρ'' σ'' s'' (nx.trans nx') F'' rf q
    | brk => obtain rfl := rf; exact kk .brk .brk _ _ _ nx F' rfl hq
    | cont => obtain rfl := rf; exact kk .cont .cont _ _ _ nx F' rfl hq
    | ret v => obtain ⟨x, rfl, hx⟩ := rf; exact kk (.ret v) (.ret x) _ _ _ nx F' ⟨x, rfl, hx⟩ hq)
theorem ss_mono {ss : List Stmt} {Q Q' : Fl → Ro → St → Prop} (h : aSs W n sc ρ σ ss Q) (hq : ∀ fl ρ' σ', Q fl ρ' σ' → Q' fl ρ' σ') : aSs W n sc ρ σ ss Q' :=
  fun X env A s rm B F E K kk => h X env A s rm B F E K fun fl f ρ' σ' s' nx F' rf q => kk fl f ρ' σ' s' nx F' rf (hq _ _ _ q)
/- x = e -/
theorem ss_assign {t e : Expr} {pos : Pos} {rest : List Stmt} {Q : Fl → Ro → St → Prop} (h : aE W n sc ρ σ e (KAsg W n sc ρ t rest Q))
    (hs : autoParam (∀ env, swapsWithSole [t] e pos.line env = pure false) tRfl1) (hw : autoParam (∀ env, env.scope = sc → swappedStores [t] e env = pure none) tSw)
    (ht : autoParam ((match t with | .Starred .. => false | _ => true) = true) tRfl) : aSs W n sc ρ σ (.Assign [t] e pos :: rest) Q := ss_cons fun X env A s rm B F E K kk => by
  refine wpAny_Assign_stores (h X env A s rm B F E _ fun v x σ' s' nx rv hq => ?_) (hs env) (hw env F.sc_eq)
  have e1 : ∀ y, assignAll y ((assignEach [t] env).map (·.2)) = assign t env y := by intro y; cases t <;> first | rfl | cases ht
  rw [e1]
  exact hq X env A s' x rm nx.2.1 (nx.fram B F) rv E _ fun ρ' σ'' s'' nx' F' q => kk .next .next ρ' σ'' s'' (nx.weak.trans nx') F' rfl q
/- a, b = (e, f), two locals on a line: stored from behind -/
theorem ss_swap2 {x y : Str} {p q p2 pos : Pos} {k : Nat} {i j : Nat} {e : Expr} {rest : List Stmt} {Q : Fl → Ro → St → Prop} (hx : slot sc x = some (i, NameKind.local)) (hy : slot sc y = some (j, NameKind.local))
    (h : aE W n sc ρ σ e (KSw2 W n sc ρ i j rest Q))
    (hs : autoParam (∀ env, swapsWithSole [.Tuple [.Name x p, .Name y q] k p2] e pos.line env = pure false) tRfl1)
    (hw : autoParam (∀ env, env.scope = sc → swappedStores [.Tuple [.Name x p, .Name y q] k p2] e env = pure (some [x, y])) tSw) :
    aSs W n sc ρ σ (.Assign [.Tuple [.Name x p, .Name y q] k p2] e pos :: rest) Q := ss_cons fun X env A s rm B F E K kk => by
  show wpAny _ _ (exec _ _) _ _ _
  rw [exec_Assign_arm]
  refine wpAny_bind (wpAny_standAt ?_)
  rw [hs env]
  refine wpAny_bind (wpAny_pure ?_)
  simp only [Bool.false_eq_true, if_false]
  refine wpAny_bind (h X env A s rm B F E _ fun v x' σ' s' nx rv hq => ?_)
  obtain ⟨a, b, rfl, hq⟩ := hq
  rw [hw env F.sc_eq]
  refine wpAny_bind (wpAny_pure ?_)
  obtain ⟨t, o, xs, m, rfl, hz, hto, hr⟩ := rv
  obtain ⟨ya, yb, rfl, ha, hb⟩ := vrels2 hr
  unfold assignStores
  refine wpAny_bind (wpAny_rule (wpAny_bind ?_))
  show wpAny _ _ (unpackItems (.ref t) 2 none) _ _ _
  refine wpAny_unpackItems_tuple (items := #[ya, yb]) rm.1 (isTuple_of hz.1 hto) fun h' he => ?_
  have hk : ∀ b o, s'.heap.get? b = some o → h'.get? b = some o := fun b o e => he b o (Nat.ne_of_lt (Heap.lt_size e)) e
  obtain ⟨eE, bB⟩ := nx.2.1.keep hk
  have nx1 : Nx W X noF σ' s' σ' { s' with heap := h' } := Nx.mk' (tk := s'.toks) bB eE
  have F1 := nx1.fram nx.2.1 (nx.fram B F)
  refine wpAny_bind ?_
  show wpAny _ _ (holding [ya] (bindName env y yb) >>= fun _ => holding [] (bindName env x ya) >>= fun _ => pure ()) _ _ _
  refine wpAny_bind (wpAny_holding (wpAny_bindName (store_local (slot_get hy) bB F1 (VRel.mono eE.fz0 _ _ hb) fun s2 nx2 F2 => ?_)))
  refine wpAny_bind (wpAny_holding (wpAny_bindName (store_local (slot_get hx) nx2.2.1 F2 (VRel.mono (nx2.2.2.fz (frF_hid F1)) _ _ (VRel.mono eE.fz0 _ _ ha)) fun s3 nx3 F3 => ?_)))
  exact wpAny_pure (wpAny_pure (kk .next .next _ _ s3 (((nx.trans nx1).weak.trans nx2).trans nx3) F3 rfl hq))
theorem ss_if {t : Expr} {b o : List Stmt} {pos : Pos} {rest : List Stmt} {Q : Fl → Ro → St → Prop}
    (h : aT W n sc ρ σ t (KIf W n sc ρ b o (KSeq W n sc rest Q))) :
    aSs W n sc ρ σ (.If t b o pos :: rest) Q := ss_cons fun X env A s rm B F E K kk => by
  refine wpAny_If (h X env A s rm B F E _ fun c a σ' s' nx rb hq => ?_)
  obtain rfl : a = c := rb
  have := hq X env A s' rm nx.2.1 (nx.fram B F) E K fun fl f ρ' σ'' s'' nx' F' rf q => kk fl f ρ' σ'' s'' (nx.weak.trans nx') F' rf q
  cases a <;> simpa using this
theorem ss_ret {e : Expr} {pos : Pos} {rest : List Stmt} {Q : Fl → Ro → St → Prop} (h : aE W n sc ρ σ e (KRet ρ Q)) : aSs W n sc ρ σ (.Return (some e) pos :: rest) Q := ss_cons fun X env A s rm B F E K kk =>
  wpAny_Return_some (h X env A s rm B F E _ fun v x σ' s' nx rv hq => kk (.ret v) (.ret x) ρ σ' s' nx.weak (nx.fram B F) ⟨x, rfl, rv⟩ hq)
theorem ss_ret0 {pos : Pos} {rest : List Stmt} {Q : Fl → Ro → St → Prop} (h : Q (.ret .none) ρ σ) : aSs W n sc ρ σ (.Return none pos :: rest) Q := ss_cons fun X env A s rm B F E K kk =>
  wpAny_Return_none (kk (.ret .none) (.ret .none) ρ σ s (.refl B) F ⟨_, rfl, by simp only [VRel]⟩ h)
/- an expression whose value is dropped: no reference -/
theorem ss_expr {e : Expr} {pos : Pos} {rest : List Stmt} {Q : Fl → Ro → St → Prop} (h : aE W n sc ρ σ e (KExp W n sc ρ rest Q))
    (hi : autoParam (sc.kind = .function) tRfl) (hs : autoParam (∀ env, swapsWith e none pos.line env = pure false) tRfl1) : aSs W n sc ρ σ (.Expr e pos :: rest) Q := ss_cons fun X env A s rm B F E K kk =>
  wpAny_Expr (h X env A s rm B F E _ fun v x σ' s' nx rv hq => by
    obtain ⟨rfl, hq⟩ := hq
    obtain rfl := rv
    exact kk .next .next ρ σ' s' nx.weak (nx.fram B F) rfl hq) (by unfold interactive; rw [F.sc_eq, hi]; rfl) (hs env)
theorem ss_while {t : Expr} {b : List Stmt} {pos : Pos} {rest : List Stmt} {Q : Fl → Ro → St → Prop} (I : Nat → Ro → St → Prop) (k : Nat) (h0 : I k ρ σ)
    (step : ∀ k ρ σ, I k ρ σ → aT W n sc ρ σ t (KWh W n sc ρ b rest Q I k)) :
    aSs W n sc ρ σ (.While t b [] pos :: rest) Q := ss_cons fun X env A s rm B F E K kk => by
  refine wpAny_While (codeAny_whileLoop (fun k s' => ∃ ρ' σ', Nx W X (frF env sc) σ s σ' s' ∧ Fram W X sc ρ' env (Fz X σ' s'.heap) s'.heap ∧ I k ρ' σ') ?_ k ⟨ρ, σ, .refl B, F, h0⟩)
  rintro k s1 ⟨ρ1, σ1, nx1, F1, hI⟩
  refine step k ρ1 σ1 hI X env A s1 rm nx1.2.1 F1 _ _ fun c a σ2 s2 nx2 rb hq => ?_
  obtain rfl : a = c := rb
  have F2 := nx2.fram nx1.2.1 F1
  cases a with
  | true =>
    simp only [if_true] at hq ⊢
    refine hq X env A s2 rm nx2.2.1 F2 _ _ fun fl f ρ3 σ3 s3 nx3 F3 rf hq3 => ?_
    have nn := (nx1.trans nx2.weak).trans nx3
    cases fl with
    | next => obtain rfl := rf; obtain ⟨m, hm, hi⟩ := hq3; exact ⟨m, hm, ρ3, σ3, nn, F3, hi⟩
    | cont => obtain rfl := rf; obtain ⟨m, hm, hi⟩ := hq3; exact ⟨m, hm, ρ3, σ3, nn, F3, hi⟩
    | brk => obtain rfl := rf; exact kk .next .next _ _ _ nn F3 rfl hq3
    | ret v => obtain ⟨x, rfl, hx⟩ := rf; exact kk (.ret v) (.ret x) _ _ _ nn F3 ⟨x, rfl, hx⟩ hq3
  | false =>
    simp only [Bool.false_eq_true, if_false] at hq ⊢
    exact wpAny_execs_nil (kk .next .next _ _ _ (nx1.trans nx2.weak) F2 rfl hq)
end
/- part A7 -/
noncomputable def Kp (W : Wd) (f : Value) : Prop := ∀ h : Heap, (∀ b o, W.h0.get? b = some o → h.get? b = some o) → ∃ k, (k = Keeper.frame ∨ k = Keeper.machine ∨ k = Keeper.boundFrame) ∧ Looks W.M h (keeperOf f) k
theorem Kp.builtin (W : Wd) (i : String) : Kp W (.builtin i) := fun h _ => ⟨.machine, .inr (.inl rfl), Looks.of_pure rfl⟩
theorem Kp.type (W : Wd) (i : String) : Kp W (.type i) := fun h _ => ⟨.machine, .inr (.inl rfl), Looks.of_pure rfl⟩
theorem Kp.fn {W : Wd} {f : Value} (e : keepIn W.K f = true) : Kp W f := fun h hk => by
  obtain ⟨k, a, b⟩ := looks_keep (M := W.M) e (W.KIn.keeps hk)
  exact ⟨k, a.elim .inl (fun e => .inr (.inl e)), b⟩
noncomputable abbrev acall (W : Wd) (n : Nat) (f : Value) (vs : List V) (σ : St) (Q : V → St → Prop) : Prop := aO W n σ vs (fun xs => call f xs []) (VRel W) Q
noncomputable def acode (W : Wd) (n : Nat) (f : Value) (vs : List V) (σ : St) (Q : V → St → Prop) : Prop :=
  ∀ (X : Addr → Prop) (A : Around) (s : Shared) (xs : List Value), Room n A → Bears W X σ s.heap → VRels W (Fz X σ s.heap) vs xs → ∀ R : Result → Shared → Prop,
    (∀ b a σ' s', Nx W X noF σ s σ' s' → VRel W (Fz X σ' s'.heap) b a → Q b σ' → R (.ok (.ret a)) s') → codeAny W.M A (.call f ⟨xs, []⟩) R s
theorem acall_of_code {W : Wd} {n : Nat} {f : Value} {vs : List V} {σ : St} {Q : V → St → Prop} (h : acode W n f vs σ Q) : acall W n f vs σ Q :=
  fun X A s xs rm B rv E K kk => wpAny_call (h X A s xs rm B rv _ fun b a σ' s' nx rb q => kk b a σ' s' nx rb q)
structure FnOk (W : Wd) (f : Value) (ps : List Str) (body : List Stmt) (sc : Scope) : Prop where
  ex : ∃ a o fd, f = .ref a ∧ W.h0.get? a = some o ∧ o.data = .func fd ∧ W.h0.CodeRec fd.code fd.qualname ∧ fd.body = .stmts body ∧ fd.scope = sc ∧ fd.closure = [] ∧ fd.globals = mainGlobals ∧
    fd.builtins = builtinsNs ∧ ∀ xs : List Value, xs.length = ps.length → bindArgs fd ⟨xs, []⟩ = pure (ps.zip xs)
  co : sc.isCoroutine = false
  gen : sc.isGenerator = false
  kind : sc.kind = .function
  kp : Kp W f
noncomputable def lkp (x : Str) : List Str → List V → Option V
  | p :: ps, v :: vs => if x = p then some v else lkp x ps vs
  | _, _ => none
theorem lkp_eq {x : Str} : ∀ {ps : List Str} {vs : List V}, lkp x ps vs = (ps.zip vs).lookup x
  | [], _ => by simp [lkp]
  | p :: ps, [] => by simp [lkp]
  | p :: ps, v :: vs => by
    unfold lkp
    rw [List.zip_cons_cons, List.lookup_cons]
    by_cases e : x = p
    · subst e; simp
    · have : (x == p) = false := by simpa using e
      rw [if_neg e, this]; exact lkp_eq
noncomputable def iro (ps : List Str) (vs : List V) (names : List (Str × NameKind)) : Ro := names.map fun p => lkp p.1 ps vs
section
theorem bindL_other {k : Str → Option NameKind} : ∀ {binds : List (Str × Value)} {m : Str → Option Value} {x : Str}, x ∉ binds.map (·.1) → bindL k binds m x = m x
  | [], _, _, _ => rfl
  | (y, v) :: r, m, x, h => by
    simp only [List.map_cons, List.mem_cons, not_or] at h
    unfold bindL
    rw [bindL_other h.2]
    split
    · simp [h.1]
    · rfl
theorem bindC_other {k : Str → Option NameKind} : ∀ {binds : List (Str × Value)} {m : Str → Option Value} {x : Str}, x ∉ binds.map (·.1) → bindC k binds m x = m x
  | [], _, _, _ => rfl
  | (y, v) :: r, m, x, h => by
    simp only [List.map_cons, List.mem_cons, not_or] at h
    unfold bindC
    rw [bindC_other h.2]
    split
    · rfl
    · simp [h.1]
theorem zip_keys_sub {α β : Type} : ∀ {ps : List α} {xs : List β} {x : α}, x ∈ (ps.zip xs).map (·.1) → x ∈ ps
  | [], _, _, h => by simp at h
  | p :: ps, [], _, h => by simp at h
  | p :: ps, y :: ys, x, h => by
    simp only [List.zip_cons_cons, List.map_cons, List.mem_cons] at h ⊢
    exact h.imp id zip_keys_sub
theorem bindL_get {W : Wd} {Z} {k : Str → Option NameKind} : ∀ {ps : List Str} {vs : List V} {xs : List Value} {m : Str → Option Value} {x : Str} {v : V}, ps.Nodup → VRels W Z vs xs → k x = some .local → (ps.zip vs).lookup x = some v →
    ∃ y, bindL k (ps.zip xs) m x = some y ∧ VRel W Z v y
  | [], _, _, _, _, _, _, _, _, h => by simp at h
  | p :: ps, [], _, _, _, _, _, _, _, h => by simp at h
  | p :: ps, u :: vs, _, m, x, v, hn, hr, hk, h => by
    obtain ⟨y, ys, rfl, h1, h2⟩ := hr
    rw [List.nodup_cons] at hn
    simp only [List.zip_cons_cons, List.lookup_cons] at h ⊢
    unfold bindL
    cases e : x == p with
    | true =>
      rw [e] at h; simp only at h; cases h
      have e' : x = p := eq_of_beq e
      subst e'
      rw [bindL_other fun q => hn.1 (zip_keys_sub q), if_pos hk]
      exact ⟨y, by simp, h1⟩
    | false =>
      rw [e] at h
      exact bindL_get hn.2 h2 hk h
theorem bindC_get {W : Wd} {Z} {k : Str → Option NameKind} : ∀ {ps : List Str} {vs : List V} {xs : List Value} {m : Str → Option Value} {x : Str} {v : V}, ps.Nodup → VRels W Z vs xs → k x = some .cell → (ps.zip vs).lookup x = some v →
    ∃ y, bindC k (ps.zip xs) m x = some y ∧ VRel W Z v y
  | [], _, _, _, _, _, _, _, _, h => by simp at h
  | p :: ps, [], _, _, _, _, _, _, _, h => by simp at h
  | p :: ps, u :: vs, _, m, x, v, hn, hr, hk, h => by
    obtain ⟨y, ys, rfl, h1, h2⟩ := hr
    rw [List.nodup_cons] at hn
    simp only [List.zip_cons_cons, List.lookup_cons] at h ⊢
    unfold bindC
    cases e : x == p with
    | true =>
      rw [e] at h; simp only at h; cases h
      have e' : x = p := eq_of_beq e
      subst e'
      rw [bindC_other fun q => hn.1 (zip_keys_sub q), if_neg (by rw [hk]; simp)]
      exact ⟨y, by simp, h1⟩
    | false =>
      rw [e] at h
      exact bindC_get hn.2 h2 hk h
end
noncomputable def flv : Fl → V
  | .ret v => v
  | _ => .none
section
variable {W : Wd} {n : Nat} {sc : Scope} {ρ : Ro} {σ : St}
noncomputable abbrev KFlv (Q : V → St → Prop) : Fl → Ro → St → Prop := fun fl _ σ => Q (flv fl) σ
theorem acode_def {f : Value} {ps : List Str} {body : List Stmt} {sc : Scope} {vs : List V} {ρ0 : Ro} {Q : V → St → Prop} (hf : FnOk W f ps body sc) (hρ : iro ps vs sc.names = ρ0) (h : aSs W n sc ρ0 σ body (KFlv Q))
    (hlen : autoParam (vs.length = ps.length) tRfl) (hnd : autoParam (ps.Nodup) tDec) (hk : autoParam ((ps.all fun p => sc.names.lookup p == some .local || sc.names.lookup p == some .cell) = true) tDec) (hnn : autoParam ((sc.names.map (·.1)).Nodup) tDec) :
    acode W (n + 1) f vs σ Q := fun X A s xs rm B rv R kk => by
  obtain ⟨⟨a, o, fdd, rfl, ho, hdat, hcr, hbody, hsc, hclo, hgl, hbi, hbind⟩, hco, hgen, hkind, hkp⟩ := hf
  have hxl : xs.length = ps.length := rv.length.trans hlen
  subst hsc
  have hkinds : ∀ y ∈ ps.zip xs, fdd.scope.names.lookup y.1 = some .local ∨ (fdd.scope.names.lookup y.1 = some .cell ∧ ((cellsFrom (s.heap.objs.size + 1) fdd.scope.names []).lookup y.1).isSome = true) := by
    intro y hy
    have hp : y.1 ∈ ps := zip_keys_sub (List.mem_map_of_mem hy)
    have := List.all_eq_true.mp hk _ hp
    rcases Bool.or_eq_true_iff.mp this with q | q
    · exact .inl (by simpa using q)
    · have q' : fdd.scope.names.lookup y.1 = some .cell := by simpa using q
      exact .inr ⟨q', cellsFrom_some _ _ _ (.inl q')⟩
  refine codeAny_call_cells (by have := rm.2.1; (first | lia | omega)) (B.keeps _ _ ho) hdat (W.nolimit.keeps B.keeps) (hcr.keeps B.keeps) hbody (hbind xs hxl) hclo hkinds (fun s₁ ic => ?_) hco hgen hkind
  set_option linter.unusedVariables false in
  have hF : ∀ env, env = callEnvC fdd s.heap.objs.size a → InCallC s env.locals (bindL env.kindOf (ps.zip xs) fun _ => none) env.cells (bindC env.kindOf (ps.zip xs) fun _ => none) s₁ →
      wpAny W.M (A.deeper env) (execs body env) (fun f s' => R (.ok (.ret (match f with | .ret v => v | _ => .none))) s')
        (fun e s' => wpAny W.M (A.deeper env) (leaving env e) (fun _ s'' => R (.error e) s'') (fun e' s'' => R (.error e') s'') s') s₁ := by
    intro env henv ic
    obtain ⟨hI, hcell, hap, habove⟩ := ic
    obtain ⟨⟨h1, tk1, rfl⟩, hns, hkeep, hfr⟩ := hI
    have fresh : ∀ c, s.heap.objs.size ≤ c → s.heap.get? c = none := fun c hc => by
      cases e : s.heap.get? c with
      | none => rfl
      | some o => exact absurd (Heap.lt_size e) (Nat.not_lt.mpr hc)
    let X' : Addr → Prop := fun a => X a ∨ a = env.locals ∨ ∃ m, env.cells.lookup m = some a
    have cfresh : ∀ m c, (m, c) ∈ env.cells → s.heap.get? c = none := fun m c hc => fresh c (Nat.le_trans hfr (Nat.le_of_lt (habove m c hc)))
    have newF : ∀ c, (c = env.locals ∨ ∃ m, env.cells.lookup m = some c) → s.heap.get? c = none := by
      rintro c (rfl | ⟨m, hm⟩)
      · exact fresh _ hfr
      · exact cfresh m c (PySem.mem_of_lookup hm)
    obtain ⟨e1, B1⟩ := B.keep hkeep
    have hz : ∀ a o, Fz X σ s.heap a o → Fz X' σ h1 a o := fun a o e => by
      refine ⟨hkeep _ _ e.1, ?_, e.2.2⟩
      rintro (q | q)
      · exact e.2.1 q
      · have := newF a q; rw [e.1] at this; cases this
    have B2 : Bears W X' σ h1 := B1.hide (fun a q => .inl q) (by
        rintro c (q | rfl | ⟨m, hm⟩)
        · exact B1.xex c q
        · obtain ⟨o, _, _, ho, _⟩ := hns; exact ⟨o, ho⟩
        · obtain ⟨o, ho, _⟩ := hcell m c hm; exact ⟨o, ho⟩) (by
        rintro c hc (q | q)
        · exact B1.hid c hc q
        · obtain ⟨o, ho⟩ := B.ex hc; have := newF c q; rw [ho] at this; cases this) (by
        rintro b o e (q | q)
        · exact (B.base b o e).2.2 q
        · have := newF b q; rw [(B.base b o e).1] at this; cases this) (fun p hp => (B.objs p hp).mono hz fun b _ o e => hkeep b o e)
    have hsce : env.scope = fdd.scope := by rw [henv]; rfl
    have hcells : env.cells = cellsFrom (s.heap.objs.size + 1) fdd.scope.names [] := by rw [henv]; rfl
    have F : Fram W X' fdd.scope ρ0 env (Fz X' σ h1) h1 := by
      refine ⟨hsce, hkind, by rw [henv]; exact hgl, by rw [henv]; exact hbi, hnn, by rw [← hρ]; simp [iro], .inr (.inl rfl), ⟨_, hns, fun i x v hi hv => ?_⟩, fun i x hi => ?_, fun i j x y c _ _ hx hy => ?_⟩
      · have hkx : env.kindOf x = some .local := by unfold Env.kindOf; rw [hsce]; exact lookup_of_get hnn hi
        have hl : (ps.zip vs).lookup x = some v := by
          rw [← hρ, iro, List.getElem?_map, hi] at hv; simpa [lkp_eq] using hv
        exact bindL_get hnd (VRels.mono hz _ _ rv) hkx hl
      · have hkx : env.kindOf x = some .cell := by unfold Env.kindOf; rw [hsce]; exact lookup_of_get hnn hi
        have hlk : (env.cells.lookup x).isSome = true := by rw [hcells]; exact cellsFrom_some _ _ _ (.inl (lookup_of_get hnn hi))
        obtain ⟨c, hc⟩ := Option.isSome_iff_exists.mp hlk
        have hm := PySem.mem_of_lookup hc
        refine ⟨c, _, hc, .inr (.inr ⟨x, hc⟩), Nat.ne_of_gt (habove x c hm), hcell x c hc, fun v hv => ?_⟩
        have hl : (ps.zip vs).lookup x = some v := by
          rw [← hρ, iro, List.getElem?_map, hi] at hv; simpa [lkp_eq] using hv
        exact bindC_get hnd (VRels.mono hz _ _ rv) hkx hl
      · exact name_of_addr hap (PySem.mem_of_lookup hx) (PySem.mem_of_lookup hy)
    have rm' : Room n (A.deeper env) := ⟨rm.1, by have := rm.2.1; show A.depth + 1 + 3 * n + 3 < _; (first | lia | omega), by have := rm.2.2; show A.units + 3 + 20 * n + 100 < _; (first | lia | omega)⟩
    refine h X' env (A.deeper env) _ rm' B2 F _ _ fun fl f ρ' σ' s' nx F' rf q => ?_
    have hex : Ext noF σ s.heap σ' s'.heap := fun a o e _ no => by
      refine nx.2.2 a o (hkeep a o e) ?_ no
      rintro (rfl | ⟨i, x, hi, hc⟩)
      · have := newF _ (.inl rfl); rw [e] at this; cases this
      · have := newF a (.inr ⟨x, hc⟩); rw [e] at this; cases this
    have nx' : Nx W X noF σ s σ' s' := by
      obtain ⟨⟨h2, tk2, rfl⟩, b2, _⟩ := nx
      exact ⟨⟨h2, tk2, rfl⟩, b2.show fun a q => .inl q, hex⟩
    have dn : ∀ a o, Fz X' σ' s'.heap a o → Fz X σ' s'.heap a o := fun a o e => ⟨e.1, fun q => e.2.1 (.inl q), e.2.2⟩
    cases fl with
    | ret v => obtain ⟨x, rfl, hx⟩ := rf; exact kk v x σ' s' nx' (VRel.mono dn _ _ hx) q
    | next => obtain rfl := rf; exact kk .none .none σ' s' nx' (by simp only [VRel]) q
    | brk => obtain rfl := rf; exact kk .none .none σ' s' nx' (by simp only [VRel]) q
    | cont => obtain rfl := rf; exact kk .none .none σ' s' nx' (by simp only [VRel]) q
  exact hF _ rfl ic
theorem acall_def {f : Value} {ps : List Str} {body : List Stmt} {sc : Scope} {vs : List V} {ρ0 : Ro} {Q : V → St → Prop} (hf : FnOk W f ps body sc) (hρ : iro ps vs sc.names = ρ0) (h : aSs W n sc ρ0 σ body (KFlv Q))
    (hlen : autoParam (vs.length = ps.length) tRfl) (hnd : autoParam (ps.Nodup) tDec) (hk : autoParam ((ps.all fun p => sc.names.lookup p == some .local || sc.names.lookup p == some .cell) = true) tDec) (hnn : autoParam ((sc.names.map (·.1)).Nodup) tDec) :
    acall W (n + 1) f vs σ Q := acall_of_code (acode_def hf hρ h hlen hnd hk hnn)
end
/- part A8 -/
noncomputable def notStar : Expr → Bool
  | .Starred .. => false
  | _ => true
theorem starEach_plain {e : Expr} {es : List Expr} {env : Env} (h : notStar e = true) : starEach (e :: es) env = (false, eval e env) :: starEach es env := by
  cases e <;> first | rfl | cases h
theorem starEach_any {es : List Expr} {env : Env} {pos : Pos} (h : es.all notStar = true) : (backTo pos (starEach es env)).any (·.1) = false := by
  induction es with
  | nil => rfl
  | cons e es ih =>
    simp only [List.all_cons, Bool.and_eq_true] at h
    rw [starEach_plain h.1]
    show (false || (backTo pos (starEach es env)).any (·.1)) = false
    rw [ih h.2]; rfl
theorem starEach_all {es : List Expr} {env : Env} {pos : Pos} (h : es.all notStar = true) : (backTo pos (starEach es env)).all (fun x => !x.1) = true := by
  induction es with
  | nil => rfl
  | cons e es ih =>
    simp only [List.all_cons, Bool.and_eq_true] at h
    rw [starEach_plain h.1]
    show (true && (backTo pos (starEach es env)).all (fun x => !x.1)) = true
    rw [ih h.2]; rfl
section
variable {W : Wd} {n : Nat} {sc : Scope} {ρ : Ro} {σ : St}
theorem evalArgs_of {M : Model} {A : Around} {E : Value → Shared → Prop} {s : Shared} {f : Value} {es : List Expr} {env : Env} {pos : Pos} {Q : Args → Shared → Prop} (hs : es.all notStar = true)
    (h : wpAny M A (spliced (backTo pos (starEach es env))) (fun vs s' => Q ⟨vs, []⟩ s') E s) : wpAny M A (evalArgs f true (backTo pos (starEach es env)) []) Q E s := by
  cases es with
  | nil =>
    have h' : wpAny M A (spliced []) (fun vs s' => Q ⟨vs, []⟩ s') E s := h
    show wpAny M A (evalArgs f true [] []) Q E s
    unfold evalArgs
    show wpAny M A (spliced [] >>= _) Q E s
    refine wpAny_bind (wpAny_mono h' (fun vs s' h' => ?_) fun _ _ x => x)
    refine wpAny_holding ?_
    exact wpAny_bind (wpAny_pure (wpAny_bind (wpAny_pure (wpAny_pure h'))))
  | cons e es =>
    simp only [List.all_cons, Bool.and_eq_true] at hs
    rw [starEach_plain hs.1] at h ⊢
    exact evalArgs_plain h
/- a call through a callee's value -/
theorem callWith_a {X : Addr → Prop} {env : Env} {A : Around} {s : Shared} {f : Value} {first : List Value} {vs1 : List V} {args : List Expr} {p2 pos : Pos} {Q : V → St → Prop} (rm : Room n A) (B : Bears W X σ s.heap) (F : Fram W X sc ρ env (Fz X σ s.heap) s.heap)
    (hk : Kp W f) (h1 : VRels W (Fz X σ s.heap) vs1 first) (hs : args.all notStar = true) (h : aEs W n sc ρ σ args (fun vs σ' => acall W n f (vs1 ++ vs) σ' Q)) : aM W X noF A σ s (callWith p2 f first (backTo pos (starEach args env)) []) (VRel W) Q := fun E K kk => by
  refine callWith_of (P := fun h => ∀ b o, W.h0.get? b = some o → h.get? b = some o) (by rw [starEach_any hs]; rfl) (fun h' hP => hk h' hP) ?_
  refine evalArgs_of hs (h pos X env A s rm B F E _ fun vs xs σ' s' nx rvs hq => ⟨nx.2.1.keeps, ?_⟩)
  exact hq X A s' (first ++ xs) rm nx.2.1 (VRels.append (VRels.mono nx.2.2.fz0 _ _ h1) rvs) E K fun b a σ'' s'' nx' rb q => kk b a σ'' s'' (nx.trans nx') rb q
noncomputable abbrev KCall (W : Wd) (n : Nat) (f : Value) (Q : V → St → Prop) : List V → St → Prop := fun vs σ => acall W n f vs σ Q
inductive CallX (W : Wd) (n : Nat) (sc : Scope) (ρ : Ro) (args : List Expr) (Q : V → St → Prop) (fv : V) (σ : St) : Prop
  | mk (f : Value) (e : fv = .con f) (hk : Kp W f) (h : aEs W n sc ρ σ args (KCall W n f Q)) : CallX W n sc ρ args Q fv σ
theorem aE_call {x : Str} {p pos : Pos} {args : List Expr} {Q : V → St → Prop} (h : aE W n sc ρ σ (.Name x p) (CallX W n sc ρ args Q))
    (hs : autoParam (args.all notStar = true) tRfl) : aE W n sc ρ σ (.Call (.Name x p) args [] pos) Q := fun X env A s rm B F E K kk => by
  show wpAny _ _ (eval (.Call (.Name x p) args [] pos) env) _ _ _
  rw [arm_eval_Call_Name']
  refine wpAny_bind (h X env A s rm B F E _ fun fv y σ' s' nx rv hq => ?_)
  obtain ⟨f, rfl, hk, hq⟩ := hq
  obtain rfl := rv
  exact callWith_a (vs1 := []) rm nx.2.1 (nx.fram B F) hk VRels.nil hs hq E K fun b a σ'' s'' nx' rb q => kk b a σ'' s'' (nx.trans nx') rb q
/- ### instances -/
structure ClsOk (W : Wd) (C : Addr) : Prop where
  pg : plainGet W.K C "" = true
  hd : hasDictIn W.K C = true
  sa : findIn W.K (.ref C) "__setattr__" = some (some (.builtin "object.__setattr__"))
  po : plainOver W.K C = true
theorem attrs_get {Z : Addr → Obj → Prop} {name : Str} : ∀ {attrs : List (Str × V)} {es : List DictEntry}, AttrsRel W Z attrs es →
    (∀ v, attrs.lookup name = some v → ∃ y, getL name es = some (some y) ∧ VRel W Z v y) ∧ (attrs.lookup name = none → getL name es = some none) ∧ es.any (·.refKey) = false
  | [], es, h => by simp only [AttrsRel] at h; subst h; simp [getL]
  | (x, v) :: r, es, h => by
    simp only [AttrsRel] at h
    obtain ⟨hs, t, y, es', rfl, h1, h2⟩ := h
    obtain ⟨i1, i2, i3⟩ := attrs_get (name := name) h2
    have hr : (⟨hs, .str x t, y⟩ : DictEntry).refKey = false := rfl
    have hk : (⟨hs, .str x t, y⟩ : DictEntry).key.isStr name = (x == name) := rfl
    refine ⟨fun u hu => ?_, fun hu => ?_, by simp [List.any_cons, hr, i3]⟩
    · rw [List.lookup_cons] at hu
      by_cases e : name = x
      · subst e
        simp at hu; subst hu
        exact ⟨y, by unfold getL; rw [List.find?_cons, hk]; simp, h1⟩
      · have e1 : (name == x) = false := by simpa using e
        have e2 : (x == name) = false := by simpa using fun q : x = name => e q.symm
        rw [e1] at hu
        obtain ⟨z, h3, h4⟩ := i1 u hu
        refine ⟨z, ?_, h4⟩
        unfold getL at h3 ⊢
        rw [List.find?_cons, hk, e2]
        simp only [List.any_cons, hr, Bool.false_or] at h3 ⊢
        exact h3
    · rw [List.lookup_cons] at hu
      by_cases e : name = x
      · subst e; simp at hu
      · have e1 : (name == x) = false := by simpa using e
        have e2 : (x == name) = false := by simpa using fun q : x = name => e q.symm
        rw [e1] at hu
        have h3 := i2 hu
        unfold getL at h3 ⊢
        rw [List.find?_cons, hk, e2]
        simp only [List.any_cons, hr, Bool.false_or] at h3 ⊢
        exact h3
theorem inst_at {X : Addr → Prop} {h : Heap} (B : Bears W X σ h) {a C dx : Addr} {attrs : List (Str × V)} (hm : (a, .inst C dx attrs) ∈ σ) :
    ∃ es n, InstAt h a (instO C dx) C (some (dictOf es n)) ∧ AttrsRel W (Fz X σ h) attrs es := by
  obtain ⟨es, n, h1, h2, h3⟩ := B.rel hm
  exact ⟨es, n, ⟨h1, rfl, rfl, h2⟩, h3⟩
inductive AttrX (W : Wd) (attr : Str) (Q : V → St → Prop) (ov : V) (σ : St) : Prop
  | mk (a C dx : Addr) (attrs : List (Str × V)) (v : V) (e : ov = .ref a) (hm : (a, .inst C dx attrs) ∈ σ) (hv : attrs.lookup attr = some v) (hc : ClsOk W C) (hf : findIn W.K (.ref C) attr = some none) (hb : ∀ i, v ≠ .con (.builtin i)) (h : Q v σ) : AttrX W attr Q ov σ
/- value.attr, from the object's own dict -/
theorem aE_attr {value : Expr} {attr : Str} {pos : Pos} {Q : V → St → Prop} (h : aE W n sc ρ σ value (AttrX W attr Q))
    (he : autoParam (∀ env, eval (.Attribute value attr pos) env = (do
      let o ← eval value env
      standAt pos.atName
      let r ← holding [o] (getAttr o attr true)
      letTemporaryGo value o r
      pure r)) tRfl1) : aE W n sc ρ σ (.Attribute value attr pos) Q := fun X env A s rm B F E K kk => by
  refine Attribute_any_ (h X env A s rm B F E _ fun ov x σ' s' nx rv hq => ?_) (he env)
  obtain ⟨a, C, dx, attrs, v, rfl, hm, hv, hc, hf, hnb, hq⟩ := hq
  obtain rfl := rv
  obtain ⟨es, m, I, ha⟩ := inst_at nx.2.1 hm
  obtain ⟨y, h1, h2⟩ := (attrs_get ha).1 v hv
  have X' := W.KIn.keeps nx.2.1.keeps
  have hh : handedIn y = true := by
    cases y with
    | builtin i =>
      cases v <;> simp [VRel] at h2
      exact absurd (by rw [← h2]) (hnb i)
    | _ => rfl
  exact get_value X' I (plainGet_of (name := attr) hc.pg).1 (findObj_own hc.hd hf rfl h1) hh (kk v y σ' _ (nx.trans (Nx.mk' (h' := s'.heap) (tk := s'.toks + 1) nx.2.1 Ext.refl)) h2 hq)
/- storing an attribute -/
noncomputable def setA (x : Str) (v : V) : List (Str × V) → List (Str × V)
  | [] => [(x, v)]
  | (y, u) :: r => if x = y then (y, v) :: r else (y, u) :: setA x v r
theorem attrs_put {Z : Addr → Obj → Prop} {name : Str} {hs : Int} {t : Tok} {v : V} {y : Value} (hv : VRel W Z v y) : ∀ {attrs : List (Str × V)} {es : List DictEntry}, AttrsRel W Z attrs es → AttrsRel W Z (setA name v attrs) (putL name hs (.str name t) y es)
  | [], es, h => by simp only [AttrsRel] at h; subst h; simp only [setA, putL, AttrsRel]; exact ⟨_, _, _, _, rfl, hv, rfl⟩
  | (x, u) :: r, es, h => by
    simp only [AttrsRel] at h
    obtain ⟨hs', t', z, es', rfl, h1, h2⟩ := h
    have hk : (⟨hs', .str x t', z⟩ : DictEntry).key.isStr name = (x == name) := rfl
    unfold setA putL
    rw [hk]
    by_cases e : name = x
    · subst e
      simp only [beq_self_eq_true, if_true, AttrsRel]
      exact ⟨_, _, _, _, rfl, hv, h2⟩
    · have e2 : (x == name) = false := by simpa using fun q : x = name => e q.symm
      rw [if_neg e, e2]
      simp only [Bool.false_eq_true, if_false, AttrsRel]
      exact ⟨_, _, _, _, rfl, h1, attrs_put hv h2⟩
theorem attrs_len {Z : Addr → Obj → Prop} : ∀ {attrs : List (Str × V)} {es : List DictEntry}, AttrsRel W Z attrs es → es.length = attrs.length
  | [], es, h => by simp only [AttrsRel] at h; subst h; rfl
  | (x, u) :: r, es, h => by
    simp only [AttrsRel] at h
    obtain ⟨hs', t', z, es', rfl, h1, h2⟩ := h
    simp [attrs_len h2]
theorem takerIn_none {C : Addr} {name : Str} (h : findIn W.K (.ref C) name = some none) : takerIn W.K C name = some none := by unfold takerIn; rw [h]; rfl
theorem setattr_a {X : Addr → Prop} {A : Around} {s : Shared} {a C dx : Addr} {attrs : List (Str × V)} {τ : St} {name : Str} {v : V} {y : Value} {E : Value → Shared → Prop} {K : Unit → Shared → Prop} (B : Bears W X σ s.heap)
    (hp : Pull (a, .inst C dx attrs) σ τ) (hc : ClsOk W C) (hf : findIn W.K (.ref C) name = some none) (hv : VRel W (Fz X σ s.heap) v y) (hlen : attrs.length ≤ 900)
    (kk : ∀ s', Nx W X noF σ s ((a, .inst C dx (setA name v attrs)) :: τ) s' → K () s') : wpAny W.M A (setAttr (.ref a) name y) K E s := by
  obtain ⟨es, m, I, ha⟩ := inst_at B hp.mem
  have X' := W.KIn.keeps B.keeps
  refine set_plain X' I hc.sa ?_
  refine osa_open (s := { s with toks := s.toks + 1 }) X' I hc.po (takerIn_none hf) fun b => ?_
  obtain ⟨cd, hcd, hd'⟩ := any_some hc.hd
  have D := I.dict
  have hx := I.at_
  simp only at D
  have hdx : dx ∈ own σ := List.mem_flatMap.mpr ⟨_, hp.mem, by simp [fp]⟩
  have hax : a ≠ dx := by
    have h1 := B.nodup
    have h2 := (own_perm hp.perm).nodup_iff.mp h1
    simp [fp] at h2
    exact h2.1.1
  refine wpAny_bind (wpAny_pure (wpAny_bind (wpAny_bind (wpAny_loadPart hx (wpAny_bind ((looks_clsIn (M := W.M) X' hcd) _ _ _ _ (fun _ _ e => e) ?_))))))
  rw [hd']
  refine wpAny_pure (a := some dx) (wpAny_bind (wpAny_pure (wpAny_bind ?_)))
  unfold nsSet
  refine wpAny_bind (wpAny_bind (wpAny_askSetting (wpAny_pure (wpAny_bind (wpAny_mkText (wpAny_bind (wpAny_loadPart D ?_)))))))
  dsimp only
  have c : (!es.toArray.any (·.key.isStr name) && es.toArray.any (·.refKey)) = false := by
    rw [List.any_toArray, List.any_toArray, (attrs_get (name := name) ha).2.2, Bool.and_false]
  rw [aRefKeyMayBeTheName_at, c]
  simp only [Bool.false_eq_true, if_false]
  refine wpAny_updatePart D ?_
  have e1 : ∀ hsh tk, Obj.putName name hsh (.str name tk) y (dictOf es m) = dictOf (putL name hsh (.str name tk) y es) (putN name es m) := fun hsh tk => putName_dict name hsh _ y es m
  have D' : ∀ hsh tk, (s.heap.update dx (Obj.putName name hsh (.str name tk) y)).get? dx = some (dictOf (putL name hsh (.str name tk) y es) (putN name es m)) := fun hsh tk => by
    rw [Heap.get?_update_self _ D (by rw [e1]; rfl), e1]
  refine wpAny_bind (wpAny_lookBehind (D' _ _) ?_ ?_)
  · refine pastItsLine_dict ?_
    have h2 := attrs_len (attrs_put (name := name) (hs := 0) (t := 0) hv ha)
    have h1 := attrs_len ha
    have h3 : ∀ (hh : Int) (tk : Tok), (putL name hh (.str name tk) y es).length ≤ attrs.length + 1 := fun hh tk => by
      rw [attrs_len (attrs_put (name := name) (hs := hh) (t := tk) hv ha)]
      have : ∀ l : List (Str × V), (setA name v l).length ≤ l.length + 1 := by
        intro l; induction l with
        | nil => simp [setA]
        | cons p l ih => obtain ⟨q, u⟩ := p; unfold setA; split <;> simp <;> (first | lia | omega)
      exact this attrs
    rw [List.size_toArray, sizeLine_eq]
    refine Nat.le_trans (h3 _ _) ?_
    (first | lia | omega)
  · have key : ∀ hsh tk, Ext noF σ s.heap ((a, .inst C dx (setA name v attrs)) :: τ) (s.heap.update dx (Obj.putName name hsh (.str name tk) y)) ∧ Bears W X ((a, .inst C dx (setA name v attrs)) :: τ) (s.heap.update dx (Obj.putName name hsh (.str name tk) y)) := by
      intro hsh tk
      obtain ⟨eE, bB⟩ := Bears.step (h' := s.heap.update dx (Obj.putName name hsh (.str name tk) y)) (old := [(a, .inst C dx attrs)]) (new := [(a, .inst C dx (setA name v attrs))]) (τ := τ) B hp.perm
        (fun b o e nb => by
          have : b ≠ dx := by rintro rfl; exact nb (by simp [fp])
          exact (Heap.get?_update_ne _ _ _ _ this).trans e) (fun b hb => .inl (by simpa [fp] using hb)) (by simp [fp, hax])
      refine ⟨eE, bB fun p hp' => ?_⟩
      simp only [List.mem_singleton] at hp'; subst hp'
      exact ⟨_, _, (Heap.get?_update_ne _ _ _ _ hax).trans hx, D' _ _, AttrsRel.mono eE.fz0 _ _ (attrs_put hv ha)⟩
    exact wpAny_pure (kk _ (Nx.mk' (key _ _).2 (key _ _).1))
end
/- part A9 -/
/- ## one resource put in another's place -/
inductive Upd (p q : Addr × MO) : St → St → Prop
  | head {r : St} : Upd p q (p :: r) (q :: r)
  | tail {x : Addr × MO} {r r' : St} : Upd p q r r' → Upd p q (x :: r) (x :: r')
theorem Upd.pull {p q σ σ'} (h : Upd p q σ σ') : ∃ τ, Pull p σ τ ∧ (q :: τ).Perm σ' := by
  induction h with
  | head => exact ⟨_, .head, .refl _⟩
  | tail _ ih =>
    obtain ⟨τ, h1, h2⟩ := ih
    exact ⟨_, .tail h1, (List.Perm.swap _ _ _).trans (List.Perm.cons _ h2)⟩
theorem Upd.mem {p q σ σ'} (h : Upd p q σ σ') : p ∈ σ := by obtain ⟨τ, h1, _⟩ := h.pull; exact h1.mem
theorem Upd.own {p q σ σ'} (h : Upd p q σ σ') (hf : fp q = fp p) : Mine.own σ' = Mine.own σ := by
  induction h with
  | head => simp [hf]
  | tail _ ih => simp [ih]
section
variable {W : Wd} {n : Nat} {sc : Scope} {ρ : Ro} {σ : St}
theorem Bears.upd {X : Addr → Prop} {h h' : Heap} {p q : Addr × MO} {σ' : St} (B : Bears W X σ h) (u : Upd p q σ σ') (hf : fp q = fp p) (hk : ∀ b o, h.get? b = some o → b ∉ fp p → h'.get? b = some o) :
    Ext noF σ h σ' h' ∧ (MRel W (Fz X σ' h') h' q.1 q.2 → Bears W X σ' h') := by
  obtain ⟨τ, h1, h2⟩ := u.pull
  have hown := Upd.own u hf
  obtain ⟨e1, b1⟩ := Bears.step (h' := h') (old := [p]) (new := [q]) (τ := τ) B h1.perm (fun b o e nb => hk b o e (by simpa using nb)) (fun a ha => .inl (by simpa [hf] using ha)) (by
    have := (own_perm h1.perm).nodup_iff.mp B.nodup
    simp only [own_cons, List.nodup_append] at this
    simpa [hf] using this.1)
  have hownτ : ∀ a, a ∈ own (q :: τ) ↔ a ∈ own σ' := fun a => (own_perm h2).mem_iff
  refine ⟨fun a o e f no => ?_, fun m => ?_⟩
  · have := e1 a o e f no
    exact ⟨this.1, fun q => this.2 ((hownτ a).mpr q)⟩
  · have B' := b1 fun p' hp' => by
      simp only [List.mem_singleton] at hp'; subst hp'
      exact m.mono (fun b o z => ⟨z.1, z.2.1, fun q => z.2.2 ((hownτ b).mp q)⟩) (fun _ _ _ e => e)
    exact (B'.perm h2).2
theorem Nx.upd {X : Addr → Prop} {s : Shared} {h' : Heap} {tk : Nat} {p q : Addr × MO} {σ' : St} (B : Bears W X σ s.heap) (u : Upd p q σ σ') (hf : fp q = fp p) (hk : ∀ b o, s.heap.get? b = some o → b ∉ fp p → h'.get? b = some o)
    (m : (∀ a o, Fz X σ s.heap a o → Fz X σ' h' a o) → MRel W (Fz X σ' h') h' q.1 q.2) : Nx W X noF σ s σ' { s with heap := h', toks := tk } := by
  obtain ⟨e, b⟩ := B.upd u hf hk
  exact Nx.mk' (b (m e.fz0)) e
/- the same store, in place -/
theorem setattr_u {X : Addr → Prop} {A : Around} {s : Shared} {a C dx : Addr} {attrs : List (Str × V)} {σ' : St} {name : Str} {v : V} {y : Value} {E : Value → Shared → Prop} {K : Unit → Shared → Prop} (B : Bears W X σ s.heap)
    (hu : Upd (a, .inst C dx attrs) (a, .inst C dx (setA name v attrs)) σ σ') (hc : ClsOk W C) (hf : findIn W.K (.ref C) name = some none) (hv : VRel W (Fz X σ s.heap) v y) (hlen : attrs.length ≤ 900)
    (kk : ∀ s', Nx W X noF σ s σ' s' → K () s') : wpAny W.M A (setAttr (.ref a) name y) K E s := by
  obtain ⟨τ, h1, h2⟩ := hu.pull
  refine setattr_a B h1 hc hf hv hlen fun s' nx => kk s' ?_
  obtain ⟨e, b⟩ := nx.2.1.perm h2
  exact nx.trans ⟨⟨s'.heap, s'.toks, rfl⟩, b, e⟩
inductive SetX (W : Wd) (n : Nat) (sc : Scope) (ρ : Ro) (rest : List Stmt) (Q : Fl → Ro → St → Prop) (attr : Str) (v ov : V) (σ : St) : Prop
  | mk (a C dx : Addr) (attrs : List (Str × V)) (σ3 : St) (e : ov = .ref a) (hu : Upd (a, .inst C dx attrs) (a, .inst C dx (setA attr v attrs)) σ σ3) (hc : ClsOk W C) (hf : findIn W.K (.ref C) attr = some none) (hl : attrs.length ≤ 900) (h : aSs W n sc ρ σ3 rest Q) : SetX W n sc ρ rest Q attr v ov σ
noncomputable abbrev KSet1 (W : Wd) (n : Nat) (sc : Scope) (ρ : Ro) (o : Expr) (rest : List Stmt) (Q : Fl → Ro → St → Prop) (attr : Str) : V → St → Prop := fun v σ => aE W n sc ρ σ o (SetX W n sc ρ rest Q attr v)
theorem ss_setattr {o value : Expr} {attr : Str} {pos' pos : Pos} {rest : List Stmt} {Q : Fl → Ro → St → Prop} (h : aE W n sc ρ σ value (KSet1 W n sc ρ o rest Q attr))
    (hs : autoParam (swapsWith value (some (.Attribute o attr pos')) pos.line = fun _ => pure false) tRfl) : aSs W n sc ρ σ (.Assign [.Attribute o attr pos'] value pos :: rest) Q := ss_cons fun X env A s rm B F E K kk => by
  refine plainObj_wpAny_Assign_Attribute (h X env A s rm B F E _ fun v y σ1 s1 nx1 rv hq => ?_) (by rw [hs])
  have F1 := nx1.fram B F
  refine hq X env A s1 rm nx1.2.1 F1 E _ fun ov x σ2 s2 nx2 rv2 hq2 => ?_
  obtain ⟨a, C, dx, attrs, σ3, rfl, hu, hc, hf, hl, hq2⟩ := hq2
  obtain rfl := rv2
  have F2 := nx2.fram nx1.2.1 F1
  refine setattr_u nx2.2.1 hu hc hf (VRel.mono nx2.2.2.fz0 _ _ rv) hl fun s3 nx3 => ?_
  exact kk .next .next ρ σ3 s3 ((nx1.trans nx2).trans nx3).weak (nx3.fram nx2.2.1 F2) rfl hq2
/- ## methods of instances -/
structure MethOk (W : Wd) (C : Addr) (name : Str) (f : Addr) : Prop where
  fn : findIn W.K (.ref C) name = some (some (.ref f))
  ty : typeIn W.K (.ref f) = some (.type "function")
  kp : Kp W (.ref f)
noncomputable abbrev KCallM (W : Wd) (n : Nat) (f a : Addr) (Q : V → St → Prop) : List V → St → Prop := fun vs σ => acall W n (.ref f) (.ref a :: vs) σ Q
inductive MethX (W : Wd) (n : Nat) (sc : Scope) (ρ : Ro) (name : Str) (args : List Expr) (Q : V → St → Prop) (ov : V) (σ : St) : Prop
  | mk (a C dx : Addr) (attrs : List (Str × V)) (f : Addr) (e : ov = .ref a) (hm : (a, .inst C dx attrs) ∈ σ) (hn : attrs.lookup name = none) (hc : ClsOk W C) (hmf : MethOk W C name f) (h : aEs W n sc ρ σ args (KCallM W n f a Q)) : MethX W n sc ρ name args Q ov σ
theorem aE_meth {o : Expr} {name : Str} {apos pos : Pos} {args : List Expr} {Q : V → St → Prop} (h : aE W n sc ρ σ o (MethX W n sc ρ name args Q))
    (hs : autoParam (args.all notStar = true) tRfl)
    (he : autoParam (∀ env, ∃ pl p2, eval (.Call (.Attribute o name apos) args [] pos) env = (do
      let ov ← eval o env
      standAt apos.atName
      let (f, first) ← holding [ov] (getMethod ov name pl)
      callWith p2 f first (backTo pos (starEach args env)) (backToKw pos (keywordEach [] env)))) tRfl3) : aE W n sc ρ σ (.Call (.Attribute o name apos) args [] pos) Q := fun X env A s rm B F E K kk => by
  obtain ⟨pl, p2, he⟩ := he env
  show wpAny _ _ (eval _ env) _ _ _
  rw [he]
  refine wpAny_bind (h X env A s rm B F E _ fun ov x σ' s' nx rv hq => ?_)
  obtain ⟨a, C, dx, attrs, f, rfl, hm, hn, hc, hmf, hq⟩ := hq
  obtain rfl := rv
  obtain ⟨es, m, I, ha⟩ := inst_at nx.2.1 hm
  have X' := W.KIn.keeps nx.2.1.keeps
  have hsh : shadowIn (some (dictOf es m)) name = some false := by
    show (lookIn name (dictOf es m)).map _ = _
    rw [lookIn_dict, (attrs_get ha).2.1 hn]; rfl
  refine wpAny_bind (wpAny_standAt (wpAny_bind (wpAny_holding (method_fn (prog := W.prog) (w := W.w) X' I (plainGet_of (name := name) hc.pg).1 (plainGet_of (name := name) hc.pg).2 hmf.fn hmf.ty hsh ?_))))
  exact callWith_a (first := [Value.ref a]) (vs1 := [.ref a]) rm nx.2.1 (nx.fram B F) hmf.kp (.one (by simp only [VRel])) hs hq E K fun b c σ'' s'' nx' rb q => kk b c σ'' s'' (nx.trans nx') rb q
/- ## an object made -/
structure NewOk (W : Wd) (C f : Addr) : Prop where
  makes : makesIn W.K C = true
  init : findIn W.K (.ref C) "__init__" = some (some (.ref f))
  ty : typeIn W.K (.ref f) = some (.type "function")
noncomputable abbrev KNew (a : Addr) (Q : V → St → Prop) : V → St → Prop := fun r σ => r = .none ∧ Q (.ref a) σ
theorem acall_new {C f : Addr} {vs : List V} {Q : V → St → Prop} (hn : NewOk W C f) (h : ∀ a dx, acode W n (.ref f) (.ref a :: vs) ((a, .inst C dx []) :: σ) (KNew a Q)) : acall W (n + 1) (.ref C) vs σ Q :=
  acall_of_code fun X A s xs rm B rv R kk => by
  obtain ⟨hh, g, d, t, os⟩ := s
  have X' := W.KIn.keeps B.keeps
  refine make_core (makes_of X' hn.makes) (looks_findIn X' hn.init) (fun self => bind_fn X' self hn.ty) (.inl rfl) ?_
  simp only at B rv kk
  let h2 := (hh.push emptyDict).push (instObj C hh.objs.size)
  have hk : ∀ b o, hh.get? b = some o → h2.get? b = some o := fun b o e => Heap.get?_push_of_some _ (Heap.get?_push_of_some _ e)
  have hd2 : h2.get? hh.objs.size = some emptyDict := Heap.get?_push_of_some _ (Heap.get?_push_size _ rfl)
  have hi2 : h2.get? (hh.objs.size + 1) = some (instObj C hh.objs.size) := by
    have := Heap.get?_push_size (hh.push emptyDict) (o := instObj C hh.objs.size) rfl
    rwa [Heap.size_push] at this
  have fresh : ∀ c, hh.objs.size ≤ c → hh.get? c = none := fun c hc => by
    cases e : hh.get? c with
    | none => rfl
    | some o => exact absurd (Heap.lt_size e) (Nat.not_lt.mpr hc)
  obtain ⟨eE, bB⟩ := Bears.step (h' := h2) (old := []) (new := [(hh.objs.size + 1, .inst C hh.objs.size [])]) (τ := σ) B (List.Perm.refl _) (fun b o e _ => hk b o e)
    (fun a ha => by
      simp [fp] at ha
      rcases ha with rfl | rfl
      · exact .inr (fresh _ (by (first | lia | omega)))
      · exact .inr (fresh _ (by (first | lia | omega)))) (by simp [fp])
  have B2 := bB fun p hp => by
    simp only [List.mem_singleton] at hp; subst hp
    exact ⟨[], 0, hi2, hd2, rfl⟩
  have rm' : Room n (A.under (.builtin "type.__call__" ⟨.ref C :: xs, []⟩)) := ⟨rm.1, by have := rm.2.1; show A.depth + 1 + 3 * n + 3 < _; (first | lia | omega), by have := rm.2.2; show A.units + 1 + 20 * n + 100 < _; (first | lia | omega)⟩
  refine h (hh.objs.size + 1) hh.objs.size X _ ⟨h2, g, d, t, os⟩ _ rm' B2 (.cons (by simp only [VRel]) (VRels.mono eE.fz0 _ _ rv)) _ fun b a σ' s' nx rb hq => ?_
  obtain ⟨rfl, hq⟩ := hq
  obtain rfl := rb
  refine ⟨rfl, kk (.ref (hh.objs.size + 1)) _ σ' s' ?_ (by simp only [VRel]) hq⟩
  obtain ⟨⟨h3, tk, rfl⟩, b3, e3⟩ := nx
  exact ⟨⟨h3, tk, rfl⟩, b3, eE.trans e3⟩
end
/- part A10 -/
/- ## dictionaries as lists of pairs -/
noncomputable def putK {K : Type} [DecidableEq K] (kvs : List (K × V)) (k : K) (v : V) : List (K × V) :=
  if kvs.any (fun kv => kv.1 = k) then kvs.map (fun kv => if kv.1 = k then (kv.1, v) else kv) else kvs ++ [(k, v)]
noncomputable def delK {K : Type} [DecidableEq K] (kvs : List (K × V)) (k : K) : List (K × V) := kvs.filter fun kv => decide (kv.1 ≠ k)
section
variable {W : Wd} {K : Type} [DecidableEq K]
theorem any_zip {Z} {k : K} : ∀ {kvs : List (K × V)} {xs : List Value}, VRels W Z (kvs.map (·.2)) xs → ((kvs.map (·.1)).zip xs).any (fun kv => kv.1 = k) = kvs.any (fun kv => kv.1 = k)
  | [], xs, h => by simp only [List.map_nil, VRels] at h; subst h; rfl
  | (k', v') :: r, xs, h => by
    simp only [List.map_cons, VRels] at h
    obtain ⟨y, ys, rfl, h1, h2⟩ := h
    simp only [List.map_cons, List.zip_cons_cons, List.any_cons]
    rw [any_zip h2]
theorem map_zip {Z} {k : K} {v : V} {y : Value} (hv : VRel W Z v y) : ∀ {kvs : List (K × V)} {xs : List Value}, VRels W Z (kvs.map (·.2)) xs →
    ∃ xs', ((kvs.map (·.1)).zip xs).map (fun kv => if kv.1 = k then (kv.1, y) else kv) = ((kvs.map (fun kv => if kv.1 = k then (kv.1, v) else kv)).map (·.1)).zip xs' ∧ VRels W Z ((kvs.map (fun kv => if kv.1 = k then (kv.1, v) else kv)).map (·.2)) xs'
  | [], xs, h => by simp only [List.map_nil, VRels] at h; subst h; exact ⟨[], rfl, VRels.nil⟩
  | (k', v') :: r, xs, h => by
    simp only [List.map_cons, VRels] at h
    obtain ⟨x, ys, rfl, h1, h2⟩ := h
    obtain ⟨xs', e, r'⟩ := map_zip (k := k) hv h2
    by_cases hk : k' = k
    · subst hk
      refine ⟨y :: xs', ?_, ?_⟩
      · simp only [List.map_cons, List.zip_cons_cons, if_true, e]
      · simp only [List.map_cons, if_true]; exact .cons hv r'
    · refine ⟨x :: xs', ?_, ?_⟩
      · simp only [List.map_cons, List.zip_cons_cons, if_neg hk, e]
      · simp only [List.map_cons, if_neg hk]; exact .cons h1 r'
theorem stored_zip {Z} {k : K} {v : V} {y : Value} {kvs : List (K × V)} {xs : List Value} (hv : VRel W Z v y) (h : VRels W Z (kvs.map (·.2)) xs) :
    ∃ xs', stored ((kvs.map (·.1)).zip xs) k y = ((putK kvs k v).map (·.1)).zip xs' ∧ VRels W Z ((putK kvs k v).map (·.2)) xs' := by
  unfold stored putK
  rw [any_zip h]
  split
  · exact map_zip hv h
  · refine ⟨xs ++ [y], ?_, ?_⟩
    · rw [List.map_append, List.zip_append (by rw [h.length]; simp)]; rfl
    · rw [List.map_append]; exact VRels.append h (.one hv)
theorem without_zip {Z} {k : K} : ∀ {kvs : List (K × V)} {xs : List Value}, VRels W Z (kvs.map (·.2)) xs →
    ∃ xs', without ((kvs.map (·.1)).zip xs) k = ((delK kvs k).map (·.1)).zip xs' ∧ VRels W Z ((delK kvs k).map (·.2)) xs'
  | [], xs, h => by simp only [List.map_nil, VRels] at h; subst h; exact ⟨[], rfl, VRels.nil⟩
  | (k', v') :: r, xs, h => by
    simp only [List.map_cons, VRels] at h
    obtain ⟨x, ys, rfl, h1, h2⟩ := h
    obtain ⟨xs', e, r'⟩ := without_zip (k := k) h2
    unfold without at e ⊢
    unfold delK at e r' ⊢
    by_cases hk : k' = k
    · refine ⟨xs', ?_, ?_⟩
      · simp only [List.map_cons, List.zip_cons_cons, List.filter_cons, hk, ne_eq, not_true_eq_false, decide_false, Bool.false_eq_true, if_false]; exact e
      · simp only [List.filter_cons, hk, ne_eq, not_true_eq_false, decide_false, Bool.false_eq_true, if_false]; exact r'
    · refine ⟨x :: xs', ?_, ?_⟩
      · simp only [List.map_cons, List.zip_cons_cons, List.filter_cons, hk, ne_eq, not_false_eq_true, decide_true, if_true]
        rw [e]
      · simp only [List.filter_cons, hk, ne_eq, not_false_eq_true, decide_true, if_true, List.map_cons]; exact .cons h1 r'
end
/- ## what a builtin method stands on -/
inductive IsT (σ : St) : V → String → Prop
  | list {a vs} : (a, MO.list vs) ∈ σ → IsT σ (.ref a) "list"
  | idict {a kvs} : (a, MO.idict kvs) ∈ σ → IsT σ (.ref a) "dict"
  | sdict {a kvs} : (a, MO.sdict kvs) ∈ σ → IsT σ (.ref a) "dict"
  | tdict {a kvs} : (a, MO.tdict kvs) ∈ σ → IsT σ (.ref a) "dict"
  | fdict {kvs} : IsT σ (fd kvs) "dict"
section
variable {W : Wd} {n : Nat} {sc : Scope} {ρ : Ro} {σ : St}
open Classical in
theorem MRel.tdict_of {Z h a kvs} (m : MRel W Z h a (.tdict kvs)) (hZ : ∀ a o, Z a o → h.get? a = some o) : ∃ xs : List (V × Addr × Value), h.DictOfH (vKind W) a xs ∧ kvs.map (·.1) = xs.map (·.1) ∧ VRels W Z (kvs.map (·.2)) (xs.map (·.2.2)) ∧ (∀ x ∈ xs, isKey x.1 = true ∧ vdep x.1 ≤ 8 ∧ VRel W Z x.1 (.ref x.2.1)) := by
  obtain ⟨o, es, ep, xs, h1, h2, h3, h4, h5, h6, h7, h8⟩ := m
  exact ⟨xs, ⟨o, es, ep, h1, h2, h3, h4, fun x hx => ⟨(h5 x hx).1, (h5 x hx).2.1, VRel.mono (fun a o z => hZ a o z) _ _ (h5 x hx).2.2⟩, h6⟩, h7, h8, h5⟩
theorem dictOf_noDict {K : Type} [DecidableEq K] {knd : KeyKind W.prog W.w K} {h : Heap} {a : Addr} {kvs : List (K × Value)} (x : h.DictOf knd a kvs) : ∃ ob, h.get? a = some ob ∧ ob.dict = none := by
  obtain ⟨ob, h1, h2⟩ := x.mapOf.noDict a rfl
  exact ⟨ob, h1, h2⟩
open Classical in
theorem IsT.here {X : Addr → Prop} {s : Shared} {v : V} {T : String} {x : Value} (B : Bears W X σ s.heap) (t : IsT σ v T) (rv : VRel W (Fz X σ s.heap) v x) : s.TypeIs x T ∧ (∀ a, x = .ref a → ∃ ob, s.heap.get? a = some ob ∧ ob.dict = none) ∧ ∃ a, x = .ref a := by
  cases t with
  | list hm =>
    obtain rfl := rv
    obtain ⟨xs, k, hz, hr⟩ := B.rel hm
    exact ⟨⟨_, hz, rfl⟩, fun b e => by cases e; exact ⟨_, hz, rfl⟩, _, rfl⟩
  | idict hm =>
    obtain rfl := rv
    obtain ⟨ys, hd, hr⟩ := (B.rel hm).idict_of
    exact ⟨hd.typeIs, fun b e => by cases e; exact dictOf_noDict hd, _, rfl⟩
  | sdict hm =>
    obtain rfl := rv
    obtain ⟨ys, hd, hr⟩ := (B.rel hm).sdict_of
    exact ⟨hd.typeIs, fun b e => by cases e; exact dictOf_noDict hd, _, rfl⟩
  | tdict hm =>
    obtain rfl := rv
    obtain ⟨xs, hd, _⟩ := (B.rel hm).tdict_of fz_get
    have hd' := hd
    obtain ⟨o, es, ep, h1, h2, _⟩ := hd'
    refine ⟨hd.typeIs, fun b e => ?_, _, rfl⟩
    cases e
    exact ⟨o, h1, h2.2.1⟩
  | fdict =>
    obtain ⟨a, ys, rfl, _, hd, hr, _⟩ := fd_rel fz_get rv
    exact ⟨hd.typeIs, fun b e => by cases e; exact dictOf_noDict hd, _, rfl⟩
def tBase : Lean.Syntax := (Lean.Unhygienic.run `(Lean.Parser.Tactic.tacticSeq| (intro _ h; with_unfolding_all (first | rfl | (unfold attributeBase Env.kindOf; rw [h]; rfl))))).raw
/- o.name(args), a builtin's method -/
noncomputable abbrev KCallB (W : Wd) (n : Nat) (id : String) (ov : V) (Q : V → St → Prop) : List V → St → Prop := fun vs σ => acall W n (.builtin id) (ov :: vs) σ Q
noncomputable abbrev KBm (W : Wd) (n : Nat) (sc : Scope) (ρ : Ro) (T id : String) (args : List Expr) (Q : V → St → Prop) : V → St → Prop := fun ov σ => IsT σ ov T ∧ aEs W n sc ρ σ args (KCallB W n id ov Q)
theorem aE_bmeth {T id : String} {o : Expr} {name : Str} {apos pos : Pos} {args : List Expr} {Q : V → St → Prop} (hp : PlainAttrs T) (hsl : Slot T name id) (hty : typeOf (.builtin id) = pure (.type "method_descriptor"))
    (h : aE W n sc ρ σ o (KBm W n sc ρ T id args Q))
    (hs : autoParam (args.all notStar = true) tRfl) (hl : autoParam (args.length < 20) tDec) (hline : autoParam ((apos.endLine == pos.line) = true) tRfl)
    (hbase : autoParam (∀ env, env.scope = sc → attributeBase o name env (eval o env) = eval o env) tBase) : aE W n sc ρ σ (.Call (.Attribute o name apos) args [] pos) Q := fun X env A s rm B F E K kk => by
  refine wpAny_Call_method_late (hbase env F.sc_eq) ?_ hline rfl (h X env A s rm B F E _ fun ov x σ' s' nx rv hq => ?_)
  · rw [starEach_all hs]
    simp
    refine ⟨fun a b h => ?_, by (first | lia | omega)⟩
    have e : backToKw pos (keywordEach [] env) = [] := rfl
    rw [e] at h; cases h
  · obtain ⟨ht, hq⟩ := hq
    obtain ⟨h1, h2, _⟩ := ht.here nx.2.1 rv
    refine ⟨T, id, hp, hsl, hty, h1, h2, ?_⟩
    exact callWith_a (first := [x]) (vs1 := [ov]) rm nx.2.1 (nx.fram B F) (Kp.builtin W id) (.one rv) hs hq E K fun b c σ'' s'' nx' rb q => kk b c σ'' s'' (nx.trans nx') rb q
end
/- part A11 -/
section
variable {W : Wd} {n : Nat} {sc : Scope} {ρ : Ro} {σ : St}
theorem sb_keep {h h' : Heap} {a : Addr} (hs : Heap.SameBut a h h') : ∀ b o, h.get? b = some o → b ∉ [a] → h'.get? b = some o := fun b o e nb => (hs.2 b (by simpa using nb)).trans e
/- ### list.append -/
theorem o_append {a : Addr} {vs : List V} {v : V} {σ' : St} {Q : V → St → Prop} (hu : Upd (a, .list vs) (a, .list (vs ++ [v])) σ σ') (hl : vs.length ≤ 100000) (h : Q .none σ') : acall W n (.builtin "list.append") [.ref a, v] σ Q := fun X A s xs rm B rv E K kk => by
  obtain ⟨x, y, rfl, hx, hy⟩ := vrels2 rv
  obtain rfl := hx
  obtain ⟨ys, k, hz, hr⟩ := B.rel hu.mem
  refine wpAny_list_append_plain ⟨k, hz⟩ (fun h' hp hs => ?_) (by have := hr.length; rw [sizeLine_eq]; simp; (first | lia | omega))
  refine kk .none .none σ' _ (Nx.upd (tk := s.toks) B hu rfl (sb_keep hs) fun hz' => ?_) (by simp only [VRel]) h
  obtain ⟨k', hk'⟩ := hp
  refine ⟨ys ++ [y], k', ?_, VRels.append (VRels.mono hz' _ _ hr) (.one (VRel.mono hz' _ _ hy))⟩
  rw [hk']; simp
/- ### dict.get -/
theorem get_idict {a : Addr} {kvs : List (Int × V)} {i : Int} {d : V} {Q : V → St → Prop} (hm : (a, .idict kvs) ∈ σ) (h : Q ((lookI kvs i).getD d) σ) : acall W n (.builtin "dict.get") [.ref a, .int i, d] σ Q := fun X A s xs rm B rv E K kk => by
  obtain ⟨x, y, z, rfl, hx, hy, hz⟩ := vrels3 rv
  simp only [VRel] at hx hy; subst hx; obtain ⟨u, rfl⟩ := hy
  obtain ⟨ys, hd, hr⟩ := (B.rel hm).idict_of
  refine call_meetsIn F.slot_dict_get hd.typeIs F.entry_dict_get (F.args_dict_get_3 _ _ _) (meets_dict_get_default _ _ (intKind_is _ _ i u) (own_ne_sys B (own_mem hm)) z) ⟨_, hd.mapOf, ?_⟩
  have hv := valueAt_zip (k := i) hr
  unfold lookI at h
  cases e : (kvs.find? fun kv => decide (kv.1 = i)).map (·.2) with
  | some v =>
    obtain ⟨w, h1, h2⟩ := hv.1 v e
    rw [e] at h
    rw [h1]
    exact kk v w _ _ (Nx.mk' (h' := s.heap) B Ext.refl) h2 h
  | none =>
    rw [e] at h
    rw [hv.2 e]
    exact kk d z _ _ (Nx.mk' (h' := s.heap) B Ext.refl) hz h
theorem get_fdict {kvs : List (Int × V)} {i : Int} {d : V} {Q : V → St → Prop} (h : Q ((lookI kvs i).getD d) σ) : acall W n (.builtin "dict.get") [fd kvs, .int i, d] σ Q := fun X A s xs rm B rv E K kk => by
  obtain ⟨x, y, z, rfl, hx, hy, hz⟩ := vrels3 rv
  obtain ⟨a, ys, rfl, hs, hd, hr, _⟩ := fd_rel fz_get hx
  obtain ⟨u, rfl⟩ := hy
  refine call_meetsIn F.slot_dict_get hd.typeIs F.entry_dict_get (F.args_dict_get_3 _ _ _) (meets_dict_get_default _ _ (intKind_is _ _ i u) hs z) ⟨_, hd.mapOf, ?_⟩
  have hv := valueAt_zip (k := i) hr
  unfold lookI at h
  cases e : (kvs.find? fun kv => decide (kv.1 = i)).map (·.2) with
  | some v =>
    obtain ⟨w, h1, h2⟩ := hv.1 v e
    rw [e] at h
    rw [h1]
    exact kk v w _ _ (Nx.mk' (h' := s.heap) B Ext.refl) h2 h
  | none =>
    rw [e] at h
    rw [hv.2 e]
    exact kk d z _ _ (Nx.mk' (h' := s.heap) B Ext.refl) hz h
/- ### dict.pop -/
theorem pop_idict {a : Addr} {kvs : List (Int × V)} {i : Int} {v : V} {σ' : St} {Q : V → St → Prop} (hu : Upd (a, .idict kvs) (a, .idict (delK kvs i)) σ σ') (hv : lookI kvs i = some v) (hl : kvs.length ≤ 100000) (h : Q v σ') :
    acall W n (.builtin "dict.pop") [.ref a, .int i] σ Q := fun X A s xs rm B rv E K kk => by
  obtain ⟨x, y, rfl, hx, hy⟩ := vrels2 rv
  simp only [VRel] at hx hy; subst hx; obtain ⟨u, rfl⟩ := hy
  obtain ⟨ys, hd, hr⟩ := (B.rel hu.mem).idict_of
  obtain ⟨w, h1, h2⟩ := (valueAt_zip hr).1 v hv
  refine call_meetsIn F.slot_dict_pop hd.typeIs F.entry_dict_pop (F.args_dict_pop_2 _ _) (meets_dict_pop_there _ _ (intKind_is _ _ i u) [] (.inl rfl) rfl) ⟨_, w, hd, by rw [zip_len hr, sizeLine_eq]; (first | lia | omega), h1, fun h' hd' hs => ?_⟩
  obtain ⟨ys', e, hr'⟩ := without_zip (k := i) hr
  have nx : Nx W X noF σ s σ' { s with heap := h', toks := s.toks + 1 } := Nx.upd (tk := s.toks + 1) B hu rfl (sb_keep hs) fun hz => by
    rw [e] at hd'
    obtain ⟨o, ho, hio⟩ := Heap.dictOf_iff.mp hd'
    exact ⟨o, ys', ho, VRels.mono hz _ _ hr', hio⟩
  exact kk v w σ' _ nx (VRel.mono nx.2.2.fz0 _ _ h2) h
/- ### stores into dictionaries -/
noncomputable def aSet (W : Wd) (n : Nat) (σ : St) (o i v : V) (Q : St → Prop) : Prop := aO W n σ [o, i, v] (op3 setItem) (fun _ (_ : Unit) (_ : Unit) => True) (fun _ => Q)
noncomputable def aDel (W : Wd) (n : Nat) (σ : St) (o i : V) (Q : St → Prop) : Prop := aO W n σ [o, i] (op2' delItem) (fun _ (_ : Unit) (_ : Unit) => True) (fun _ => Q)
where op2' (f : Value → Value → Sem Unit) : List Value → Sem Unit
  | [a, b] => f a b
  | _ => unsupported "op2"
theorem set_idict {a : Addr} {kvs : List (Int × V)} {i : Int} {v : V} {σ' : St} {Q : St → Prop} (hu : Upd (a, .idict kvs) (a, .idict (putK kvs i v)) σ σ') (hl : kvs.length ≤ 100000) (h : Q σ') : aSet W n σ (.ref a) (.int i) v Q := fun X A s xs rm B rv E K kk => by
  obtain ⟨x, y, z, rfl, hx, hy, hz⟩ := vrels3 rv
  simp only [VRel] at hx hy; subst hx; obtain ⟨u, rfl⟩ := hy
  obtain ⟨ys, hd, hr⟩ := (B.rel hu.mem).idict_of
  refine wpAny_setItem_pairs (intKind_is _ _ i u) hd (fun h' hd' hs => ?_) (by rw [zip_len hr, sizeLine_eq]; (first | lia | omega))
  obtain ⟨ys', e, hr'⟩ := stored_zip (k := i) hz hr
  refine kk () () σ' _ (Nx.upd (tk := s.toks + 1) B hu rfl (sb_keep hs) fun hz => ?_) trivial h
  rw [e] at hd'
  obtain ⟨o, ho, hio⟩ := Heap.dictOf_iff.mp hd'
  exact ⟨o, ys', ho, VRels.mono hz _ _ hr', hio⟩
theorem set_sdict {a : Addr} {kvs : List (Str × V)} {i : Str} {v : V} {σ' : St} {Q : St → Prop} (hu : Upd (a, .sdict kvs) (a, .sdict (putK kvs i v)) σ σ') (hl : kvs.length ≤ 100000) (h : Q σ') : aSet W n σ (.ref a) (.str i) v Q := fun X A s xs rm B rv E K kk => by
  obtain ⟨x, y, z, rfl, hx, hy, hz⟩ := vrels3 rv
  simp only [VRel] at hx hy; subst hx; obtain ⟨u, rfl⟩ := hy
  obtain ⟨ys, hd, hr⟩ := (B.rel hu.mem).sdict_of
  refine wpAny_setItem_pairs (strKind_is _ _ i u) hd (fun h' hd' hs => ?_) (by
    have := hr.length; simp only [List.length_map] at this
    rw [sizeLine_eq, List.length_zip]; simp; (first | lia | omega))
  obtain ⟨ys', e, hr'⟩ := stored_zip (k := i) hz hr
  refine kk () () σ' _ (Nx.upd (tk := s.toks + 1) B hu rfl (sb_keep hs) fun hz => ?_) trivial h
  rw [e] at hd'
  obtain ⟨o, ho, hio⟩ := Heap.dictOf_iff.mp hd'
  exact ⟨o, ys', ho, VRels.mono hz _ _ hr', hio⟩
theorem del_idict {a : Addr} {kvs : List (Int × V)} {i : Int} {σ' : St} {Q : St → Prop} (hu : Upd (a, .idict kvs) (a, .idict (delK kvs i)) σ σ') (hv : (lookI kvs i).isSome = true) (hl : kvs.length ≤ 100000) (h : Q σ') : aDel W n σ (.ref a) (.int i) Q := fun X A s xs rm B rv E K kk => by
  obtain ⟨x, y, rfl, hx, hy⟩ := vrels2 rv
  simp only [VRel] at hx hy; subst hx; obtain ⟨u, rfl⟩ := hy
  obtain ⟨ys, hd, hr⟩ := (B.rel hu.mem).idict_of
  show wpAny _ _ (delItem _ _) _ _ _
  refine wpAny_delItem_slot hd.typeIs (by decide) F.slot_dict_delitem (call_meetsIn F.slot_dict_delitem hd.typeIs F.entry_dict_delitem (F.args_dict_delitem_2 _ _) (meets_dict_delitem_pairs _ _ (intKind_is _ _ i u))
    ⟨_, hd, by rw [zip_len hr, sizeLine_eq]; (first | lia | omega), by rw [lookI_isSome hr]; exact hv, fun h' hd' hs => ?_⟩)
  obtain ⟨ys', e, hr'⟩ := without_zip (k := i) hr
  refine kk () () σ' _ (Nx.upd (tk := s.toks + 1) B hu rfl (sb_keep hs) fun hz => ?_) trivial h
  rw [e] at hd'
  obtain ⟨o, ho, hio⟩ := Heap.dictOf_iff.mp hd'
  exact ⟨o, ys', ho, VRels.mono hz _ _ hr', hio⟩
/- ### keys that are tuples -/
open Classical in
theorem atKey_hit {xs : List (V × Addr × Value)} {k : V} {p : Addr × Value} (hn : (xs.map (·.1)).Nodup) (hm : (k, p) ∈ xs) : atKey xs k = some p := by
  induction xs with
  | nil => cases hm
  | cons x xs ih =>
    rw [List.map_cons, List.nodup_cons] at hn
    unfold atKey at ih ⊢
    rw [List.find?_cons]
    rcases List.mem_cons.mp hm with e | e
    · subst e; simp
    · have : x.1 ≠ k := by rintro rfl; exact hn.1 (List.mem_map.mpr ⟨_, e, rfl⟩)
      simp only [this, decide_false]
      exact ih hn.2 e
open Classical in
theorem atKey_miss {xs : List (V × Addr × Value)} {k : V} (h : ∀ x ∈ xs, x.1 ≠ k) : atKey xs k = none := by
  unfold atKey
  have : (xs.find? fun x => decide (x.1 = k)) = none := by
    rw [List.find?_eq_none]; intro x hx; simpa using h x hx
  rw [this]; rfl
open Classical in
theorem get_tdict_hit {a : Addr} {kvs : List (V × V)} {ks : List V} {v d : V} {Q : V → St → Prop} (hm : (a, .tdict kvs) ∈ σ) (hk : isKey (.tup ks) = true) (hd : vdep (.tup ks) ≤ 8) (hv : (V.tup ks, v) ∈ kvs) (h : Q v σ) :
    acall W n (.builtin "dict.get") [.ref a, .tup ks, d] σ Q := fun X A s xs rm B rv E K kk => by
  obtain ⟨x, y, z, rfl, hx, hy, hz⟩ := vrels3 rv
  have hy' := hy
  simp only [VRel] at hx hy'; subst hx; obtain ⟨c, _, _, _, rfl, _⟩ := hy'
  obtain ⟨ys, hD, hkeys, hr, hin⟩ := (B.rel hm).tdict_of fz_get
  obtain ⟨j, hj⟩ := List.mem_iff_getElem?.mp hv
  have hvj : (kvs.map (·.2))[j]? = some v := by rw [List.getElem?_map, hj]; rfl
  obtain ⟨w, hw, hrw⟩ := hr.get hvj
  rw [List.getElem?_map] at hw
  obtain ⟨q, hq, rfl⟩ := Option.map_eq_some_iff.mp hw
  have hqk : q.1 = .tup ks := by
    have h1 : (kvs.map (·.1))[j]? = some (.tup ks) := by rw [List.getElem?_map, hj]; rfl
    rw [hkeys, List.getElem?_map, hq] at h1
    simpa using h1
  have hat : atKey ys (.tup ks) = some q.2 := atKey_hit (by obtain ⟨_, _, _, _, _, _, _, _, h6⟩ := hD; exact h6) (by rw [← hqk]; exact List.mem_of_getElem? hq)
  refine call_meetsIn F.slot_dict_get hD.typeIs F.entry_dict_get (F.args_dict_get_3 _ _ _) (meetsH_dict_get_default (vKind W) _ _ (own_ne_sys B (own_mem hm)) z)
    ⟨by have := room_units rm; show A.units + 1 + 16 < cLine; (first | lia | omega), .tup ks, ys, ⟨hk, hd, VRel.mono (fun a o z => fz_get _ _ z) _ _ hy⟩, hD, ?_⟩
  rw [hat]
  exact kk v _ _ _ (Nx.mk' (h' := s.heap) B Ext.refl) hrw h
open Classical in
theorem get_tdict_miss {a : Addr} {kvs : List (V × V)} {ks : List V} {d : V} {Q : V → St → Prop} (hm : (a, .tdict kvs) ∈ σ) (hk : isKey (.tup ks) = true) (hd : vdep (.tup ks) ≤ 8) (hv : ∀ p ∈ kvs, p.1 ≠ .tup ks) (h : Q d σ) :
    acall W n (.builtin "dict.get") [.ref a, .tup ks, d] σ Q := fun X A s xs rm B rv E K kk => by
  obtain ⟨x, y, z, rfl, hx, hy, hz⟩ := vrels3 rv
  have hy' := hy
  simp only [VRel] at hx hy'; subst hx; obtain ⟨c, _, _, _, rfl, _⟩ := hy'
  obtain ⟨ys, hD, hkeys, hr, hin⟩ := (B.rel hm).tdict_of fz_get
  have hat : atKey ys (.tup ks) = none := atKey_miss fun q hq e => by
    have : q.1 ∈ kvs.map (·.1) := by rw [hkeys]; exact List.mem_map_of_mem hq
    obtain ⟨p, hp, hpe⟩ := List.mem_map.mp this
    exact hv p hp (hpe.trans e)
  refine call_meetsIn F.slot_dict_get hD.typeIs F.entry_dict_get (F.args_dict_get_3 _ _ _) (meetsH_dict_get_default (vKind W) _ _ (own_ne_sys B (own_mem hm)) z)
    ⟨by have := room_units rm; show A.units + 1 + 16 < cLine; (first | lia | omega), .tup ks, ys, ⟨hk, hd, VRel.mono (fun a o z => fz_get _ _ z) _ _ hy⟩, hD, ?_⟩
  rw [hat]
  exact kk d _ _ _ (Nx.mk' (h' := s.heap) B Ext.refl) hz h
open Classical in
theorem set_tdict_new {a : Addr} {kvs : List (V × V)} {ks : List V} {v : V} {σ' : St} {Q : St → Prop} (hu : Upd (a, .tdict kvs) (a, .tdict (kvs ++ [(.tup ks, v)])) σ σ') (hk : isKey (.tup ks) = true) (hd : vdep (.tup ks) ≤ 8) (hv : ∀ p ∈ kvs, p.1 ≠ .tup ks)
    (hl : kvs.length ≤ 100000) (h : Q σ') : aSet W n σ (.ref a) (.tup ks) v Q := fun X A s xs rm B rv E K kk => by
  obtain ⟨x, y, z, rfl, hx, hy, hz⟩ := vrels3 rv
  have hy' := hy
  simp only [VRel] at hx hy'; subst hx; obtain ⟨c, _, _, _, rfl, _⟩ := hy'
  obtain ⟨ys, hD, hkeys, hr, hin⟩ := (B.rel hu.mem).tdict_of fz_get
  have hat : atKey ys (.tup ks) = none := atKey_miss fun q hq e => by
    have : q.1 ∈ kvs.map (·.1) := by rw [hkeys]; exact List.mem_map_of_mem hq
    obtain ⟨p, hp, hpe⟩ := List.mem_map.mp this
    exact hv p hp (hpe.trans e)
  have hlen : ys.length = kvs.length := by have := congrArg List.length hkeys; simpa using this.symm
  refine wpAny_setItem_heap (knd := vKind W) (k := .tup ks) (by have := room_units rm; show A.units + 1 + 16 < cLine; (first | lia | omega)) ⟨hk, hd, VRel.mono (fun a o z => fz_get _ _ z) _ _ hy⟩ hD (fun h' hd' hs => ?_) (by rw [hlen, sizeLine_eq]; (first | lia | omega))
  have e : storedH ys (.tup ks) c z = ys ++ [(.tup ks, c, z)] := by unfold storedH; rw [hat]; rfl
  rw [e] at hd'
  refine kk () () σ' _ (Nx.upd (tk := s.toks + (vKind W).draws (.tup ks)) B hu rfl (sb_keep hs) fun hz' => ?_) trivial h
  obtain ⟨o, es, ep, h1, h2, h3, h4, h5, h6⟩ := hd'
  refine ⟨o, es, ep, ys ++ [(.tup ks, c, z)], h1, h2, h3, h4, fun q hq => ?_, h6, by simp [hkeys], ?_⟩
  · rcases List.mem_append.mp hq with q' | q'
    · exact ⟨(hin q q').1, (hin q q').2.1, VRel.mono hz' _ _ (hin q q').2.2⟩
    · simp only [List.mem_singleton] at q'; subst q'
      exact ⟨hk, hd, VRel.mono hz' _ _ hy⟩
  · rw [List.map_append, List.map_append]
    exact VRels.append (VRels.mono hz' _ _ hr) (.one (VRel.mono hz' _ _ hz))
noncomputable abbrev KS0 (W : Wd) (n : Nat) (sc : Scope) (ρ : Ro) (rest : List Stmt) (Q : Fl → Ro → St → Prop) : St → Prop := fun σ => aSs W n sc ρ σ rest Q
noncomputable abbrev KSi3 (W : Wd) (n : Nat) (sc : Scope) (ρ : Ro) (rest : List Stmt) (Q : Fl → Ro → St → Prop) (v ov : V) : V → St → Prop := fun iv σ => aSet W n σ ov iv v (KS0 W n sc ρ rest Q)
noncomputable abbrev KSi2 (W : Wd) (n : Nat) (sc : Scope) (ρ : Ro) (i : Expr) (rest : List Stmt) (Q : Fl → Ro → St → Prop) (v : V) : V → St → Prop := fun ov σ => aE W n sc ρ σ i (KSi3 W n sc ρ rest Q v ov)
noncomputable abbrev KSi1 (W : Wd) (n : Nat) (sc : Scope) (ρ : Ro) (o i : Expr) (rest : List Stmt) (Q : Fl → Ro → St → Prop) : V → St → Prop := fun v σ => aE W n sc ρ σ o (KSi2 W n sc ρ i rest Q v)
noncomputable abbrev KDi2 (W : Wd) (n : Nat) (sc : Scope) (ρ : Ro) (rest : List Stmt) (Q : Fl → Ro → St → Prop) (ov : V) : V → St → Prop := fun iv σ => aDel W n σ ov iv (KS0 W n sc ρ rest Q)
noncomputable abbrev KDi1 (W : Wd) (n : Nat) (sc : Scope) (ρ : Ro) (i : Expr) (rest : List Stmt) (Q : Fl → Ro → St → Prop) : V → St → Prop := fun ov σ => aE W n sc ρ σ i (KDi2 W n sc ρ rest Q ov)
theorem ss_setitem {o i value : Expr} {pos' pos : Pos} {rest : List Stmt} {Q : Fl → Ro → St → Prop} (h : aE W n sc ρ σ value (KSi1 W n sc ρ o i rest Q))
    (hs : autoParam (swapsWith value (some (.Subscript o i pos')) pos.line = fun _ => pure false) tRfl) : aSs W n sc ρ σ (.Assign [.Subscript o i pos'] value pos :: rest) Q := ss_cons fun X env A s rm B F E K kk => by
  refine wpAny_Assign_Subscript (h X env A s rm B F E _ fun v y σ1 s1 nx1 rv hq => ?_) (by rw [hs])
  have F1 := nx1.fram B F
  refine hq X env A s1 rm nx1.2.1 F1 E _ fun ov x σ2 s2 nx2 rv2 hq2 => ?_
  have F2 := nx2.fram nx1.2.1 F1
  refine hq2 X env A s2 rm nx2.2.1 F2 E _ fun iv z σ3 s3 nx3 rv3 hq3 => ?_
  have F3 := nx3.fram nx2.2.1 F2
  refine hq3 X A s3 [x, z, y] rm nx3.2.1 (.cons (VRel.mono nx3.2.2.fz0 _ _ rv2) (.cons rv3 (.one (VRel.mono (nx2.trans nx3).2.2.fz0 _ _ rv)))) E _ fun _ _ σ4 s4 nx4 _ hq4 => ?_
  exact kk .next .next ρ σ4 s4 (((nx1.trans nx2).trans nx3).trans nx4).weak (nx4.fram nx3.2.1 F3) rfl hq4
theorem ss_delitem {o i : Expr} {pos' pos : Pos} {rest : List Stmt} {Q : Fl → Ro → St → Prop} (h : aE W n sc ρ σ o (KDi1 W n sc ρ i rest Q)) :
    aSs W n sc ρ σ (.Delete [.Subscript o i pos'] pos :: rest) Q := ss_cons fun X env A s rm B F E K kk => by
  refine wpAny_Delete (wpAny_deleteEach_cons (wpAny_delete_Subscript ?_))
  refine h X env A s rm B F E _ fun ov x σ2 s2 nx2 rv2 hq2 => ?_
  have F2 := nx2.fram B F
  refine hq2 X env A s2 rm nx2.2.1 F2 E _ fun iv z σ3 s3 nx3 rv3 hq3 => ?_
  have F3 := nx3.fram nx2.2.1 F2
  refine hq3 X A s3 [x, z] rm nx3.2.1 (.cons (VRel.mono nx3.2.2.fz0 _ _ rv2) (.one rv3)) E _ fun _ _ σ4 s4 nx4 _ hq4 => ?_
  exact wpAny_deleteEach_nil (kk .next .next ρ σ4 s4 ((nx2.trans nx3).trans nx4).weak (nx4.fram nx3.2.1 F3) rfl hq4)
end
/- part A12 -/
/- ## the same thing seen otherwise -/
noncomputable def Re (W : Wd) (b : V) (σ : St) (b' : V) (σ' : St) : Prop :=
  ∀ (X : Addr → Prop) (h : Heap) (x : Value), Bears W X σ h → VRel W (Fz X σ h) b x → Ext noF σ h σ' h ∧ Bears W X σ' h ∧ VRel W (Fz X σ' h) b' x
section
variable {W : Wd} {n : Nat} {sc : Scope} {ρ : Ro} {σ : St}
theorem Re.refl {b : V} {σ : St} : Re W b σ b σ := fun _ _ _ B r => ⟨Ext.refl, B, r⟩
theorem Re.trans {b b' b'' : V} {σ σ' σ'' : St} (h : Re W b σ b' σ') (h' : Re W b' σ' b'' σ'') : Re W b σ b'' σ'' := fun X hp x B r => by
  obtain ⟨e1, B1, r1⟩ := h X hp x B r
  obtain ⟨e2, B2, r2⟩ := h' X hp x B1 r1
  exact ⟨e1.trans e2, B2, r2⟩
theorem Bears.dropP {X : Addr → Prop} {h : Heap} {p : Addr × MO} {τ : St} (B : Bears W X σ h) (hp : Pull p σ τ) : Ext noF σ h τ h ∧ Bears W X τ h := by
  obtain ⟨e, b⟩ := Bears.step (h' := h) (old := [p]) (new := []) (τ := τ) B hp.perm (fun b o x _ => x) (by simp) (by simp)
  exact ⟨e, b (by simp)⟩
theorem Re.drop {p : Addr × MO} {b : V} {τ : St} (hp : Pull p σ τ) : Re W b σ b τ := fun X h x B r => by
  obtain ⟨e, b'⟩ := B.dropP hp
  exact ⟨e, b', VRel.mono e.fz0 _ _ r⟩
theorem Re.perm {b : V} {τ : St} (hp : σ.Perm τ) : Re W b σ b τ := fun X h x B r => by
  obtain ⟨e, b'⟩ := B.perm hp
  exact ⟨e, b', VRel.mono e.fz0 _ _ r⟩
theorem dropped_free {X : Addr → Prop} {h : Heap} {p : Addr × MO} {τ : St} (B : Bears W X σ h) (hp : Pull p σ τ) : p.1 ∉ own τ ∧ ¬ X p.1 := by
  have hm : p.1 ∈ own σ := own_mem hp.mem
  refine ⟨fun q => ?_, B.hid _ hm⟩
  have := (own_perm hp.perm).nodup_iff.mp B.nodup
  simp only [own_cons, List.nodup_append] at this
  exact this.2.2 p.1 (by obtain ⟨a, m⟩ := p; cases m <;> simp [fp]) p.1 q rfl
theorem freeze_list {X : Addr → Prop} {h : Heap} {a : Addr} {vs : List V} {τ : St} (B : Bears W X σ h) (hp : Pull (a, .list vs) σ τ) : VRel W (Fz X τ h) (.flist vs) (.ref a) := by
  obtain ⟨e, b'⟩ := B.dropP hp
  obtain ⟨xs, k, hz, hr⟩ := B.rel hp.mem
  obtain ⟨f1, f2⟩ := dropped_free B hp
  simp only [VRel]
  exact ⟨a, xs, k, rfl, ⟨hz, f2, f1⟩, VRels.mono e.fz0 _ _ hr⟩
theorem freeze_idict {X : Addr → Prop} {h : Heap} {a : Addr} {kvs : List (Int × V)} {τ : St} (B : Bears W X σ h) (hp : Pull (a, .idict kvs) σ τ) : VRel W (Fz X τ h) (fd kvs) (.ref a) := by
  obtain ⟨e, b'⟩ := B.dropP hp
  obtain ⟨o, xs, hz, hr, hd⟩ := B.rel hp.mem
  obtain ⟨f1, f2⟩ := dropped_free B hp
  simp only [VRel]
  exact ⟨a, o, xs, rfl, own_ne_sys B (own_mem hp.mem), ⟨hz, f2, f1⟩, VRels.mono e.fz0 _ _ hr, by simp, hd⟩
theorem Re.list {a : Addr} {vs : List V} {τ : St} (hp : Pull (a, .list vs) σ τ) : Re W (.ref a) σ (.flist vs) τ := fun X h x B r => by
  obtain ⟨e, b'⟩ := B.dropP hp
  obtain rfl := r
  exact ⟨e, b', freeze_list B hp⟩
theorem Re.idict {a : Addr} {kvs : List (Int × V)} {τ : St} (hp : Pull (a, .idict kvs) σ τ) : Re W (.ref a) σ (fd kvs) τ := fun X h x B r => by
  obtain ⟨e, b'⟩ := B.dropP hp
  obtain rfl := r
  exact ⟨e, b', freeze_idict B hp⟩
inductive ReX (W : Wd) (Q : V → St → Prop) (b : V) (σ : St) : Prop
  | mk (b' : V) (σ' : St) (hr : Re W b σ b' σ') (h : Q b' σ') : ReX W Q b σ
theorem aM.re {X F : Addr → Prop} {A : Around} {s : Shared} {t : Sem Value} {Q : V → St → Prop} (h : aM W X F A σ s t (VRel W) (ReX W Q)) : aM W X F A σ s t (VRel W) Q :=
  fun E K k => h E K fun b x σ' s' nx rb q => by
    obtain ⟨b', σ'', hr, hq⟩ := q
    obtain ⟨e, B', r'⟩ := hr X s'.heap x nx.2.1 rb
    exact k b' x σ'' s' (nx.trans ⟨⟨s'.heap, s'.toks, rfl⟩, B', e.weak⟩) r' hq
theorem acall_re {f : Value} {vs : List V} {Q : V → St → Prop} (h : acall W n f vs σ (ReX W Q)) : acall W n f vs σ Q := fun X A s xs rm B rv => (h X A s xs rm B rv).re
theorem aE_re {e : Expr} {Q : V → St → Prop} (h : aE W n sc ρ σ e (ReX W Q)) : aE W n sc ρ σ e Q := fun X env A s rm B F => (h X env A s rm B F).re
theorem acode_re {f : Value} {vs : List V} {Q : V → St → Prop} (h : acode W n f vs σ (ReX W Q)) : acode W n f vs σ Q := fun X A s xs rm B rv R k => h X A s xs rm B rv R fun b x σ' s' nx rb q => by
    obtain ⟨b', σ'', hr, hq⟩ := q
    obtain ⟨e, B', r'⟩ := hr X s'.heap x nx.2.1 rb
    exact k b' x σ'' s' (nx.trans ⟨⟨s'.heap, s'.toks, rfl⟩, B', e.weak⟩) r' hq
/- at the start -/
theorem acall_start {f : Value} {vs : List V} {σ' : St} {Q : V → St → Prop} (hr : σ.Perm σ') (h : acall W n f vs σ' Q) : acall W n f vs σ Q := fun X A s xs rm B rv E K k => by
  obtain ⟨e, B'⟩ := B.perm hr
  exact h X A s xs rm B' (VRels.mono e.fz0 _ _ rv) E K fun b a σ2 s2 nx r q => k b a σ2 s2 (Nx.trans ⟨⟨s.heap, s.toks, rfl⟩, B', e⟩ nx) r q
/- ### in a frame -/
noncomputable def FRe (W : Wd) (sc : Scope) (ρ : Ro) (σ : St) (ρ' : Ro) (σ' : St) : Prop :=
  ∀ (X : Addr → Prop) (env : Env) (h : Heap), Bears W X σ h → Fram W X sc ρ env (Fz X σ h) h → Ext noF σ h σ' h ∧ Bears W X σ' h ∧ Fram W X sc ρ' env (Fz X σ' h) h
theorem ss_re {ss : List Stmt} {ρ' : Ro} {σ' : St} {Q : Fl → Ro → St → Prop} (hr : FRe W sc ρ σ ρ' σ') (h : aSs W n sc ρ' σ' ss Q) : aSs W n sc ρ σ ss Q := fun X env A s rm B F E K k => by
  obtain ⟨e, B', F'⟩ := hr X env s.heap B F
  exact h X env A s rm B' F' E K fun fl f ρ2 σ2 s2 nx F2 rf q => k fl f ρ2 σ2 s2 (Nx.trans ⟨⟨s.heap, s.toks, rfl⟩, B', e.weak⟩ nx) F2 rf q
theorem Fram.same {X : Addr → Prop} {env : Env} {h : Heap} {σ' : St} (F : Fram W X sc ρ env (Fz X σ h) h) (e : Ext noF σ h σ' h) : Fram W X sc ρ env (Fz X σ' h) h :=
  F.mono e.fz0 fun _ _ _ x => x
theorem FRe.drop {p : Addr × MO} {τ : St} (hp : Pull p σ τ) : FRe W sc ρ σ ρ τ := fun X env h B F => by
  obtain ⟨e, b'⟩ := B.dropP hp
  exact ⟨e, b', F.same e⟩
theorem FRe.perm {τ : St} (hp : σ.Perm τ) : FRe W sc ρ σ ρ τ := fun X env h B F => by
  obtain ⟨e, b'⟩ := B.perm hp
  exact ⟨e, b', F.same e⟩
theorem Fram.reslot {X : Addr → Prop} {env : Env} {h : Heap} {Z : Addr → Obj → Prop} {i : Nat} {v v' : V} (F : Fram W X sc ρ env Z h) (hi : ρ[i]? = some (some v)) (hv : ∀ x, VRel W Z v x → VRel W Z v' x) : Fram W X sc (ρ.set i (some v')) env Z h where
  sc_eq := F.sc_eq
  kind := F.kind
  gl := F.gl
  bi := F.bi
  nodup := F.nodup
  len := by rw [List.length_set]; exact F.len
  xl := F.xl
  loc := by
    obtain ⟨m, hm, hl⟩ := F.loc
    refine ⟨m, hm, fun j x u hj hu => ?_⟩
    rcases set_get hu with ⟨rfl, rfl⟩ | ⟨_, hu⟩
    · obtain ⟨y, h1, h2⟩ := hl i x v hj hi
      exact ⟨y, h1, hv _ h2⟩
    · exact hl j x u hj hu
  cel := fun j x hj => by
    obtain ⟨c, y, h1, h2, h3, h4, h5⟩ := F.cel j x hj
    refine ⟨c, y, h1, h2, h3, h4, fun u hu => ?_⟩
    rcases set_get hu with ⟨rfl, rfl⟩ | ⟨_, hu⟩
    · obtain ⟨z, h6, h7⟩ := h5 v hi
      exact ⟨z, h6, hv _ h7⟩
    · exact h5 u hu
  apart := F.apart
theorem FRe.list {a : Addr} {vs : List V} {τ : St} {i : Nat} (hp : Pull (a, .list vs) σ τ) (hi : ρ[i]? = some (some (.ref a))) : FRe W sc ρ σ (ρ.set i (some (.flist vs))) τ := fun X env h B F => by
  obtain ⟨e, b'⟩ := B.dropP hp
  refine ⟨e, b', (F.same e).reslot hi fun x hx => ?_⟩
  obtain rfl := hx
  exact freeze_list B hp
/- ### dict displays -/
theorem fresh_bears {X : Addr → Prop} {h : Heap} (B : Bears W X σ h) {o : Obj} {mo : MO} (hf : fp (h.objs.size, mo) = [h.objs.size]) (hm : ∀ Z : Addr → Obj → Prop, MRel W Z (h.push o) h.objs.size mo) :
    Ext noF σ h ((h.objs.size, mo) :: σ) (h.push o) ∧ Bears W X ((h.objs.size, mo) :: σ) (h.push o) := by
  obtain ⟨he, hb⟩ := Bears.step (h' := h.push o) (old := []) (new := [(h.objs.size, mo)]) (τ := σ) B (List.Perm.refl _) (fun b o' x _ => Heap.get?_push_of_some _ x)
    (by intro a ha; simp [hf] at ha; subst ha; exact .inr (size_none _)) (by simp [hf])
  exact ⟨he, hb fun p hp => by
    simp only [List.mem_singleton] at hp; subst hp; exact hm _⟩
theorem dict_new {h : Heap} {K : Type} [DecidableEq K] {knd : PySem.KeyKind W.prog W.w K} : ∃ o, (h.push { cls := .type "dict", data := .dict #[] }).get? h.objs.size = some o ∧ o.IsDictOf knd [] :=
  Heap.dictOf_iff.mp (by
    refine ⟨_, #[], 0, Heap.get?_push_size _ rfl, ⟨rfl, rfl, rfl⟩, rfl, ?_, ?_, ?_⟩
    all_goals first | exact List.nodup_nil | exact .nil | (intro e he; simp at he) | skip)
theorem aE_dict0 {pos : Pos} {Q : V → St → Prop} (h : ∀ a, Q (.ref a) ((a, .idict []) :: σ)) : aE W n sc ρ σ (.Dict [] [] pos) Q := fun X env A s rm B F E K kk => by
  refine wpAny_Dict_empty ?_
  obtain ⟨e, b⟩ := fresh_bears (o := { cls := .type "dict", data := .dict #[] }) (mo := .idict []) B rfl fun Z => by
    obtain ⟨o, h1, h2⟩ := dict_new (W := W) (h := s.heap) (knd := intKind W.prog W.w)
    exact ⟨o, [], h1, VRels.nil, h2⟩
  exact kk (.ref s.heap.objs.size) _ _ _ (Nx.mk' (tk := s.toks) b e) (by simp only [VRel]) (h _)
theorem aE_dict0t {pos : Pos} {Q : V → St → Prop} (h : ∀ a, Q (.ref a) ((a, .tdict []) :: σ)) : aE W n sc ρ σ (.Dict [] [] pos) Q := fun X env A s rm B F E K kk => by
  refine wpAny_Dict_empty ?_
  obtain ⟨e, b⟩ := fresh_bears (o := { cls := .type "dict", data := .dict #[] }) (mo := .tdict []) B rfl fun Z =>
    ⟨_, #[], 0, [], Heap.get?_push_size _ rfl, ⟨rfl, rfl, rfl⟩, rfl, by simp, by simp, by simp, rfl, VRels.nil⟩
  exact kk (.ref s.heap.objs.size) _ _ _ (Nx.mk' (tk := s.toks) b e) (by simp only [VRel]) (h _)
end
/- part A13 -/
section
variable {W : Wd} {n : Nat} {sc : Scope} {ρ : Ro} {σ : St}
noncomputable abbrev orX (X Y : Addr → Prop) : Addr → Prop := fun a => X a ∨ Y a
theorem Bears.hideNew {X Y : Addr → Prop} {h h' : Heap} (B : Bears W X σ h) (hk : ∀ b o, h.get? b = some o → h'.get? b = some o) (hf : ∀ a, Y a → h.get? a = none) (hex : ∀ a, Y a → ∃ o, h'.get? a = some o) :
    Bears W (orX X Y) σ h' ∧ (∀ a o, Fz X σ h a o → Fz (orX X Y) σ h' a o) := by
  obtain ⟨e1, B1⟩ := B.keep hk
  have hz : ∀ a o, Fz X σ h a o → Fz (orX X Y) σ h' a o := fun a o e => by
    refine ⟨hk _ _ e.1, ?_, e.2.2⟩
    rintro (q | q)
    · exact e.2.1 q
    · have := hf a q; rw [e.1] at this; cases this
  refine ⟨B1.hide (fun a q => .inl q) ?_ ?_ ?_ (fun p hp => (B.objs p hp).mono hz fun b _ o e => hk b o e), hz⟩
  · rintro c (q | q)
    · exact B1.xex c q
    · exact hex c q
  · rintro c hc (q | q)
    · exact B1.hid c hc q
    · obtain ⟨o, ho⟩ := B.ex hc; have := hf c q; rw [ho] at this; cases this
  · rintro b o e (q | q)
    · exact (B.base b o e).2.2 q
    · have := hf b q; rw [(B.base b o e).1] at this; cases this
theorem Fram.hideNew {X Y : Addr → Prop} {h h' : Heap} {env : Env} (F : Fram W X sc ρ env (Fz X σ h) h) (hk : ∀ b o, h.get? b = some o → h'.get? b = some o) (hz : ∀ a o, Fz X σ h a o → Fz (orX X Y) σ h' a o) :
    Fram W (orX X Y) sc ρ env (Fz (orX X Y) σ h') h' := (F.mono hz fun a o _ e => hk a o e).hide fun _ q => .inl q
theorem Fz.show {X Y : Addr → Prop} {h : Heap} : ∀ a o, Fz (orX X Y) σ h a o → Fz X σ h a o := fun _ _ e => ⟨e.1, fun q => e.2.1 (.inl q), e.2.2⟩
/- a hidden object is taken over as a resource -/
theorem Bears.adopt {X Y : Addr → Prop} {h h' : Heap} {a : Addr} {mo : MO} (B : Bears W (orX X Y) σ h) (ha : Y a) (hna : ¬ X a) (hf : fp (a, mo) = [a]) (hk : ∀ b o, h.get? b = some o → b ≠ a → h'.get? b = some o) :
    (∀ b o, Fz (orX X Y) σ h b o → Fz X ((a, mo) :: σ) h' b o) ∧ (MRel W (Fz X ((a, mo) :: σ) h') h' a mo → Bears W X ((a, mo) :: σ) h') := by
  have hown : ∀ b, b ∈ own ((a, mo) :: σ) ↔ b = a ∨ b ∈ own σ := fun b => by simp [hf]
  have hns : a ∉ own σ := fun q => B.hid a q (.inr ha)
  have hz : ∀ b o, Fz (orX X Y) σ h b o → Fz X ((a, mo) :: σ) h' b o := fun b o e => by
    have hne : b ≠ a := by rintro rfl; exact e.2.1 (.inr ha)
    exact ⟨hk b o e.1 hne, fun q => e.2.1 (.inl q), fun q => ((hown b).mp q).elim hne e.2.2⟩
  refine ⟨hz, fun m => ⟨fun p hp => ?_, ?_, fun b hb => ?_, fun b hb => ?_, fun b o e => ?_⟩⟩
  · rcases List.mem_cons.mp hp with e | e
    · subst e; exact m
    · refine (B.objs p e).mono hz fun b hb o x => hk b o x ?_
      rintro rfl
      exact hns (List.mem_flatMap.mpr ⟨p, e, by obtain ⟨_, _⟩ := p; exact hb⟩)
  · rw [own_cons, hf, List.singleton_append, List.nodup_cons]; exact ⟨hns, B.nodup⟩
  · rcases (hown b).mp hb with e | e
    · subst e; exact hna
    · exact fun q => B.hid b e (.inl q)
  · obtain ⟨o, e⟩ := B.xex b (.inl hb)
    exact ⟨o, hk b o e (by rintro rfl; exact hna hb)⟩
  · obtain ⟨e1, e2, e3⟩ := B.base b o e
    have hne : b ≠ a := by rintro rfl; exact e3 (.inr ha)
    exact ⟨hk b o e1 hne, fun q => ((hown b).mp q).elim hne e2, fun q => e3 (.inl q)⟩
theorem size_push_ne {h : Heap} {b : Addr} {o : Obj} (e : h.get? b = some o) : b ≠ h.objs.size := Nat.ne_of_lt (Heap.lt_size e)
/- a display with pairs of int keys -/
theorem aE_dict1 {k v : Expr} {pos : Pos} {Q : V → St → Prop} (h : aE W n sc ρ σ k (fun kv σ1 => aE W n sc ρ σ1 v (fun vv σ2 => IsI (fun i => ∀ a, Q (.ref a) ((a, .idict [(i, vv)]) :: σ2)) kv))) : aE W n sc ρ σ (.Dict [some k] [v] pos) Q := fun X env A s rm B F E K kk => by
  let D := s.heap.objs.size
  let Y : Addr → Prop := fun a => a = D
  have hk0 : ∀ b o, s.heap.get? b = some o → (s.heap.push { cls := .type "dict", data := .dict #[] }).get? b = some o := fun b o e => Heap.get?_push_of_some _ e
  obtain ⟨B1, hz1⟩ := B.hideNew (Y := Y) hk0 (fun a (q : a = D) => q ▸ size_none _) (fun a (q : a = D) => q ▸ ⟨_, Heap.get?_push_size _ rfl⟩)
  have F1 := F.hideNew hk0 hz1
  refine wpAny_Dict_pairs (knd := intKind W.prog W.w) (pairs := [(eval k env, do let x ← eval v env; standAt pos; pure x)]) rfl (by simp) (by simp) ?_
  unfold evalPairs
  have rm' := rm
  refine wpAny_bind (h (orX X Y) env A _ rm B1 F1 E _ fun kv x σ1 s1 nx1 rv hq => ?_)
  have F2 := nx1.fram B1 F1
  refine wpAny_bind (wpAny_holding (wpAny_bind (hq (orX X Y) env A s1 rm nx1.2.1 F2 E _ fun vv y σ2 s2 nx2 rv2 hq2 => ?_)))
  refine wpAny_bind (wpAny_standAt (wpAny_pure (wpAny_bind (wpAny_holding ?_))))
  unfold evalPairs
  refine wpAny_pure (wpAny_pure ?_)
  obtain ⟨i, rfl, hq2⟩ := hq2
  obtain ⟨u, rfl⟩ := rv
  have nx12 := nx1.trans nx2
  obtain ⟨o, ho, hio⟩ := dict_new (W := W) (h := s.heap) (knd := intKind W.prog W.w)
  have ho2 : s2.heap.get? D = some o := (nx12.2.2 D o ho id (fun q => B1.hid D q (.inr rfl))).1
  refine ⟨[(i, y)], ⟨intKind_is _ _ i u, rfl, trivial⟩, Heap.dictOf_iff.mpr ⟨o, ho2, hio⟩, fun h' hd hs => ?_⟩
  obtain ⟨hz3, hb3⟩ := nx12.2.1.adopt (h' := h') (a := D) (mo := .idict [(i, vv)]) rfl (fresh_hid B (size_none _)) rfl fun b o e ne => (hs.2 b ne).trans e
  have B3 := hb3 (by
    obtain ⟨o', ho', hio'⟩ := Heap.dictOf_iff.mp hd
    exact ⟨o', [y], ho', VRels.mono hz3 _ _ (.one rv2), hio'⟩)
  refine kk (.ref D) _ ((D, .idict [(i, vv)]) :: σ2) _ ?_ (by simp only [VRel]; rfl) (hq2 D)
  obtain ⟨⟨h2, t2, rfl⟩, _, e2⟩ := nx12
  refine ⟨⟨h', t2 + 1, rfl⟩, B3, fun a o e f no => ?_⟩
  obtain ⟨e3, no3⟩ := e2 a o (hk0 a o e) f no
  have hne : a ≠ D := size_push_ne e
  refine ⟨(hs.2 a hne).trans e3, ?_⟩
  rw [own_cons]
  simp only [fp, List.singleton_append, List.mem_cons, not_or]
  exact ⟨hne, no3⟩
/- a display with two str keys -/
theorem aE_dict2s {k1 k2 v1 v2 : Expr} {pos : Pos} {Q : V → St → Prop} (h : aE W n sc ρ σ k1 (fun kv1 σ1 => aE W n sc ρ σ1 v1 (fun vv1 σ2 => aE W n sc ρ σ2 k2 (fun kv2 σ3 => aE W n sc ρ σ3 v2 (fun vv2 σ4 => ∃ i j, kv1 = .str i ∧ kv2 = .str j ∧ i ≠ j ∧
      ∀ a, Q (.ref a) ((a, .sdict [(i, vv1), (j, vv2)]) :: σ4)))))) : aE W n sc ρ σ (.Dict [some k1, some k2] [v1, v2] pos) Q := fun X env A s rm B F E K kk => by
  let D := s.heap.objs.size
  let Y : Addr → Prop := fun a => a = D
  have hk0 : ∀ b o, s.heap.get? b = some o → (s.heap.push { cls := .type "dict", data := .dict #[] }).get? b = some o := fun b o e => Heap.get?_push_of_some _ e
  obtain ⟨B1, hz1⟩ := B.hideNew (Y := Y) hk0 (fun a (q : a = D) => q ▸ size_none _) (fun a (q : a = D) => q ▸ ⟨_, Heap.get?_push_size _ rfl⟩)
  have F1 := F.hideNew hk0 hz1
  refine wpAny_Dict_pairs (knd := strKind W.prog W.w) (pairs := [(eval k1 env, do let x ← eval v1 env; standAt pos; pure x), (eval k2 env, do let x ← eval v2 env; standAt pos; pure x)]) rfl (by simp) (by simp) ?_
  unfold evalPairs
  refine wpAny_bind (h (orX X Y) env A _ rm B1 F1 E _ fun kv x σ1 s1 nx1 rv hq => ?_)
  have F2 := nx1.fram B1 F1
  refine wpAny_bind (wpAny_holding (wpAny_bind (hq (orX X Y) env A s1 rm nx1.2.1 F2 E _ fun vv y σ2 s2 nx2 rv2 hq2 => ?_)))
  have F3 := nx2.fram nx1.2.1 F2
  refine wpAny_bind (wpAny_standAt (wpAny_pure (wpAny_bind (wpAny_holding ?_))))
  unfold evalPairs
  refine wpAny_bind (hq2 (orX X Y) env A s2 rm nx2.2.1 F3 E _ fun kv2 x2 σ3 s3 nx3 rv3 hq3 => ?_)
  have F4 := nx3.fram nx2.2.1 F3
  refine wpAny_bind (wpAny_holding (wpAny_bind (hq3 (orX X Y) env A s3 rm nx3.2.1 F4 E _ fun vv2 y2 σ4 s4 nx4 rv4 hq4 => ?_)))
  refine wpAny_bind (wpAny_standAt (wpAny_pure (wpAny_bind (wpAny_holding ?_))))
  unfold evalPairs
  refine wpAny_pure (wpAny_pure (wpAny_pure ?_))
  obtain ⟨i, j, rfl, rfl, hij, hq4⟩ := hq4
  obtain ⟨u, rfl⟩ := rv; obtain ⟨u', rfl⟩ := rv3
  have nx14 := ((nx1.trans nx2).trans nx3).trans nx4
  obtain ⟨o, ho, hio⟩ := dict_new (W := W) (h := s.heap) (knd := strKind W.prog W.w)
  have ho2 : s4.heap.get? D = some o := (nx14.2.2 D o ho id (fun q => B1.hid D q (.inr rfl))).1
  refine ⟨[(i, y), (j, y2)], ⟨strKind_is _ _ i u, rfl, strKind_is _ _ j u', rfl, trivial⟩, Heap.dictOf_iff.mpr ⟨o, ho2, hio⟩, fun h' hd hs => ?_⟩
  have hmer : merged [] [(i, y), (j, y2)] = [(i, y), (j, y2)] := by simp [merged, stored, hij]
  rw [hmer] at hd
  obtain ⟨hz3, hb3⟩ := nx14.2.1.adopt (h' := h') (a := D) (mo := .sdict [(i, vv), (j, vv2)]) rfl (fresh_hid B (size_none _)) rfl fun b o e ne => (hs.2 b ne).trans e
  have B3 := hb3 (by
    obtain ⟨o', ho', hio'⟩ := Heap.dictOf_iff.mp hd
    exact ⟨o', [y, y2], ho', VRels.mono hz3 _ _ (.cons (VRel.mono (nx3.trans nx4).2.2.fz0 _ _ rv2) (.one rv4)), hio'⟩)
  refine kk (.ref D) _ ((D, .sdict [(i, vv), (j, vv2)]) :: σ4) _ ?_ (by simp only [VRel]; rfl) (hq4 D)
  obtain ⟨⟨h2, t2, rfl⟩, _, e2⟩ := nx14
  refine ⟨⟨h', t2 + 2, rfl⟩, B3, fun a o e f no => ?_⟩
  obtain ⟨e3, no3⟩ := e2 a o (hk0 a o e) f no
  have hne : a ≠ D := size_push_ne e
  refine ⟨(hs.2 a hne).trans e3, ?_⟩
  rw [own_cons]
  simp only [fp, List.singleton_append, List.mem_cons, not_or]
  exact ⟨hne, no3⟩
end
/- part A14 -/
structure IterOk (W : Wd) (A : Around) (tgt : Expr) (I : Addr) (wr : Addr → Prop) (vs : List V) (SI : (Addr → Prop) → Nat → St → Heap → Prop) : Prop where
  frame : ∀ (X : Addr → Prop) (i : Nat) (σ : St) (h : Heap) (X' : Addr → Prop) (σ' : St) (h' : Heap), SI X i σ h → (∀ b, wr b → ∀ o, h.get? b = some o → h'.get? b = some o) → (∀ b o, Fz X σ h b o → Fz X' σ' h' b o) → SI X' i σ' h'
  item : ∀ (X : Addr → Prop) (i : Nat) (v : V) (σ : St) (s : Shared) (Q : Value → Shared → Prop) (E : Value → Shared → Prop), vs[i]? = some v → (∀ b, wr b → X b) → Bears W X σ s.heap → SI X i σ s.heap →
    (∀ x s', Nx W X wr σ s σ s' → VRel W (Fz X σ s'.heap) v x → SI X (i + 1) σ s'.heap → Q x s') →
    wpAny W.M A (pyNext (.ref I)) (fun r s1 => ∃ x, r = some x ∧ wpAny W.M A (letOwnedTupleGo tgt (.ref I) x) (fun _ s' => Q x s') E s1) E s
  done : ∀ (X : Addr → Prop) (σ : St) (s : Shared) (Q : Option Value → Shared → Prop) (E : Value → Shared → Prop), SI X vs.length σ s.heap →
    (∀ s', (∃ h' tk, s' = { s with heap := h', toks := tk }) → (∀ b o, s.heap.get? b = some o → ¬ wr b → s'.heap.get? b = some o) → Q none s') → wpAny W.M A (pyNext (.ref I)) Q E s
  self : ∀ (X : Addr → Prop) (i : Nat) (σ : St) (s : Shared) (Q : Value → Shared → Prop) (E : Value → Shared → Prop), SI X i σ s.heap → Q (.ref I) s → wpAny W.M A (pyIter (.ref I)) Q E s
noncomputable def aIter (W : Wd) (n : Nat) (sc : Scope) (ρ : Ro) (σ : St) (tg e : Expr) (Q : List V → St → Prop) : Prop :=
  ∀ (X : Addr → Prop) (env : Env) (A : Around) (s : Shared), Room n A → Bears W X σ s.heap → Fram W X sc ρ env (Fz X σ s.heap) s.heap → ∀ (E : Value → Shared → Prop) (K : Value → Shared → Prop),
    (∀ I wr vs SI σ' s', IterOk W A tg I wr vs SI → (∀ b o, s.heap.get? b = some o → b ∉ own σ → ¬ wr b) → (∃ h' tk, s' = { s with heap := h', toks := tk }) → Bears W (orX X wr) σ' s'.heap → Ext noF σ s.heap σ' s'.heap →
      (∀ a o, Fz X σ s.heap a o → Fz (orX X wr) σ' s'.heap a o) → SI (orX X wr) 0 σ' s'.heap → Q vs σ' → K (.ref I) s') → wpAny W.M A (eval e env) (fun x s1 => wpAny W.M A (pyIter x) K E s1) E s
noncomputable def aLoop (W : Wd) (n : Nat) (sc : Scope) (t : Expr) (body rest : List Stmt) (Q : Fl → Ro → St → Prop) : List V → Ro → St → Prop
  | [], ρ, σ => aSs W n sc ρ σ rest Q
  | v :: vs, ρ, σ => aA W n sc ρ σ t v (fun ρ1 σ1 => aSs W n sc ρ1 σ1 body (fun fl ρ2 σ2 => match fl with
      | .next => aLoop W n sc t body rest Q vs ρ2 σ2
      | .cont => aLoop W n sc t body rest Q vs ρ2 σ2
      | .brk => aSs W n sc ρ2 σ2 rest Q
      | .ret v => Q (.ret v) ρ2 σ2))
section
variable {W : Wd} {n : Nat} {sc : Scope} {ρ : Ro} {σ : St}
theorem Fram.rebase {X X' : Addr → Prop} {ρ0 : Ro} {env : Env} {Z0 Z : Addr → Obj → Prop} {h0 h : Heap} (F0 : Fram W X sc ρ0 env Z0 h0) (F : Fram W X' sc ρ env Z h) : Fram W X sc ρ env Z h where
  sc_eq := F.sc_eq
  kind := F.kind
  gl := F.gl
  bi := F.bi
  nodup := F.nodup
  len := F.len
  xl := F0.xl
  loc := F.loc
  cel := fun i x hi => by
    obtain ⟨c, y, h1, h2, r⟩ := F.cel i x hi
    obtain ⟨c', y', h1', h2', r'⟩ := F0.cel i x hi
    rw [h1] at h1'; cases h1'
    exact ⟨c, y, h1, h2', r⟩
  apart := F.apart
theorem Bears.showF {X Y : Addr → Prop} {h h' : Heap} (B : Bears W (orX X Y) σ h) (hXY : ∀ a, X a → ¬ Y a) (hk : ∀ b o, h.get? b = some o → ¬ Y b → h'.get? b = some o) :
    Bears W X σ h' ∧ (∀ a o, Fz (orX X Y) σ h a o → Fz X σ h' a o) := by
  have hz : ∀ a o, Fz (orX X Y) σ h a o → Fz X σ h' a o := fun a o e => ⟨hk a o e.1 fun q => e.2.1 (.inr q), fun q => e.2.1 (.inl q), e.2.2⟩
  refine ⟨⟨fun p hp => (B.objs p hp).mono hz fun b hb o e => hk b o e fun q => ?_, B.nodup, fun a ha q => B.hid a ha (.inl q), fun a ha => ?_, fun b o e => ?_⟩, hz⟩
  · exact B.hid b (List.mem_flatMap.mpr ⟨p, hp, by obtain ⟨_, _⟩ := p; exact hb⟩) (.inr q)
  · obtain ⟨o, e⟩ := B.xex a (.inl ha)
    exact ⟨o, hk a o e (hXY a ha)⟩
  · obtain ⟨e1, e2, e3⟩ := B.base b o e
    exact ⟨hk b o e1 fun q => e3 (.inr q), e2, fun q => e3 (.inl q)⟩
inductive ForJ (W : Wd) (n : Nat) (sc : Scope) (X X2 Fw : Addr → Prop) (σ1 : St) (s1 : Shared) (env : Env) (SI : (Addr → Prop) → Nat → St → Heap → Prop) (vs : List V) (t : Expr) (body rest : List Stmt) (Q : Fl → Ro → St → Prop) (k : Nat) (s2 : Shared) : Prop
  | mk (i : Nat) (ρ2 : Ro) (σ2 : St) (hk : k = vs.length - i) (hi : i ≤ vs.length) (nx : Nx W X2 Fw σ1 s1 σ2 s2) (F : Fram W X sc ρ2 env (Fz X2 σ2 s2.heap) s2.heap) (S : SI X2 i σ2 s2.heap) (L : aLoop W n sc t body rest Q (vs.drop i) ρ2 σ2) : ForJ W n sc X X2 Fw σ1 s1 env SI vs t body rest Q k s2
noncomputable abbrev KFor (W : Wd) (n : Nat) (sc : Scope) (ρ : Ro) (t : Expr) (body rest : List Stmt) (Q : Fl → Ro → St → Prop) : List V → St → Prop := fun vs σ => aLoop W n sc t body rest Q vs ρ σ
theorem ss_for {t iter : Expr} {body : List Stmt} {pos : Pos} {rest : List Stmt} {Q : Fl → Ro → St → Prop} (h : aIter W n sc ρ σ t iter (KFor W n sc ρ t body rest Q))
    (hs : autoParam (∀ env x, foldedSetIterable iter env x = pure x) tRfl2) : aSs W n sc ρ σ (.For t iter body [] pos :: rest) Q := ss_cons fun X env A s rm B F E K kk => by
  refine wpAny_For (h X env A s rm B F E _ fun I wr vs SI σ1 s1 it hfr hsh B1 e1 hz1 hSI hq => ?_) (hs env)
  have hXw : ∀ a, X a → ¬ wr a := fun a hx hw => by
    obtain ⟨o, e⟩ := B.xex a hx
    exact hfr a o e (fun q => B.hid a q hx) hw
  have F1 : Fram W X sc ρ env (Fz (orX X wr) σ1 s1.heap) s1.heap := F.mono hz1 fun a o hx e => (e1 a o e id fun q => B.hid a q hx).1
  have hfX : ∀ a, frF env sc a → X a := frF_hid F
  have base : ∀ σ2 s2, Nx W (orX X wr) (orX (frF env sc) wr) σ1 s1 σ2 s2 → Nx W X (frF env sc) σ s σ2 s2 := fun σ2 s2 nx => by
    have e3 := fun a o e no => e1 a o e id no
    exact ⟨sh_trans hsh nx.1, nx.2.1.show fun _ q => .inl q, fun a o e f no => nx.2.2 a o (e3 a o e no).1 (fun q => q.elim f (hfr a o e no)) (e3 a o e no).2⟩
  have hu : ∀ {σa σb : St} {sa sb : Shared} {F : Addr → Prop}, (∀ a, F a → orX (frF env sc) wr a) → Nx W (orX X wr) F σa sa σb sb → Nx W (orX X wr) (orX (frF env sc) wr) σa sa σb sb := fun hF nx => ⟨nx.1, nx.2.1, nx.2.2.sub hF⟩
  refine codeAny_forLoop_any (ForJ W n sc X (orX X wr) (orX (frF env sc) wr) σ1 s1 env SI vs t body rest Q) ?_ vs.length ⟨0, ρ, σ1, by (first | lia | omega), by (first | lia | omega), .refl B1, F1, hSI, by simpa using hq⟩
  rintro k s2 ⟨i, ρ2, σ2, rfl, hi, nx2, F2, hS2, hL⟩
  by_cases hlt : i < vs.length
  · have hv : vs[i]? = some vs[i] := by simp [hlt]
    rw [List.drop_eq_getElem_cons hlt] at hL
    unfold aLoop at hL
    refine wpAny_mono (it.item (orX X wr) i vs[i] σ2 s2 (fun x s3 => wpAny W.M A (assign t env x) (fun _ s₂ => wpAny W.M A (execs body env) (fun f s₃ => match f with
            | .next | .cont => ∃ m, m < vs.length - i ∧ ForJ W n sc X (orX X wr) (orX (frF env sc) wr) σ1 s1 env SI vs t body rest Q m s₃
            | .brk => K .next s₃
            | .ret v => K (.ret v) s₃) (notedBy W.M A env fun e s' => cameBackBy W.M A env E e s') s₂) (notedBy W.M A env fun e s' => cameBackBy W.M A env E e s') s3) _ hv (fun b hb => .inr hb) nx2.2.1 hS2 fun x s3 nx3 rx hS3 => ?_) (fun r s3 hx => ?_) fun _ _ e => e
    · have nn3 := nx2.trans (hu (fun _ q => .inr q) nx3)
      have hfw : ∀ b, wr b → ¬ frF env sc b := fun b hw hf => hXw b (hfX b hf) hw
      have F3 : Fram W X sc ρ2 env (Fz (orX X wr) σ2 s3.heap) s3.heap := F2.mono (nx3.2.2.fz fun _ q => .inr q) fun a o hx e => (nx3.2.2 a o e (hXw a hx) fun q => nx2.2.1.hid a q (.inl hx)).1
      refine hL (orX X wr) env A s3 x rm nx3.2.1 (F3.hide fun _ q => .inl q) rx _ _ fun ρ4 σ4 s4 nx4 F4 hb => ?_
      have hS4 : SI (orX X wr) (i + 1) σ4 s4.heap := it.frame _ _ _ _ _ _ _ hS3 (fun b hw o e => (nx4.2.2 b o e (hfw b hw) fun q => nx3.2.1.hid b q (.inr hw)).1) (nx4.2.2.fz fun a q => .inl (hfX a q))
      refine hb (orX X wr) env A s4 rm nx4.2.1 F4 _ _ fun fl f ρ5 σ5 s5 nx5 F5 rf hq5 => ?_
      have hS5 : SI (orX X wr) (i + 1) σ5 s5.heap := it.frame _ _ _ _ _ _ _ hS4 (fun b hw o e => (nx5.2.2 b o e (hfw b hw) fun q => nx4.2.1.hid b q (.inr hw)).1) (nx5.2.2.fz fun a q => .inl (hfX a q))
      have nn5 := (nn3.trans (hu (fun _ q => .inl q) nx4)).trans (hu (fun _ q => .inl q) nx5)
      have F5' : Fram W X sc ρ5 env (Fz (orX X wr) σ5 s5.heap) s5.heap := F.rebase F5
      have dn : ∀ a o, Fz (orX X wr) σ5 s5.heap a o → Fz X σ5 s5.heap a o := Fz.show
      have F5'' : Fram W X sc ρ5 env (Fz X σ5 s5.heap) s5.heap := F5'.mono dn fun _ _ _ e => e
      cases fl with
      | next => obtain rfl := rf; exact ⟨vs.length - (i + 1), by (first | lia | omega), i + 1, ρ5, σ5, rfl, by (first | lia | omega), nn5, F5', hS5, hq5⟩
      | cont => obtain rfl := rf; exact ⟨vs.length - (i + 1), by (first | lia | omega), i + 1, ρ5, σ5, rfl, by (first | lia | omega), nn5, F5', hS5, hq5⟩
      | brk => obtain rfl := rf; exact kk .next .next ρ5 σ5 s5 (base _ _ nn5) F5'' rfl hq5
      | ret v => obtain ⟨x, rfl, hx⟩ := rf; exact kk (.ret v) (.ret x) ρ5 σ5 s5 (base _ _ nn5) F5'' ⟨x, rfl, VRel.mono dn _ _ hx⟩ hq5
    · obtain ⟨x, rfl, hx⟩ := hx
      exact hx
  · have e : vs.drop i = [] := List.drop_eq_nil_of_le (by (first | lia | omega))
    rw [e] at hL
    unfold aLoop at hL
    have ei : i = vs.length := by (first | lia | omega)
    subst ei
    refine it.done (orX X wr) σ2 s2 _ _ hS2 fun s3 hs3 hk3 => ?_
    obtain ⟨B3, hz3⟩ := nx2.2.1.showF hXw hk3
    have F3 : Fram W X sc ρ2 env (Fz X σ2 s3.heap) s3.heap := F2.mono hz3 fun a o hx e => hk3 a o e (hXw a hx)
    have nn : Nx W X (frF env sc) σ s σ2 s3 := ⟨sh_trans hsh (sh_trans nx2.1 hs3), B3, fun a o e f no =>
      have e3 := e1 a o e id no
      have e4 := nx2.2.2 a o e3.1 (fun q => q.elim f (hfr a o e no)) e3.2
      ⟨hk3 a o e4.1 (hfr a o e no), e4.2⟩⟩
    exact wpAny_execs_nil (kk .next .next ρ2 σ2 _ nn F3 rfl hL)
end
/- part A15 -/
theorem go_quiet {M : Model} {A : Around} {E : Value → Shared → Prop} {s : Shared} {I : Addr} {T : String} {o : Obj} {vs : Array Value} {tgt : Expr} {x : Value} {Q : Unit → Shared → Prop} (ho : s.heap.get? I = some o) (hc : o.cls = .type T) (hd : o.data = .fields vs)
    (hT : ["enumerate", "zip", "dict_itemiterator", "dict_reverseitemiterator", "odict_iterator", "itertools.zip_longest", "itertools.pairwise"].contains T = false) (h : Q () s) : wpAny M A (letOwnedTupleGo tgt (.ref I) x) Q E s := by
  cases tgt with
  | Tuple _ _ _ =>
    cases x with
    | ref a =>
      unfold letOwnedTupleGo
      refine wpAny_bind (wpAny_load ho ?_)
      rw [hc, hd]
      show wpAny _ _ (if (["enumerate", "zip", "dict_itemiterator", "dict_reverseitemiterator", "odict_iterator", "itertools.zip_longest", "itertools.pairwise"].contains T && vs[0]? == some (rawInt a)) = true then _ else _) Q E s
      rw [hT, Bool.false_and, if_neg (by decide)]
      exact wpAny_pure h
    | _ => exact wpAny_pure h
  | List _ _ =>
    cases x with
    | ref a =>
      unfold letOwnedTupleGo
      refine wpAny_bind (wpAny_load ho ?_)
      rw [hc, hd]
      show wpAny _ _ (if (["enumerate", "zip", "dict_itemiterator", "dict_reverseitemiterator", "odict_iterator", "itertools.zip_longest", "itertools.pairwise"].contains T && vs[0]? == some (rawInt a)) = true then _ else _) Q E s
      rw [hT, Bool.false_and, if_neg (by decide)]
      exact wpAny_pure h
    | _ => exact wpAny_pure h
  | _ => exact wpAny_pure h
section
variable {W : Wd} {n : Nat} {sc : Scope} {ρ : Ro} {σ : St}
theorem IterOk.ofWalks {A : Around} {tg : Expr} {I : Addr} {fp wr : List Addr} {m : Nat} {P : Nat → Value → Prop} {St' : Nat → Heap → Prop} (Wk : Walks W.prog W.w A I fp wr m P St') {vs : List V} (hm : m = vs.length)
    (hgo : ∀ (i : Nat) (h : Heap), St' i h → ∃ o T fs, h.get? I = some o ∧ o.cls = .type T ∧ o.data = .fields fs ∧ ["enumerate", "zip", "dict_itemiterator", "dict_reverseitemiterator", "odict_iterator", "itertools.zip_longest", "itertools.pairwise"].contains T = false)
    (hw : wr = [I]) :
    IterOk W A tg I (fun b => b ∈ wr) vs (fun X i σ h => St' i h ∧ (∀ b ∈ fp, b ∈ wr ∨ ∃ o, Fz X σ h b o) ∧ (∀ (j : Nat) (v : V), vs[j]? = some v → ∀ x, P j x → VRel W (Fz X σ h) v x)) where
  frame := fun X i σ h X' σ' h' st hk hz => ⟨Wk.frame i h h' st.1 fun b hb o e => by
      rcases st.2.1 b hb with q | ⟨o', q⟩
      · exact hk b q o e
      · have h1 := q.1
        rw [e] at h1; cases h1
        exact (hz b o q).1, fun b hb => (st.2.1 b hb).imp id fun ⟨o, q⟩ => ⟨o, hz b o q⟩, fun j v hv x hp => VRel.mono hz _ _ (st.2.2 j v hv x hp)⟩
  item := fun X i v σ s Q E hv hX B st hQ => by
    have hi : i < m := by rw [hm]; exact (List.getElem?_eq_some_iff.mp hv).1
    refine Wk.item i s _ E hi st.1 fun x h' tk hP hst' hk => ?_
    refine ⟨x, rfl, ?_⟩
    obtain ⟨o, T, fs, g1, g2, g3, g4⟩ := hgo _ _ hst'
    refine go_quiet (s := { s with heap := h', toks := tk }) g1 g2 g3 g4 ?_
    obtain ⟨eE, bB⟩ := B.keepF (F := fun b => b ∈ wr) (h' := h') (fun a q => hX a q) (fun a q => by rw [hw] at q; rw [List.mem_singleton.mp q]; exact ⟨o, g1⟩) fun b o e f => hk b o f e
    have hz := eE.fz fun a q => hX a q
    exact hQ x _ (Nx.mk' bB eE) (VRel.mono hz _ _ (st.2.2 i v hv x hP)) ⟨hst', fun b hb => (st.2.1 b hb).imp id fun ⟨o, q⟩ => ⟨o, hz b o q⟩, fun j v hv x hp => VRel.mono hz _ _ (st.2.2 j v hv x hp)⟩
  done := fun X σ s Q E st hQ => by
    have st1 := st.1
    rw [← hm] at st1
    exact Wk.done s Q E st1 fun h' tk hk => hQ _ ⟨h', tk, rfl⟩ fun b o e f => hk b o f e
  self := fun X i σ s Q E st hQ => Wk.self i s Q E st.1 hQ
end
/- part A16 -/
section
variable {W : Wd} {n : Nat} {sc : Scope} {ρ : Ro} {σ : St}
theorem isInt_val {prog : Program} {w : World} {k : Int} {x : Value} (h : (intKind prog w).is k x = true) : ∃ t, x = .int k t := by
  unfold intKind Value.isInt at h
  cases x with
  | int i t => exact ⟨t, by simp at h; rw [h]⟩
  | _ => simp at h
theorem iter_of {A : Around} {tg : Expr} {X : Addr → Prop} {E : Value → Shared → Prop} {K : Value → Shared → Prop} {Q : List V → St → Prop} {s s1 : Shared} {σ' : St} {oI : Obj} {fp : List Addr} {m : Nat} {P : Nat → Value → Prop} {St' : Nat → Heap → Prop} {vs : List V} {tk : Nat}
    (nx : Nx W X noF σ s σ' s1) (ho : oI.isFreed = false) (Wk : Walks W.prog W.w A s1.heap.objs.size fp [s1.heap.objs.size] m P St') (hm : m = vs.length)
    (hgo : ∀ (i : Nat) (h : Heap), St' i h → ∃ o T fs, h.get? s1.heap.objs.size = some o ∧ o.cls = .type T ∧ o.data = .fields fs ∧ ["enumerate", "zip", "dict_itemiterator", "dict_reverseitemiterator", "odict_iterator", "itertools.zip_longest", "itertools.pairwise"].contains T = false)
    (st0 : St' 0 (s1.heap.push oI)) (hfp : ∀ b ∈ fp, b = s1.heap.objs.size ∨ ∃ o, Fz X σ' s1.heap b o) (hP : ∀ (j : Nat) (v : V), vs[j]? = some v → ∀ x, P j x → VRel W (Fz X σ' s1.heap) v x) (hq : Q vs σ')
    (kk : ∀ I wr vs SI σ' s', IterOk W A tg I wr vs SI → (∀ b o, s.heap.get? b = some o → b ∉ own σ → ¬ wr b) → (∃ h' tk, s' = { s with heap := h', toks := tk }) → Bears W (orX X wr) σ' s'.heap → Ext noF σ s.heap σ' s'.heap →
      (∀ a o, Fz X σ s.heap a o → Fz (orX X wr) σ' s'.heap a o) → SI (orX X wr) 0 σ' s'.heap → Q vs σ' → K (.ref I) s') : K (.ref s1.heap.objs.size) { s1 with heap := s1.heap.push oI, toks := tk } := by
  let I := s1.heap.objs.size
  let Y : Addr → Prop := fun b => b ∈ [I]
  have hk : ∀ b o, s1.heap.get? b = some o → (s1.heap.push oI).get? b = some o := fun b o e => Heap.get?_push_of_some _ e
  have hI : (s1.heap.push oI).get? I = some oI := Heap.get?_push_size _ ho
  obtain ⟨B2, hz2⟩ := nx.2.1.hideNew (Y := Y) hk (fun a q => by rw [List.mem_singleton.mp q]; exact size_none _) (fun a q => ⟨oI, by rw [List.mem_singleton.mp q]; exact hI⟩)
  refine kk I Y vs _ σ' _ (IterOk.ofWalks Wk hm hgo rfl) (fun b o e no hb => ?_) ?_ B2 ?_ (fun a o e => hz2 a o (nx.2.2.fz0 a o e)) ⟨st0, fun b hb => ?_, fun j v hv x hp => VRel.mono hz2 _ _ (hP j v hv x hp)⟩ hq
  · have e1 := (nx.2.2 b o e id no).1
    rw [List.mem_singleton.mp hb] at e1
    exact absurd (Heap.lt_size e1) (Nat.lt_irrefl _)
  · exact sh_toks nx.1
  · intro a o e f no
    obtain ⟨e1, no1⟩ := nx.2.2 a o e f no
    exact ⟨hk a o e1, no1⟩
  · rcases hfp b hb with rfl | ⟨o, q⟩
    · exact .inl (List.mem_singleton.mpr rfl)
    · exact .inr ⟨o, hz2 b o q⟩
noncomputable abbrev KItF (Q : List V → St → Prop) : V → St → Prop := fun v σ => IsF (fun vs => Q vs σ) v
noncomputable abbrev KItU (Q : List V → St → Prop) : V → St → Prop := fun v σ => IsU (fun vs => Q vs σ) v
/- for .. in a list that nothing writes -/
theorem ai_flist {tg e : Expr} {Q : List V → St → Prop} (h : aE W n sc ρ σ e (KItF Q)) : aIter W n sc ρ σ tg e Q := fun X env A s rm B F E K kk => by
  refine h X env A s rm B F E _ fun v x σ' s1 nx rv hq => ?_
  obtain ⟨vs, rfl, hq⟩ := hq
  obtain ⟨a, xs, k, rfl, hz, hr⟩ := rv
  have hL := isList_of hz.1
  refine wpAny_pyIter_list hL ?_
  have hne : a ≠ s1.heap.objs.size := size_push_ne hz.1
  have hL' : (s1.heap.push { cls := .type "list_iterator", data := .fields #[.ref a, .int 0 0] }).IsList a xs.toArray := isList_of (Heap.get?_push_of_some _ hz.1)
  exact iter_of (E := E) (tk := s1.toks) nx rfl (Walks.list rm.1 _ a hne xs.toArray) (by simp [hr.length]) (fun i h st => by obtain ⟨o, h1, h2, h3⟩ := st.1; exact ⟨o, _, _, h1, h2, h3, by decide⟩)
    ⟨⟨_, Heap.get?_push_size _ rfl, rfl, rfl⟩, hL'⟩ (fa2 (.inl rfl) (.inr ⟨_, hz⟩)) (fun j v hv x hx => by
      obtain ⟨y, h1, h2⟩ := hr.get hv
      have : y = x := by have h3 : xs[j]? = some x := by simpa using hx
                         rw [h1] at h3; exact Option.some.inj h3
      exact this ▸ h2) hq kk
/- for .. in a tuple -/
theorem ai_tup {tg e : Expr} {Q : List V → St → Prop} (h : aE W n sc ρ σ e (KItU Q)) : aIter W n sc ρ σ tg e Q := fun X env A s rm B F E K kk => by
  refine h X env A s rm B F E _ fun v x σ' s1 nx rv hq => ?_
  obtain ⟨vs, rfl, hq⟩ := hq
  obtain ⟨a, o, xs, k, rfl, hz, hto, hr⟩ := rv
  have hL := isTuple_of hz.1 hto
  refine wpAny_pyIter_tuple hL ?_
  have hne : a ≠ s1.heap.objs.size := size_push_ne hz.1
  have hL' : (s1.heap.push { cls := .type "tuple_iterator", data := .fields #[.ref a, .int 0 0] }).IsTuple a xs.toArray := isTuple_of (Heap.get?_push_of_some _ hz.1) hto
  exact iter_of (E := E) (tk := s1.toks) nx rfl (Walks.tuple rm.1 _ a hne xs.toArray) (by simp [hr.length]) (fun i h st => by obtain ⟨o, h1, h2, h3⟩ := st.1; exact ⟨o, _, _, h1, h2, h3, by decide⟩)
    ⟨⟨_, Heap.get?_push_size _ rfl, rfl, rfl⟩, hL'⟩ (fa2 (.inl rfl) (.inr ⟨_, hz⟩)) (fun j v hv x hx => by
      obtain ⟨y, h1, h2⟩ := hr.get hv
      have : y = x := by have h3 : xs[j]? = some x := by simpa using hx
                         rw [h1] at h3; exact Option.some.inj h3
      exact this ▸ h2) hq kk
inductive IsD (P : List (Int × V) → Prop) (v : V) : Prop
  | mk (kvs : List (Int × V)) (e : v = fd kvs) (h : P kvs) : IsD P v
inductive IsN (P : Nat → Prop) (v : V) : Prop
  | mk (m : Nat) (e : v = .int m) (hm : m ≤ 1000) (h : P m) : IsN P v
noncomputable abbrev KItD (Q : List V → St → Prop) : V → St → Prop := fun v σ => IsD (fun kvs => Q (kvs.map fun kv => .int kv.1) σ) v
/- for .. in a dict that nothing writes -/
theorem ai_fdict {tg e : Expr} {Q : List V → St → Prop} (h : aE W n sc ρ σ e (KItD Q)) : aIter W n sc ρ σ tg e Q := fun X env A s rm B F E K kk => by
  refine h X env A s rm B F E _ fun v x σ' s1 nx rv hq => ?_
  obtain ⟨kvs, rfl, hq⟩ := hq
  obtain ⟨a, xs, rfl, hs, hd, hr, o, hz, hio⟩ := fd_rel fz_get rv
  obtain ⟨ep, hat⟩ := hd.dictAt
  refine wpAny_pyIter_dict hs hat ?_
  have hne : a ≠ s1.heap.objs.size := size_push_ne hz.1
  have hat' : (s1.heap.push { cls := .type "dict_keyiterator", data := .fields #[.ref a, .int 0 0, .int ((kvs.map (·.1)).zip xs).length 0, .int ep 0] }).DictAt (intKind W.prog W.w) a ((kvs.map (·.1)).zip xs) ep := hat.keep fun b o e => Heap.get?_push_of_some _ e
  exact iter_of (E := E) (tk := s1.toks) nx rfl (Walks.dictKeys rm.1 _ a hne _ ep) (by rw [zip_len hr]; simp) (fun i h st => by obtain ⟨o, h1, h2, h3⟩ := st.1; exact ⟨o, _, _, h1, h2, h3, by decide⟩)
    ⟨⟨_, Heap.get?_push_size _ rfl, rfl, rfl⟩, hat'⟩ (fa2 (.inl rfl) (.inr ⟨_, hz⟩)) (fun j v hv x hx => by
      obtain ⟨k, y, h1, h2⟩ := hx
      obtain ⟨t, rfl⟩ := isInt_val h2
      rw [List.getElem?_map] at hv
      obtain ⟨kv, h3, rfl⟩ := Option.map_eq_some_iff.mp hv
      rw [List.getElem?_zip_eq_some] at h1
      have h4 := h1.1
      rw [List.getElem?_map, h3] at h4
      simp only [Option.map_some, Option.some.injEq] at h4
      simp only [VRel]; exact ⟨t, by rw [h4]⟩) hq kk
noncomputable abbrev KItN (Q : List V → St → Prop) : V → St → Prop := fun v σ => IsN (fun m => Q ((List.range m).map fun i : Nat => V.int i) σ) v
noncomputable abbrev KRan (W : Wd) (n : Nat) (sc : Scope) (ρ : Ro) (e : Expr) (Q : List V → St → Prop) : V → St → Prop := fun fv σ => fv = .con (.type "range") ∧ aE W n sc ρ σ e (KItN Q)
/- for .. in range(e) -/
theorem ai_range {tg e : Expr} {x : Str} {p pos : Pos} {Q : List V → St → Prop} (hb : aE W n sc ρ σ (.Name x p) (KRan W n sc ρ e Q))
    (hs : autoParam (notStar e = true) tRfl) : aIter W n sc ρ σ tg (.Call (.Name x p) [e] [] pos) Q := fun X env A s rm B F E K kk => by
  rw [arm_eval_Call_Name']
  refine wpAny_bind (hb X env A s rm B F E _ fun fv y σ1 s0 nx0 rv0 hq => ?_)
  obtain ⟨rfl, hq⟩ := hq
  obtain rfl := rv0
  have hes : [e].all notStar = true := by simp [hs]
  refine callWith_of (P := fun h => ∀ b o, W.h0.get? b = some o → h.get? b = some o) (by rw [starEach_any hes]; rfl) (fun h' hP => Kp.type W "range" h' hP) ?_
  have F0 := nx0.fram B F
  refine evalArgs_of hes ?_
  have hone : aEs W n sc ρ σ1 [e] (fun vs σ'' => ∃ m : Nat, vs = [.int m] ∧ m ≤ 1000 ∧ Q ((List.range m).map fun i : Nat => V.int i) σ'') :=
    aEs_cons (hq.mono fun v σ' hv => aEs_nil (by obtain ⟨m, rfl, h1, h2⟩ := hv; exact ⟨m, rfl, h1, h2⟩)) fun env => starEach_plain hs
  refine hone pos X env A s0 rm nx0.2.1 F0 E _ fun vs xs σ2 s1 nx1 rv1 hq1 => ?_
  obtain ⟨m, rfl, hm, hq1⟩ := hq1
  obtain ⟨y, rfl, hy⟩ := vrels1 rv1
  obtain ⟨t, rfl⟩ := hy
  refine ⟨nx1.2.1.keeps, ?_⟩
  show wpAny _ _ (call (.type "range") [.int m t]) _ _ _
  refine call_range_1 ?_
  have nx01 := nx0.trans nx1
  have hb2 := push_bears nx01.2.1 { cls := .type "range", data := .fields #[.int 0 s1.toks, .int m t, .int 1 (s1.toks + 1)] }
  have nx2 : Nx W X noF σ s σ2 { s1 with heap := s1.heap.push { cls := .type "range", data := .fields #[.int 0 s1.toks, .int m t, .int 1 (s1.toks + 1)] }, toks := s1.toks + 1 + 1 } := nx01.trans (Nx.mk' hb2.2 hb2.1)
  have hsz : Builtin.Range.rangeSize 0 m 1 = m := by
    unfold Builtin.Range.rangeSize
    by_cases h0 : (0 : Int) < m
    · simp only [gt_iff_lt, Int.zero_lt_one, if_true, h0]; (first | lia | omega)
    · have : m = 0 := by (first | lia | omega)
      subst this; simp
  refine wpAny_pyIter_range (IsRange.new _ _ _ _ _ _ _) (small_one (by decide) (by decide) (by (first | lia | omega)) (by (first | lia | omega))) ?_
  refine iter_of (E := E) nx2 rfl (Walks.range rm.1 _ 0 1 m) (by simp) (fun i h st => ⟨_, _, _, st, rfl, rfl, by decide⟩) ?_ (fun b hb => .inl (List.mem_singleton.mp hb)) (fun j v hv x hx => by
      obtain ⟨t, rfl⟩ := hx
      rw [List.getElem?_map] at hv
      obtain ⟨i, h3, rfl⟩ := Option.map_eq_some_iff.mp hv
      obtain ⟨h4, h5⟩ := List.getElem?_eq_some_iff.mp h3
      rw [List.getElem_range] at h5
      subst h5
      simp only [VRel]; exact ⟨t, by simp⟩) hq1 kk
  have e := Heap.get?_push_size (s1.heap.push { cls := .type "range", data := .fields #[.int 0 s1.toks, .int m t, .int 1 (s1.toks + 1)] }) (o := { cls := .type "range_iterator", data := .fields #[rawInt 0, rawInt (Builtin.Range.rangeSize 0 m 1), rawInt 1] }) rfl
  rw [hsz] at e ⊢
  simpa using e
end
/- part A17 -/
/- ## a comprehension's frame -/
noncomputable def isCell : Option (Nat × NameKind) → Bool
  | some (_, .cell) => true
  | _ => false
theorem slotIn_lookup {x : Str} : ∀ {l : List (Str × NameKind)} {j : Nat}, isCell (slotIn x l j) = (l.lookup x == some .cell)
  | [], _ => rfl
  | (y, k) :: r, j => by
    unfold slotIn
    rw [List.lookup_cons]
    by_cases e : x = y
    · subst e
      simp only [if_true, beq_self_eq_true]
      cases k <;> rfl
    · have : (x == y) = false := by simpa using e
      rw [if_neg e, this]; exact slotIn_lookup
noncomputable def relabelS (scope sc : Scope) : Scope :=
  { scope with names := scope.names.map fun (n, k) => if (k == .free && sc.kind == .function && isCell (slot sc n)) then (n, .cell) else (n, k) }
theorem relabel_eq {scope : Scope} {env : Env} {sc : Scope} (h : env.scope = sc) : relabel scope env = relabelS scope sc := by
  subst h
  unfold relabel relabelS Env.kindOf slot
  simp only [slotIn_lookup]
noncomputable def cro (sc : Scope) (ρ : Ro) (names : List (Str × NameKind)) : Ro := names.map fun (n, k) => if k = .cell then (slot sc n).bind (fun jk => (ρ[jk.1]?).join) else none
theorem closure_loop {env : Env} : ∀ (names : List (Str × NameKind)) (cs : List (Str × Addr)), (∀ x ∈ names, x.2 = .free → ∃ c, env.cells.lookup x.1 = some c) →
    ∃ cl, (forIn names cs fun (x : Str × NameKind) (cs : List (Str × Addr)) => (do
      if x.2 == .free then do
        let c ← cellOf env x.1
        pure (ForInStep.yield ((x.1, c) :: cs))
      else pure (ForInStep.yield cs) : Sem _)) = pure cl ∧ (∀ x, (∀ p ∈ names, p.1 = x → p.2 ≠ .free) → cl.lookup x = cs.lookup x) ∧ (∀ p ∈ names, p.2 = .free → cl.lookup p.1 = env.cells.lookup p.1)
  | [], cs, _ => ⟨cs, rfl, fun _ _ => rfl, fun _ h => by cases h⟩
  | (x, k) :: r, cs, h => by
    by_cases hk : k = .free
    · subst hk
      obtain ⟨c, hc⟩ := h (x, .free) (.head _) rfl
      obtain ⟨cl, e1, e2, e3⟩ := closure_loop r ((x, c) :: cs) (fun p hp => h p (.tail _ hp))
      have hcell : cellOf env x = pure c := by unfold cellOf; rw [hc]
      refine ⟨cl, ?_, fun y hy => ?_, fun p hp hpk => ?_⟩
      · rw [List.forIn_cons]
        simp only [beq_self_eq_true, if_true, hcell, pure_bind]
        exact e1
      · have hyx : y ≠ x := fun e => hy (x, .free) (.head _) e.symm rfl
        rw [e2 y (fun p hp => hy p (.tail _ hp)), List.lookup_cons]
        have : (y == x) = false := by simpa using hyx
        rw [this]
      · rcases List.mem_cons.mp hp with e | e
        · subst e
          by_cases hin : ∃ q ∈ r, q.1 = x ∧ q.2 = .free
          · obtain ⟨q, hq, hq1, hq2⟩ := hin
            have := e3 q hq hq2
            rw [hq1] at this; exact this
          · rw [e2 x (fun q hq e hf => hin ⟨q, hq, e, hf⟩), List.lookup_cons]
            simp [hc]
        · exact e3 p e hpk
    · obtain ⟨cl, e1, e2, e3⟩ := closure_loop r cs (fun p hp => h p (.tail _ hp))
      refine ⟨cl, ?_, fun y hy => e2 y (fun p hp => hy p (.tail _ hp)), fun p hp hpk => ?_⟩
      · rw [List.forIn_cons]
        have : (k == NameKind.free) = false := by simpa using hk
        simp only [this, Bool.false_eq_true, if_false, pure_bind]
        exact e1
      · rcases List.mem_cons.mp hp with e | e
        · subst e; exact absurd hpk hk
        · exact e3 p e hpk
theorem closure_of {scope : Scope} {env : Env} (h : ∀ x ∈ scope.names, x.2 = .free → ∃ c, env.cells.lookup x.1 = some c) :
    ∃ cl, closureFor scope env = pure cl ∧ (∀ p ∈ scope.names, p.2 = .free → cl.lookup p.1 = env.cells.lookup p.1) := by
  obtain ⟨cl, e1, e2, e3⟩ := closure_loop scope.names [] h
  refine ⟨cl, ?_, e3⟩
  unfold closureFor
  dsimp only
  first
    | (rw [e1]; rfl)
    | (have e : ∀ (t : Sem (List (Str × Addr))), t = pure cl → (t >>= fun cs => pure cs) = pure cl := fun t e => by rw [e]; rfl
       exact e _ e1)
    | (simp only [bind_pure]; exact e1)
section
variable {W : Wd} {n : Nat} {sc : Scope} {ρ : Ro} {σ : St}
/- ### targets that write the frame's own dict alone -/
noncomputable def aAL (W : Wd) (n : Nat) (sc : Scope) (ρ : Ro) (σ : St) (t : Expr) (v : V) (Q : Ro → St → Prop) : Prop :=
  ∀ (X : Addr → Prop) (env : Env) (A : Around) (s : Shared) (x : Value), Room n A → Bears W X σ s.heap → Fram W X sc ρ env (Fz X σ s.heap) s.heap → VRel W (Fz X σ s.heap) v x →
    ∀ (E : Value → Shared → Prop) (K : Unit → Shared → Prop),
      (∀ ρ' σ' s', Nx W X (fun a => a = env.locals) σ s σ' s' → Fram W X sc ρ' env (Fz X σ' s'.heap) s'.heap → Q ρ' σ' → K () s') → wpAny W.M A (assign t env x) K E s
theorem store_localL {X : Addr → Prop} {env : Env} {A : Around} {s : Shared} {E : Value → Shared → Prop} {K : Unit → Shared → Prop} {i : Nat} {x : Str} {v : V} {y : Value} (hi : sc.names[i]? = some (x, NameKind.local)) (B : Bears W X σ s.heap)
    (F : Fram W X sc ρ env (Fz X σ s.heap) s.heap) (hv : VRel W (Fz X σ s.heap) v y)
    (kk : ∀ s', Nx W X (fun a => a = env.locals) σ s σ s' → Fram W X sc (ρ.set i (some v)) env (Fz X σ s'.heap) s'.heap → K () s') : wpAny W.M A (storeName env x y) K E s := by
  obtain ⟨m, hm, hl⟩ := F.loc
  refine wpAny_storeName_local (F.kindOf hi) hm (fun h' hn hs => ?_) (by rw [F.sc_eq, F.kind]; rfl)
  have hk : ∀ b o, s.heap.get? b = some o → ¬ b = env.locals → h'.get? b = some o := fun b o e f => (hs.2 b f).trans e
  have hex : ∀ a, a = env.locals → ∃ o, h'.get? a = some o := by
    rintro a rfl; obtain ⟨o, _, _, ho, _⟩ := hn; exact ⟨o, ho⟩
  have hX : ∀ a, a = env.locals → X a := by rintro a rfl; exact F.xl
  obtain ⟨eE, bB⟩ := B.keepF (F := fun a => a = env.locals) hX hex hk
  have hz := eE.fz hX
  refine kk _ (Nx.mk' bB eE) ?_
  refine ⟨F.sc_eq, F.kind, F.gl, F.bi, F.nodup, by rw [List.length_set]; exact F.len, F.xl, ⟨_, hn, fun j z u hj hu => ?_⟩, fun j z hj => ?_, F.apart⟩
  · rcases set_get hu with ⟨rfl, rfl⟩ | ⟨ne, hu⟩
    · rw [hi] at hj; cases hj
      exact ⟨y, by simp, VRel.mono hz _ _ hv⟩
    · have hne : z ≠ x := by
        rintro rfl
        exact ne (idx_unique F.nodup hi hj)
      obtain ⟨q, h1, h2⟩ := hl j z u hj hu
      exact ⟨q, by simp [hne, h1], VRel.mono hz _ _ h2⟩
  · obtain ⟨c, q, h1, h2, h3, h4, h5⟩ := F.cel j z hj
    refine ⟨c, q, h1, h2, h3, h4.sameBut hs h3, fun u hu => ?_⟩
    rcases set_get hu with ⟨rfl, rfl⟩ | ⟨_, hu⟩
    · rw [hi] at hj; cases hj
    · obtain ⟨r, h6, h7⟩ := h5 u hu
      exact ⟨r, h6, VRel.mono hz _ _ h7⟩
theorem aAL_local {x : Str} {pos : Pos} {i : Nat} {v : V} {Q : Ro → St → Prop} (hs : slot sc x = some (i, NameKind.local)) (h : Q (ρ.set i (some v)) σ) : aAL W n sc ρ σ (.Name x pos) v Q :=
  fun X env A s y rm B F hv E K kk => wpAny_assign_Name (store_localL (slot_get hs) B F hv fun s' nx F' => kk _ _ s' nx F' h)
theorem aAL_pair {x y : Str} {p q pos : Pos} {k i j : Nat} {v u : V} {Q : Ro → St → Prop} (hx : slot sc x = some (i, NameKind.local)) (hy : slot sc y = some (j, NameKind.local)) (h : Q ((ρ.set i (some v)).set j (some u)) σ) :
    aAL W n sc ρ σ (.Tuple [.Name x p, .Name y q] k pos) (.tup [v, u]) Q := fun X env A s x' rm B F hv E K kk => by
  obtain ⟨a, o, xs, m, rfl, hz, hto, hr⟩ := hv
  obtain ⟨ya, yb, rfl, ha, hb⟩ := vrels2 hr
  refine wpAny_assign_Tuple rm.1 (isTuple_of hz.1 hto) rfl rfl fun h' he => ?_
  have hk : ∀ b o, s.heap.get? b = some o → h'.get? b = some o := fun b o e => he b o (Nat.ne_of_lt (Heap.lt_size e)) e
  obtain ⟨eE, bB⟩ := B.keep hk
  have nx0 : Nx W X noF σ s σ { s with heap := h' } := Nx.mk' (tk := s.toks) bB eE
  have F0 := nx0.fram B F
  show wpAny _ _ (holding [yb] (assign (.Name x p) env ya) >>= fun _ => holding [] (assign (.Name y q) env yb) >>= fun _ => pure ()) _ _ _
  refine wpAny_bind (wpAny_holding (wpAny_assign_Name (store_localL (slot_get hx) bB F0 (VRel.mono eE.fz0 _ _ ha) fun s1 nx1 F1 => ?_)))
  have hX : ∀ a, a = env.locals → X a := by rintro a rfl; exact F.xl
  refine wpAny_bind (wpAny_holding (wpAny_assign_Name (store_localL (slot_get hy) nx1.2.1 F1 (VRel.mono (nx1.2.2.fz hX) _ _ (VRel.mono eE.fz0 _ _ hb)) fun s2 nx2 F2 => ?_)))
  exact wpAny_pure (kk _ _ s2 (nx0.weak.trans (nx1.trans nx2)) F2 h)
/- ### the loop -/
noncomputable def aIfs (W : Wd) (n : Nat) (sc : Scope) (ρ : Ro) (σ : St) (ifs : List Expr) (Q : Bool → St → Prop) : Prop := match ifs with
  | [] => Q true σ
  | [c] => aT W n sc ρ σ c Q
  | _ => False
noncomputable def cLoop (W : Wd) (n : Nat) (sc : Scope) (t elt : Expr) (ifs : List Expr) (Qe : List V → St → Prop) : List V → List V → Ro → St → Prop
  | [], acc, _, σ => Qe acc σ
  | v :: vs, acc, ρ, σ => aAL W n sc ρ σ t v (fun ρ1 σ1 => aIfs W n sc ρ1 σ1 ifs (fun ok σ2 => if ok = true then aE W n sc ρ1 σ2 elt (fun u σ3 => cLoop W n sc t elt ifs Qe vs (acc ++ [u]) ρ1 σ3) else cLoop W n sc t elt ifs Qe vs acc ρ1 σ2))
theorem codeAny_compLoop_any {A : Around} {s : Shared} {R : Result → Shared → Prop} {elt target iter : Expr} {ifs : List Expr} {scope : Scope} {pos : Pos} {it acc : Value} {env : Env} (I : Nat → Shared → Prop)
    (turn : ∀ n s, I n s → wpAny W.M A (pyNext it) (fun r s₁ => match r with
      | none => R (.ok .next) s₁
      | some v => wpAny W.M A (letOwnedTupleGo target it v) (fun _ s₁' => wpAny W.M A (assign target env v) (fun _ s₂ =>
          wpAny W.M A (forIn ifs true fun c r => if r = true then do let ok ← isTrue c env (eval c env); pure (ForInStep.yield ok) else pure (ForInStep.yield r)) (fun ok s₃ =>
            if ok = true then wpAny W.M A (eval elt env) (fun x s₄ =>
              wpAny W.M A (call (.builtin "list.append") [acc, x]) (fun _ s₅ => ∃ m, m < n ∧ I m s₅) (notedBy W.M A env fun e s' => R (.error e) s') s₄) (notedBy W.M A env fun e s' => R (.error e) s') s₃
            else ∃ m, m < n ∧ I m s₃) (notedBy W.M A env fun e s' => R (.error e) s') s₂) (notedBy W.M A env fun e s' => R (.error e) s') s₁') (notedBy W.M A env fun e s' => R (.error e) s') s₁) (notedBy W.M A env fun e s' => R (.error e) s') s)
    (n : Nat) (h : I n s) : codeAny W.M A (.compLoop (.ListComp elt [⟨target, iter, ifs, 0⟩] scope pos) 0 it acc env) R s := by
  refine codeAny_loop rfl I (fun n s hI => ?_) n h
  show wpAny _ A ((compTurn (.ListComp elt [⟨target, iter, ifs, 0⟩] scope pos) 0 it acc env).onRaise (fun x => do noteFrame x env; theTreesLotGoes x)) _ _ s
  refine wpAny_noted ?_
  rw [compTurn_list]
  refine wpAny_bind (wpAny_standAt (wpAny_bind (wpAny_mono (turn n s hI) (fun r s₁ h₁ => ?_) fun _ _ h' => h')))
  cases r with
  | none => exact wpAny_pure h₁
  | some v =>
    refine wpAny_bind (wpAny_mono h₁ (fun _ s₁' h₁ => ?_) fun _ _ h' => h')
    refine wpAny_bind (wpAny_mono h₁ (fun _ s₂ h₂ => wpAny_bind (wpAny_mono h₂ (fun ok s₃ h₃ => ?_) fun _ _ h' => h')) fun _ _ h' => h')
    cases ok with
    | false => exact wpAny_pure ⟨rfl, h₃⟩
    | true =>
      exact wpAny_bind (wpAny_bind (wpAny_mono h₃ (fun x s₄ h₄ => wpAny_bind (wpAny_mono h₄ (fun _ s₅ h₅ => wpAny_pure (wpAny_pure ⟨rfl, h₅⟩)) fun _ _ h' => h')) fun _ _ h' => h'))
theorem ifs_a {X : Addr → Prop} {env : Env} {A : Around} {s : Shared} {ifs : List Expr} {Q : Bool → St → Prop} (rm : Room n A) (B : Bears W X σ s.heap) (F : Fram W X sc ρ env (Fz X σ s.heap) s.heap) (h : aIfs W n sc ρ σ ifs Q) :
    aM W X noF A σ s (forIn ifs true fun c r => if r = true then do let ok ← isTrue c env (eval c env); pure (ForInStep.yield ok) else pure (ForInStep.yield r)) Sames Q := fun E K kk => by
  match ifs, h with
  | [], h => exact wpAny_pure (kk true true σ s (.refl B) rfl h)
  | [c], h =>
    rw [List.forIn_cons]
    refine wpAny_bind ?_
    simp only [if_true]
    refine wpAny_bind (h X env A s rm B F E _ fun b a σ' s' nx rb hq => ?_)
    obtain rfl : a = b := rb
    exact wpAny_pure (wpAny_pure (kk a a σ' s' nx rfl hq))
end
/- part A18 -/
section
variable {W : Wd} {n : Nat} {sc : Scope} {ρ : Ro} {σ : St}
noncomputable abbrev twoY (D C : Addr) : Addr → Prop := fun a => a = D ∨ a = C
/- facts of scopes, all by computation -/
structure CompOk (scope sc : Scope) : Prop where
  nocell : ∀ y ∈ scope.names, y.2 ≠ .cell
  kind : scope.kind = .function
  names : ∀ y ∈ scope.names, y.2 = .local → scope.names.lookup y.1 = some .local
  nodup : ((relabelS scope sc).names.map (·.1)).Nodup
  free : ∀ y ∈ scope.names, y.2 = .free → sc.names.lookup y.1 = some .cell
  sub : ∀ y ∈ (relabelS scope sc).names, y.2 = .cell → (y.1, NameKind.free) ∈ scope.names ∧ ∃ j, slot sc y.1 = some (j, NameKind.cell)
theorem lookup_get {α β : Type} [BEq α] [LawfulBEq α] : ∀ {l : List (α × β)} {x : α} {k : β}, l.lookup x = some k → ∃ i : Nat, l[i]? = some (x, k)
  | [], _, _, h => by simp at h
  | (y, k') :: r, x, k, h => by
    rw [List.lookup_cons] at h
    cases e : x == y with
    | true => rw [e] at h; simp at h; have := eq_of_beq e; subst this; subst h; exact ⟨0, rfl⟩
    | false => rw [e] at h; obtain ⟨i, hi⟩ := lookup_get h; exact ⟨i + 1, by simpa using hi⟩
inductive CompJ (W : Wd) (n : Nat) (X2 XY : Addr → Prop) (σ : St) (s : Shared) (sc' : Scope) (cenv : Env) (SI : (Addr → Prop) → Nat → St → Heap → Prop) (D : Addr) (vs : List V) (t elt : Expr) (ifs : List Expr) (Qe : List V → St → Prop) (k : Nat) (s2 : Shared) : Prop
  | mk (i : Nat) (ρ2 : Ro) (σ2 : St) (acc : List V) (xs : Array Value) (hk : k = vs.length - i) (hi : i ≤ vs.length) (ha : acc.length ≤ i) (sh : ∃ h' tk, s2 = { s with heap := h', toks := tk }) (B : Bears W X2 σ2 s2.heap) (e : Ext noF σ s.heap σ2 s2.heap)
      (F : Fram W XY sc' ρ2 cenv (Fz X2 σ2 s2.heap) s2.heap) (S : SI X2 i σ2 s2.heap) (p : s2.heap.PlainList D xs) (r : VRels W (Fz X2 σ2 s2.heap) acc xs.toList) (L : cLoop W n sc' t elt ifs Qe (vs.drop i) acc ρ2 σ2) : CompJ W n X2 XY σ s sc' cenv SI D vs t elt ifs Qe k s2
theorem comp_block {X wr : Addr → Prop} {env : Env} {A : Around} {s s1 : Shared} {I : Addr} {vs : List V} {SI : (Addr → Prop) → Nat → St → Heap → Prop} {σ1 : St} {elt t iter : Expr} {ifs : List Expr} {scope : Scope} {pos : Pos} {cl : List (Str × Addr)} {ρ' : Ro} {E : Value → Shared → Prop}
    {RR : Value → Addr → Result → Shared → Prop} {Qe : List V → St → Prop}
    (rm : Room n A) (B : Bears W X σ s.heap) (F : Fram W X sc ρ env (Fz X σ s.heap) s.heap) (it : IterOk W A t I wr vs SI) (hfr : ∀ b o, s.heap.get? b = some o → b ∉ own σ → ¬ wr b) (hsh : ∃ h' tk, s1 = { s with heap := h', toks := tk })
    (B1 : Bears W (orX X wr) σ1 s1.heap) (e1 : Ext noF σ s.heap σ1 s1.heap) (hz1 : ∀ a o, Fz X σ s.heap a o → Fz (orX X wr) σ1 s1.heap a o) (hSI : SI (orX X wr) 0 σ1 s1.heap)
    (hc : CompOk scope sc) (hcl : ∀ p ∈ scope.names, p.2 = .free → cl.lookup p.1 = env.cells.lookup p.1) (hρ : cro sc ρ (relabelS scope sc).names = ρ') (hlen : vs.length ≤ 100000)
    (hq : cLoop W n (relabelS scope sc) t elt ifs Qe vs [] ρ' σ1)
    (hRR : ∀ D C acc xs σ2 h' tk, D ≠ C → (∀ b o, s.heap.get? b = some o → b ∉ own σ → b ≠ D ∧ b ≠ C) → Bears W (orX X (twoY D C)) σ2 h' → Ext noF σ s.heap σ2 h' → h'.PlainList D xs → VRels W (Fz (orX X (twoY D C)) σ2 h') acc xs.toList →
      (∃ m, h'.Ns C m) → Qe acc σ2 → RR (.ref D) C (.ok .next) { s with heap := h', toks := tk }) :
    wpAny W.M A (newList []) (fun acc s₃ => wpAny W.M A (newFunctionEnv scope env.globals cl [] env.qual none .none (some env)) (fun cenv s₄ =>
      codeAny W.M A (.compStart (.ListComp elt [⟨t, iter, ifs, 0⟩] scope pos) 0 (.ref I) acc { cenv with scope := relabel scope env }) (RR acc cenv.locals) s₄) E s₃) E s1 := by
  refine wpAny_newObj_type (wpAny_newFunctionEnv hc.nocell (by intro y hy; simp at hy) (fun h₁ hns₁ hsb₁ => ?_) hc.kind)
  dsimp only at hns₁ hsb₁ ⊢
  generalize hH2 : s1.heap.push { cls := .type "list", dict := none, data := .seq ([] : List Value).toArray } = H2 at hns₁ hsb₁ ⊢
  have hC : H2.objs.size = s1.heap.objs.size + 1 := by rw [← hH2, Heap.size_push]
  generalize hDe : s1.heap.objs.size = D at hC ⊢
  generalize hCe : H2.objs.size = C at hC hns₁ hsb₁ ⊢
  have hDC : D ≠ C := by rw [hC]; exact Nat.ne_of_lt (Nat.lt_succ_self _)
  have old : ∀ b o, s1.heap.get? b = some o → h₁.get? b = some o := fun b o e => hsb₁.extBut b o (by
    have := Heap.lt_size e; rw [hDe] at this; rw [hC]; exact Nat.ne_of_lt (Nat.lt_succ_of_lt this)) (Heap.get?_push_of_some _ (hH2 ▸ Heap.get?_push_of_some _ e))
  have hD1 : s1.heap.get? D = none := by rw [← hDe]; exact size_none _
  have hC1 : s1.heap.get? C = none := by
    cases e : s1.heap.get? C with
    | none => rfl
    | some o => have := Heap.lt_size e; rw [hDe, hC] at this; exact absurd this (Nat.not_lt.mpr (Nat.le_succ D))
  have hacc : h₁.PlainList D #[] := ⟨_, hsb₁.extBut _ _ hDC (Heap.get?_push_of_some _ (hH2 ▸ hDe ▸ Heap.get?_push_size _ rfl))⟩
  -- hide D and C
  let Y : Addr → Prop := twoY D C
  obtain ⟨B2, hz2⟩ := B1.hideNew (Y := Y) old (fun a q => by rcases q with rfl | rfl <;> assumption) (fun a q => by
    rcases q with rfl | rfl
    · obtain ⟨k, e⟩ := hacc; exact ⟨_, e⟩
    · obtain ⟨o, _, _, ho, _⟩ := hns₁; exact ⟨o, ho⟩)
  -- one order of the hidden sets
  have sw : ∀ a, orX (orX X wr) Y a ↔ orX (orX X Y) wr a := fun a => ⟨fun q => by rcases q with (q | q) | q; exact .inl (.inl q); exact .inr q; exact .inl (.inr q), fun q => by rcases q with (q | q) | q; exact .inl (.inl q); exact .inr q; exact .inl (.inr q)⟩
  have swe : orX (orX X wr) Y = orX (orX X Y) wr := funext fun a => propext (sw a)
  rw [swe] at B2 hz2
  let X2 := orX (orX X Y) wr
  have hnewY : ∀ b o, s.heap.get? b = some o → b ∉ own σ → b ≠ D ∧ b ≠ C := fun b o e no => by
    have h2 := (e1 b o e id no).1
    exact ⟨fun q => (by rw [q, hD1] at h2; cases h2), fun q => (by rw [q, hC1] at h2; cases h2)⟩
  have hXY : ∀ a, X a → ¬ Y a := fun a hx hy => by
    obtain ⟨o, e⟩ := B.xex a hx
    have := hnewY a o e fun q => B.hid a q hx
    exact hy.elim this.1 this.2
  have hXYw : ∀ a, orX X Y a → ¬ wr a := fun a hx hw => by
    rcases hx with hx | hx
    · obtain ⟨o, e⟩ := B.xex a hx
      exact hfr a o e (fun q => B.hid a q hx) hw
    · obtain ⟨o, e⟩ := B1.xex a (.inr hw)
      rcases hx with rfl | rfl
      · rw [hD1] at e; cases e
      · rw [hC1] at e; cases e
  have e2 : Ext noF σ s.heap σ1 h₁ := fun a o e f no => ⟨old a o (e1 a o e f no).1, (e1 a o e f no).2⟩
  -- the frame
  have F1 : Fram W X sc ρ env (Fz X2 σ1 h₁) h₁ := F.mono (fun a o z => hz2 a o (hz1 a o z)) fun a o hx e => old a o (e1 a o e id fun q => B.hid a q hx).1
  let cenv : Env := { newEnv scope C env.globals cl env.qual none .none (some env) env.builtins with scope := relabel scope env }
  have hsc' : relabel scope env = relabelS scope sc := relabel_eq F.sc_eq
  have hcelk : ∀ (i : Nat) (x : Str), (relabelS scope sc).names[i]? = some (x, NameKind.cell) → ∃ j : Nat, sc.names[j]? = some (x, NameKind.cell) ∧ cl.lookup x = env.cells.lookup x ∧ ∀ v, ρ'[i]? = some (some v) → ρ[j]? = some (some v) := by
    intro i x hi
    obtain ⟨h1, j, hj⟩ := hc.sub (x, .cell) (List.mem_of_getElem? hi) rfl
    refine ⟨j, slot_get hj, hcl (x, .free) h1 rfl, fun v hv => ?_⟩
    rw [← hρ, cro, List.getElem?_map, hi] at hv
    simp only [Option.map_some, if_true, hj, Option.bind_some, Option.some.injEq] at hv
    cases hr : ρ[j]? with
    | none => rw [hr] at hv; cases hv
    | some u => rw [hr] at hv; simp only [Option.join_some] at hv; rw [hv]
  have FC : Fram W (orX X Y) (relabelS scope sc) ρ' cenv (Fz X2 σ1 h₁) h₁ := by
    refine ⟨hsc', hc.kind, F.gl, F.bi, hc.nodup, by rw [← hρ]; simp [cro], .inr (.inr rfl), ⟨_, hns₁, fun i x v hi hv => ?_⟩, fun i x hi => ?_, fun i j x y c hi hj hx hy => ?_⟩
    · rw [← hρ, cro, List.getElem?_map, hi] at hv
      simp at hv
    · obtain ⟨j, hj, hl, hv⟩ := hcelk i x hi
      obtain ⟨c, y, h1, h2, h3, h4, h5⟩ := F1.cel j x hj
      refine ⟨c, y, hl.trans h1, .inl h2, ?_, h4, fun v hv' => h5 v (hv v hv')⟩
      show c ≠ C
      rintro rfl
      exact hXY c h2 (.inr rfl)
    · obtain ⟨i', hi', hl, _⟩ := hcelk i x hi
      obtain ⟨j', hj', hl', _⟩ := hcelk j y hj
      exact F.apart i' j' x y c hi' hj' (hl ▸ hx) (hl' ▸ hy)
  have S1 : SI X2 0 σ1 h₁ := it.frame _ _ _ _ _ _ _ hSI (fun b hw o e => old b o e) hz2
  have loop : ∀ s₃ : Shared, s₃ = { s1 with heap := h₁, toks := s1.toks + ([] : List (Str × Value)).length } → codeAny W.M A (.compLoop (.ListComp elt [⟨t, iter, ifs, 0⟩] scope pos) 0 (.ref I) (.ref D) cenv) (RR (.ref D) C) s₃ := by
    rintro s₃ rfl
    let J : Nat → Shared → Prop := CompJ W n X2 (orX X Y) σ s (relabelS scope sc) cenv SI D vs t elt ifs Qe
    refine codeAny_compLoop_any J
      ?_ vs.length ⟨0, ρ', σ1, [], #[], by (first | lia | omega), by (first | lia | omega), by simp, ?_, B2, e2, FC, S1, hacc, VRels.nil, by simpa using hq⟩
    rotate_left
    · obtain ⟨h', tk, rfl⟩ := hsh; exact ⟨h₁, _, rfl⟩
    rintro k s2 ⟨i, ρ2, σ2, acc, xs, rfl, hi, hai, hsh2, Bi, ei, Fi, Si, hpl, hrs, hL⟩
    have hCX : ∀ a, a = cenv.locals → X2 a := by rintro a rfl; exact .inl (.inr (.inr rfl))
    have hDX : X2 D := .inl (.inr (.inl rfl))
    have hwX : ∀ b, wr b → X2 b := fun b hb => .inr hb
    have hDw : ¬ wr D := hXYw D (.inr (.inl rfl))
    have hCw : ¬ wr C := hXYw C (.inr (.inr rfl))
    -- a step that writes hidden new addresses alone
    have stepE : ∀ {σa σb : St} {ha hb : Heap} {F : Addr → Prop}, (∀ a, F a → wr a ∨ a = C ∨ a = D) → Ext noF σ s.heap σa ha → Ext F σa ha σb hb → Ext noF σ s.heap σb hb := fun hF ea eb a o e f no => by
      obtain ⟨h3, no3⟩ := ea a o e id no
      refine eb a o h3 (fun q => ?_) no3
      rcases hF a q with q | q | q
      · exact hfr a o e no q
      · exact (hnewY a o e no).2 q
      · exact (hnewY a o e no).1 q
    by_cases hlt : i < vs.length
    · have hv : vs[i]? = some vs[i] := by simp [hlt]
      rw [List.drop_eq_getElem_cons hlt] at hL
      unfold cLoop at hL
      refine wpAny_mono (it.item X2 i vs[i] σ2 _ (fun x s3 => wpAny W.M A (assign t cenv x) (fun _ s₂ => wpAny W.M A (forIn ifs true fun c r => if r = true then do let ok ← isTrue c cenv (eval c cenv); pure (ForInStep.yield ok) else pure (ForInStep.yield r)) (fun ok s₃ =>
            if ok = true then wpAny W.M A (eval elt cenv) (fun x s₄ =>
              wpAny W.M A (call (.builtin "list.append") [.ref D, x]) (fun _ s₅ => ∃ m, m < vs.length - i ∧ J m s₅) (notedBy W.M A cenv fun e s' => RR (.ref D) C (.error e) s') s₄) (notedBy W.M A cenv fun e s' => RR (.ref D) C (.error e) s') s₃
            else ∃ m, m < vs.length - i ∧ J m s₃) (notedBy W.M A cenv fun e s' => RR (.ref D) C (.error e) s') s₂) (notedBy W.M A cenv fun e s' => RR (.ref D) C (.error e) s') s3) _ hv hwX Bi Si fun x s3 nx3 rx hS3 => ?_) (fun r s3 hx => ?_) fun _ _ e => e
      rotate_left
      · obtain ⟨x, rfl, hx⟩ := hx
        exact hx
      · have hpl3 : s3.heap.PlainList D xs := hpl.at fun o e => (nx3.2.2 D o e hDw fun q => Bi.hid D q hDX).1
        have F3 : Fram W (orX X Y) (relabelS scope sc) ρ2 cenv (Fz X2 σ2 s3.heap) s3.heap := Fi.mono (nx3.2.2.fz hwX) fun a o hx e => (nx3.2.2 a o e (hXYw a hx) fun q => Bi.hid a q (.inl hx)).1
        have e3 : Ext noF σ s.heap σ2 s3.heap := stepE (fun a q => .inl q) ei nx3.2.2
        have r3 := VRels.mono (nx3.2.2.fz hwX) _ _ hrs
        refine hL X2 cenv A s3 x rm nx3.2.1 (F3.hide fun _ q => .inl q) rx _ _ fun ρ4 σ4 s4 nx4 F4 hb => ?_
        have F4' : Fram W (orX X Y) (relabelS scope sc) ρ4 cenv (Fz X2 σ4 s4.heap) s4.heap := FC.rebase F4
        have k4 : ∀ b o, X2 b → b ≠ C → s3.heap.get? b = some o → s4.heap.get? b = some o := fun b o hx hc e => (nx4.2.2 b o e hc fun q => nx3.2.1.hid b q hx).1
        have hpl4 : s4.heap.PlainList D xs := hpl3.at fun o e => k4 D o hDX hDC e
        have S4 : SI X2 (i + 1) σ4 s4.heap := it.frame _ _ _ _ _ _ _ hS3 (fun b hw o e => k4 b o (hwX b hw) (fun q => hCw (q ▸ hw)) e) (nx4.2.2.fz hCX)
        have e4 : Ext noF σ s.heap σ4 s4.heap := stepE (fun a q => .inr (.inl q)) e3 nx4.2.2
        have r4 := VRels.mono (nx4.2.2.fz hCX) _ _ r3
        refine ifs_a rm nx4.2.1 F4 hb _ _ fun b ok σ5 s5 nx5 rb hb5 => ?_
        obtain rfl : ok = b := rb
        have F5 := nx5.fram nx4.2.1 F4
        have F5' : Fram W (orX X Y) (relabelS scope sc) ρ4 cenv (Fz X2 σ5 s5.heap) s5.heap := FC.rebase F5
        have k5 : ∀ b o, X2 b → s4.heap.get? b = some o → s5.heap.get? b = some o := fun b o hx e => (nx5.2.2 b o e id fun q => nx4.2.1.hid b q hx).1
        have hpl5 : s5.heap.PlainList D xs := hpl4.at fun o e => k5 D o hDX e
        have S5 : SI X2 (i + 1) σ5 s5.heap := it.frame _ _ _ _ _ _ _ S4 (fun b hw o e => k5 b o (hwX b hw) e) nx5.2.2.fz0
        have e5 : Ext noF σ s.heap σ5 s5.heap := e4.trans nx5.2.2
        have r5 := VRels.mono nx5.2.2.fz0 _ _ r4
        have sh5 : ∃ h' tk, s5 = { s with heap := h', toks := tk } := by
          exact sh_trans (sh_trans (sh_trans hsh2 nx3.1) nx4.1) nx5.1
        cases ok with
        | false =>
          simp only [Bool.false_eq_true, if_false] at hb5 ⊢
          exact ⟨vs.length - (i + 1), by (first | lia | omega), i + 1, ρ4, σ5, acc, xs, rfl, by (first | lia | omega), by (first | lia | omega), sh5, nx5.2.1, e5, F5', S5, hpl5, r5, hb5⟩
        | true =>
          simp only [if_true] at hb5 ⊢
          refine hb5 X2 cenv A s5 rm nx5.2.1 F5 _ _ fun u y σ6 s6 nx6 ru hb6 => ?_
          have F6 := nx6.fram nx5.2.1 F5
          have k6 : ∀ b o, X2 b → s5.heap.get? b = some o → s6.heap.get? b = some o := fun b o hx e => (nx6.2.2 b o e id fun q => nx5.2.1.hid b q hx).1
          have hpl6 : s6.heap.PlainList D xs := hpl5.at fun o e => k6 D o hDX e
          have S6 : SI X2 (i + 1) σ6 s6.heap := it.frame _ _ _ _ _ _ _ S5 (fun b hw o e => k6 b o (hwX b hw) e) nx6.2.2.fz0
          have e6 : Ext noF σ s.heap σ6 s6.heap := e5.trans nx6.2.2
          have r6 := VRels.mono nx6.2.2.fz0 _ _ r5
          have sh6 : ∃ h' tk, s6 = { s with heap := h', toks := tk } := by
            exact sh_trans sh5 nx6.1
          have hxl := r6.length
          refine wpAny_list_append_plain hpl6 (fun h7 hp7 hs7 => ?_) (by rw [← Array.length_toList, hxl, sizeLine_eq]; (first | lia | omega))
          have k7 : ∀ b o, s6.heap.get? b = some o → ¬ b = D → h7.get? b = some o := fun b o e ne => (hs7.2 b ne).trans e
          have hDX' : ∀ a, a = D → X2 a := by rintro a rfl; exact hDX
          obtain ⟨e7, B7⟩ := nx6.2.1.keepF (F := fun a => a = D) (h' := h7) hDX' (by rintro a rfl; obtain ⟨k, e⟩ := hp7; exact ⟨_, e⟩) k7
          have hz7 := e7.fz hDX'
          have F7 : Fram W (orX X Y) (relabelS scope sc) ρ4 cenv (Fz X2 σ6 h7) h7 := by
            have F6' := FC.rebase F6
            obtain ⟨m, hm, hl⟩ := F6'.loc
            exact { sc_eq := F6'.sc_eq, kind := F6'.kind, gl := F6'.gl, bi := F6'.bi, nodup := F6'.nodup, len := F6'.len, xl := F6'.xl, apart := F6'.apart
                    loc := ⟨m, hm.at' fun o e => k7 C o e (Ne.symm hDC), fun i x v a b => by obtain ⟨y, h1, h2⟩ := hl i x v a b; exact ⟨y, h1, VRel.mono hz7 _ _ h2⟩⟩
                    cel := fun i x hi => by
                      obtain ⟨c, y, h1, h2, h3, h4, h5⟩ := F6'.cel i x hi
                      have hcD : c ≠ D := by
                        rintro rfl
                        obtain ⟨o, ho, hd⟩ := h4
                        obtain ⟨k, hk⟩ := hpl6
                        rw [hk] at ho
                        cases ho
                        cases hd
                      obtain ⟨o, ho, hd⟩ := h4
                      exact ⟨c, y, h1, h2, h3, ⟨o, k7 c o ho hcD, hd⟩, fun v hv => by obtain ⟨z, h6, h7⟩ := h5 v hv; exact ⟨z, h6, VRel.mono hz7 _ _ h7⟩⟩ }
          have S7 : SI X2 (i + 1) σ6 h7 := it.frame _ _ _ _ _ _ _ S6 (fun b hw o e => k7 b o e (fun q => hDw (q ▸ hw))) hz7
          refine ⟨vs.length - (i + 1), by (first | lia | omega), i + 1, ρ4, σ6, acc ++ [u], xs.push y, rfl, by (first | lia | omega), by simp; (first | lia | omega), sh_heap sh6, B7, stepE (fun a q => .inr (.inr q)) e6 e7, F7, S7, hp7, ?_, hb6⟩
          rw [Array.toList_push]
          exact VRels.append (VRels.mono hz7 _ _ r6) (.one (VRel.mono hz7 _ _ ru))
    · have e : vs.drop i = [] := List.drop_eq_nil_of_le (by (first | lia | omega))
      rw [e] at hL
      unfold cLoop at hL
      have ei' : i = vs.length := by (first | lia | omega)
      subst ei'
      refine it.done X2 σ2 _ _ _ Si fun s3 hs3 hk3 => ?_
      obtain ⟨B3, hz3⟩ := Bi.showF hXYw hk3
      obtain ⟨h3, t3, e3⟩ := sh_trans hsh2 hs3
      rw [e3] at hk3 B3 hz3 ⊢
      refine hRR D C acc xs σ2 h3 t3 hDC hnewY B3 (fun a o e f no => ?_) (hpl.at fun o e => hk3 D o e hDw) (VRels.mono hz3 _ _ hrs) ?_ hL
      · obtain ⟨h4, no4⟩ := ei a o e f no
        exact ⟨hk3 a o h4 (hfr a o e no), no4⟩
      · obtain ⟨m, hm, _⟩ := Fi.loc
        exact ⟨m, hm.at' fun o e => hk3 C o e hCw⟩
  exact codeAny_compStart_list (loop _ rfl) (it.self X2 0 σ1 _ _ _ S1 (loop _ rfl))
end
/- part A19 -/
section
variable {W : Wd} {n : Nat} {sc : Scope} {ρ : Ro} {σ : St}
/- hidden things are given up, one is taken over -/
theorem Bears.adoptF {X Y : Addr → Prop} {h h' : Heap} {a : Addr} {mo : MO} (B : Bears W (orX X Y) σ h) (ha : Y a) (hXY : ∀ b, X b → ¬ Y b) (hf : fp (a, mo) = [a]) (hk : ∀ b o, h.get? b = some o → ¬ Y b → h'.get? b = some o) :
    (∀ b o, Fz (orX X Y) σ h b o → Fz X ((a, mo) :: σ) h' b o) ∧ (MRel W (Fz X ((a, mo) :: σ) h') h' a mo → Bears W X ((a, mo) :: σ) h') := by
  obtain ⟨B1, hz1⟩ := B.showF hXY hk
  have hown : ∀ b, b ∈ own ((a, mo) :: σ) ↔ b = a ∨ b ∈ own σ := fun b => by simp [hf]
  have hns : a ∉ own σ := fun q => B.hid a q (.inr ha)
  have hna : ¬ X a := fun q => hXY a q ha
  have hz : ∀ b o, Fz (orX X Y) σ h b o → Fz X ((a, mo) :: σ) h' b o := fun b o e => by
    have hne : b ≠ a := by rintro rfl; exact e.2.1 (.inr ha)
    exact ⟨(hz1 b o e).1, fun q => e.2.1 (.inl q), fun q => ((hown b).mp q).elim hne e.2.2⟩
  refine ⟨hz, fun m => ⟨fun p hp => ?_, ?_, fun b hb => ?_, B1.xex, fun b o e => ?_⟩⟩
  · rcases List.mem_cons.mp hp with e | e
    · subst e; exact m
    · refine (B.objs p e).mono hz fun b hb o x => hk b o x fun q => ?_
      exact B.hid b (List.mem_flatMap.mpr ⟨p, e, by obtain ⟨_, _⟩ := p; exact hb⟩) (.inr q)
  · rw [own_cons, hf, List.singleton_append, List.nodup_cons]; exact ⟨hns, B.nodup⟩
  · rcases (hown b).mp hb with e | e
    · subst e; exact hna
    · exact B1.hid b e
  · obtain ⟨e1, e2, e3⟩ := B.base b o e
    have hne : b ≠ a := by rintro rfl; exact e3 (.inr ha)
    exact ⟨hk b o e1 fun q => e3 (.inr q), fun q => ((hown b).mp q).elim hne e2, fun q => e3 (.inl q)⟩
theorem twoY_free {X : Addr → Prop} {s : Shared} {D C : Addr} (B : Bears W X σ s.heap) (hnew : ∀ b o, s.heap.get? b = some o → b ∉ own σ → b ≠ D ∧ b ≠ C) : ∀ b, X b → ¬ twoY D C b := fun b hx hy => by
  obtain ⟨o, e⟩ := B.xex b hx
  have := hnew b o e fun q => B.hid b q hx
  exact hy.elim this.1 this.2
theorem comp_hyps {env : Env} {Z h} {X : Addr → Prop} {scope : Scope} (F : Fram W X sc ρ env Z h) (hc : CompOk scope sc) : ∃ cl, closureFor scope env = pure cl ∧ (∀ p ∈ scope.names, p.2 = .free → cl.lookup p.1 = env.cells.lookup p.1) :=
  closure_of fun y hy hk => by
    obtain ⟨i, hi⟩ := lookup_get (hc.free y hy hk)
    obtain ⟨c, _, h1, _⟩ := F.cel i y.1 hi
    exact ⟨c, h1⟩
/- [elt for t in iter if ..] -/
theorem aE_listcomp {t elt iter : Expr} {ifs : List Expr} {scope : Scope} {pos : Pos} {ρ' : Ro} {Q : V → St → Prop} (hc : CompOk scope sc) (hρ : cro sc ρ (relabelS scope sc).names = ρ')
    (h : aIter W n sc ρ σ t iter (fun vs σ' => vs.length ≤ 100000 ∧ cLoop W n (relabelS scope sc) t elt ifs (fun acc σ'' => ∀ D, Q (.ref D) ((D, .list acc) :: σ'')) vs [] ρ' σ'))
    (hs : autoParam (∀ env x, foldedSetIterable iter env x = pure x) tRfl2) : aE W n sc ρ σ (.ListComp elt [⟨t, iter, ifs, 0⟩] scope pos) Q := fun X env A s rm B F E K kk => by
  obtain ⟨cl, hclos, hcl⟩ := comp_hyps F hc
  show wpAny _ _ (eval _ env) _ _ _
  rw [eval_ListComp]
  refine wpAny_comprehension_free (use := none) rfl (hs env) hclos hc.kind hc.names ?_
  refine h X env A s rm B F E _ fun I wr vs SI σ1 s1 it hfr hsh B1 e1 hz1 hSI hq => ?_
  refine comp_block rm B F it hfr hsh B1 e1 hz1 hSI hc hcl hρ hq.1 hq.2 fun D C acc xs σ2 h' tk hDC hnew B2 e2 hpl hrs hns hQ => ?_
  obtain ⟨m, hm⟩ := hns
  refine ⟨m, hm, fun h3 hs3 => ?_⟩
  have hXY := twoY_free B hnew
  obtain ⟨hz3, hb3⟩ := B2.adoptF (h' := h3) (a := D) (mo := .list acc) (.inl rfl) hXY rfl fun b o e no => hs3.extBut b o (fun q => no (.inr q)) e
  have hpl3 := hpl.extBut hs3.extBut hDC
  obtain ⟨k, hk⟩ := hpl3
  have B3 := hb3 ⟨xs.toList, k, by simpa [lstO] using hk, VRels.mono hz3 _ _ hrs⟩
  refine kk (.ref D) _ _ _ ⟨⟨h3, tk, rfl⟩, B3, fun a o e f no => ?_⟩ (by simp only [VRel]) (hQ D)
  obtain ⟨e4, no4⟩ := e2 a o e f no
  refine ⟨hs3.extBut a o (hnew a o e no).2 e4, ?_⟩
  rw [own_cons]
  simp only [fp, List.singleton_append, List.mem_cons, not_or]
  exact ⟨(hnew a o e no).1, no4⟩
/- y = [elt for t in iter if ..], y a local, on one line -/
theorem ss_listcomp {t elt iter : Expr} {ifs : List Expr} {scope : Scope} {pos spos py : Pos} {y : Str} {j : Nat} {ρ' : Ro} {rest : List Stmt} {Q : Fl → Ro → St → Prop} (hc : CompOk scope sc) (hρ : cro sc ρ (relabelS scope sc).names = ρ') (hy : slot sc y = some (j, NameKind.local))
    (h : aIter W n sc ρ σ t iter (fun vs σ' => vs.length ≤ 100000 ∧ cLoop W n (relabelS scope sc) t elt ifs (fun acc σ'' => ∀ D, aSs W n sc (ρ.set j (some (.ref D))) ((D, .list acc) :: σ'') rest Q) vs [] ρ' σ'))
    (hsw : ∀ env, env.scope = sc → swapsWith (.ListComp elt [⟨t, iter, ifs, 0⟩] scope pos) (some (.Name y py)) spos.line env = pure true)
    (hs : autoParam (∀ env x, foldedSetIterable iter env x = pure x) tRfl2) : aSs W n sc ρ σ (.Assign [.Name y py] (.ListComp elt [⟨t, iter, ifs, 0⟩] scope pos) spos :: rest) Q := ss_cons fun X env A s rm B F E K kk => by
  obtain ⟨cl, hclos, hcl⟩ := comp_hyps F hc
  show wpAny _ _ (exec _ env) _ _ _
  rw [exec_Assign_Name_used _ _ _ _ (hsw env F.sc_eq)]
  refine wpAny_bind (wpAny_standAt (wpAny_bind ?_))
  show wpAny _ A (do let _ ← comprehension (.ListComp elt [⟨t, iter, ifs, 0⟩] scope pos) scope env _ (newList []) false (eval iter env) (some (assign (.Name y py) env))) _ _ s
  refine wpAny_bind (wpAny_mono (wpAny_comprehension_free (use := some (assign (.Name y py) env)) (Q := fun _ s' => K .next s') rfl (hs env) hclos hc.kind hc.names ?_) (fun _ s' hq => wpAny_pure (wpAny_pure hq)) fun _ _ e => e)
  refine h X env A s rm B F E _ fun I wr vs SI σ1 s1 it hfr hsh B1 e1 hz1 hSI hq => ?_
  refine comp_block rm B F it hfr hsh B1 e1 hz1 hSI hc hcl hρ hq.1 hq.2 fun D C acc xs σ2 h' tk hDC hnew B2 e2 hpl hrs hns hQ => ?_
  obtain ⟨m, hm⟩ := hns
  show wpAny _ A (assign (.Name y py) env (.ref D)) _ _ _
  have hXY := twoY_free B hnew
  -- take D over; C stays hidden
  let YC : Addr → Prop := fun a => a = C
  let YD : Addr → Prop := fun a => a = D
  have swe : orX X (twoY D C) = orX (orX X YC) YD := funext fun a => propext ⟨fun q => by rcases q with q | q | q; exact .inl (.inl q); exact .inr q; exact .inl (.inr q), fun q => by rcases q with (q | q) | q; exact .inl q; exact .inr (.inr q); exact .inr (.inl q)⟩
  rw [swe] at B2 hrs
  obtain ⟨hz3, hb3⟩ := B2.adoptF (h' := h') (a := D) (mo := .list acc) rfl (fun b hx hb => by
    rcases hx with hx | hx
    · exact hXY b hx (.inl hb)
    · exact hDC (hb.symm.trans hx)) rfl fun b o e no => e
  obtain ⟨k, hk⟩ := hpl
  have B3 := hb3 ⟨xs.toList, k, by simpa [lstO] using hk, VRels.mono hz3 _ _ hrs⟩
  have e3 : Ext noF σ s.heap ((D, .list acc) :: σ2) h' := fun a o e f no => by
    obtain ⟨e4, no4⟩ := e2 a o e f no
    refine ⟨e4, ?_⟩
    rw [own_cons]
    simp only [fp, List.singleton_append, List.mem_cons, not_or]
    exact ⟨(hnew a o e no).1, no4⟩
  have hzX : ∀ a o, Fz X σ s.heap a o → Fz (orX X YC) ((D, .list acc) :: σ2) h' a o := fun a o z => by
    obtain ⟨z1, z2⟩ := e3 a o z.1 id z.2.2
    exact ⟨z1, fun q => q.elim z.2.1 (hnew a o z.1 z.2.2).2, z2⟩
  have F3 : Fram W (orX X YC) sc ρ env (Fz (orX X YC) ((D, .list acc) :: σ2) h') h' := (F.mono hzX fun a o hx e => (e3 a o e id fun q => B.hid a q hx).1).hide fun _ q => .inl q
  refine wpAny_assign_Name (store_local (s := { s with heap := h', toks := tk }) (slot_get hy) B3 F3 (v := .ref D) (by simp only [VRel]) fun s4 nx4 F4 => ?_)
  have hCL : C ≠ env.locals := by
    intro q
    obtain ⟨o, e⟩ := B.xex _ F.xl
    exact (hnew _ o e fun z => B.hid _ z F.xl).2 q.symm
  have hCf : ¬ frF env sc C := fun q => by
    have hx := frF_hid F C q
    obtain ⟨o, e⟩ := B.xex C hx
    exact (hnew C o e fun z => B.hid C z hx).2 rfl
  have kC : ∀ o, h'.get? C = some o → s4.heap.get? C = some o := fun o e => (nx4.2.2 C o e hCf fun q => B3.hid C q (.inr rfl)).1
  refine ⟨m, hm.at' kC, fun h5 hs5 => ?_⟩
  obtain ⟨⟨h4, t4, rfl⟩, B4, e4⟩ := nx4
  obtain ⟨B5, hz5⟩ := B4.showF (h' := h5) (fun a hx hy' => hXY a hx (.inr hy')) fun b o e no => hs5.extBut b o no e
  have F5 : Fram W X sc (ρ.set j (some (.ref D))) env (Fz X ((D, .list acc) :: σ2) h5) h5 := (F.rebase F4).mono hz5 fun a o hx e => hs5.extBut a o (fun q => hXY a hx (.inr q)) e
  refine kk .next .next _ _ _ ⟨⟨h5, t4, rfl⟩, B5, fun a o e f no => ?_⟩ F5 rfl (hQ D)
  obtain ⟨e6, no6⟩ := e3 a o e id no
  obtain ⟨e7, no7⟩ := e4 a o e6 f no6
  exact ⟨hs5.extBut a o (hnew a o e no).2 e7, no7⟩
end
/- part A20 -/
section
variable {W : Wd} {n : Nat} {sc : Scope} {ρ : Ro} {σ : St}
theorem vint {Z : Addr → Obj → Prop} {i : Int} {t : Tok} : VRel W Z (.int i) (.int i t) := by simp only [VRel]; exact ⟨t, rfl⟩
theorem o_abs {i : Int} {Q : V → St → Prop} (h : Q (.int (if i < 0 then -i else i)) σ) : acall W n (.builtin "abs") [.int i] σ Q := fun X A s xs rm B rv E K kk => by
  obtain ⟨x, rfl, hx⟩ := vrels1 rv
  obtain ⟨t, rfl⟩ := hx
  exact call_abs_int fun u tk => kk (.int _) _ σ _ (Nx.mk' (h' := s.heap) B Ext.refl) vint h
theorem o_len_list {a : Addr} {vs : List V} {Q : V → St → Prop} (hm : (a, .list vs) ∈ σ) (hl : vs.length ≤ 100000) (h : Q (.int vs.length) σ) : acall W n (.builtin "len") [.ref a] σ Q := fun X A s xs rm B rv E K kk => by
  obtain ⟨x, rfl, hx⟩ := vrels1 rv
  obtain rfl := hx
  obtain ⟨ys, k, hz, hr⟩ := B.rel hm
  refine call_len_list (isList_of hz) (by simp [hr.length]; (first | lia | omega)) ?_
  rw [show (ys.toArray.size : Int) = vs.length by simp [hr.length]]
  exact kk (.int vs.length) _ σ _ (Nx.mk' (h' := s.heap) B Ext.refl) vint h
theorem o_len_flist {vs : List V} {Q : V → St → Prop} (hl : vs.length ≤ 100000) (h : Q (.int vs.length) σ) : acall W n (.builtin "len") [.flist vs] σ Q := fun X A s xs rm B rv E K kk => by
  obtain ⟨x, rfl, hx⟩ := vrels1 rv
  obtain ⟨a, ys, k, rfl, hz, hr⟩ := hx
  refine call_len_list (isList_of hz.1) (by simp [hr.length]; (first | lia | omega)) ?_
  rw [show (ys.toArray.size : Int) = vs.length by simp [hr.length]]
  exact kk (.int vs.length) _ σ _ (Nx.mk' (h' := s.heap) B Ext.refl) vint h
theorem o_len_tup {vs : List V} {Q : V → St → Prop} (hl : vs.length ≤ 100000) (h : Q (.int vs.length) σ) : acall W n (.builtin "len") [.tup vs] σ Q := fun X A s xs rm B rv E K kk => by
  obtain ⟨x, rfl, hx⟩ := vrels1 rv
  obtain ⟨a, o, ys, k, rfl, hz, hto, hr⟩ := hx
  refine PyProof.Rows.len_tuple (isTup_of hz.1 hto) (by simp [hr.length]; (first | lia | omega)) ?_
  rw [show (ys.toArray.size : Int) = vs.length by simp [hr.length]]
  exact kk (.int vs.length) _ σ _ (Nx.mk' (h' := s.heap) B Ext.refl) vint h
theorem o_len_idict {a : Addr} {kvs : List (Int × V)} {Q : V → St → Prop} (hm : (a, .idict kvs) ∈ σ) (hl : kvs.length ≤ 100000) (h : Q (.int kvs.length) σ) : acall W n (.builtin "len") [.ref a] σ Q := fun X A s xs rm B rv E K kk => by
  obtain ⟨x, rfl, hx⟩ := vrels1 rv
  obtain rfl := hx
  obtain ⟨ys, hd, hr⟩ := (B.rel hm).idict_of
  refine call_len_dict (own_ne_sys B (own_mem hm)) hd (by rw [zip_len hr]; (first | lia | omega)) ?_
  rw [zip_len hr]
  exact kk (.int kvs.length) _ σ _ (Nx.mk' (h' := s.heap) B Ext.refl) vint h
theorem Bears.keepN {X : Addr → Prop} {s : Shared} {h' : Heap} {tk : Nat} (B : Bears W X σ s.heap) (hk : ∀ b o, s.heap.get? b = some o → h'.get? b = some o) : Nx W X noF σ s σ { s with heap := h', toks := tk } :=
  let z := B.keep hk; Nx.mk' z.2 z.1
theorem o_max2 {i j : Int} {Q : V → St → Prop} (h : Q (.int (if j > i then j else i)) σ) : acall W n (.builtin "max") [.int i, .int j] σ Q := fun X A s xs rm B rv E K kk => by
  obtain ⟨x, y, rfl, hx, hy⟩ := vrels2 rv
  obtain ⟨t, rfl⟩ := hx; obtain ⟨u, rfl⟩ := hy
  exact max_two_ints rm.1 fun h' tk hk => kk (.int _) _ σ _ (B.keepN hk) (by simp only [VRel]; split <;> exact ⟨_, rfl⟩) h
theorem o_min2 {i j : Int} {Q : V → St → Prop} (h : Q (.int (if j < i then j else i)) σ) : acall W n (.builtin "min") [.int i, .int j] σ Q := fun X A s xs rm B rv E K kk => by
  obtain ⟨x, y, rfl, hx, hy⟩ := vrels2 rv
  obtain ⟨t, rfl⟩ := hx; obtain ⟨u, rfl⟩ := hy
  exact min_two_ints rm.1 fun h' tk hk => kk (.int _) _ σ _ (B.keepN hk) (by simp only [VRel]; split <;> exact ⟨_, rfl⟩) h
/- ### tuple(..), list(..), dict(..) -/
theorem nx_push {X : Addr → Prop} {s : Shared} {h' : Heap} {tk : Nat} {o : Obj} (B : Bears W X σ s.heap) (hk : ∀ b o', s.heap.get? b = some o' → h'.get? b = some o') : Nx W X noF σ s σ { s with heap := h'.push o, toks := tk } :=
  B.keepN fun b o' e => Heap.get?_push_of_some _ (hk b o' e)
theorem o_tuple_flist {vs : List V} {Q : V → St → Prop} (hl : vs.length ≤ 100000) (h : Q (.tup vs) σ) : acall W n (.type "tuple") [.flist vs] σ Q := fun X A s xs rm B rv E K kk => by
  obtain ⟨x, rfl, hx⟩ := vrels1 rv
  obtain ⟨a, ys, k, rfl, hz, hr⟩ := hx
  refine call_tuple_list (isList_of hz.1) (fun h' hk => ?_) (by simp [hr.length, sizeLine_eq]; (first | lia | omega))
  have nx : Nx W X noF σ s σ { s with heap := h'.push { cls := .type "tuple", data := .seq ys.toArray }, toks := s.toks } := nx_push B hk
  obtain ⟨_, bk⟩ := B.keep hk
  refine kk (.tup vs) _ σ _ nx ?_ h
  simp only [VRel]; exact ⟨_, tupO ys 0, ys, 0, rfl, push_fz bk rfl, ⟨rfl, rfl, rfl⟩, VRels.mono nx.2.2.fz0 _ _ hr⟩
theorem o_tuple_tup {vs : List V} {Q : V → St → Prop} (h : Q (.tup vs) σ) : acall W n (.type "tuple") [.tup vs] σ Q := fun X A s xs rm B rv E K kk => by
  obtain ⟨x, rfl, hx⟩ := vrels1 rv
  have hx' := hx
  obtain ⟨a, o, ys, k, rfl, hz, hto, hr⟩ := hx
  exact call_tuple_same (isTuple_of hz.1 hto) (kk (.tup vs) _ σ _ (.refl B) hx' h)
/- a new list whose items are vs -/
theorem new_list {X : Addr → Prop} {s : Shared} {h' : Heap} {tk : Nat} {D : Addr} {vs : List V} {xs : List Value} {k : Nat} (B : Bears W X σ s.heap) (hk : ∀ b o, s.heap.get? b = some o → h'.get? b = some o) (hD : s.heap.get? D = none) (ho : h'.get? D = some (lstO xs k))
    (hr : VRels W (Fz X σ s.heap) vs xs) : Nx W X noF σ s ((D, .list vs) :: σ) { s with heap := h', toks := tk } := by
  obtain ⟨he, hb⟩ := Bears.step (h' := h') (old := []) (new := [(D, .list vs)]) (τ := σ) B (List.Perm.refl _) (fun b o' x _ => hk b o' x) (by intro a ha; simp [fp] at ha; subst ha; exact .inr hD) (by simp [fp])
  exact Nx.mk' (hb fun p hp => by
    simp only [List.mem_singleton] at hp; subst hp
    exact ⟨xs, k, ho, VRels.mono he.fz0 _ _ hr⟩) he
theorem o_list_tup {vs : List V} {Q : V → St → Prop} (hl : vs.length ≤ 100000) (h : ∀ D, Q (.ref D) ((D, .list vs) :: σ)) : acall W n (.type "list") [.tup vs] σ Q := fun X A s xs rm B rv E K kk => by
  obtain ⟨x, rfl, hx⟩ := vrels1 rv
  obtain ⟨a, o, ys, k, rfl, hz, hto, hr⟩ := hx
  refine call_list_seq a (.inr rfl) hz.1 hto.1 hto.2.1 (fun h' c' hk ho => ?_) (by simp [hr.length, sizeLine_eq]; (first | lia | omega))
  exact kk (.ref s.heap.objs.size) _ _ _ (new_list (tk := s.toks) B hk (size_none _) ho hr) (by simp only [VRel]) (h _)
theorem vals_keys {Z} {kvs : List (Int × V)} {xs : List Value} {ys : List Value} (hr : VRels W Z (kvs.map (·.2)) xs) (hlen : ys.length = ((kvs.map (·.1)).zip xs).length)
    (h : ∀ (i : Nat) (v : Value), ys[i]? = some v → ∃ k x, ((kvs.map (·.1)).zip xs)[i]? = some (k, x) ∧ (intKind W.prog W.w).is k v = true) {Z' : Addr → Obj → Prop} : VRels W Z' (kvs.map fun kv => .int kv.1) ys := by
  induction kvs generalizing xs ys with
  | nil =>
    simp only [List.map_nil, VRels] at hr; subst hr
    simp at hlen; subst hlen; exact VRels.nil
  | cons p r ih =>
    obtain ⟨k, u⟩ := p
    simp only [List.map_cons, VRels] at hr
    obtain ⟨x, xs', rfl, h1, h2⟩ := hr
    cases ys with
    | nil => simp at hlen
    | cons y ys =>
      simp only [List.map_cons]
      refine .cons ?_ (ih h2 (by simpa using hlen) fun i v hv => by simpa using h (i + 1) v (by simpa using hv))
      obtain ⟨k', x', e1, e2⟩ := h 0 y rfl
      simp at e1
      obtain ⟨t, rfl⟩ := isInt_val e2
      simp only [VRel]; exact ⟨t, by rw [← e1.1]⟩
theorem o_list_fdict {kvs : List (Int × V)} {Q : V → St → Prop} (hl : kvs.length ≤ 100000) (h : ∀ D, Q (.ref D) ((D, .list (kvs.map fun kv => .int kv.1)) :: σ)) : acall W n (.type "list") [fd kvs] σ Q := fun X A s xs rm B rv E K kk => by
  obtain ⟨x, rfl, hx⟩ := vrels1 rv
  obtain ⟨a, ys, rfl, hs, hd, hr, _⟩ := fd_rel fz_get hx
  obtain ⟨ep, hat⟩ := hd.dictAt
  refine kdl_call (kdl_dict (knd := intKind W.prog W.w) (kvs := (kvs.map (·.1)).zip ys) (ep := ep) hs) rm.1 hat (by rw [zip_len hr, sizeLine_eq]; (first | lia | omega)) fun h' tk acc' c' hk ho hacc => ?_
  have hv : VRels W (Fz X σ s.heap) (kvs.map fun kv => .int kv.1) acc'.toList := vals_keys hr (by rw [Array.length_toList]; exact hacc.1) fun i v e => hacc.2 i v (by rw [← Array.getElem?_toList]; exact e)
  exact kk (.ref s.heap.objs.size) _ _ _ (new_list (tk := tk) (xs := acc'.toList) B hk (size_none _) (by simpa [lstO] using ho) hv) (by simp only [VRel]) (h _)
theorem o_dict_idict {a : Addr} {kvs : List (Int × V)} {Q : V → St → Prop} (hm : (a, .idict kvs) ∈ σ) (hl : kvs.length ≤ 100000) (h : ∀ D, Q (.ref D) ((D, .idict kvs) :: σ)) : acall W n (.type "dict") [.ref a] σ Q := fun X A s xs rm B rv E K kk => by
  obtain ⟨x, rfl, hx⟩ := vrels1 rv
  obtain rfl := hx
  obtain ⟨ys, hd, hr⟩ := (B.rel hm).idict_of
  refine kt_call_dict (own_ne_sys B (own_mem hm)) hd (by rw [zip_len hr, sizeLine_eq]; (first | lia | omega)) fun h' hd' hs => ?_
  have hk : ∀ b o, s.heap.get? b = some o → h'.get? b = some o := fun b o e => (hs.2 b (size_push_ne e)).trans (Heap.get?_push_of_some _ e)
  obtain ⟨he, hb⟩ := Bears.step (h' := h') (old := []) (new := [(s.heap.objs.size, .idict kvs)]) (τ := σ) B (List.Perm.refl _) (fun b o' x _ => hk b o' x) (by intro a ha; simp [fp] at ha; subst ha; exact .inr (size_none _)) (by simp [fp])
  refine kk (.ref s.heap.objs.size) _ _ _ (Nx.mk' (tk := s.toks) (hb fun p hp => ?_) he) (by simp only [VRel]) (h _)
  simp only [List.mem_singleton] at hp; subst hp
  obtain ⟨o, ho, hio⟩ := Heap.dictOf_iff.mp hd'
  exact ⟨o, ys, ho, VRels.mono he.fz0 _ _ hr, hio⟩
end
/- part A21 -/
section
variable {W : Wd} {n : Nat} {sc : Scope} {ρ : Ro} {σ : St}
/- ### max of a dict -/
noncomputable def keyAt (kvs : List (Int × V)) (i : Nat) : Int := (kvs.map (·.1)).getD i 0
theorem o_max_idict {a : Addr} {kvs : List (Int × V)} {Q : V → St → Prop} (hm : (a, .idict kvs) ∈ σ) (hne : kvs ≠ []) (h : ∀ i, i ∈ kvs.map (·.1) → (∀ j ∈ kvs.map (·.1), j ≤ i) → Q (.int i) σ) : acall W n (.builtin "max") [.ref a] σ Q := fun X A s xs rm B rv E K kk => by
  obtain ⟨x, rfl, hx⟩ := vrels1 rv
  obtain rfl := hx
  obtain ⟨ys, hd, hr⟩ := (B.rel hm).idict_of
  obtain ⟨ep, hat⟩ := hd.dictAt
  have hal : a < s.heap.objs.size := by obtain ⟨o, e⟩ := B.ex (own_mem hm); exact Heap.lt_size e
  have hzl : ((kvs.map (·.1)).zip ys).length = kvs.length := zip_len hr
  have hpos : 0 < kvs.length := by cases kvs with | nil => exact absurd rfl hne | cons _ _ => simp
  refine call_max_walk (wpAny_pyIter_dict (own_ne_sys B (own_mem hm)) hat ?_)
  refine ⟨_, _, _, _, _, _, _, rfl, Walks.dictKeys (A := A.in1) rm.1 _ a (Nat.ne_of_lt hal) ((kvs.map (·.1)).zip ys) ep, ⟨⟨_, Heap.get?_push_size _ rfl, rfl, rfl⟩, hat.keep fun b o e => Heap.get?_push_of_some _ e⟩, fun b hb => ?_, by rw [hzl]; exact hpos,
    CmpOf.ints_gt (keyAt kvs) (fun i v hv => ?_), fun v h' tk hP hk => ?_⟩
  · rw [Heap.size_push]
    exact fa2 (p := (· < s.heap.objs.size + 1)) (Nat.lt_succ_self _) (Nat.lt_succ_of_lt hal) b hb
  · obtain ⟨k, u, h1, h2⟩ := hv
    obtain ⟨t, rfl⟩ := isInt_val h2
    rw [List.getElem?_zip_eq_some] at h1
    refine ⟨t, ?_⟩
    unfold keyAt
    rw [List.getD_eq_getElem?_getD, h1.1]; rfl
  · rw [hzl] at hP
    obtain ⟨hle, hbest⟩ := argBest_gt (keyAt kvs) (kvs.length - 1)
    generalize hb : argBest (fun i j => decide (keyAt kvs i > keyAt kvs j)) (kvs.length - 1) = b at hP hle hbest
    obtain ⟨k, u, h1, h2⟩ := hP
    obtain ⟨t, rfl⟩ := isInt_val h2
    rw [List.getElem?_zip_eq_some] at h1
    have hkb : keyAt kvs b = k := by unfold keyAt; rw [List.getD_eq_getElem?_getD, h1.1]; rfl
    have hk' : ∀ b o, s.heap.get? b = some o → h'.get? b = some o := fun b o e => hk b o (by simp; exact size_push_ne e) (Heap.get?_push_of_some _ e)
    refine kk (.int k) _ σ _ (B.keepN hk') vint (h k (List.mem_of_getElem? h1.1) fun j hj => ?_)
    obtain ⟨i, hi⟩ := List.mem_iff_getElem?.mp hj
    have hil : i < kvs.length := by have := (List.getElem?_eq_some_iff.mp hi).1; simpa using this
    have := hbest i (by (first | lia | omega))
    rw [hkb] at this
    unfold keyAt at this
    rw [List.getD_eq_getElem?_getD, hi] at this
    exact this
/- ### sorted -/
theorem ints_vrels {Z} : ∀ {vs : List Value} {ns : List Int}, IntsAre vs ns → VRels W Z (ns.map .int) vs
  | _, _, .nil => VRels.nil
  | _, _, .cons n t h => .cons vint (ints_vrels h)
theorem vrels_ints {Z} : ∀ {ns : List Int} {vs : List Value}, VRels W Z (ns.map .int) vs → IntsAre vs ns
  | [], vs, h => by simp only [List.map_nil, VRels] at h; subst h; exact .nil
  | n :: ns, vs, h => by
    simp only [List.map_cons, VRels] at h
    obtain ⟨y, ys, rfl, h1, h2⟩ := h
    obtain ⟨t, rfl⟩ := h1
    exact .cons n t (vrels_ints h2)
theorem sorted_src {A : Around} {E : Value → Shared → Prop} {s : Shared} {T : String} {r d : Addr} {m : Nat} {P : Nat → Value → Prop} {OK : Heap → Prop} {Q : Value → Shared → Prop} (S : KdlSrc W.prog W.w T r d m P OK) (hh : A.handled = none) (hok : OK s.heap) {ns : List Int}
    (hP : ∀ acc : List Value, acc.length = m → (∀ (i : Nat) (v : Value), acc[i]? = some v → P i v) → IntsAre acc ns) (h64 : m < 64)
    (h : ∀ D h' tk out k ns', (∀ b o, s.heap.get? b = some o → h'.get? b = some o) → s.heap.get? D = none → h'.get? D = some (lstO out k) → IntsAre out ns' → ns'.Perm ns → ns'.Pairwise (· ≤ ·) → Q (.ref D) { s with heap := h', toks := tk }) :
    wpAny W.M A (call (.builtin "sorted") [.ref r]) Q E s := by
  refine call_function_entry kind_sorted plain_sorted entry_sorted (args_sorted1 _) ?_
  unfold Builtin.«sorted»
  refine wpAny_bind (m := checkCount "sorted" 1 1 _) (wpAny_pure ?_)
  refine wpAny_bind (kdu_collect (A := A.in1) S hh hok (by rw [sizeLine_eq]; (first | lia | omega)) fun h' tk acc hk hacc => ?_)
  have hl : acc.toList.length = m := by rw [Array.length_toList]; exact hacc.1
  have hI := hP acc.toList hl fun i v e => hacc.2 i v (by rw [← Array.getElem?_toList]; exact e)
  refine wpAny_bind (wpAny_newList ?_ (by rw [hl, sizeLine_eq]; (first | lia | omega)))
  have hoL : (h'.push (seqObj "list" acc.toList.toArray 0)).get? h'.objs.size = some (seqObj "list" acc.toList.toArray 0) := Heap.get?_push_size _ rfl
  refine wpAny_bind (wpAny_holding (wpAny_call_entry slot_list_sort ⟨_, hoL, rfl⟩ entry_list_sort (list_sort_tree hoL hI (by rw [hl]; exact h64) fun out ns' a1 a2 a3 => ⟨_, rfl, ?_⟩) (args_list_sort _)))
  refine wpAny_pure ⟨_, rfl, ?_⟩
  obtain ⟨e, he⟩ := sortedHeap_at (out := out) hoL
  have hold : ∀ b o, s.heap.get? b = some o → (sortedHeap (h'.push (seqObj "list" acc.toList.toArray 0)) h'.objs.size acc.toList out).get? b = some o := fun b o e => by
    have h1 := hk b o e
    have hne : b ≠ h'.objs.size := Nat.ne_of_lt (Heap.lt_size h1)
    rw [sortedHeap_old hne (by rw [size_push']; exact Nat.lt_succ_of_lt (Heap.lt_size h1))]
    exact Heap.get?_push_of_some _ h1
  refine h h'.objs.size _ tk out.toList e ns' hold ?_ (by simpa [lstO, seqObj] using he) a1 a2 a3
  cases q : s.heap.get? h'.objs.size with
  | none => rfl
  | some o => exact absurd (Heap.lt_size (hk _ _ q)) (Nat.lt_irrefl _)
theorem keys_ints {Z} {kvs : List (Int × V)} {ys : List Value} (hr : VRels W Z (kvs.map (·.2)) ys) (acc : List Value) (hl : acc.length = ((kvs.map (·.1)).zip ys).length) (hv : ∀ (i : Nat) (v : Value), acc[i]? = some v → ∃ k x, ((kvs.map (·.1)).zip ys)[i]? = some (k, x) ∧ (intKind W.prog W.w).is k v = true) : IntsAre acc (kvs.map (·.1)) := by
  have := vals_keys hr hl hv (Z' := Z)
  refine vrels_ints (W := W) (Z := Z) ?_
  rwa [List.map_map]
theorem o_sorted_idict {a : Addr} {kvs : List (Int × V)} {Q : V → St → Prop} (hm : (a, .idict kvs) ∈ σ) (hl : kvs.length < 64) (h : ∀ (D : Addr) (ns : List Int), ns.Perm (kvs.map (·.1)) → ns.Pairwise (· ≤ ·) → Q (.ref D) ((D, .list (ns.map V.int)) :: σ)) : acall W n (.builtin "sorted") [.ref a] σ Q := fun X A s xs rm B rv E K kk => by
  obtain ⟨x, rfl, hx⟩ := vrels1 rv
  obtain rfl := hx
  obtain ⟨ys, hd, hr⟩ := (B.rel hm).idict_of
  obtain ⟨ep, hat⟩ := hd.dictAt
  exact sorted_src (kdl_dict (knd := intKind W.prog W.w) (kvs := (kvs.map (·.1)).zip ys) (ep := ep) (own_ne_sys B (own_mem hm))) rm.1 hat (ns := kvs.map (·.1)) (fun acc h1 h2 => keys_ints hr acc h1 h2) (by rw [zip_len hr]; exact hl)
    fun D h' tk out k ns' hk hD ho hI hp hs => kk (.ref D) _ _ _ (new_list B hk hD ho (ints_vrels hI)) (by simp only [VRel]) (h D ns' hp hs)
theorem o_sorted_fdict {kvs : List (Int × V)} {Q : V → St → Prop} (hl : kvs.length < 64) (h : ∀ (D : Addr) (ns : List Int), ns.Perm (kvs.map (·.1)) → ns.Pairwise (· ≤ ·) → Q (.ref D) ((D, .list (ns.map V.int)) :: σ)) : acall W n (.builtin "sorted") [fd kvs] σ Q := fun X A s xs rm B rv E K kk => by
  obtain ⟨x, rfl, hx⟩ := vrels1 rv
  obtain ⟨a, ys, rfl, hs, hd, hr, _⟩ := fd_rel fz_get hx
  obtain ⟨ep, hat⟩ := hd.dictAt
  exact sorted_src (kdl_dict (knd := intKind W.prog W.w) (kvs := (kvs.map (·.1)).zip ys) (ep := ep) hs) rm.1 hat (ns := kvs.map (·.1)) (fun acc h1 h2 => keys_ints hr acc h1 h2) (by rw [zip_len hr]; exact hl)
    fun D h' tk out k ns' hk hD ho hI hp hs => kk (.ref D) _ _ _ (new_list B hk hD ho (ints_vrels hI)) (by simp only [VRel]) (h D ns' hp hs)
/- ### list + list, list[:k] -/
theorem o_cat {vs us : List V} {Q : V → St → Prop} (hl : vs.length + us.length ≤ 100000) (h : ∀ D, Q (.ref D) ((D, .list (vs ++ us)) :: σ)) : aO W n σ [.flist vs, .flist us] (op2 (binaryOp .Add)) (VRel W) Q := fun X A s xs rm B rv E K kk => by
  obtain ⟨x, y, rfl, hx, hy⟩ := vrels2 rv
  obtain ⟨a, ys, k, rfl, hz, hr⟩ := hx; obtain ⟨b, zs, k', rfl, hz', hr'⟩ := hy
  have e : ys.toArray ++ zs.toArray = (ys ++ zs).toArray := by simp
  refine concat_meets ⟨_, hz.1, rfl⟩ ⟨_, hz'.1, rfl⟩ noFill_list_add seq_list_add PySem.F.slot_list_add PySem.F.entry_list_add (PySem.F.args_list_add_2 _ _) (list_addW a b ys.toArray zs.toArray k k' none none #[] #[] (by simp [hr.length, hr'.length, sizeLine_eq]; (first | lia | omega))) ⟨hz.1, hz'.1, ?_⟩
  rw [e]
  exact kk (.ref s.heap.objs.size) _ _ _ (new_list (tk := s.toks) (xs := ys ++ zs) (k := 0) B (fun b o e => Heap.get?_push_of_some _ e) (size_none _) (Heap.get?_push_size _ rfl) (VRels.append hr hr')) (by simp only [VRel]) (h _)
end
/- part A22 -/
section
variable {W : Wd} {n : Nat} {sc : Scope} {ρ : Ro} {σ : St}
/- ## resources that a call does not touch -/
theorem fz_frame {X : Addr → Prop} {F : St} {h : Heap} (a : Addr) (o : Obj) : Fz X (F ++ σ) h a o ↔ Fz (orX X fun a => a ∈ own F) σ h a o := by
  unfold Fz
  rw [own_append, List.mem_append]
  constructor
  · rintro ⟨h1, h2, h3⟩
    exact ⟨h1, fun q => q.elim h2 fun q => h3 (.inl q), fun q => h3 (.inr q)⟩
  · rintro ⟨h1, h2, h3⟩
    exact ⟨h1, fun q => h2 (.inl q), fun q => q.elim (fun q => h2 (.inr q)) h3⟩
theorem aO_frame {α β : Type} {F : St} {vs : List V} {t : List Value → Sem α} {R : (Addr → Obj → Prop) → β → α → Prop} {Q : β → St → Prop} (hR : ∀ (Z Z' : Addr → Obj → Prop) b a, (∀ c o, Z c o → Z' c o) → R Z b a → R Z' b a)
    (h : aO W n σ vs t R (fun b τ => Q b (F ++ τ))) : aO W n (F ++ σ) vs t R Q := fun X A s xs rm B rv E K kk => by
  have hnd := B.nodup
  rw [own_append, List.nodup_append] at hnd
  have B' : Bears W (orX X fun a => a ∈ own F) σ s.heap := by
    refine ⟨fun p hp => (B.objs p (List.mem_append_right _ hp)).mono (fun a o z => (fz_frame a o).mp z) (fun _ _ _ e => e), hnd.2.1, fun a ha q => ?_, fun a q => ?_, fun b o e => ?_⟩
    · rcases q with q | q
      · exact B.hid a (by rw [own_append]; exact List.mem_append_right _ ha) q
      · exact hnd.2.2 a q a ha rfl
    · rcases q with q | q
      · exact B.xex a q
      · exact B.ex (by rw [own_append]; exact List.mem_append_left _ q)
    · obtain ⟨e1, e2, e3⟩ := B.base b o e
      rw [own_append, List.mem_append] at e2
      exact ⟨e1, fun q => e2 (.inr q), fun q => q.elim e3 fun q => e2 (.inl q)⟩
  refine h _ A s xs rm B' (VRels.mono (fun a o z => (fz_frame a o).mp z) _ _ rv) E K fun b a σ' s' nx rb hq => ?_
  refine kk b a (F ++ σ') s' ?_ (hR _ _ _ _ (fun c o z => (fz_frame c o).mpr z) rb) hq
  obtain ⟨sh, b2, e2⟩ := nx
  have kF : ∀ b, b ∈ own F → ∀ o, s.heap.get? b = some o → s'.heap.get? b = some o := fun b hb o e => (e2 b o e id fun q => hnd.2.2 b hb b q rfl).1
  refine ⟨sh, ⟨fun p hp => ?_, ?_, fun a ha => ?_, fun a ha => b2.xex a (.inl ha), fun b o e => ?_⟩, fun a o e f no => ?_⟩
  · rcases List.mem_append.mp hp with q | q
    · refine (B.objs p (List.mem_append_left _ q)).mono (fun a o z => (fz_frame a o).mpr (e2.fz0 a o ((fz_frame a o).mp z))) fun b hb o e => kF b (List.mem_flatMap.mpr ⟨p, q, by obtain ⟨_, _⟩ := p; exact hb⟩) o e
    · exact (b2.objs p q).mono (fun a o z => (fz_frame a o).mpr z) fun _ _ _ e => e
  · rw [own_append, List.nodup_append]
    exact ⟨hnd.1, b2.nodup, fun a ha c hc e => b2.hid c hc (.inr (e ▸ ha))⟩
  · rw [own_append, List.mem_append] at ha
    rcases ha with q | q
    · exact B.hid a (by rw [own_append]; exact List.mem_append_left _ q)
    · exact fun x => b2.hid a q (.inl x)
  · obtain ⟨e1, e3, e4⟩ := b2.base b o e
    exact ⟨e1, fun q => by
      rw [own_append, List.mem_append] at q
      exact q.elim (fun q => e4 (.inr q)) e3, fun q => e4 (.inl q)⟩
  · rw [own_append, List.mem_append] at no
    obtain ⟨h1, h2⟩ := e2 a o e id fun q => no (.inr q)
    exact ⟨h1, by rw [own_append, List.mem_append]; exact fun q => q.elim (fun q => no (.inl q)) h2⟩
noncomputable abbrev KFr (F : St) (Q : V → St → Prop) : V → St → Prop := fun b τ => Q b (F ++ τ)
noncomputable abbrev KMid (F G : St) (Q : V → St → Prop) : V → St → Prop := fun b τ => Q b (F ++ (τ ++ G))
theorem acall_frame {F : St} {f : Value} {vs : List V} {Q : V → St → Prop} (h : acall W n f vs σ (KFr F Q)) : acall W n f vs (F ++ σ) Q := aO_frame (fun Z Z' b a hz r => VRel.mono hz _ _ r) h
end
/- part A23 -/
section
variable {W : Wd} {n : Nat} {sc : Scope} {ρ : Ro} {σ : St}
noncomputable abbrev KLoQ (W : Wd) (n : Nat) (sc : Scope) (rest : List Stmt) (Q : Fl → Ro → St → Prop) (J : Ro → St → Prop) : Fl → Ro → St → Prop := fun fl ρ σ => match fl with
  | .next => J ρ σ
  | .cont => J ρ σ
  | .brk => aSs W n sc ρ σ rest Q
  | .ret v => Q (.ret v) ρ σ
noncomputable abbrev KCoE (W : Wd) (n : Nat) (sc : Scope) (ρ : Ro) (elt : Expr) (I : List V → Ro → St → Prop) (acc : List V) : Bool → St → Prop := fun ok σ => if ok = true then aE W n sc ρ σ elt (fun u σ' => I (acc ++ [u]) ρ σ') else I acc ρ σ
noncomputable abbrev KCo (W : Wd) (n : Nat) (sc : Scope) (elt : Expr) (ifs : List Expr) (I : List V → Ro → St → Prop) (acc : List V) : Ro → St → Prop := fun ρ σ => aIfs W n sc ρ σ ifs (KCoE W n sc ρ elt I acc)
theorem loop_inv {t : Expr} {body rest : List Stmt} {Q : Fl → Ro → St → Prop} (I : List V → Ro → St → Prop)
    (step : ∀ v vs ρ σ, I (v :: vs) ρ σ → aA W n sc ρ σ t v (KSs W n sc body (KLoQ W n sc rest Q (I vs))))
    (done : ∀ ρ σ, I [] ρ σ → aSs W n sc ρ σ rest Q) : ∀ vs ρ σ, I vs ρ σ → aLoop W n sc t body rest Q vs ρ σ
  | [], ρ, σ, h => done ρ σ h
  | v :: vs, ρ, σ, h => by
    unfold aLoop
    intro X env A s x rm B F rv E K kk
    refine step v vs ρ σ h X env A s x rm B F rv E K fun ρ' σ' s' nx F' hq => kk ρ' σ' s' nx F' (ss_mono hq fun fl ρ2 σ2 q => ?_)
    cases fl with
    | next => exact loop_inv I step done vs ρ2 σ2 q
    | cont => exact loop_inv I step done vs ρ2 σ2 q
    | brk => exact q
    | ret v => exact q
theorem comp_inv {t elt : Expr} {ifs : List Expr} {Qe : List V → St → Prop} (I : List V → List V → Ro → St → Prop)
    (step : ∀ v vs acc ρ σ, I (v :: vs) acc ρ σ → aAL W n sc ρ σ t v (KCo W n sc elt ifs (I vs) acc))
    (done : ∀ acc ρ σ, I [] acc ρ σ → Qe acc σ) : ∀ vs acc ρ σ, I vs acc ρ σ → cLoop W n sc t elt ifs Qe vs acc ρ σ
  | [], acc, ρ, σ, h => done acc ρ σ h
  | v :: vs, acc, ρ, σ, h => by
    unfold cLoop
    intro X env A s x rm B F rv E K kk
    refine step v vs acc ρ σ h X env A s x rm B F rv E K fun ρ' σ' s' nx F' hq => kk ρ' σ' s' nx F' ?_
    have mono : ∀ {Q Q' : Bool → St → Prop}, (∀ b τ, Q b τ → Q' b τ) → aIfs W n sc ρ' σ' ifs Q → aIfs W n sc ρ' σ' ifs Q' := by
      intro Q Q' hm hi
      match ifs, hi with
      | [], hi => exact hm _ _ hi
      | [c], hi => exact aT.mono hi hm
    refine mono (fun b τ q => ?_) hq
    cases b with
    | true => exact aE.mono q fun u τ' z => comp_inv I step done vs _ _ _ z
    | false => exact comp_inv I step done vs _ _ _ q
/- ### tuple or list -/
noncomputable def sq (b : Bool) (vs : List V) : V := if b = true then .tup vs else .flist vs
theorem o_len_sq {b : Bool} {vs : List V} {Q : V → St → Prop} (hl : vs.length ≤ 100000) (h : Q (.int vs.length) σ) : acall W n (.builtin "len") [sq b vs] σ Q := by
  cases b
  · exact o_len_flist hl h
  · exact o_len_tup hl h
theorem s_sq {b : Bool} {value slice : Expr} {vs : List V} {i : Int} {v : V} {Q : V → St → Prop} (h0 : 0 ≤ i) (h63 : i < 2 ^ 63) (hv : vs[i.toNat]? = some v) (h : Q v σ)
    (hs : autoParam (∀ o i, subscripted slice false o i = operate [o, i] (getItem o i)) tRfl2) : aO W n σ [sq b vs, .int i] (op2 (subscriptTail value slice)) (VRel W) Q := by
  cases b
  · exact s_flist h0 h63 hv h hs
  · exact s_tup h0 h63 hv h hs
theorem ai_sq {b : Bool} {vs : List V} {tg e : Expr} {Q : List V → St → Prop} (h : aE W n sc ρ σ e (fun v σ' => v = sq b vs ∧ Q vs σ')) : aIter W n sc ρ σ tg e Q := by
  cases b
  · exact ai_flist (h.mono fun v τ hq => ⟨vs, hq.1, hq.2⟩)
  · exact ai_tup (h.mono fun v τ hq => ⟨vs, hq.1, hq.2⟩)
theorem o_tuple_sq {b : Bool} {vs : List V} {Q : V → St → Prop} (hl : vs.length ≤ 100000) (h : Q (.tup vs) σ) : acall W n (.type "tuple") [sq b vs] σ Q := by
  cases b
  · exact o_tuple_flist hl h
  · exact o_tuple_tup h
theorem acall_mid {F G : St} {f : Value} {vs : List V} {Q : V → St → Prop} (h : acall W n f vs σ (KMid F G Q)) : acall W n f vs (F ++ (σ ++ G)) Q := by
  have p : ∀ τ : St, (F ++ (τ ++ G)).Perm ((F ++ G) ++ τ) := fun τ => by
    rw [List.append_assoc]
    exact List.Perm.append_left F List.perm_append_comm
  refine acall_start (p σ) (acall_re (acall_frame ?_))
  intro X A s xs rm B rv E K kk
  exact h X A s xs rm B rv E K fun b a σ' s' nx r q => kk b a σ' s' nx r ⟨b, _, Re.perm (p σ').symm, q⟩
theorem of_sorted_idict {a : Addr} {kvs : List (Int × V)} {Q : V → St → Prop} (hm : (a, .idict kvs) ∈ σ) (hl : kvs.length < 64) (h : ∀ (ns : List Int), ns.Perm (kvs.map (·.1)) → ns.Pairwise (· ≤ ·) → Q (.flist (ns.map V.int)) σ) : acall W n (.builtin "sorted") [.ref a] σ Q :=
  acall_re (o_sorted_idict hm hl fun D ns h1 h2 => ⟨_, _, Re.list .head, h ns h1 h2⟩)
theorem of_sorted_fdict {kvs : List (Int × V)} {Q : V → St → Prop} (hl : kvs.length < 64) (h : ∀ (ns : List Int), ns.Perm (kvs.map (·.1)) → ns.Pairwise (· ≤ ·) → Q (.flist (ns.map V.int)) σ) : acall W n (.builtin "sorted") [fd kvs] σ Q :=
  acall_re (o_sorted_fdict hl fun D ns h1 h2 => ⟨_, _, Re.list .head, h ns h1 h2⟩)
end
/- part A24 -/
noncomputable def compOkB (scope sc : Scope) : Bool :=
  scope.names.all (fun y => decide (y.2 ≠ .cell)) && decide (scope.kind = .function) && scope.names.all (fun y => decide (y.2 ≠ .local) || decide (scope.names.lookup y.1 = some .local)) && decide ((relabelS scope sc).names.map (·.1)).Nodup &&
    scope.names.all (fun y => decide (y.2 ≠ .free) || isCell (slot sc y.1)) && (relabelS scope sc).names.all (fun y => decide (y.2 ≠ .cell) || (decide ((y.1, NameKind.free) ∈ scope.names) && isCell (slot sc y.1)))
theorem isCell_some {o : Option (Nat × NameKind)} (h : isCell o = true) : ∃ j, o = some (j, NameKind.cell) := by
  unfold isCell at h
  split at h
  · exact ⟨_, rfl⟩
  · cases h
theorem CompOk.of {scope sc : Scope} (h : compOkB scope sc = true) : CompOk scope sc := by
  unfold compOkB at h
  simp only [Bool.and_eq_true, List.all_eq_true, Bool.or_eq_true, decide_eq_true_eq] at h
  obtain ⟨⟨⟨⟨⟨h1, h2⟩, h3⟩, h4⟩, h5⟩, h6⟩ := h
  refine ⟨h1, h2, fun y hy hk => (h3 y hy).resolve_left fun q => q hk, h4, fun y hy hk => ?_, fun y hy hk => ?_⟩
  · have := (h5 y hy).resolve_left fun q => q hk
    unfold slot at this
    rw [slotIn_lookup] at this
    exact eq_of_beq this
  · obtain ⟨a, b⟩ := (h6 y hy).resolve_left fun q => q hk
    exact ⟨a, isCell_some b⟩
/- part A25 -/
/- ## the tables of small sets -/
noncomputable def lp (mask : Nat) : Nat → Nat × Nat → Nat × Nat
  | 0, p => p
  | k + 1, p => lp mask k (SetTable.leap mask p.1 p.2)
theorem lp_add (mask : Nat) : ∀ (a b : Nat) (p : Nat × Nat), lp mask (a + b) p = lp mask b (lp mask a p)
  | 0, b, p => by rw [Nat.zero_add]; rfl
  | a + 1, b, p => by rw [Nat.add_right_comm]; exact lp_add mask a b _
theorem lp_snd (mask : Nat) : ∀ (k : Nat) (p : Nat × Nat), (lp mask k p).2 = p.2 / 32 ^ k
  | 0, p => by simp [lp]
  | k + 1, p => by
    rw [lp, lp_snd mask k]
    show p.2 / 32 / 32 ^ k = _
    rw [Nat.div_div_eq_div_mul, Nat.pow_succ, Nat.mul_comm]
theorem lp_fst_le (mask : Nat) (hm : 0 < mask) : ∀ (k : Nat) (p : Nat × Nat), p.1 ≤ mask → (lp mask k p).1 ≤ mask
  | 0, p, h => h
  | k + 1, p, h => lp_fst_le mask hm k _ (by
    show (p.1 * 5 + 1 + p.2 / 32) % (mask + 1) ≤ mask
    have := Nat.mod_lt (p.1 * 5 + 1 + p.2 / 32) (show 0 < mask + 1 by (first | lia | omega)); (first | lia | omega))
noncomputable def SmallMask (mask : Nat) : Prop := mask = 7 ∨ mask = 31
theorem lp_zero7 : ∀ i, i < 8 → ∀ e, e < 8 → ∃ k, k < 8 ∧ (lp 7 k (i, 0)).1 = e := by decide +kernel
theorem lp_zero31 : ∀ i, i < 32 → ∀ e, e < 32 → ∃ k, k < 32 ∧ (lp 31 k (i, 0)).1 = e := by decide +kernel
theorem lp_hits {mask : Nat} (hm : SmallMask mask) {i pt e : Nat} (hi : i ≤ mask) (hp : pt < 2 ^ 64) (he : e ≤ mask) : ∃ k, k ≤ 13 + mask ∧ (lp mask k (i, pt)).1 = e := by
  have h0 : (lp mask 13 (i, pt)).2 = 0 := by
    rw [lp_snd]
    exact Nat.div_eq_of_lt (Nat.lt_of_lt_of_le hp (by decide))
  have h1 : (lp mask 13 (i, pt)).1 ≤ mask := lp_fst_le mask (by rcases hm with rfl | rfl <;> decide) 13 _ hi
  have h2 : ∃ k, k < mask + 1 ∧ (lp mask k ((lp mask 13 (i, pt)).1, 0)).1 = e := by
    rcases hm with rfl | rfl
    · exact lp_zero7 _ (by (first | lia | omega)) _ (by (first | lia | omega))
    · exact lp_zero31 _ (by (first | lia | omega)) _ (by (first | lia | omega))
  obtain ⟨k, hk, ek⟩ := h2
  refine ⟨13 + k, by (first | lia | omega), ?_⟩
  rw [lp_add]
  have : lp mask 13 (i, pt) = ((lp mask 13 (i, pt)).1, 0) := Prod.ext rfl h0
  rw [this]; exact ek
/- the binary search -/
theorem below_go {xs : List Nat} {j : Nat} (hs : xs.Pairwise (· < ·)) : ∀ (fuel lo hi : Nat), hi ≤ xs.length → lo ≤ hi → hi - lo ≤ fuel → (∀ i v, i < lo → xs[i]? = some v → v < j) → (∀ i v, hi ≤ i → xs[i]? = some v → j ≤ v) →
    (∀ i v, i < SetTable.below.go xs.toArray j fuel lo hi → xs[i]? = some v → v < j) ∧ (∀ i v, SetTable.below.go xs.toArray j fuel lo hi ≤ i → xs[i]? = some v → j ≤ v) ∧ SetTable.below.go xs.toArray j fuel lo hi ≤ xs.length
  | 0, lo, hi, h1, h2, h3, h4, h5 => by
    have : lo = hi := by (first | lia | omega)
    subst this
    exact ⟨h4, h5, h1⟩
  | fuel + 1, lo, hi, h1, h2, h3, h4, h5 => by
    unfold SetTable.below.go
    by_cases c : lo < hi
    · rw [if_pos c]
      dsimp only
      have hmid : (lo + hi) / 2 < hi := by (first | lia | omega)
      have hlm : lo ≤ (lo + hi) / 2 := by (first | lia | omega)
      have hget : (xs.toArray).getD ((lo + hi) / 2) j = xs[(lo + hi) / 2]'(by (first | lia | omega)) := by
        simp [Array.getD, show (lo + hi) / 2 < xs.length by (first | lia | omega)]
      rw [hget]
      have hmono : ∀ (a b : Nat) (va vb : Nat), a < b → xs[a]? = some va → xs[b]? = some vb → va < vb := fun a b va vb hab ha hb => by
        obtain ⟨la, ea⟩ := List.getElem?_eq_some_iff.mp ha
        obtain ⟨lb, eb⟩ := List.getElem?_eq_some_iff.mp hb
        have := List.pairwise_iff_getElem.mp hs a b la lb hab
        (first | lia | omega)
      have hmv : xs[(lo + hi) / 2]? = some (xs[(lo + hi) / 2]'(by (first | lia | omega))) := List.getElem?_eq_getElem _
      by_cases d : xs[(lo + hi) / 2]'(by (first | lia | omega)) < j
      · rw [if_pos d]
        refine below_go hs fuel _ _ h1 (by (first | lia | omega)) (by (first | lia | omega)) (fun i v hi' e => ?_) h5
        by_cases q : i = (lo + hi) / 2
        · subst q; rw [hmv] at e; cases e; exact d
        · have := hmono i _ v _ (by (first | lia | omega)) e hmv; (first | lia | omega)
      · rw [if_neg d]
        refine below_go hs fuel _ _ (by (first | lia | omega)) hlm (by (first | lia | omega)) h4 (fun i v hi' e => ?_)
        by_cases q : i = (lo + hi) / 2
        · subst q; rw [hmv] at e; cases e; (first | lia | omega)
        · have := hmono _ i _ v (by (first | lia | omega)) hmv e; (first | lia | omega)
    · rw [if_neg c]
      have : lo = hi := by (first | lia | omega)
      subst this
      exact ⟨h4, h5, h1⟩
theorem below_ok {xs : Array Nat} {j : Nat} (hs : xs.toList.Pairwise (· < ·)) : (∀ i v, i < SetTable.below xs j → xs.toList[i]? = some v → v < j) ∧ (∀ i v, SetTable.below xs j ≤ i → xs.toList[i]? = some v → j ≤ v) ∧ SetTable.below xs j ≤ xs.size := by
  obtain ⟨l⟩ := xs
  exact below_go hs l.length 0 l.length (Nat.le_refl _) (Nat.zero_le _) (by (first | lia | omega)) (fun i v h => absurd h (by (first | lia | omega))) (fun i v h e => by
    have h1 : i < l.length := (List.getElem?_eq_some_iff.mp e).1
    (first | lia | omega))
theorem below_miss {xs : Array Nat} {j : Nat} (hs : xs.toList.Pairwise (· < ·)) (hn : (xs[SetTable.below xs j]? == some j) = false) : j ∉ xs.toList := fun hm => by
  obtain ⟨h1, h2, h3⟩ := below_ok (j := j) hs
  obtain ⟨i, hi⟩ := List.mem_iff_getElem?.mp hm
  have hge : SetTable.below xs j ≤ i := Nat.le_of_not_lt fun q => by have := h1 i j q hi; (first | lia | omega)
  have hlt := (List.getElem?_eq_some_iff.mp hi).1
  by_cases e : i = SetTable.below xs j
  · subst e
    rw [Array.getElem?_toList] at hi
    rw [hi] at hn; simp at hn
  · obtain ⟨v, hv⟩ : ∃ v, xs.toList[SetTable.below xs j]? = some v := ⟨_, List.getElem?_eq_getElem (by (first | lia | omega))⟩
    have h4 := h2 _ v (Nat.le_refl _) hv
    obtain ⟨lv, ev⟩ := List.getElem?_eq_some_iff.mp hv
    obtain ⟨lj, ej⟩ := List.getElem?_eq_some_iff.mp hi
    have := List.pairwise_iff_getElem.mp hs _ i lv lj (by (first | lia | omega))
    (first | lia | omega)
theorem insertAt_list {α : Type} (xs : Array α) (p : Nat) (x : α) : (SetTable.insertAt xs p x).toList = xs.toList.take p ++ x :: xs.toList.drop p := by
  unfold SetTable.insertAt
  simp
  exact List.take_of_length_le (by simp)
theorem insert_rising {xs : Array Nat} {j : Nat} (hs : xs.toList.Pairwise (· < ·)) (hj : j ∉ xs.toList) : (SetTable.insertAt xs (SetTable.below xs j) j).toList.Pairwise (· < ·) := by
  obtain ⟨h1, h2, h3⟩ := below_ok (j := j) hs
  rw [insertAt_list, List.pairwise_append, List.pairwise_cons]
  have hd : ∀ b ∈ xs.toList.drop (SetTable.below xs j), j < b := fun b hb => by
    obtain ⟨i, hi⟩ := List.mem_iff_getElem?.mp hb
    rw [List.getElem?_drop] at hi
    have h4 := h2 _ b (by (first | lia | omega)) hi
    have h5 : b ∈ xs.toList := List.mem_of_getElem? hi
    have : b ≠ j := fun e => hj (e ▸ h5)
    (first | lia | omega)
  have ht : ∀ a ∈ xs.toList.take (SetTable.below xs j), a < j := fun a ha => by
    obtain ⟨i, hi⟩ := List.mem_iff_getElem?.mp ha
    have hl := (List.getElem?_eq_some_iff.mp hi).1
    rw [List.length_take] at hl
    rw [List.getElem?_take_of_lt (by (first | lia | omega))] at hi
    exact h1 i a (by (first | lia | omega)) hi
  refine ⟨hs.sublist (List.take_sublist _ _), ⟨hd, hs.sublist (List.drop_sublist _ _)⟩, fun a ha b hb => ?_⟩
  have := ht a ha
  rcases List.mem_cons.mp hb with rfl | hb
  · exact this
  · have := hd b hb; (first | lia | omega)
/- the probe finds an empty place -/
theorem slot_empty {t : SetTable} (hd : t.dummies = #[]) (j : Nat) : ((t.place[SetTable.below t.place j]? == some j) = true ∧ t.slot j = .live (SetTable.below t.place j)) ∨ ((t.place[SetTable.below t.place j]? == some j) = false ∧ t.slot j = .empty) := by
  unfold SetTable.slot
  dsimp only
  cases c : (t.place[SetTable.below t.place j]? == some j) with
  | true => left; exact ⟨rfl, by simp⟩
  | false =>
    right; refine ⟨rfl, ?_⟩
    rw [hd]; simp [SetTable.has]
theorem go_finds {t : SetTable} {h : Int} (hd : t.dummies = #[]) : ∀ (fuel : Nat) (p : SetTable.Probe) (k : Nat), p.more ≤ 9 → (t.slot p.j = .empty ∧ 1 ≤ fuel ∨ (t.slot (lp t.mask (k + 1) (p.i, p.perturb)).1 = .empty ∧ p.more + 10 * k + 2 ≤ fuel)) → ∃ j, SetTable.probe.go t (fun _ => h + 1) h fuel p = some (.empty j p.dummy) ∧ t.slot j = .empty
  | 0, p, k, _, h => by rcases h with h | h <;> (first | lia | omega)
  | fuel + 1, p, k, hm, hh => by
    unfold SetTable.probe.go
    rcases slot_empty hd p.j with ⟨_, e⟩ | ⟨_, e⟩
    · rw [e]
      dsimp only
      have hne : ¬ ((h + 1) == h) = true := by rw [beq_iff_eq]; (first | lia | omega)
      rw [if_neg hne]
      rcases hh with ⟨h1, _⟩ | ⟨h1, h2⟩
      · rw [e] at h1; cases h1
      · by_cases c : p.more > 0
        · have ea : t.advance p = { p with j := p.j + 1, more := p.more - 1 } := by unfold SetTable.advance; rw [if_pos c]
          rw [ea]
          exact go_finds hd fuel { p with j := p.j + 1, more := p.more - 1 } k (by dsimp only; (first | lia | omega)) (.inr ⟨h1, by dsimp only; (first | lia | omega)⟩)
        · have ea : t.advance p = { p with j := (SetTable.leap t.mask p.i p.perturb).1, more := SetTable.runEnd t.mask (SetTable.leap t.mask p.i p.perturb).1 - (SetTable.leap t.mask p.i p.perturb).1, i := (SetTable.leap t.mask p.i p.perturb).1, perturb := (SetTable.leap t.mask p.i p.perturb).2 } := by
            unfold SetTable.advance; rw [if_neg c]
          rw [ea]
          have hmore : SetTable.runEnd t.mask (SetTable.leap t.mask p.i p.perturb).1 - (SetTable.leap t.mask p.i p.perturb).1 ≤ 9 := by
            unfold SetTable.runEnd; split <;> (first | lia | omega)
          cases k with
          | zero =>
            exact go_finds hd fuel _ 0 hmore (.inl ⟨h1, by (first | lia | omega)⟩)
          | succ k =>
            exact go_finds hd fuel _ k hmore (.inr ⟨h1, by dsimp only at hmore ⊢; (first | lia | omega)⟩)
    · rw [e]
      exact ⟨p.j, rfl, e⟩
theorem nodup_sub_len : ∀ {a b : List Nat}, a.Nodup → (∀ x ∈ a, x ∈ b) → a.length ≤ b.length
  | [], _, _, _ => Nat.zero_le _
  | x :: a, b, hn, hs => by
    rw [List.nodup_cons] at hn
    have hx := hs x (.head _)
    have h1 := nodup_sub_len (a := a) (b := b.erase x) hn.2 fun y hy => by
      have hne : y ≠ x := fun e => hn.1 (e ▸ hy)
      exact (List.mem_erase_of_ne hne).mpr (hs y (.tail _ hy))
    rw [List.length_erase_of_mem hx] at h1
    have := List.length_pos_of_mem hx
    simp only [List.length_cons]; (first | lia | omega)
theorem exists_free {l : List Nat} {m : Nat} (h : l.length ≤ m) : ∃ e, e ≤ m ∧ e ∉ l := by
  refine Classical.byContradiction fun hc => ?_
  have hsub : ∀ e ∈ List.range (m + 1), e ∈ l := fun e he => Classical.byContradiction fun hn => hc ⟨e, by have := List.mem_range.mp he; (first | lia | omega), hn⟩
  have := nodup_sub_len List.nodup_range hsub
  rw [List.length_range] at this
  (first | lia | omega)
theorem bits_lt (h : Int) : SetTable.bits h < 2 ^ 64 := by
  unfold SetTable.bits
  have h1 : 0 ≤ h % (2 ^ 64 : Int) := Int.emod_nonneg _ (by decide)
  have h2 : h % (2 ^ 64 : Int) < 2 ^ 64 := Int.emod_lt_of_pos _ (by decide)
  (first | lia | omega)
theorem free_finds {t : SetTable} (hm : SmallMask t.mask) (hd : t.dummies = #[]) (hn : t.place.size ≤ t.mask) (h : Int) : ∃ j, t.freeSlot h = some (j, false) ∧ t.slot j = .empty := by
  obtain ⟨e, he, hne⟩ := exists_free (l := t.place.toList) (m := t.mask) (by simpa using hn)
  have hse : t.slot e = .empty := by
    rcases slot_empty hd e with ⟨c, _⟩ | ⟨_, c⟩
    · exfalso
      have : t.place[SetTable.below t.place e]? = some e := by simpa using c
      rw [← Array.getElem?_toList] at this
      exact hne (List.mem_of_getElem? this)
    · exact c
  have hi : SetTable.bits h % (t.mask + 1) ≤ t.mask := by have := Nat.mod_lt (SetTable.bits h) (show 0 < t.mask + 1 by (first | lia | omega)); (first | lia | omega)
  obtain ⟨k, hk, ek⟩ := lp_hits hm hi (bits_lt h) he
  have hr : SetTable.runEnd t.mask (SetTable.bits h % (t.mask + 1)) - SetTable.bits h % (t.mask + 1) ≤ 9 := by unfold SetTable.runEnd; split <;> (first | lia | omega)
  have key : ∃ j, SetTable.probe.go t (fun _ => h + 1) h (10 * SetTable.turns t.mask) (t.probeStart h) = some (.empty j none) ∧ t.slot j = .empty := by
    cases k with
    | zero => exact go_finds hd _ (t.probeStart h) 0 hr (.inl ⟨by show t.slot (SetTable.bits h % (t.mask + 1)) = _; rw [show SetTable.bits h % (t.mask + 1) = e from ek]; exact hse, by unfold SetTable.turns; (first | lia | omega)⟩)
    | succ k => exact go_finds hd _ (t.probeStart h) k hr (.inr ⟨by show t.slot (lp t.mask (k + 1) (SetTable.bits h % (t.mask + 1), SetTable.bits h)).1 = _; rw [ek]; exact hse, by
        unfold SetTable.turns
        have : (t.probeStart h).more ≤ 9 := hr
        (first | lia | omega)⟩)
  obtain ⟨j, e1, e2⟩ := key
  refine ⟨j, ?_, e2⟩
  unfold SetTable.freeSlot SetTable.probe
  rw [e1]
  rfl
/- part A26 -/
/- ## a small table laid anew -/
theorem fm_congr {α : Type} {f g : Nat → Option α} : ∀ l : List Nat, (∀ i ∈ l, g i = f i) → l.filterMap g = l.filterMap f
  | [], _ => rfl
  | a :: l, h => by
    have ih := fm_congr l fun i hi => h i (.tail _ hi)
    cases q : f a with
    | none => rw [List.filterMap_cons_none (by rw [h a (.head _)]; exact q), List.filterMap_cons_none q, ih]
    | some y => rw [List.filterMap_cons_some (by rw [h a (.head _)]; exact q), List.filterMap_cons_some q, ih]
theorem filterMap_set {f g : Nat → Option Nat} {j x : Nat} (hf : f j = none) (hg : g j = some x) (ho : ∀ i, i ≠ j → g i = f i) : ∀ l : List Nat, l.Nodup → j ∈ l → (l.filterMap g).Perm (x :: l.filterMap f)
  | [], _, h => by simp at h
  | a :: l, hn, h => by
    rw [List.nodup_cons] at hn
    by_cases e : a = j
    · subst e
      have : l.filterMap g = l.filterMap f := fm_congr l fun i hi => ho i fun q => hn.1 (q ▸ hi)
      rw [List.filterMap_cons_some hg, List.filterMap_cons_none hf, this]
    · have hj : j ∈ l := by rcases List.mem_cons.mp h with q | q; exact absurd q.symm e; exact q
      have ih := filterMap_set hf hg ho l hn.2 hj
      cases q : f a with
      | none => rw [List.filterMap_cons_none (by rw [ho a e]; exact q), List.filterMap_cons_none q]; exact ih
      | some y =>
        rw [List.filterMap_cons_some (by rw [ho a e]; exact q), List.filterMap_cons_some q]
        exact (ih.cons y).trans (List.Perm.swap ..)
theorem free_go {mask : Nat} (hm : 0 < mask) {owner : Array (Option Nat)} (hsz : owner.size = mask + 1) : ∀ (fuel i pt k : Nat), i ≤ mask → k < fuel → owner.getD (lp mask k (i, pt)).1 none = none → ∃ j, SetTable.layClean.free mask owner fuel i pt = some j ∧ j ≤ mask ∧ owner.getD j none = none
  | 0, _, _, _, _, h, _ => absurd h (Nat.not_lt_zero _)
  | fuel + 1, i, pt, k, hi, hk, he => by
    unfold SetTable.layClean.free
    have hgd : ∀ j, j ≤ mask → ((owner.getD j (some 0)).isNone = true ↔ owner.getD j none = none) := fun j hj => by
      have : j < owner.size := by (first | lia | omega)
      simp [Array.getD, this]
    have hre : SetTable.runEnd mask i ≤ mask ∧ i ≤ SetTable.runEnd mask i := by unfold SetTable.runEnd; split <;> (first | lia | omega)
    cases q : (List.range (SetTable.runEnd mask i + 1 - i)).find? fun k => (owner.getD (i + k) (some 0)).isNone with
    | some d =>
      have h1 := List.find?_some q
      have h2 := List.mem_range.mp (List.mem_of_find?_eq_some q)
      exact ⟨i + d, rfl, by (first | lia | omega), (hgd _ (by (first | lia | omega))).mp h1⟩
    | none =>
      dsimp only
      cases k with
      | zero =>
        have h1 := List.find?_eq_none.mp q 0 (List.mem_range.mpr (by (first | lia | omega)))
        exact absurd ((hgd i hi).mpr he) (by simpa using h1)
      | succ k =>
        have hl : (SetTable.leap mask i pt).1 ≤ mask := by
          show (i * 5 + 1 + pt / 32) % (mask + 1) ≤ mask
          have := Nat.mod_lt (i * 5 + 1 + pt / 32) (show 0 < mask + 1 by (first | lia | omega)); (first | lia | omega)
        exact free_go hm hsz fuel _ _ k hl (by (first | lia | omega)) he
noncomputable def OwnInv (mask : Nat) (p : Array (Option Nat) × Nat) : Prop := p.1.size = mask + 1 ∧ ((List.range (mask + 1)).filterMap fun j => p.1.getD j none).Perm (List.range p.2)
theorem layClean_step {mask : Nat} (hm : SmallMask mask) (h : Int) {owner : Array (Option Nat)} {k : Nat} (I : OwnInv mask (owner, k)) (hk : k ≤ mask) :
    ∃ j, SetTable.layClean.free mask owner (SetTable.turns mask) (SetTable.bits h % (mask + 1)) (SetTable.bits h) = some j ∧ OwnInv mask (owner.setIfInBounds j (some k), k + 1) := by
  obtain ⟨hsz, hp⟩ := I
  dsimp only at hsz hp
  have hm0 : 0 < mask := by rcases hm with rfl | rfl <;> decide
  have hex : ∃ e, e ≤ mask ∧ owner.getD e none = none := by
    refine Classical.byContradiction fun hc => ?_
    have hall : ∀ e ∈ List.range (mask + 1), ∃ y, owner.getD e none = some y := fun e he => by
      cases q : owner.getD e none with
      | none => exact absurd ⟨e, by have := List.mem_range.mp he; (first | lia | omega), q⟩ hc
      | some y => exact ⟨y, rfl⟩
    have hlen : ∀ l : List Nat, (∀ e ∈ l, ∃ y, owner.getD e none = some y) → (l.filterMap fun j => owner.getD j none).length = l.length := fun l => by
      induction l with
      | nil => intro _; rfl
      | cons a l ih =>
        intro h
        obtain ⟨y, hy⟩ := h a (.head _)
        rw [List.filterMap_cons_some (f := fun j => owner.getD j none) hy, List.length_cons, List.length_cons, ih fun e he => h e (.tail _ he)]
    have h1 := hlen _ hall
    have h2 := hp.length_eq
    rw [h1, List.length_range, List.length_range] at h2
    (first | lia | omega)
  obtain ⟨e, he, hn⟩ := hex
  have hi : SetTable.bits h % (mask + 1) ≤ mask := by have := Nat.mod_lt (SetTable.bits h) (show 0 < mask + 1 by (first | lia | omega)); (first | lia | omega)
  obtain ⟨d, hd, ed⟩ := lp_hits hm hi (bits_lt h) he
  obtain ⟨j, hj, hjm, hjn⟩ := free_go hm0 hsz (SetTable.turns mask) _ (SetTable.bits h) d hi (by unfold SetTable.turns; (first | lia | omega)) (by rw [ed]; exact hn)
  refine ⟨j, hj, by simpa using hsz, ?_⟩
  dsimp only
  refine (filterMap_set (f := fun j => owner.getD j none) (j := j) (x := k) hjn ?_ (fun i hne => ?_) _ List.nodup_range (List.mem_range.mpr (by (first | lia | omega)))).trans ?_
  · have : j < owner.size := by (first | lia | omega)
    simp [Array.getD, this]
  · simp only [Array.getD]
    by_cases c : i < owner.size
    · have : ¬ j = i := fun q => hne q.symm
      simp [c, Array.getElem_setIfInBounds, this]
    · simp [c]
  · rw [List.range_succ (n := k)]
    exact (hp.cons k).trans (List.perm_append_comm (l₁ := [k]) (l₂ := List.range k))
theorem layClean_ok {mask : Nat} (hm : SmallMask mask) (hs : List Int) (hl : hs.length ≤ mask) : ∃ owner, SetTable.layClean mask hs.toArray = some owner ∧ OwnInv mask (owner, hs.length) := by
  unfold SetTable.layClean
  rw [List.foldl_toArray]
  have key : ∀ (l : List Int) (owner : Array (Option Nat)) (k : Nat), OwnInv mask (owner, k) → k + l.length ≤ mask →
      ∃ o', l.foldl (fun acc h => do
        let (owner, k) ← acc
        let j ← SetTable.layClean.free mask owner (SetTable.turns mask) (SetTable.bits h % (mask + 1)) (SetTable.bits h)
        pure (owner.setIfInBounds j (some k), k + 1)) (some (owner, k)) = some (o', k + l.length) ∧ OwnInv mask (o', k + l.length) := by
    intro l
    induction l with
    | nil => intro owner k I _; exact ⟨owner, rfl, I⟩
    | cons h l ih =>
      intro owner k I hk
      simp only [List.length_cons] at hk
      obtain ⟨j, hj, I'⟩ := layClean_step hm h I (by (first | lia | omega))
      obtain ⟨o', e, I''⟩ := ih _ _ I' (by (first | lia | omega))
      refine ⟨o', ?_, by rw [List.length_cons, ← Nat.add_assoc, Nat.add_right_comm]; exact I''⟩
      rw [List.foldl_cons, List.length_cons, ← Nat.add_assoc, Nat.add_right_comm]
      simp only [Option.bind_eq_bind, Option.bind_some, hj, Option.pure_def] at e ⊢
      exact e
  obtain ⟨o', e, I⟩ := key hs (Array.replicate (mask + 1) none) 0 ⟨by simp, by
    have : ((List.range (mask + 1)).filterMap fun j => (Array.replicate (mask + 1) (none : Option Nat)).getD j none) = [] := by
      rw [List.filterMap_eq_nil_iff]
      intro j _
      simp only [Array.getD]
      split <;> simp
    rw [this]; exact .nil⟩ (by (first | lia | omega))
  rw [Nat.zero_add] at I e
  exact ⟨o', by rw [e]; rfl, I⟩
theorem live_fst (f : Nat → Option Nat) : ∀ l : List Nat, ((l.filterMap fun j => (f j).map (j, ·)).map (·.1)).Sublist l
  | [] => .slnil
  | a :: l => by
    cases q : f a with
    | none => rw [List.filterMap_cons_none (by rw [q]; rfl)]; exact .cons _ (live_fst f l)
    | some y => rw [List.filterMap_cons_some (b := (a, y)) (by rw [q]; rfl), List.map_cons]; exact .cons_cons _ (live_fst f l)
theorem live_snd (f : Nat → Option Nat) : ∀ l : List Nat, (l.filterMap fun j => (f j).map (j, ·)).map (·.2) = l.filterMap f
  | [] => rfl
  | a :: l => by
    cases q : f a with
    | none => rw [List.filterMap_cons_none (by rw [q]; rfl), List.filterMap_cons_none q]; exact live_snd f l
    | some y => rw [List.filterMap_cons_some (b := (a, y)) (by rw [q]; rfl), List.filterMap_cons_some q, List.map_cons]; rw [live_snd f l]
structure TI (L : Bool) (t : SetTable) (n : Nat) : Prop where
  led : t.led = L
  plain : t.plain = true
  dum : t.dummies = #[]
  rise : t.place.toList.Pairwise (· < ·)
  mask : (t.mask = 7 ∧ n ≤ 4) ∨ (t.mask = 31 ∧ n ≤ 18)
  size : t.place.size = n
theorem rising_range (n : Nat) : (List.range n).Pairwise (· < ·) := List.pairwise_lt_range
theorem relay_ok {L : Bool} {t : SetTable} {es : Array (Int × Value)} (hl : t.led = L) (hp : t.plain = true) (hn : es.size = 5) : TI L (relayAll t es (SetTable.grown es.size)).2.1 (relayAll t es (SetTable.grown es.size)).1.size ∧ (relayAll t es (SetTable.grown es.size)).2.2 = false ∧ (relayAll t es (SetTable.grown es.size)).1.size = 5 := by
  have hg : SetTable.grown es.size = 20 := by rw [hn]; decide
  have hsz : (relayAll t es (SetTable.grown es.size)).1.size = 5 := by
    have := (relayAll_perm t es (SetTable.grown es.size)).length_eq
    rw [Array.length_toList, Array.length_toList] at this
    (first | lia | omega)
  obtain ⟨owner, eo, I⟩ := layClean_ok (mask := 31) (.inr rfl) (es.map (·.1)).toList (by simp [hn])
  have I2 : ((List.range 32).filterMap fun j => owner.getD j none).Perm (List.range 5) := by have := I.2; simpa [hn] using this
  have e1 : SetTable.sizeAbove 20 - 1 = 31 := by decide
  rw [Array.toArray_toList] at eo
  have hrel : t.relaid (es.map (·.1)) 20 = some ({ mask := 31, place := (((List.range 32).filterMap fun j => (owner.getD j none).map (j, ·)).map (·.1)).toArray, dummies := #[], finger := t.finger, led := t.led, moves := t.movedTo 31, plain := t.plain }, (((List.range 32).filterMap fun j => (owner.getD j none).map (j, ·)).map (·.2)).toArray) := by
    unfold SetTable.relaid
    rw [e1]
    unfold SetTable.laid
    rw [eo]
    rfl
  have hlen : ((List.range 32).filterMap fun j => (owner.getD j none).map (j, ·)).length = 5 := by
    have := I2.length_eq
    rw [← live_snd, List.length_map, List.length_range] at this
    exact this
  have hcov : coversAll (((List.range 32).filterMap fun j => (owner.getD j none).map (j, ·)).map (·.2)).toArray es.size = true := by
    unfold coversAll
    rw [hn, List.isPerm_iff]
    simpa [live_snd] using I2
  have hall : ∀ es', es'.size = 5 → SetTable.fits { mask := 31, place := (((List.range 32).filterMap fun j => (owner.getD j none).map (j, ·)).map (·.1)).toArray, dummies := #[], finger := t.finger, led := t.led, moves := t.movedTo 31, plain := t.plain } (es' : Array (Int × Value)).size = true := fun es' he => by
    generalize ((List.range 32).filterMap fun j => (owner.getD j none).map (j, ·)) = P at hlen
    unfold SetTable.fits SetTable.fill
    simp [hlen, he]
  have hes' : ((((List.range 32).filterMap fun j => (owner.getD j none).map (j, ·)).map (·.2)).toArray.filterMap (es[·]?)).size = 5 := by
    have hpm : List.Perm ((((List.range 32).filterMap fun j => (owner.getD j none).map (j, ·)).map (·.2)).filterMap (es[·]?)) es.toList := by
      rw [live_snd]
      refine (I2.filterMap _).trans ?_
      have := List.filterMap_getElem?_range_length es.toList
      rw [Array.length_toList, hn] at this
      simpa using List.Perm.of_eq this
    have := hpm.length_eq
    rw [← Array.length_toList, Array.toList_filterMap]
    simpa [hn] using this
  have hR : relayAll t es (SetTable.grown es.size) = ((((List.range 32).filterMap fun j => (owner.getD j none).map (j, ·)).map (·.2)).toArray.filterMap (es[·]?), { mask := 31, place := (((List.range 32).filterMap fun j => (owner.getD j none).map (j, ·)).map (·.1)).toArray, dummies := #[], finger := t.finger, led := t.led, moves := t.movedTo 31, plain := t.plain }, false) := by
    unfold relayAll
    rw [hg, hrel]
    dsimp only
    rw [hcov, hall _ hes']
    rfl
  refine ⟨?_, by rw [hR], hsz⟩
  rw [hsz, hR]
  exact ⟨hl, hp, rfl, (rising_range 32).sublist (by simpa using live_fst (fun j => owner.getD j none) (List.range 32)), .inr ⟨rfl, by decide⟩, by simpa using hlen⟩
theorem add_ok {L : Bool} {t : SetTable} {es : Array (Int × Value)} (I : TI L t es.size) (hn : es.size + 1 ≤ 18) (h : Int) (x : Value) :
    ∃ es1 t1, layNew t es h x = (es1, t1, false, false) ∧ es1.size = es.size + 1 ∧ t1.led = L ∧ t1.plain = true ∧ ((t1.tooFull = true ∧ es1.size = 5) ∨ (t1.tooFull = false ∧ TI L t1 es1.size)) := by
  have hm : SmallMask t.mask := by rcases I.mask with ⟨e, _⟩ | ⟨e, _⟩ <;> simp [SmallMask, e]
  have hlt : es.size + 1 ≤ t.mask := by rcases I.mask with ⟨e, _⟩ | ⟨e, _⟩ <;> (first | lia | omega)
  obtain ⟨j, hj, hsl⟩ := free_finds hm I.dum (by rw [I.size]; (first | lia | omega)) h
  have hnot : j ∉ t.place.toList := by
    rcases slot_empty I.dum j with ⟨_, c⟩ | ⟨c, _⟩
    · rw [c] at hsl; cases hsl
    · exact below_miss I.rise c
  have hput : t.put j = ({ t with place := SetTable.insertAt t.place (SetTable.below t.place j) j }, SetTable.below t.place j) := by
    unfold SetTable.put
    dsimp only
    have : SetTable.has t.dummies j = false := by rw [I.dum]; simp [SetTable.has]
    rw [this]; simp
  have hins : ∀ {α : Type} (xs : Array α) (x : α), (SetTable.insertAt xs (SetTable.below t.place j) x).size = xs.size + 1 := fun xs x => by
    rw [← Array.length_toList, insertAt_list]
    simp only [List.length_append, List.length_cons, List.length_take, List.length_drop, Array.length_toList]
    (first | lia | omega)
  have hfit : SetTable.fits { t with place := SetTable.insertAt t.place (SetTable.below t.place j) j } (SetTable.insertAt es (SetTable.below t.place j) (h, x)).size = true := by
    unfold SetTable.fits SetTable.fill
    simp [hins, I.size, I.dum, hlt]
  refine ⟨SetTable.insertAt es (SetTable.below t.place j) (h, x), { t with place := SetTable.insertAt t.place (SetTable.below t.place j) j }, ?_, hins _ _, I.led, I.plain, ?_⟩
  · unfold layNew
    rw [hj]
    dsimp only
    rw [hput]
    dsimp only
    unfold SetTable.orStandIn
    rw [hfit]; rfl
  have hfill : SetTable.fill { t with place := SetTable.insertAt t.place (SetTable.below t.place j) j } = es.size + 1 := by
    unfold SetTable.fill; simp [hins, I.size, I.dum]
  have hr := insert_rising I.rise hnot
  have htf : SetTable.tooFull { t with place := SetTable.insertAt t.place (SetTable.below t.place j) j } = decide ((es.size + 1) * 5 ≥ t.mask * 3) := by
    unfold SetTable.tooFull; rw [hfill]
  rcases I.mask with ⟨e, h4⟩ | ⟨e, h18⟩
  · by_cases c : es.size = 4
    · left
      exact ⟨by rw [htf, e, c]; decide, by rw [hins, c]⟩
    · right
      exact ⟨by rw [htf, e]; exact decide_eq_false (by (first | lia | omega)), ⟨I.led, I.plain, I.dum, hr, .inl ⟨e, by rw [hins]; (first | lia | omega)⟩, by rw [hins, hins, I.size]⟩⟩
  · right
    exact ⟨by rw [htf, e]; exact decide_eq_false (by (first | lia | omega)), ⟨I.led, I.plain, I.dum, hr, .inr ⟨e, by rw [hins]; (first | lia | omega)⟩, by rw [hins, hins, I.size]⟩⟩
/- part A27 -/
/- ## sets of ints, their places known -/
noncomputable def intv : Value → Int
  | .int n _ => n
  | _ => 0
noncomputable abbrev ledOf (W : Wd) : Bool := !W.w.params.followText "set-order"
structure SG (W : Wd) (o : Obj) (es : Array (Int × Value)) (ep : Nat) (t : SetTable) : Prop where
  ex : o.ExactSet
  data : o.data = .set es ep t
  el : ElemsOf (intKind W.prog W.w) es.toList
  ti : TI (ledOf W) t es.size
noncomputable def SetIs (W : Wd) (ns : List Int) (o : Obj) : Prop := ∃ es ep t, SG W o es ep t ∧ (es.toList.map fun e => intv e.2).Perm ns
theorem TI.fits {L : Bool} {t : SetTable} {n : Nat} (h : TI L t n) : t.fits n = true := by
  unfold SetTable.fits SetTable.fill
  have := h.mask
  simp [h.size, h.dum]
  (first | lia | omega)
theorem SG.int {W : Wd} {o es ep t} (h : SG W o es ep t) : ∀ e ∈ es.toList, ∃ tk, e.2 = .int (intv e.2) tk := fun e he => by
  obtain ⟨⟨k, hk, _⟩, _⟩ := h.el e he
  obtain ⟨tk, e'⟩ := isInt_val hk
  exact ⟨tk, by rw [e']; rfl⟩
theorem SG.is_iff {W : Wd} {o es ep t} (h : SG W o es ep t) (k : Int) : ∀ e ∈ es.toList, ((intKind W.prog W.w).is k e.2 = true ↔ intv e.2 = k) := fun e he => by
  obtain ⟨tk, e'⟩ := h.int e he
  constructor
  · intro q
    obtain ⟨tk', e''⟩ := isInt_val q
    rw [e'']; rfl
  · intro q
    rw [e', q]; exact intKind_is _ _ _ _
theorem gave_ok {W : Wd} {A : Around} {E : Value → Shared → Prop} {s : Shared} {Q : Unit → Shared → Prop} (b : Bool) (h : Q () s) : wpAny W.M A (match b with | true => rule "set.scan.the-table-gave-way" | false => pure ()) Q E s := by
  cases b
  · exact wpAny_pure h
  · exact wpAny_rule h
section
variable {W : Wd} {A : Around} {E : Value → Shared → Prop} {s : Shared}
theorem set_add {a : Addr} {o : Obj} {ns : List Int} {i : Int} {tk : Tok} {Q : Bool → Shared → Prop} (ho : s.heap.get? a = some o) (hs : SetIs W ns o) (hl : ns.length + 1 ≤ 18)
    (h : ∀ b h' o', Heap.SameBut a s.heap h' → h'.get? a = some o' → SetIs W (if i ∈ ns then ns else ns ++ [i]) o' → Q b { s with heap := h', toks := s.toks + 1 }) :
    wpAny W.M A (setAdd a (.int i tk)) Q E s := by
  obtain ⟨es, ep, t, G, hp⟩ := hs
  have hsz : es.size = ns.length := by rw [← hp.length_eq, List.length_map, Array.length_toList]
  have hsc : (Value.int i tk).scannable = true := rfl
  have hkey : (intKind W.prog W.w).is i (.int i tk) = true := intKind_is _ _ _ _
  unfold setAdd
  refine wpAny_holding ?_
  refine wpAny_bind ((intKind W.prog W.w).pyHash (k := i) hkey ?_)
  generalize hs2 : ({ s with toks := s.toks + 1 } : Shared) = s2
  have ho2 : s2.heap.get? a = some o := by rw [← hs2]; exact ho
  have heap2 : s2.heap = s.heap := by rw [← hs2]
  unfold setAddHashed setAddHashedIn
  refine wpAny_holding (wpAny_bind (wpAny_setState_of ho2 G.data G.ti.fits ?_))
  dsimp only
  rw [byScan_of hsc (by unfold scanBound; (first | lia | omega)) G.el]
  simp only [↓reduceIte]
  unfold setAddByScan
  refine wpAny_bind ?_
  refine wpAny_bind (wpAny_rule ?_)
  refine wpAny_bind (wpAny_setScan_of hkey ho2 G.data G.ti.fits G.el ?_)
  have hmem : (∃ e ∈ es.toList, (intKind W.prog W.w).is i e.2 = true) ↔ i ∈ ns := by
    rw [← hp.mem_iff, List.mem_map]
    exact ⟨fun ⟨e, he, q⟩ => ⟨e, he, (G.is_iff i e he).mp q⟩, fun ⟨e, he, q⟩ => ⟨e, he, (G.is_iff i e he).mpr q⟩⟩
  cases hr : List.findIdx? (fun e => (intKind W.prog W.w).is i e.2) es.toList with
  | some j =>
    dsimp only
    obtain ⟨hj, hpj, _⟩ := List.findIdx?_eq_some_iff_getElem.mp hr
    have hin : i ∈ ns := hmem.mp ⟨es.toList[j], List.getElem_mem hj, hpj⟩
    refine wpAny_pure (wpAny_pure ?_)
    have := h false s.heap o (Heap.SameBut.refl a _) ho (by rw [if_pos hin]; exact ⟨es, ep, t, G, hp⟩)
    rw [← hs2]; exact this
  | none =>
    dsimp only
    have hnin : i ∉ ns := fun q => by
      obtain ⟨e, he, hq⟩ := hmem.mpr q
      have := List.findIdx?_eq_none_iff.mp hr e he
      rw [hq] at this; exact Bool.noConfusion this
    rw [if_neg hnin] at h
    obtain ⟨es1, t1, eL, hsz1, hled, hpl, hfull⟩ := add_ok G.ti (by (first | lia | omega)) ((intKind W.prog W.w).hash i) (.int i tk)
    have hperm := layNew_perm t es ((intKind W.prog W.w).hash i) (.int i tk)
    have hfits := layNew_fits t es ((intKind W.prog W.w).hash i) (.int i tk)
    rw [eL] at hperm hfits ⊢
    dsimp only at hperm hfits ⊢
    rw [Array.toList_push] at hperm
    have hel1 : ElemsOf (intKind W.prog W.w) es1.toList := (G.el.push hkey hsc).perm hperm
    have hp1 : (es1.toList.map fun e => intv e.2).Perm (ns ++ [i]) := by
      refine (hperm.map _).trans ?_
      rw [List.map_append]
      exact hp.append (.refl _)
    refine wpAny_bind (gave_ok false ?_)
    rw [hpl]
    simp only [↓reduceIte]
    refine wpAny_bind ?_
    rw [hashByValue_scannable 8 hsc]
    refine wpAny_pure ?_
    simp only [plainKind, ↓reduceIte]
    refine wpAny_bind (wpAny_storeSet_of ho2 G.data ?_ (by rw [sizeLine_eq]; (first | lia | omega)))
    have hb1 : es1.size < scanBound := by unfold scanBound; (first | lia | omega)
    have hg1 : (s2.heap.update a (Obj.putSet es1 t1)).get? a = some { o with data := .set es1 (ep + 1) t1 } := by
      have := Heap.get?_update_self (Obj.putSet es1 t1) ho2 (by rw [putSet_of es1 t1 G.data]; rfl)
      rwa [putSet_of es1 t1 G.data] at this
    have hsb1 := Heap.SameBut.update s2.heap a (Obj.putSet es1 t1)
    rcases hfull with ⟨hf, h5⟩ | ⟨hf, hti⟩
    · simp only [hf, Bool.not_false, Bool.and_self, ↓reduceIte]
      obtain ⟨r1, r2, r3⟩ := relay_ok (t := t1) (es := es1) hled hpl h5
      have rp := relayAll_perm t1 es1 (SetTable.grown es1.size)
      generalize hRl : relayAll t1 es1 (SetTable.grown es1.size) = Rl at r1 r2 r3 rp ⊢
      obtain ⟨es2, t3, gave2⟩ := Rl
      dsimp only at r1 r2 r3 rp ⊢
      subst r2
      refine wpAny_bind (gave_ok false ?_)
      refine wpAny_bind (wpAny_storeSet_of hg1 rfl ?_ (by rw [sizeLine_eq]; (first | lia | omega)))
      have hg2 : ((s2.heap.update a (Obj.putSet es1 t1)).update a (Obj.putSet es2 t3)).get? a = some { o with data := .set es2 (ep + 1 + 1) t3 } := by
        have := Heap.get?_update_self (Obj.putSet es2 t3) hg1 (by rw [putSet_of es2 t3 rfl]; rfl)
        rwa [putSet_of es2 t3 rfl] at this
      refine wpAny_pure ?_
      dsimp only
      refine wpAny_pure ?_
      have := h true _ _ (by rw [← heap2]; exact hsb1.trans (Heap.SameBut.update _ a (Obj.putSet es2 t3))) hg2 ⟨es2, _, t3, ⟨G.ex, rfl, hel1.perm rp, r1⟩, (rp.map _).trans hp1⟩
      rw [← hs2] at this ⊢; exact this
    · simp only [hf, Bool.not_false, Bool.and_false, Bool.false_eq_true, ↓reduceIte]
      refine wpAny_pure ?_
      dsimp only
      refine wpAny_pure ?_
      have := h true _ _ (by rw [← heap2]; exact hsb1) hg1 ⟨es1, _, t1, ⟨G.ex, rfl, hel1, hti⟩, hp1⟩
      rw [← hs2] at this ⊢; exact this
end
/- part A28 -/
/- ## set(list) -/
section
variable {W : Wd} {A : Around} {E : Value → Shared → Prop} {s : Shared}
structure DK (ns ms : List Int) : Prop where
  nd : ms.Nodup
  mem : ∀ x, x ∈ ms ↔ x ∈ ns
  len : ms.length ≤ ns.length
theorem DK.nil : DK [] [] := ⟨by simp, by simp, by simp⟩
theorem DK.snoc {ns ms : List Int} (h : DK ns ms) (x : Int) : DK (ns ++ [x]) (if x ∈ ms then ms else ms ++ [x]) := by
  by_cases c : x ∈ ms
  · rw [if_pos c]
    exact ⟨h.nd, fun y => by rw [List.mem_append, List.mem_singleton, ← h.mem]; exact ⟨.inl, fun q => q.elim id fun e => e ▸ c⟩, by have := h.len; simp; (first | lia | omega)⟩
  · rw [if_neg c]
    exact ⟨List.nodup_append.mpr ⟨h.nd, by simp, fun a ha b hb e => c (by rw [List.mem_singleton] at hb; rw [← hb, ← e]; exact ha)⟩, fun y => by rw [List.mem_append, List.mem_append, ← h.mem], by have := h.len; simp; (first | lia | omega)⟩
theorem set_loop {R : Result → Shared → Prop} {I l S : Addr} {items : Array Value} {ns : List Int} (hh : A.in1.handled = none) (hI : IntsAre items.toList ns) (hSI : S ≠ I) (hSl : S ≠ l) (hlI : l ≠ I) (h18 : items.size ≤ 17) :
    ∀ (k i : Nat) (s : Shared) (o : Obj) (ms : List Int), items.size - i = k → i ≤ items.size → s.heap.IsListIter I l i → s.heap.IsList l items → s.heap.get? S = some o → SetIs W ms o → DK (ns.take i) ms →
      (∀ h' tk o' ms', (∀ b o, b ≠ S → b ≠ I → s.heap.get? b = some o → h'.get? b = some o) → h'.get? S = some o' → SetIs W ms' o' → DK ns ms' → R (.ok (.ret .none)) { s with heap := h', toks := tk }) →
      codeAny W.M A (.builtin "set.update.loop" ⟨[.ref S, .ref I], []⟩) R s := by
  have hln : items.size = ns.length := by rw [← Array.length_toList]; exact IntsAre.length hI
  intro k
  induction k with
  | zero =>
    intro i s o ms hk hi hst hls ho hs hd hR
    have hin : i = items.size := by (first | lia | omega)
    subst hin
    refine codeAny_builtin PyProof.Rows.F.entry_set_update_loop ?_
    rw [Around.under_plainId PyProof.Rows.F.plain_set_update_loop _]
    show wpAny _ A.in1 (pyNext (.ref I) >>= _) _ _ s
    refine wpAny_bind (wpAny_pyNext_list_end hh hst hls (by simp) fun h' he => ?_)
    show wpAny _ A.in1 (ret Value.none) _ _ _
    refine wpAny_pure (hR h' s.toks o ms (fun b o hb hbI e => he b o hbI e) (he S o hSI ho) hs ?_)
    rw [hln, List.take_length] at hd; exact hd
  | succ k ih =>
    intro i s o ms hk hi hst hls ho hs hd hR
    have hlt : i < items.size := by (first | lia | omega)
    refine codeAny_builtin PyProof.Rows.F.entry_set_update_loop ?_
    rw [Around.under_plainId PyProof.Rows.F.plain_set_update_loop _]
    show wpAny _ A.in1 (pyNext (.ref I) >>= _) _ _ s
    refine wpAny_bind (wpAny_pyNext_list_item hst hls (x := items[i]) (by simp [hlt]) fun h1 hst1 hsb1 => ?_)
    obtain ⟨t, ev⟩ := IntsAre.int_at hI i items[i] (by rw [Array.getElem?_toList]; simp [hlt])
    rw [ev]
    show wpAny _ A.in1 (holding [Value.int (ns.getD i 0) t] (setAdd S (.int (ns.getD i 0) t)) >>= _) _ _ _
    refine wpAny_bind (wpAny_holding ?_)
    have hml : ms.length ≤ i := by have := hd.len; rw [List.length_take] at this; (first | lia | omega)
    refine set_add (o := o) (ns := ms) (hsb1.2 S hSI ▸ ho) hs (by (first | lia | omega)) fun b h2 o2 hsb2 ho2 hs2 => ?_
    have hd2 := hd.snoc (ns.getD i 0)
    have et : ns.take i ++ [ns.getD i 0] = ns.take (i + 1) := by
      rw [List.take_add_one, List.getElem?_eq_getElem (by (first | lia | omega) : i < ns.length)]
      simp [List.getD, List.getElem?_eq_getElem (by (first | lia | omega) : i < ns.length)]
    rw [et] at hd2
    have hstep : ∀ b o, b ≠ S → b ≠ I → s.heap.get? b = some o → h2.get? b = some o := fun b o hb hbI e => (hsb2.2 b hb).trans ((hsb1.2 b hbI).trans e)
    refine wpAny_pure ⟨plainId_quiet PyProof.Rows.F.plain_set_update_loop _, ih (i + 1) _ o2 _ (by (first | lia | omega)) hlt ?_ ?_ ho2 hs2 hd2 fun h' tk o' ms' hk' ho' hs' hd' => ?_⟩
    · exact hst1.at fun o e => (hsb2.2 I (Ne.symm hSI)).trans e
    · obtain ⟨ol, hol, r⟩ := hls
      exact ⟨ol, hstep l ol (Ne.symm hSl) hlI hol, r⟩
    · exact hR h' tk o' ms' (fun b o hb hbI e => hk' b o hb hbI (hstep b o hb hbI e)) ho' hs' hd'
theorem set_new_code (a : Value) {Q₁ : Value → Shared → Prop}
    (h : Q₁ (.ref s.heap.objs.size) { s with heap := s.heap.push { cls := .type "set", dict := none, data := .set #[] 0 (.fresh 0 0 (ledOf W)) } }) :
    codeAny W.M A (.call (.builtin "set.__new__") ⟨[.type "set", a], []⟩) (wants Q₁ E) s := by
  refine codeAny_of_tree ?_
  show wpAny _ A.in1 (do checkBuiltinCall "set.__new__" ⟨[.type "set", a], []⟩; again (.builtin "set.__new__" ⟨[.type "set", a], []⟩)) _ _ s
  refine wpAny_bind (wpAny_of_eq (PySem.F.newCall_set_1 a) (wpAny_pure ⟨plainId_quiet PySem.F.plain_set_new _, codeAny_builtin PySem.F.entry_set_new ?_⟩))
  rw [Around.under_plainId PySem.F.plain_set_new _]
  unfold Builtin.«set.__new__» Builtin.Frozenset.newClass
  have hsub := sub_set_self
  obtain ⟨hp, g, d, tk, os⟩ := s
  dsimp only
  wp_walk
  refine wpAny_askSetting (wpAny_pure ?_)
  dsimp only
  simp only [newObj]
  refine wpAny_bind (wpAny_alloc (wpAny_pure ?_))
  exact wpAny_pure h
theorem SetIs.fresh : SetIs W [] { cls := .type "set", dict := none, data := .set #[] 0 (.fresh 0 0 (ledOf W)) } :=
  ⟨#[], 0, .fresh 0 0 (ledOf W), ⟨⟨rfl, rfl, rfl⟩, rfl, fun e he => by simp at he, ⟨rfl, rfl, rfl, by simp [SetTable.fresh], .inl ⟨rfl, by simp⟩, rfl⟩⟩, by simp⟩
set_option maxHeartbeats 3200000 in
theorem set_call {l : Addr} {items : Array Value} {ns : List Int} {Q : Value → Shared → Prop}
    (hh : A.handled = none) (hl : s.heap.IsList l items) (hi : IntsAre items.toList ns) (hb : items.size ≤ 17)
    (h : ∀ (h' : Heap) (tk : Nat) (o : Obj) (ms : List Int), h'.get? s.heap.objs.size = some o → SetIs W ms o → DK ns ms → (∀ b o, s.heap.get? b = some o → h'.get? b = some o) → Q (.ref s.heap.objs.size) { s with heap := h', toks := tk }) :
    wpAny W.M A (call (.type "set") [.ref l]) Q E s := by
  obtain ⟨c, tl, hmro⟩ := PySem.F.called_set.mro
  have hmade := PySem.F.called_set.made
  have hsub := PySem.F.called_set.sub
  refine wpAny_call (codeAny_of_tree ?_)
  show wpAny _ _ (callAny (.type "set") _) _ _ _
  refine wpAny_pure ⟨Code.quiet_builtin _ (by decide +kernel), codeAny_builtin PySem.F.entry_type_call ?_⟩
  rw [Around.under_plain (weight_type_call_type "set" [.ref l] []) rfl]
  have h1 := PySem.F.called_set.notType
  have h2 := PySem.F.called_set.canCreate
  have hct := PySem.F.typeCall_set_1 (.ref l)
  repeat (any_goals (first | assumption | wp_step))
  refine codeAny_mono (set_new_code (W := W) (.ref l) (E := E) (Q₁ := fun obj s₁ => obj = .ref s.heap.objs.size ∧ s₁ = { s with heap := s.heap.push { cls := .type "set", dict := none, data := .set #[] 0 (.fresh 0 0 (ledOf W)) } }) ⟨rfl, rfl⟩) fun r s₁ hr => ?_
  cases r with
  | error e => exact hr
  | ok fl =>
    cases fl with
    | ret obj =>
      obtain ⟨rfl, rfl⟩ := hr
      generalize hob : ({ cls := .type "set", dict := none, data := .set #[] 0 (.fresh 0 0 (ledOf W)) } : Obj) = ob
      have hfr : SetIs W [] ob := by rw [← hob]; exact SetIs.fresh
      have hcl : ob.cls = .type "set" := by rw [← hob]
      have hS : (s.heap.push ob).get? s.heap.objs.size = some ob := Heap.get?_push_size _ (by rw [← hob]; rfl)
      have hT : Shared.TypeIs { s with heap := s.heap.push ob } (.ref s.heap.objs.size) "set" := ⟨_, hS, hcl⟩
      have hli := PySem.F.called_set.init.lookup
      have hbi := PySem.F.called_set.init.bind (.ref s.heap.objs.size)
      repeat (any_goals (first | assumption | wp_step))
      refine codeAny_mono (codeAny_call_builtin (R := wants (fun r s₂ => r = .none ∧ ∃ h' tk o ms, s₂ = { s with heap := h', toks := tk } ∧ h'.get? s.heap.objs.size = some o ∧ SetIs W ms o ∧ DK ns ms ∧
          (∀ b o, s.heap.get? b = some o → h'.get? b = some o)) E) PySem.F.called_set.init.plain PySem.F.entry_set_init (check_set_init_1 hT ?_)) fun r₂ s₂ hr₂ => ?_
      · obtain ⟨ol, hol, hclL, nl, hdl⟩ := hl
        obtain ⟨ocls, odict, odata, oslots⟩ := ol
        simp only at hclL hdl
        subst hclL; subst hdl
        have hol' : (s.heap.push ob).get? l = some { cls := .type "list", dict := odict, data := .seq items nl, slots := oslots } := Heap.get?_push_of_some _ hol
        have hsls := PySem.F.sub_list_set
        have hslf := PySem.F.sub_list_frozenset
        have hne : (Value.type "list" == Value.type "dict") = false := by decide
        have hl1 : (s.heap.push ob).IsList l items := ⟨_, hol', rfl, nl, rfl⟩
        subst hob
        unfold Builtin.«set.__init__» noKeywords Builtin.Frozenset.updateFrom
        generalize hPI : pyIter = PI
        wp_walk
        subst hPI
        refine wpAny_pyIter_list hl1 ?_
        refine wpAny_bind (wpAny_runValue ?_)
        have hlS : l < s.heap.objs.size := Heap.lt_size hol
        generalize hob : ({ cls := .type "set", dict := none, data := .set #[] 0 (.fresh 0 0 (ledOf W)) } : Obj) = ob at *
        have hneI : l ≠ (s.heap.push ob).objs.size := by rw [Heap.size_push]; exact Nat.ne_of_lt (Nat.lt_succ_of_lt hlS)
        have hSI : s.heap.objs.size ≠ (s.heap.push ob).objs.size := by rw [Heap.size_push]; exact Nat.ne_of_lt (Nat.lt_succ_self _)
        refine set_loop (W := W) (by simp [hh]) hi hSI (Nat.ne_of_gt hlS) hneI hb (items.size - 0) 0 _ ob [] (by (first | lia | omega)) (Nat.zero_le _) ⟨_, Heap.get?_push_size _ rfl, rfl, rfl⟩ (hl1.push _) (Heap.get?_push_of_some _ hS) hfr (by simpa using DK.nil)
          fun h' tk o' ms' hk ho' hs' hd' => ?_
        refine wpAny_pure ?_
        show wpAny _ _ (ret Value.none) _ _ _
        refine wpAny_pure ⟨rfl, h', tk, o', ms', rfl, ho', hs', hd', fun b o e => ?_⟩
        have hlt := Heap.lt_size e
        refine hk b o (Nat.ne_of_lt hlt) ?_ (Heap.get?_push_of_some _ (Heap.get?_push_of_some _ e))
        rw [Heap.size_push]; exact Nat.ne_of_lt (Nat.lt_succ_of_lt hlt)
      · cases r₂ with
        | error e => exact hr₂
        | ok fl₂ =>
          cases fl₂ with
          | ret r =>
            obtain ⟨rfl, h', tk, o, ms, rfl, ho, hs', hd', hk'⟩ := hr₂
            repeat (any_goals (first | assumption | wp_step))
            exact h _ _ o ms ho hs' hd' hk'
          | _ => exact hr₂.elim
    | _ => exact hr.elim
end
/- part A29 -/
/- ## a set's walk -/
theorem pick_go {α : Type} (next : Nat → Nat) : ∀ (fuel k : Nat) (left : List α) (out : Array α), left.length = fuel → (pickOrder.go next fuel k left out).toList.Perm (out.toList ++ left)
  | 0, k, left, out, h => by
    have : left = [] := List.length_eq_zero_iff.mp h
    subst this; unfold pickOrder.go; simp
  | fuel + 1, k, left, out, h => by
    unfold pickOrder.go
    have hlt : next k % left.length < left.length := Nat.mod_lt _ (by (first | lia | omega))
    rw [List.getElem?_eq_getElem hlt]
    dsimp only
    refine (pick_go next fuel (k + 1) _ _ (by rw [List.length_eraseIdx_of_lt hlt]; (first | lia | omega))).trans ?_
    rw [Array.toList_push, List.append_assoc]
    refine List.Perm.append_left _ ?_
    rw [List.singleton_append]
    rw [List.eraseIdx_eq_take_drop_succ]
    have e : left = left.take (next k % left.length) ++ left[next k % left.length] :: left.drop (next k % left.length + 1) := by
      rw [← List.drop_eq_getElem_cons hlt, List.take_append_drop]
    exact (List.perm_middle.symm).trans (.of_eq e.symm)
theorem pick_perm {α : Type} (next : Nat → Nat) (xs : Array α) : (pickOrder next xs).toList.Perm xs.toList := by
  have := pick_go next xs.size 0 xs.toList #[] (by simp)
  simpa [pickOrder] using this
theorem slot_setiter_next : Slot "set_iterator" "__next__" "set_iterator.__next__" :=
  .of (owner := "set_iterator") (n := "__next__") (by rw [typeLookup_type, builtinLookup_eq_fast]; kernel_rfl) (by decide +kernel) (by decide +kernel) (by decide +kernel)
    (by first | exact .inl (by decide +kernel) | exact .inr (by decide +kernel)) (by rw [isSubtype_type]; kernel_rfl)
theorem entry_setiter_next : entryFor table "set_iterator.__next__" = some Builtin.«set_iterator.__next__» := entryFor_of_tree (by kernel_rfl)
theorem owner_setiter : Manifest.owners.lookup (String.ofList ['r', 'o', 't', 'a', 'r', 'e', 't', 'i', '_', 't', 'e', 's'].reverse) = some Manifest.sig_set_iterator := by kernel_rfl
theorem args_setiter_next (a : Value) : argsOk "set_iterator.__next__" ⟨[a], []⟩ := by
  unfold argsOk; rw [signature?_of (id := "set_iterator.__next__") (n := ['_', '_', 't', 'x', 'e', 'n', '_', '_']) (o := ['r', 'o', 't', 'a', 'r', 'e', 't', 'i', '_', 't', 'e', 's']) (by kernel_rfl) owner_setiter]; kernel_rfl
theorem slot_setiter_iter : Slot "set_iterator" "__iter__" "set_iterator.__iter__" :=
  .of (owner := "set_iterator") (n := "__iter__") (by rw [typeLookup_type, builtinLookup_eq_fast]; kernel_rfl) (by decide +kernel) (by decide +kernel) (by decide +kernel)
    (by first | exact .inl (by decide +kernel) | exact .inr (by decide +kernel)) (by rw [isSubtype_type]; kernel_rfl)
theorem entry_setiter_iter : entryFor table "set_iterator.__iter__" = some Builtin.«dict_keyiterator.__iter__» := entryFor_alias (id' := "dict_keyiterator.__iter__") (by kernel_rfl) rfl (by decide +kernel) (by kernel_rfl)
theorem args_setiter_iter (a : Value) : argsOk "set_iterator.__iter__" ⟨[a], []⟩ := by
  unfold argsOk; rw [signature?_of (id := "set_iterator.__iter__") (n := ['_', '_', 'r', 'e', 't', 'i', '_', '_']) (o := ['r', 'o', 't', 'a', 'r', 'e', 't', 'i', '_', 't', 'e', 's']) (by kernel_rfl) owner_setiter]; kernel_rfl
theorem entry_set_iter' : entryFor table "set.__iter__" = some Builtin.«frozenset.__iter__» := entryFor_alias (id' := "frozenset.__iter__") (by kernel_rfl) rfl (by decide +kernel) (by kernel_rfl)
/- the walk's order -/
noncomputable def ordOf (W : Wd) (a : Addr) (ep : Nat) (es : Array (Int × Value)) : Array (Int × Value) := if W.w.params.followText "set-order" = true then pickOrder (W.w.params.setOrder a ep) es else es
theorem ord_perm {W : Wd} {a : Addr} {ep : Nat} {es : Array (Int × Value)} : (ordOf W a ep es).toList.Perm es.toList := by
  unfold ordOf; split
  · exact pick_perm _ _
  · exact .refl _
theorem ord_size {W : Wd} {a : Addr} {ep : Nat} {es : Array (Int × Value)} : (ordOf W a ep es).size = es.size := by
  have := (ord_perm (W := W) (a := a) (ep := ep) (es := es)).length_eq
  simpa using this
noncomputable def iterO (slot i : Nat) (a : Addr) (n ep : Nat) : Obj := { cls := .type "set_iterator", data := .fields #[.int slot 0, .int i 0, .ref a, .int n 0, .int ep 0] }
/- where the walk stands -/
noncomputable def SlotAt (W : Wd) (t : SetTable) (i slot : Nat) : Prop := W.w.params.followText "set-order" = false → SetTable.below t.place slot = i
theorem below_zero {xs : Array Nat} (hs : xs.toList.Pairwise (· < ·)) : SetTable.below xs 0 = 0 := by
  obtain ⟨h1, h2, h3⟩ := below_ok (j := 0) hs
  refine Classical.byContradiction fun c => ?_
  have hl : 0 < xs.toList.length := by simp; (first | lia | omega)
  have := h1 0 _ (by (first | lia | omega)) (List.getElem?_eq_getElem hl)
  (first | lia | omega)
theorem below_next {xs : Array Nat} (hs : xs.toList.Pairwise (· < ·)) {i v : Nat} (hv : xs[i]? = some v) : SetTable.below xs (v + 1) = i + 1 := by
  obtain ⟨h1, h2, h3⟩ := below_ok (j := v + 1) hs
  rw [← Array.getElem?_toList] at hv
  have hi : i < xs.toList.length := (List.getElem?_eq_some_iff.mp hv).1
  have hi' : i < xs.size := by simpa using hi
  have hmono : ∀ (a b : Nat) (va vb : Nat), a < b → xs.toList[a]? = some va → xs.toList[b]? = some vb → va < vb := fun a b va vb hab ha hb => by
    obtain ⟨la, ea⟩ := List.getElem?_eq_some_iff.mp ha
    obtain ⟨lb, eb⟩ := List.getElem?_eq_some_iff.mp hb
    have := List.pairwise_iff_getElem.mp hs a b la lb hab
    (first | lia | omega)
  rcases Nat.lt_trichotomy (SetTable.below xs (v + 1)) (i + 1) with c | c | c
  · have := h2 i v (by (first | lia | omega)) hv; (first | lia | omega)
  · exact c
  · have hl : i + 1 < xs.toList.length := by simp; (first | lia | omega)
    have h4 := h1 (i + 1) _ c (List.getElem?_eq_getElem hl)
    have h5 := hmono i (i + 1) v _ (by (first | lia | omega)) hv (List.getElem?_eq_getElem hl)
    (first | lia | omega)
section
variable {W : Wd} {A : Around} {E : Value → Shared → Prop} {s : Shared} {a : Addr} {o : Obj} {es : Array (Int × Value)} {ep : Nat} {t : SetTable}
theorem set_next {i slot : Nat} {Q : Option (Value × Nat) → Shared → Prop} (ho : s.heap.get? a = some o) (G : SG W o es ep t) (hs : SlotAt W t i slot)
    (h : Q (((ordOf W a ep es)[i]?).map fun e => (e.2, if W.w.params.followText "set-order" = true then slot else t.place.getD i 0 + 1)) s) : wpAny W.M A (setNext a slot i ep) Q E s := by
  unfold setNext
  refine wpAny_bind (wpAny_setState_of ho G.data G.ti.fits ?_)
  dsimp only
  unfold setsByText
  refine wpAny_bind (wpAny_bind (wpAny_askSetting (wpAny_pure ?_)))
  cases c : W.w.params.followText "set-order" with
  | true =>
    have c' : W.M.w.params.followText "set-order" = true := c
    simp only [c', if_true]
    rw [if_neg (by simp)]
    refine wpAny_bind ?_
    unfold setWalk
    refine wpAny_bind (wpAny_setState_of ho G.data G.ti.fits ?_)
    dsimp only
    unfold setsByText
    refine wpAny_bind (wpAny_bind (wpAny_askSetting (wpAny_pure ?_)))
    simp only [c', if_true]
    refine wpAny_bind (wpAny_askSetting (wpAny_pure ?_))
    refine wpAny_pure ?_
    simp only [c, ordOf, if_true] at h
    exact h
  | false =>
    have c' : W.M.w.params.followText "set-order" = false := c
    simp only [c', Bool.false_eq_true, if_false]
    refine wpAny_ite_split (fun q => absurd q (by show ¬ ((!t.plain && decide (es.size > 1)) = true); rw [G.ti.plain]; simp)) (fun _ => ?_)
    refine wpAny_bind ?_
    show wpAny _ _ (if (!t.led && !es.isEmpty) = true then _ else _) _ _ s
    rw [if_neg (by rw [G.ti.led]; simp [ledOf, c])]
    refine wpAny_pure ?_
    rw [hs c]
    simp only [c, ordOf, Bool.false_eq_true, if_false] at h
    have hps : t.place.size = es.size := G.ti.size
    by_cases hi : i < es.size
    · have e1 : es[i]? = some es[i] := Array.getElem?_eq_getElem hi
      have e2 : t.place[i]? = some (t.place[i]'(by (first | lia | omega))) := Array.getElem?_eq_getElem (by (first | lia | omega))
      rw [e1] at h ⊢; rw [e2]
      refine wpAny_pure ?_
      simpa [Array.getD, hps, hi] using h
    · have e1 : es[i]? = none := Array.getElem?_eq_none (by (first | lia | omega))
      rw [e1] at h ⊢
      exact wpAny_pure h
end
/- part A30 -/
section
variable {W : Wd} {A : Around} {E : Value → Shared → Prop} {s : Shared} {a : Addr} {o : Obj} {es : Array (Int × Value)} {ep : Nat} {t : SetTable}
theorem set_iter {Q : Value → Shared → Prop} (ho : s.heap.get? a = some o) (G : SG W o es ep t) (h : Q (.ref s.heap.objs.size) { s with heap := s.heap.push (iterO 0 0 a es.size ep) }) : wpAny W.M A (pyIter (.ref a)) Q E s := by
  have hT : s.TypeIs (.ref a) "set" := ⟨o, ho, G.ex.1⟩
  refine wpAny_pyIter_slot hT PySem.F.slot_set_iter (wpAny_call_entry PySem.F.slot_set_iter hT entry_set_iter' ?_ (PySem.F.args_set_iter_1 _))
  unfold Builtin.«frozenset.__iter__» Builtin.Frozenset.slot0 slotArgs Builtin.Frozenset.addrOf Builtin.Frozenset.sizeOf
  simp only [List.isEmpty_nil, Bool.not_true, Bool.false_eq_true, ↓reduceIte, bind_assoc, List.length_nil, bne_self_eq_false]
  refine wpAny_bind (wpAny_pure ?_)
  dsimp only
  refine wpAny_bind (wpAny_pure ?_)
  refine wpAny_bind (wpAny_setEntries_of ho G.data G.ti.fits ?_)
  refine wpAny_bind (wpAny_pure ?_)
  refine wpAny_bind ?_
  unfold setDrawn
  refine wpAny_bind (wpAny_setState_of ho G.data G.ti.fits ?_)
  dsimp only
  unfold setsByText
  refine wpAny_bind (wpAny_bind (wpAny_askSetting (wpAny_pure ?_)))
  refine wpAny_pure ?_
  refine wpAny_ite_split (fun q => absurd q (by
    show ¬ ((!(W.M.w.params.followText "set-order") && (!t.plain && decide (es.size > 1))) = true)
    rw [G.ti.plain]; simp)) (fun _ => ?_)
  refine wpAny_bind (wpAny_pure ?_)
  refine wpAny_bind (wpAny_setEpoch_of ho G.data G.ti.fits ?_)
  refine wpAny_bind ?_
  refine wpAny_newObj_type (wpAny_pure ⟨_, rfl, "set_iterator", _, ⟨_, Heap.get?_push_size _ rfl, rfl⟩, slot_setiter_next.lookup, ?_⟩)
  exact h
theorem set_next_item {I : Addr} {i slot : Nat} {Q : Option Value → Shared → Prop} (hI : s.heap.get? I = some (iterO slot i a es.size ep)) (ho : s.heap.get? a = some o) (G : SG W o es ep t) (hs : SlotAt W t i slot) {e : Int × Value} (he : (ordOf W a ep es)[i]? = some e)
    (h : ∀ h' slot', SlotAt W t (i + 1) slot' → h'.get? I = some (iterO slot' (i + 1) a es.size ep) → Heap.SameBut I s.heap h' → Q (some e.2) { s with heap := h' }) : wpAny W.M A (pyNext (.ref I)) Q E s := by
  have hT : s.TypeIs (.ref I) "set_iterator" := ⟨_, hI, rfl⟩
  unfold pyNext
  refine wpAny_bind (wpAny_attempt (wpAny_callSpecial?_slot (name := Str.ofString "__next__") hT slot_setiter_next (wpAny_call_entry slot_setiter_next hT entry_setiter_next ?_ (args_setiter_next _))))
  unfold Builtin.«set_iterator.__next__» slotArgs
  refine wpAny_bind (show wpAny _ _ (pure (_, ([] : List Value))) _ _ _ from wpAny_pure ?_)
  dsimp only
  refine wpAny_bind (wpAny_fieldsOf hI rfl ?_)
  dsimp only
  refine wpAny_bind (wpAny_setEntries_of ho G.data G.ti.fits ?_)
  rw [if_neg (by simp)]
  refine wpAny_bind ?_
  rw [Int.toNat_natCast, Int.toNat_natCast, Int.toNat_natCast]
  refine set_next ho G hs ?_
  rw [he]
  dsimp only [Option.map]
  generalize hsl : (if W.w.params.followText "set-order" = true then slot else t.place.getD i 0 + 1) = slot'
  have hs' : SlotAt W t (i + 1) slot' := fun c => by
    rw [← hsl, if_neg (by rw [c]; simp)]
    have hi : i < (ordOf W a ep es).size := (Array.getElem?_eq_some_iff.mp he).1
    rw [ord_size, ← G.ti.size] at hi
    refine below_next G.ti.rise (i := i) ?_
    simp [Array.getD, hi]
  have hI1 : (s.heap.update I (Obj.mapFields (·.setIfInBounds 0 (rawInt slot')))).get? I = some (iterO slot' i a es.size ep) := by
    have := Heap.get?_update_self (Obj.mapFields (·.setIfInBounds 0 (rawInt slot'))) hI rfl
    rw [this]; rfl
  refine wpAny_bind (wpAny_setField hI rfl (by simp) ?_)
  refine wpAny_bind (wpAny_setField (s := { s with heap := s.heap.update I (Obj.mapFields (·.setIfInBounds 0 (rawInt slot'))) }) hI1 rfl (by simp) ?_)
  refine wpAny_pure ⟨e.2, rfl, wpAny_pure (h _ slot' hs' ?_ ((Heap.SameBut.update ..).trans (Heap.SameBut.update ..)))⟩
  have := Heap.get?_update_self (Obj.mapFields (·.setIfInBounds 1 (rawInt ((i : Int) + 1)))) hI1 rfl
  rw [this]; rfl
theorem set_next_end {I : Addr} {i slot : Nat} {Q : Option Value → Shared → Prop} (hh : A.handled = none) (hI : s.heap.get? I = some (iterO slot i a es.size ep)) (ho : s.heap.get? a = some o) (G : SG W o es ep t) (hs : SlotAt W t i slot) (he : (ordOf W a ep es)[i]? = none)
    (h : ∀ h', Heap.ExtBut I s.heap h' → Q none { s with heap := h' }) : wpAny W.M A (pyNext (.ref I)) Q E s := by
  have hT : s.TypeIs (.ref I) "set_iterator" := ⟨_, hI, rfl⟩
  unfold pyNext
  refine wpAny_bind (wpAny_attempt (wpAny_callSpecial?_slot (name := Str.ofString "__next__") hT slot_setiter_next (wpAny_call_entry slot_setiter_next hT entry_setiter_next ?_ (args_setiter_next _))))
  unfold Builtin.«set_iterator.__next__» slotArgs
  refine wpAny_bind (show wpAny _ _ (pure (_, ([] : List Value))) _ _ _ from wpAny_pure ?_)
  dsimp only
  refine wpAny_bind (wpAny_fieldsOf hI rfl ?_)
  dsimp only
  refine wpAny_bind (wpAny_setEntries_of ho G.data G.ti.fits ?_)
  rw [if_neg (by simp)]
  refine wpAny_bind ?_
  rw [Int.toNat_natCast, Int.toNat_natCast, Int.toNat_natCast]
  refine set_next ho G hs ?_
  rw [he]
  dsimp only [Option.map]
  refine wpAny_bind (wpAny_setField hI rfl (by simp) ?_)
  show wpAny _ _ (newExc (.type "StopIteration") [] >>= _) _ _ _
  refine wpAny_bind ?_
  simp only [newExc, newTuple]
  refine wpAny_bind (wpAny_newObj_type ?_ (by size_fits))
  refine wpAny_bind (m := firstArgMember _ _) (wpAny_of_eq (a := Value.none) (by first | rfl | (simp only [firstArgMember]; rfl)) ?_)
  refine wpAny_newObj_type ?_ (by size_fits)
  simp only [raiseNew]
  refine wpAny_bind (wpAny_handled ?_)
  rw [show A.in1.handled = none from hh]
  refine wpAny_bind (wpAny_pure (wpAny_throw ?_))
  refine wpAny_bind (wpAny_isInstance (T := "StopIteration") (b := true) ⟨_, Heap.get?_push_size _ rfl, rfl⟩ isSubtype_stop ?_)
  exact wpAny_pure (h _ (((Heap.SameBut.update ..).extBut.push _).push _))
theorem set_walks (hh : A.handled = none) (I : Addr) (hne : a ≠ I) (G : SG W o es ep t) :
    Walks W.prog W.w A I [I, a] [I] es.size (fun i v => ∃ e, (ordOf W a ep es)[i]? = some e ∧ v = e.2) (fun i h => ∃ slot, SlotAt W t i slot ∧ h.get? I = some (iterO slot i a es.size ep) ∧ h.get? a = some o) where
  sub := fun b hb => by simp at hb; simp [hb]
  frame := fun _ _ _ ⟨slot, s1, s2, s3⟩ hk => ⟨slot, s1, hk I (by simp) _ s2, hk a (by simp) _ s3⟩
  item := fun i s Q E hi ⟨slot, s1, s2, s3⟩ hQ => by
    have he : (ordOf W a ep es)[i]? = some ((ordOf W a ep es)[i]'(by rw [ord_size]; exact hi)) := Array.getElem?_eq_getElem _
    exact set_next_item s2 s3 G s1 he fun h' slot' s1' s2' hsb => hQ _ h' s.toks ⟨_, he, rfl⟩ ⟨slot', s1', s2', (hsb.2 a hne).trans s3⟩ fun b o hb e => (hsb.2 b (fun q => hb (by simp [q]))).trans e
  done := fun s Q E ⟨slot, s1, s2, s3⟩ hQ => set_next_end hh s2 s3 G s1 (Array.getElem?_eq_none (by rw [ord_size]; exact Nat.le_refl _)) fun h' he => hQ h' s.toks fun b o hb e => he b o (fun q => hb (by simp [q])) e
  self := fun i s Q E ⟨slot, s1, s2, s3⟩ hQ => by
    have hT : s.TypeIs (.ref I) "set_iterator" := ⟨_, s2, rfl⟩
    refine wpAny_pyIter_slot hT slot_setiter_iter (wpAny_call_entry slot_setiter_iter hT entry_setiter_iter ?_ (args_setiter_iter _))
    show wpAny _ _ (ret (.ref I)) _ _ s
    exact wpAny_pure ⟨_, rfl, "set_iterator", _, hT, slot_setiter_next.lookup, hQ⟩
theorem set_hint {Q : Bool → Shared → Prop} (hT : s.TypeIs (.ref a) "set") (h : Q false s) : wpAny W.M A (Builtin.List.listLengthHint (.ref a)) Q E s := by
  unfold Builtin.List.listLengthHint
  refine wpAny_bind (wpAny_specialOf hT PySem.F.slot_set_len.lookup ?_)
  generalize hid : ("set.__len__" : String) = id0
  wp_delta
  rw [show splitId id0 = some ("set", "__len__") from by subst hid; decide +kernel]
  subst hid
  refine wpAny_bind (wpAny_isInstance (T := "set") (b := true) hT (by rw [isSubtype_type]; kernel_rfl) ?_)
  refine wpAny_ite_split (fun hab => absurd hab (by decide)) (fun _ => ?_)
  refine wpAny_ite_split (fun _ => ?_) (fun hab => absurd (by decide +kernel) hab)
  refine wpAny_bind (wpAny_typeOf hT ?_)
  exact wpAny_pure h
theorem set_src (G : SG W o es ep t) : KdlSrc W.prog W.w "set" a a es.size (fun i v => ∃ e, (ordOf W a ep es)[i]? = some e ∧ v = e.2) (fun h => h.get? a = some o) where
  type := fun s hm => ⟨o, hm, G.ex.1⟩
  there := fun h hm => ⟨Heap.lt_size hm, Heap.lt_size hm⟩
  keep := fun h h' hm hk => hk a (.inl rfl) o hm
  notList := by decide
  notTuple := by decide
  hint := fun A E s Q hm hq => set_hint ⟨o, hm, G.ex.1⟩ hq
  iter := fun A s hh hm => ⟨_, _, (fun E Q hq => set_iter hm G hq), set_walks hh _ (Nat.ne_of_lt (Heap.lt_size hm)) G, ⟨0, fun _ => below_zero G.ti.rise, Heap.get?_push_size _ rfl, Heap.get?_push_of_some _ hm⟩⟩
end
section
variable {W : Wd} {n : Nat} {σ : St}
theorem new_raw {X : Addr → Prop} {s : Shared} {h' : Heap} {tk : Nat} {D : Addr} {R : Obj → Prop} {o : Obj} (B : Bears W X σ s.heap) (hk : ∀ b o, s.heap.get? b = some o → h'.get? b = some o) (hD : s.heap.get? D = none) (ho : h'.get? D = some o) (hr : R o) :
    Nx W X noF σ s ((D, .raw R) :: σ) { s with heap := h', toks := tk } := by
  obtain ⟨he, hb⟩ := Bears.step (h' := h') (old := []) (new := [(D, .raw R)]) (τ := σ) B (List.Perm.refl _) (fun b o' x _ => hk b o' x) (by intro a ha; simp [fp] at ha; subst ha; exact .inr hD) (by simp [fp])
  exact Nx.mk' (hb fun p hp => by
    simp only [List.mem_singleton] at hp; subst hp
    exact ⟨o, ho, hr⟩) he
theorem o_set_flist {ns : List Int} {Q : V → St → Prop} (hl : ns.length ≤ 17) (h : ∀ D ms, DK ns ms → Q (.ref D) ((D, .raw (SetIs W ms)) :: σ)) : acall W n (.type "set") [.flist (ns.map .int)] σ Q := fun X A s xs rm B rv E K kk => by
  obtain ⟨x, rfl, hx⟩ := vrels1 rv
  obtain ⟨a, ys, k, rfl, hz, hr⟩ := hx
  refine set_call (ns := ns) rm.1 (isList_of hz.1) (by simpa using vrels_ints hr) (by have := hr.length; simp at this ⊢; (first | lia | omega)) fun h' tk o ms ho hs hd hk => ?_
  exact kk (.ref s.heap.objs.size) _ _ _ (new_raw (tk := tk) B hk (size_none _) ho hs) (by simp only [VRel]) (h _ ms hd)
theorem o_sorted_set {a : Addr} {ms : List Int} {Q : V → St → Prop} (hm : (a, .raw (SetIs W ms)) ∈ σ) (hl : ms.length < 64) (h : ∀ (D : Addr) (ns : List Int), ns.Perm ms → ns.Pairwise (· ≤ ·) → Q (.ref D) ((D, .list (ns.map V.int)) :: σ)) : acall W n (.builtin "sorted") [.ref a] σ Q := fun X A s xs rm B rv E K kk => by
  obtain ⟨x, rfl, hx⟩ := vrels1 rv
  obtain rfl := hx
  obtain ⟨o, ho, es, ep, t, G, hp⟩ := B.rel hm
  have hsz : es.size = ms.length := by rw [← hp.length_eq, List.length_map, Array.length_toList]
  refine sorted_src (set_src G) rm.1 ho (ns := (ordOf W a ep es).toList.map fun e => intv e.2) (fun acc h1 h2 => ?_) (by (first | lia | omega))
    fun D h' tk out k ns' hk hD ho hI hpm hs => kk (.ref D) _ _ _ (new_list B hk hD ho (ints_vrels hI)) (by simp only [VRel]) (h D ns' (hpm.trans ((ord_perm.map _).trans hp)) hs)
  have hl1 : acc.length = (ordOf W a ep es).size := by rw [ord_size]; exact h1
  have hacc : acc = (ordOf W a ep es).toList.map (·.2) := by
    refine List.ext_getElem? fun i => ?_
    rw [List.getElem?_map]
    cases q : acc[i]? with
    | none =>
      rw [Array.getElem?_toList, Array.getElem?_eq_none (by have := List.getElem?_eq_none_iff.mp q; (first | lia | omega))]; rfl
    | some v =>
      obtain ⟨e, he, rfl⟩ := h2 i v q
      rw [Array.getElem?_toList, he]; rfl
  rw [hacc]
  have hall : ∀ e ∈ (ordOf W a ep es).toList, ∃ tk, e.2 = .int (intv e.2) tk := fun e he => G.int e (ord_perm.mem_iff.mp he)
  generalize (ordOf W a ep es).toList = l at hall
  clear hacc hl1 h2 h1
  induction l with
  | nil => exact .nil
  | cons e l ih =>
    obtain ⟨tk, he⟩ := hall e (.head _)
    have := IntsAre.cons (intv e.2) tk (ih fun x hx => hall x (.tail _ hx))
    rw [List.map_cons, List.map_cons]
    rw [← he] at this
    exact this
theorem of_sorted_set {a : Addr} {ms : List Int} {τ : St} {Q : V → St → Prop} (hp : Pull (a, .raw (SetIs W ms)) σ τ) (hl : ms.length < 64) (h : ∀ (ns : List Int), ns.Perm ms → ns.Pairwise (· ≤ ·) → Q (.flist (ns.map V.int)) τ) : acall W n (.builtin "sorted") [.ref a] σ Q :=
  acall_re (o_sorted_set hp.mem hl fun D ns h1 h2 => ⟨_, _, (Re.list .head).trans (Re.drop hp), h ns h1 h2⟩)
end
/- part A31 -/
section
variable {W : Wd} {n : Nat} {sc : Scope} {ρ : Ro} {σ : St}
theorem aO_re {vs : List V} {t : List Value → Sem Value} {Q : V → St → Prop} (h : aO W n σ vs t (VRel W) (ReX W Q)) : aO W n σ vs t (VRel W) Q := fun X A s xs rm B rv => (h X A s xs rm B rv).re
theorem of_cat {vs us : List V} {Q : V → St → Prop} (hl : vs.length + us.length ≤ 100000) (h : Q (.flist (vs ++ us)) σ) : aO W n σ [.flist vs, .flist us] (op2 (binaryOp .Add)) (VRel W) Q :=
  aO_re (o_cat hl fun D => ⟨_, _, Re.list .head, h⟩)
theorem of_list_fdict {kvs : List (Int × V)} {Q : V → St → Prop} (hl : kvs.length ≤ 100000) (h : Q (.flist (kvs.map fun kv => .int kv.1)) σ) : acall W n (.type "list") [fd kvs] σ Q :=
  acall_re (o_list_fdict hl fun D => ⟨_, _, Re.list .head, h⟩)
theorem of_list_tup {vs : List V} {Q : V → St → Prop} (hl : vs.length ≤ 100000) (h : Q (.flist vs) σ) : acall W n (.type "list") [.tup vs] σ Q :=
  acall_re (o_list_tup hl fun D => ⟨_, _, Re.list .head, h⟩)
end
/- part A32 -/
/- ## zip of two tuples -/
section
variable {prog : Program} {w : World} {A : Around} {E : Value → Shared → Prop} {s : Shared}
theorem tupNext {it l : Addr} {i : Nat} {items : Array Value} {x : Value} {Q : Value → Shared → Prop} (hit : s.heap.IsTupleIter it l i) (hl : s.heap.IsTuple l items) (hx : items[i]? = some x)
    (hQ : ∀ h', h'.IsTupleIter it l (i + 1) → Heap.SameBut it s.heap h' → Q x { s with heap := h' }) : wpAny (model prog w) A (Builtin.SmallTypes.nextOf (.ref it)) Q E s := by
  have hT := hit.typeIs
  obtain ⟨o, ho, hc, hd⟩ := hit
  obtain ⟨ol, hol, _, k, hdl⟩ := hl
  unfold Builtin.SmallTypes.nextOf
  refine wpAny_bind (wpAny_callSpecial?_slot (name := Str.ofString "__next__") hT F.slot_tuple_iterator_next (wpAny_call_entry F.slot_tuple_iterator_next hT F.entry_tuple_iterator_next ?_ (F.args_tuple_iterator_next_1 _)))
  show wpAny _ _ (field (.ref it) 0 >>= _) _ _ s
  refine wpAny_bind (wpAny_field ho hd (x := .ref l) rfl ?_)
  show wpAny _ _ (if (Value.ref l == Value.none) = true then _ else _) _ _ s
  rw [if_neg (show ¬ ((Value.ref l == Value.none) = true) from Bool.false_ne_true)]
  show wpAny _ _ (field (.ref it) 1 >>= _) _ _ s
  refine wpAny_bind (wpAny_field ho hd (x := .int i 0) rfl ?_)
  show wpAny _ _ (seqItems? (.ref l) >>= _) _ _ s
  refine wpAny_bind (wpAny_seqItems hol hdl ?_)
  simp only [Int.toNat_natCast, hx]
  refine wpAny_bind (wpAny_setField ho hd (by simp) (wpAny_pure ⟨x, rfl, wpAny_pure (hQ _ ⟨_, Heap.get?_update_self _ ho (Obj.isFreed_of_fields (Obj.data_mapFields hd _)), (Obj.cls_mapFields ..).trans hc, ?_⟩ (Heap.SameBut.update ..))⟩))
  rw [Obj.data_mapFields hd]; simp [rawInt]
theorem tupEnd {it l : Addr} {i : Nat} {items : Array Value} {Q : Value → Shared → Prop} (hh : A.handled = none) (hit : s.heap.IsTupleIter it l i) (hl : s.heap.IsTuple l items) (hx : items[i]? = none)
    (hE : ∀ h' e, Heap.ExtBut it s.heap h' → (∃ o, h'.get? e = some o ∧ o.cls = .type "StopIteration") → E (.ref e) { s with heap := h' }) : wpAny (model prog w) A (Builtin.SmallTypes.nextOf (.ref it)) Q E s := by
  have hT := hit.typeIs
  obtain ⟨o, ho, hc, hd⟩ := hit
  obtain ⟨ol, hol, _, k, hdl⟩ := hl
  unfold Builtin.SmallTypes.nextOf
  refine wpAny_bind (wpAny_callSpecial?_slot (name := Str.ofString "__next__") hT F.slot_tuple_iterator_next (wpAny_call_entry F.slot_tuple_iterator_next hT F.entry_tuple_iterator_next ?_ (F.args_tuple_iterator_next_1 _)))
  show wpAny _ _ (field (.ref it) 0 >>= _) _ _ s
  refine wpAny_bind (wpAny_field ho hd (x := .ref l) rfl ?_)
  show wpAny _ _ (if (Value.ref l == Value.none) = true then _ else _) _ _ s
  rw [if_neg (show ¬ ((Value.ref l == Value.none) = true) from Bool.false_ne_true)]
  show wpAny _ _ (field (.ref it) 1 >>= _) _ _ s
  refine wpAny_bind (wpAny_field ho hd (x := .int i 0) rfl ?_)
  show wpAny _ _ (seqItems? (.ref l) >>= _) _ _ s
  refine wpAny_bind (wpAny_seqItems hol hdl ?_)
  simp only [Int.toNat_natCast, hx]
  refine wpAny_bind (wpAny_rule (wpAny_bind (wpAny_setField ho hd (by simp) ?_)))
  show wpAny _ _ (newExc (.type "StopIteration") [] >>= _) _ _ _
  refine wpAny_bind ?_
  simp only [newExc, newTuple]
  refine wpAny_bind (wpAny_newObj_type ?_ (by size_fits))
  refine wpAny_bind (m := firstArgMember _ _) (wpAny_of_eq (a := Value.none) (by first | rfl | (simp only [firstArgMember]; rfl)) ?_)
  refine wpAny_newObj_type ?_ (by size_fits)
  simp only [raiseNew]
  refine wpAny_bind (wpAny_handled ?_)
  first | rw [show A.in1.handled = none from hh] | rw [hh]
  refine wpAny_bind (wpAny_pure (wpAny_throw ?_))
  exact hE _ _ (((Heap.SameBut.update ..).extBut.push _).push _) ⟨_, Heap.get?_push_size _ rfl, rfl⟩
theorem tupDraws (hh : A.handled = none) (it l : Addr) (hne : l ≠ it) (items : Array Value) : Draws prog w A it [it, l] items.size (fun i v => items[i]? = some v) (fun i h => h.IsTupleIter it l i ∧ h.IsTuple l items) where
  live := fun _ _ st => let ⟨o, ho, _⟩ := st.1; ⟨o, ho⟩
  frame := fun _ _ _ st hk => ⟨let ⟨o, ho, r⟩ := st.1; ⟨o, hk it (by simp) o ho, r⟩, let ⟨o, ho, r⟩ := st.2; ⟨o, hk l (by simp) o ho, r⟩⟩
  item := fun i s Q E hi st hQ => tupNext st.1 st.2 (x := items[i]) (by simp [hi]) fun h' h1 h2 => hQ _ h' s.toks (by simp [hi]) ⟨h1, st.2.extBut h2.extBut hne⟩ h2
  done := fun s Q E st hE => tupEnd hh st.1 st.2 (by simp) hE
/- where the parts of a zip lie -/
structure ZipAt (z TI TO i1 i2 : Addr) (fp1 fp2 : List Addr) : Prop where
  zT : TI ≠ z ∧ TO ≠ z ∧ i1 ≠ z ∧ i2 ≠ z ∧ TI ≠ TO ∧ TI ≠ i1 ∧ TI ≠ i2 ∧ TO ≠ i1 ∧ TO ≠ i2 ∧ i1 ≠ i2
  f1 : z ∉ fp1 ∧ TO ∉ fp1 ∧ i2 ∉ fp1
  f2 : z ∉ fp2 ∧ TO ∉ fp2 ∧ i1 ∉ fp2
noncomputable def ZipSt (z TI TO i1 i2 : Addr) (S1 S2 : Nat → Heap → Prop) (f0 : Value) (i : Nat) (h : Heap) : Prop := IsZip h z TI TO f0 ∧ IsPair h TI (.ref i1) (.ref i2) ∧ (∃ a b, IsPair h TO a b) ∧ S1 i h ∧ S2 i h
theorem Draws.same {it : Addr} {fp : List Addr} {n i : Nat} {P : Nat → Value → Prop} {S : Nat → Heap → Prop} {h h' : Heap} {c : Addr} (D : Draws prog w A it fp n P S) (st : S i h) (hs : Heap.SameBut c h h') (hc : c ∉ fp) : S i h' :=
  D.frame i h h' st fun b hb o e => hs.extBut b o (fun q => hc (q ▸ hb)) e
variable {z TI TO i1 i2 : Addr} {fp1 fp2 : List Addr} {n : Nat} {P1 P2 : Nat → Value → Prop} {S1 S2 : Nat → Heap → Prop}
theorem zip_item {i : Nat} {Q : Option Value → Shared → Prop} (D : ZipAt z TI TO i1 i2 fp1 fp2) (D1 : Draws prog w A.in1 i1 fp1 n P1 S1) (D2 : Draws prog w A.in1 i2 fp2 n P2 S2) (hi : i < n) (st : ZipSt z TI TO i1 i2 S1 S2 .none i s.heap)
    (hQ : ∀ x y h' tk, P1 i x → P2 i y → ZipSt z TI TO i1 i2 S1 S2 (rawInt s.heap.objs.size) (i + 1) h' → IsPair h' s.heap.objs.size x y →
      (∀ c o, c ≠ z → c ≠ TO → c ≠ i1 → c ≠ i2 → s.heap.get? c = some o → h'.get? c = some o) → Q (some (.ref s.heap.objs.size)) { s with heap := h', toks := tk }) : wpAny (model prog w) A (pyNext (.ref z)) Q E s := by
  obtain ⟨⟨d1, d2, d3, d4, d5, d6, d7, d8, d9, d10⟩, ⟨u1, u2, u3⟩, ⟨v1, v2, v3⟩⟩ := D
  obtain ⟨hz, hTI, ⟨a, b, hTO⟩, st1, st2⟩ := st
  have hT : s.TypeIs (.ref z) "zip" := ⟨_, hz, rfl⟩
  unfold pyNext
  refine wpAny_bind (wpAny_attempt (wpAny_callSpecial?_slot (name := Str.ofString "__next__") hT F.slot_zip_next (wpAny_call_entry F.slot_zip_next hT F.entry_zip_next ?_ (F.args_zip_next_1 _))))
  show wpAny _ _ (field (.ref z) 2 >>= _) _ _ _
  refine wpAny_bind (wpAny_field hz rfl (x := .bool false) rfl ?_)
  show wpAny _ _ (field (.ref z) 3 >>= _) _ _ _
  refine wpAny_bind (wpAny_field hz rfl (x := .ref TI) rfl (wpAny_bind (wpAny_seqItems hTI rfl ?_)))
  show wpAny _ _ (Builtin.SmallTypes.ownedTupleIsFree (.ref z) >>= _) _ _ _
  refine wpAny_bind ?_
  unfold Builtin.SmallTypes.ownedTupleIsFree
  refine wpAny_bind (wpAny_field hz rfl (x := .none) rfl (wpAny_pure ?_))
  simp only [if_true]
  refine wpAny_bind (wpAny_rule (wpAny_bind (wpAny_field hz rfl (x := .ref TO) rfl (wpAny_bind (wpAny_setField_rec hz (by simp) fun h1 hz1 hs1 => ?_)))))
  replace hz1 : IsZip h1 z TI TO .ellipsis := hz1
  refine wpAny_bind ?_
  simp only [List.zipIdx_cons, List.zipIdx_nil, List.forIn_cons, List.forIn_nil]
  refine wpAny_bind (wpAny_bind (wpAny_onRaise ?_))
  show wpAny _ _ (Builtin.SmallTypes.nextOf (.ref i1) >>= _) _ _ _
  refine wpAny_bind (D1.item i _ _ _ hi (Draws.same D1 st1 hs1 u1) fun x h2 tk2 px st1' hs2 => wpAny_pure ?_)
  have e2 : IsPair h2 TO a b := hs2.extBut _ _ d8 (hs1.extBut _ _ d2 hTO)
  refine wpAny_bind (wpAny_seqItems e2 rfl (wpAny_bind (wpAny_updateSeq_pair e2 fun h3 e3 hs3 => wpAny_bind (wpAny_letGo (wpAny_pure ?_)))))
  replace e3 : IsPair h3 TO x b := e3
  refine wpAny_bind (wpAny_bind (wpAny_onRaise ?_))
  show wpAny _ _ (Builtin.SmallTypes.nextOf (.ref i2) >>= _) _ _ _
  refine wpAny_bind (D2.item i _ _ _ hi (Draws.same D2 (Draws.same D2 (Draws.same D2 st2 hs1 v1) hs2 v3) hs3 v2) fun y h4 tk4 py st2' hs4 => wpAny_pure ?_)
  have e4 : IsPair h4 TO x b := hs4.extBut _ _ d9 e3
  refine wpAny_bind (wpAny_seqItems e4 rfl (wpAny_bind (wpAny_updateSeq_pair e4 fun h5 e5 hs5 => wpAny_bind (wpAny_letGo (wpAny_pure (wpAny_pure ?_))))))
  replace e5 : IsPair h5 TO x y := e5
  refine wpAny_bind (wpAny_seqItems e5 rfl (wpAny_bind (wpAny_newTuple ?_)))
  have hsz : h5.objs.size = s.heap.objs.size := by rw [hs5.1, hs4.1, hs3.1, hs2.1, hs1.1]
  have hz5 : IsZip h5 z TI TO .ellipsis := hs5.extBut _ _ d2.symm (hs4.extBut _ _ d4.symm (hs3.extBut _ _ d2.symm (hs2.extBut _ _ d3.symm hz1)))
  have up5 : ∀ c o, c ≠ z → c ≠ TO → c ≠ i1 → c ≠ i2 → s.heap.get? c = some o → h5.get? c = some o := fun c o c1 c2 c3 c4 e => hs5.extBut _ _ c2 (hs4.extBut _ _ c4 (hs3.extBut _ _ c2 (hs2.extBut _ _ c3 (hs1.extBut _ _ c1 e))))
  have hzs : z < h5.objs.size := Heap.lt_size hz5
  show wpAny _ _ (Builtin.SmallTypes.ownedTupleHandOut (.ref z) (.ref h5.objs.size) >>= _) _ _ _
  refine wpAny_bind ?_
  unfold Builtin.SmallTypes.ownedTupleHandOut
  have hz6 : IsZip (h5.push { cls := .type "tuple", data := .seq #[x, y] }) z TI TO .ellipsis := Heap.get?_push_of_some _ hz5
  refine wpAny_bind (wpAny_setField_rec hz6 (by simp) fun h7 hz7 hs7 => ?_)
  replace hz7 : IsZip h7 z TI TO (rawInt h5.objs.size) := hz7
  refine wpAny_setField_rec hz7 (by simp) fun h8 hz8 hs8 => wpAny_pure ⟨_, rfl, wpAny_pure ?_⟩
  replace hz8 : IsZip h8 z TI TO (rawInt h5.objs.size) := hz8
  have up : ∀ c o, c ≠ z → h5.get? c = some o → h8.get? c = some o := fun c o c1 e => hs8.extBut _ _ c1 (hs7.extBut _ _ c1 (Heap.get?_push_of_some _ e))
  have hpair : IsPair h8 h5.objs.size x y := hs8.extBut _ _ (Nat.ne_of_gt hzs) (hs7.extBut _ _ (Nat.ne_of_gt hzs) (Heap.get?_push_size _ rfl))
  rw [hsz] at hz8 hpair
  show Q (some (.ref h5.objs.size)) _
  rw [hsz]
  have f1 : S1 (i + 1) h5 := Draws.same D1 (Draws.same D1 (Draws.same D1 st1' hs3 u2) hs4 u3) hs5 u2
  have f2 : S2 (i + 1) h5 := Draws.same D2 st2' hs5 v2
  exact hQ x y h8 tk4 px py ⟨hz8, up _ _ d1 (up5 _ _ d1 d5 d6 d7 hTI), ⟨x, y, up _ _ d2 e5⟩, D1.frame _ _ _ f1 fun b hb o e => up b o (fun q => u1 (q ▸ hb)) e, D2.frame _ _ _ f2 fun b hb o e => up b o (fun q => v1 (q ▸ hb)) e⟩ hpair
    fun c o c1 c2 c3 c4 e => up c o c1 (up5 c o c1 c2 c3 c4 e)
theorem zip_end {Q : Option Value → Shared → Prop} (D : ZipAt z TI TO i1 i2 fp1 fp2) (D1 : Draws prog w A.in1 i1 fp1 n P1 S1) (st : ZipSt z TI TO i1 i2 S1 S2 .none n s.heap)
    (hQ : ∀ h', (∀ c o, c ≠ z → c ≠ TO → c ≠ i1 → c ≠ i2 → s.heap.get? c = some o → h'.get? c = some o) → Q none { s with heap := h' }) : wpAny (model prog w) A (pyNext (.ref z)) Q E s := by
  obtain ⟨⟨d1, d2, d3, d4, d5, d6, d7, d8, d9, d10⟩, ⟨u1, u2, u3⟩, ⟨v1, v2, v3⟩⟩ := D
  obtain ⟨hz, hTI, ⟨a, b, hTO⟩, st1, st2⟩ := st
  have hT : s.TypeIs (.ref z) "zip" := ⟨_, hz, rfl⟩
  unfold pyNext
  refine wpAny_bind (wpAny_attempt (wpAny_callSpecial?_slot (name := Str.ofString "__next__") hT F.slot_zip_next (wpAny_call_entry F.slot_zip_next hT F.entry_zip_next ?_ (F.args_zip_next_1 _))))
  show wpAny _ _ (field (.ref z) 2 >>= _) _ _ _
  refine wpAny_bind (wpAny_field hz rfl (x := .bool false) rfl ?_)
  show wpAny _ _ (field (.ref z) 3 >>= _) _ _ _
  refine wpAny_bind (wpAny_field hz rfl (x := .ref TI) rfl (wpAny_bind (wpAny_seqItems hTI rfl ?_)))
  show wpAny _ _ (Builtin.SmallTypes.ownedTupleIsFree (.ref z) >>= _) _ _ _
  refine wpAny_bind ?_
  unfold Builtin.SmallTypes.ownedTupleIsFree
  refine wpAny_bind (wpAny_field hz rfl (x := .none) rfl (wpAny_pure ?_))
  simp only [if_true]
  refine wpAny_bind (wpAny_rule (wpAny_bind (wpAny_field hz rfl (x := .ref TO) rfl (wpAny_bind (wpAny_setField_rec hz (by simp) fun h1 hz1 hs1 => ?_)))))
  replace hz1 : IsZip h1 z TI TO .ellipsis := hz1
  refine wpAny_bind ?_
  simp only [List.zipIdx_cons, List.zipIdx_nil, List.forIn_cons, List.forIn_nil]
  refine wpAny_bind (wpAny_bind (wpAny_onRaise ?_))
  show wpAny _ _ (Builtin.SmallTypes.nextOf (.ref i1) >>= _) _ _ _
  refine wpAny_bind (D1.done _ _ _ (Draws.same D1 st1 hs1 u1) fun h2 e hs2 he => ?_)
  obtain ⟨oe, hoe, hce⟩ := he
  have hz2 : IsZip h2 z TI TO .ellipsis := hs2 _ _ d3.symm hz1
  have hez : e ≠ z := fun q => by subst q; rw [hz2] at hoe; cases hoe; simp at hce
  refine wpAny_setField_rec hz2 (by simp) fun h3 _ hs3 => ?_
  refine wpAny_bind (wpAny_isInstance (T := "StopIteration") (b := true) ⟨oe, hs3.extBut _ _ hez hoe, hce⟩ isSubtype_stop ?_)
  exact wpAny_pure (hQ _ fun c o c1 _ c3 _ x => hs3.extBut _ _ c1 (hs2 _ _ c3 (hs1.extBut _ _ c1 x)))
theorem zip_walks (D : ZipAt z TI TO i1 i2 fp1 fp2) (D1 : Draws prog w A.in1 i1 fp1 n P1 S1) (D2 : Draws prog w A.in1 i2 fp2 n P2 S2) :
    WalksT prog w A z (z :: TI :: TO :: i1 :: i2 :: (fp1 ++ fp2)) [z, TO, i1, i2] n (fun i vals => ∃ x y, P1 i x ∧ P2 i y ∧ vals = #[x, y]) (fun i h => ZipSt z TI TO i1 i2 S1 S2 .none i h)
      (fun i T h => ZipSt z TI TO i1 i2 S1 S2 (rawInt T) (i + 1) h ∧ T ∉ [z, TO, i1, i2] ∧ ∃ o, h.get? T = some o ∧ o.dict = none) where
  sub := fa4 (.head _) (.tail _ (.tail _ (.head _))) (.tail _ (.tail _ (.tail _ (.head _)))) (.tail _ (.tail _ (.tail _ (.tail _ (.head _)))))
  frame := fun i h h' st hk => by
    obtain ⟨hz, hTI, ⟨a, b, hTO⟩, s1, s2⟩ := st
    have m5 : ∀ b ∈ fp1 ++ fp2, ∀ o, h.get? b = some o → h'.get? b = some o := fun b hb => hk b (.tail _ (.tail _ (.tail _ (.tail _ (.tail _ hb)))))
    exact ⟨hk _ (.head _) _ hz, hk _ (.tail _ (.head _)) _ hTI, ⟨a, b, hk _ (.tail _ (.tail _ (.head _))) _ hTO⟩, D1.frame _ _ _ s1 fun b hb => m5 b (List.mem_append_left _ hb), D2.frame _ _ _ s2 fun b hb => m5 b (List.mem_append_right _ hb)⟩
  item := fun i s Q E hi st hQ => by
    refine zip_item D D1 D2 hi st fun x y h' tk px py st' hp hk => ?_
    refine hQ s.heap.objs.size #[x, y] h' tk ⟨x, y, px, py, rfl⟩ (Nat.le_refl _) ⟨_, hp, rfl, _, rfl⟩ ⟨st', ?_, _, hp, rfl⟩ fun c o hc e => hk c o (nh hc) (nh (nt hc)) (nh (nt (nt hc))) (nh (nt (nt (nt hc)))) e
    · have h1 := D1.live _ _ st.2.2.2.1
      have h2 := D2.live _ _ st.2.2.2.2
      obtain ⟨o1, h1⟩ := h1
      obtain ⟨o2, h2⟩ := h2
      obtain ⟨a, b, h3⟩ := st.2.2.1
      have l1 := Heap.lt_size h1
      have l2 := Heap.lt_size h2
      have l3 := Heap.lt_size h3
      have l4 := Heap.lt_size st.1
      exact ni4 (Nat.ne_of_gt l4) (Nat.ne_of_gt l3) (Nat.ne_of_gt l1) (Nat.ne_of_gt l2)
  go := fun elts k pos i T s Q E hm hQ => by
    obtain ⟨⟨hz, hTI, ⟨a, b, hTO⟩, s1, s2⟩, _⟩ := hm
    obtain ⟨⟨d1, d2, d3, d4, d5, d6, d7, d8, d9, d10⟩, ⟨u1, u2, u3⟩, ⟨v1, v2, v3⟩⟩ := D
    refine wpAny_letOwnedTupleGo_zip hz fun h' hz' hs' => hQ h' ⟨hz', hs'.extBut _ _ d1 hTI, ⟨a, b, hs'.extBut _ _ d2 hTO⟩, Draws.same D1 s1 hs' u1, Draws.same D2 s2 hs' v1⟩ fun c o hc e => hs'.extBut _ _ (nh hc) e
  apart := fun i T h hm => hm.2.1
  done := fun s Q E st hQ => zip_end D D1 st fun h' hk => hQ h' s.toks fun c o hc e => hk c o (nh hc) (nh (nt hc)) (nh (nt (nt hc))) (nh (nt (nt (nt hc)))) e
  self := fun i s Q E st hQ => wpAny_pyIter_zip st.1 hQ
/- ### the call -/
noncomputable abbrev tit (l : Addr) : Obj := { cls := .type "tuple_iterator", data := .fields #[.ref l, .int 0 0] }
noncomputable abbrev zp2 (h : Heap) (l1 l2 : Addr) : Heap := (h.push (tit l1)).push (tit l2)
noncomputable abbrev zp3 (h : Heap) (l1 l2 : Addr) : Heap := (zp2 h l1 l2).push { cls := .type "tuple", data := .seq #[.ref h.objs.size, .ref (h.push (tit l1)).objs.size] }
noncomputable abbrev zp4 (h : Heap) (l1 l2 : Addr) : Heap := (zp3 h l1 l2).push { cls := .type "tuple", data := .seq #[.none, .none] }
noncomputable abbrev zp5 (h : Heap) (l1 l2 : Addr) : Heap := (zp4 h l1 l2).push { cls := .type "zip", data := .fields #[.none, .bool false, .bool false, .ref (zp2 h l1 l2).objs.size, .ref (zp3 h l1 l2).objs.size] }
theorem zip_meets (l1 l2 : Addr) (xs ys : Array Value) : Meets (Builtin.«zip.__new__» ⟨[.type "zip", .ref l1, .ref l2], []⟩) (fun _ R s => s.heap.IsTuple l1 xs ∧ s.heap.IsTuple l2 ys ∧ R (.ok (.ret (.ref (zp4 s.heap l1 l2).objs.size))) { s with heap := zp5 s.heap l1 l2 }) :=
  .of_wp fun prog w A R s h => by
    obtain ⟨hp, g, d, tk, os⟩ := s; obtain ⟨hl1, hl2, h⟩ := h
    have hsub := sub_zip
    have hL1 : Heap.IsTuple (Shared.heap ⟨hp, g, d, tk, os⟩) l1 xs := hl1
    have hL2 : Heap.IsTuple (Shared.heap ⟨hp.push (tit l1), g, d, tk, os⟩) l2 ys := Heap.IsTuple.push hl2 _
    wp_walk using wpAny_pyIter_tuple hL1, wpAny_pyIter_tuple hL2
    exact ⟨_, rfl, h⟩
theorem zip_call {l1 l2 : Addr} {xs ys : Array Value} {Q : Value → Shared → Prop} (hl1 : s.heap.IsTuple l1 xs) (hl2 : s.heap.IsTuple l2 ys) (h : Q (.ref (zp4 s.heap l1 l2).objs.size) { s with heap := zp5 s.heap l1 l2 }) :
    wpAny (model prog w) A (call (.type "zip") [.ref l1, .ref l2]) Q E s :=
  callType_new F.called_zip (by decide) (F.typeCall_zip_2 _ _) (F.newCall_zip_2 _ _) (fun obj => F.args_object_init_3 obj _ _) F.entry_zip_new (zip_meets l1 l2 xs ys) ⟨hl1, hl2, ⟨_, Heap.get?_push_size _ rfl, rfl⟩, h⟩
end
/- part A33 -/
/- ## dict(list or tuple of pairs) -/
section
variable {prog : Program} {w : World} {A : Around} {E : Value → Shared → Prop} {s : Shared}
theorem keys_none_list : typeLookup (.type "list") "keys" = pure none := am_miss_of_fast (by decide +kernel)
theorem keys_none_tuple : typeLookup (.type "tuple") "keys" = pure none := am_miss_of_fast (by decide +kernel)
theorem keys_miss_list {a : Addr} {o : Obj} {xs : Array Value} {k : Nat} {Q : Option Value → Shared → Prop} (hx : s.heap.get? a = some o) (hc : o.cls = .type "list") (hdat : o.data = .seq xs k) (hd : o.dict = none) (hA : A.handled = none)
    (h : ∀ h' tk, (∀ b ob, s.heap.get? b = some ob → h'.get? b = some ob) → Q none { s with heap := h', toks := tk }) : wpAny (model prog w) A (getAttr? (.ref a) "keys") Q E s := by
  obtain ⟨c, dct, dat, sl⟩ := o
  simp only at hc hdat hd
  subst hc hdat hd
  obtain ⟨hp, g, d, tk, os⟩ := s
  have hT : ∀ tk', (⟨hp, g, d, tk', os⟩ : Shared).TypeIs (.ref a) "list" := fun _ => ⟨_, hx, rfl⟩
  have f1 := sub_AttributeError
  have f3 := PySem.F.slot_list_getattribute.lookup
  have f4 := PySem.F.slot_list_getattribute.bind (.ref a)
  have f5 := am_list_getattr_none
  unfold getAttr? getAttrBy? getAttrBy
  repeat (any_goals (first | assumption | exact hT _ | ((with_reducible show wpAny _ _ (call (Value.builtin "list.__getattribute__") _ _) _ _ _); refine call_meets PySem.F.slot_list_getattribute (hT _) am_entry_list_getattribute (PySem.F.args_list_getattribute_2 _ _) (meets_getattribute_miss_list a xs k sl "keys" _ keys_none_list (by decide +kernel)) ⟨hx, hA, fun h' tk' e hx' => ?_⟩) | wp_step))
  obtain ⟨t', u', he⟩ := hx'.there
  show wpAny _ _ (getattributeRaised _ _ _ _ _ _ _) _ _ _
  unfold getattributeRaised
  repeat (any_goals (first | assumption | wp_step))
  exact h _ _ hx'.keeps
theorem keys_miss_tuple {a : Addr} {o : Obj} {xs : Array Value} {k : Nat} {Q : Option Value → Shared → Prop} (hx : s.heap.get? a = some o) (hc : o.cls = .type "tuple") (hdat : o.data = .seq xs k) (hd : o.dict = none) (hA : A.handled = none)
    (h : ∀ h' tk, (∀ b ob, s.heap.get? b = some ob → h'.get? b = some ob) → Q none { s with heap := h', toks := tk }) : wpAny (model prog w) A (getAttr? (.ref a) "keys") Q E s := by
  obtain ⟨c, dct, dat, sl⟩ := o
  simp only at hc hdat hd
  subst hc hdat hd
  obtain ⟨hp, g, d, tk, os⟩ := s
  have hT : ∀ tk', (⟨hp, g, d, tk', os⟩ : Shared).TypeIs (.ref a) "tuple" := fun _ => ⟨_, hx, rfl⟩
  have f1 := sub_AttributeError
  have f3 := PySem.F.slot_tuple_getattribute.lookup
  have f4 := PySem.F.slot_tuple_getattribute.bind (.ref a)
  have f5 := am_tuple_getattr_none
  unfold getAttr? getAttrBy? getAttrBy
  repeat (any_goals (first | assumption | exact hT _ | ((with_reducible show wpAny _ _ (call (Value.builtin "tuple.__getattribute__") _ _) _ _ _); refine call_meets PySem.F.slot_tuple_getattribute (hT _) am_entry_tuple_getattribute (PySem.F.args_tuple_getattribute_2 _ _) (meets_getattribute_miss_tuple a xs k sl "keys" _ keys_none_tuple (by decide +kernel)) ⟨hx, hA, fun h' tk' e hx' => ?_⟩) | wp_step))
  obtain ⟨t', u', he⟩ := hx'.there
  show wpAny _ _ (getattributeRaised _ _ _ _ _ _ _) _ _ _
  unfold getattributeRaised
  repeat (any_goals (first | assumption | wp_step))
  exact h _ _ hx'.keeps
/- a list or a tuple -/
structure SeqObj (o : Obj) (xs : Array Value) : Prop where
  c : o.cls = .type "list" ∨ o.cls = .type "tuple"
  d : ∃ k, o.data = .seq xs k
  n : o.dict = none
theorem seq_iter {a : Addr} {o : Obj} {xs : Array Value} {Q : Value → Shared → Prop} {B : Around} (hB : B.handled = none) (hx : s.heap.get? a = some o) (hs : SeqObj o xs)
    (h : ∀ oI St, oI.isFreed = false → Walks prog w B s.heap.objs.size [s.heap.objs.size, a] [s.heap.objs.size] xs.size (fun i v => xs[i]? = some v) St → St 0 (s.heap.push oI) → Q (.ref s.heap.objs.size) { s with heap := s.heap.push oI }) :
    wpAny (model prog w) A (pyIter (.ref a)) Q E s := by
  obtain ⟨hc, ⟨k, hd⟩, hn⟩ := hs
  have hne : a ≠ s.heap.objs.size := Nat.ne_of_lt (Heap.lt_size hx)
  rcases hc with hc | hc
  · have hl : s.heap.IsList a xs := ⟨_, hx, hc, k, hd⟩
    exact wpAny_pyIter_list hl (h _ _ rfl (Walks.list hB _ a hne xs) ⟨⟨_, Heap.get?_push_size _ rfl, rfl, rfl⟩, hl.push _⟩)
  · have hl : s.heap.IsTuple a xs := ⟨_, hx, hc, k, hd⟩
    exact wpAny_pyIter_tuple hl (h _ _ rfl (Walks.tuple hB _ a hne xs) ⟨⟨_, Heap.get?_push_size _ rfl, rfl, rfl⟩, hl.push _⟩)
theorem entry_update_loop : entryFor table "dict.update.loop" = some Builtin.«dict.update.loop» := entryFor_of_tree (by kernel_rfl)
theorem plain_update_loop : plainId "dict.update.loop" = true := by decide +kernel
theorem stored_snoc {kvs : List (Int × Value)} {k : Int} {y : Value} (h : k ∉ kvs.map (·.1)) : stored kvs k y = kvs ++ [(k, y)] := by
  unfold stored
  have : kvs.any (fun kv => kv.1 = k) = false := by
    rw [List.any_eq_false]
    intro a ha q
    exact h (List.mem_map.mpr ⟨a, ha, by simpa using q⟩)
  simp only [this, Bool.false_eq_true, if_false]
/- what lies at a place: a pair, its first an int -/
noncomputable def PairAt (h : Heap) (S I : Addr) (v : Value) (k : Int) (y : Value) : Prop := ∃ T o t m, v = .ref T ∧ T ≠ S ∧ T ≠ I ∧ h.get? T = some o ∧ o.cls = .type "tuple" ∧ o.data = .seq #[.int k t, y] m
theorem PairAt.keep {h h' : Heap} {S I : Addr} {v : Value} {k : Int} {y : Value} (x : PairAt h S I v k y) (hk : ∀ b o, b ≠ S → b ≠ I → h.get? b = some o → h'.get? b = some o) : PairAt h' S I v k y := by
  obtain ⟨T, o, t, m, h1, h2, h3, h4, h5⟩ := x
  exact ⟨T, o, t, m, h1, h2, h3, hk _ _ h2 h3 h4, h5⟩
theorem upd_loop {R : Result → Shared → Prop} {I S : Addr} {fp : List Addr} {n : Nat} {P : Nat → Value → Prop} {St : Nat → Heap → Prop} (Wk : Walks prog w A.in1 I fp [I] n P St) (hSf : S ∉ fp) (hSI : S ≠ I) {kvs : List (Int × Value)} (hn : kvs.length = n) (hl : n ≤ 10000) (hnd : (kvs.map (·.1)).Nodup) :
    ∀ (k i : Nat) (s : Shared), n - i = k → i ≤ n → St i s.heap → (∀ j v, P j v → ∃ k y, kvs[j]? = some (k, y) ∧ PairAt s.heap S I v k y) → s.heap.DictOf (intKind prog w) S (kvs.take i) →
      (∀ h' tk, (∀ b o, b ≠ S → b ≠ I → s.heap.get? b = some o → h'.get? b = some o) → h'.DictOf (intKind prog w) S kvs → R (.ok (.ret .none)) { s with heap := h', toks := tk }) →
      codeAny (model prog w) A (.builtin "dict.update.loop" ⟨[.ref S, .ref I, .int i 0, .none], []⟩) R s := by
  intro k
  induction k with
  | zero =>
    intro i s hk hi hst hP hS hR
    have hin : i = n := by (first | lia | omega)
    subst hin
    refine codeAny_builtin entry_update_loop ?_
    rw [Around.under_plainId plain_update_loop _]
    show wpAny _ A.in1 (pyNext (.ref I) >>= _) _ _ s
    refine wpAny_bind (Wk.done s _ _ hst fun h' tk hk => ?_)
    show wpAny _ A.in1 (Builtin.Dict.addKeywords S [] >>= _) _ _ _
    refine wpAny_bind (wpAny_pure (wpAny_pure (hR h' tk (fun b o hb hbI e => hk b o (by simpa using hbI) e) ?_)))
    rw [← hn, List.take_length] at hS
    exact hS.at fun o e => hk S o (by simpa using hSI) e
  | succ k ih =>
    intro i s hk hi hst hP hS hR
    have hlt : i < n := by (first | lia | omega)
    refine codeAny_builtin entry_update_loop ?_
    rw [Around.under_plainId plain_update_loop _]
    show wpAny _ A.in1 (pyNext (.ref I) >>= _) _ _ s
    refine wpAny_bind (Wk.item i s _ _ hlt hst fun v h1 tk1 hv hst1 hk1 => ?_)
    obtain ⟨ky, y, hky, hpa⟩ := hP i v hv
    have hpa1 := hpa.keep (h' := h1) (fun b o hb hbI e => hk1 b o (by simpa using hbI) e)
    obtain ⟨T, o, t, m, rfl, hTS, hTI, hT, hTc, hTd⟩ := hpa1
    show wpAny _ A.in1 (holding [Value.ref T] _ >>= _) _ _ _
    refine wpAny_bind (wpAny_holding (wpAny_bind (wpAny_tryCatch ?_)))
    unfold Builtin.Dict.pairItems
    refine wpAny_bind (wpAny_typeOf (T := "tuple") ⟨_, hT, hTc⟩ ?_)
    rw [if_pos (by decide)]
    refine wpAny_bind (wpAny_seqItems hT hTd (wpAny_pure ?_))
    show wpAny _ A.in1 (holding [Value.int ky t, y] (dictSet S (.int ky t) y)) _ _ _
    have hS1 : h1.DictOf (intKind prog w) S (kvs.take i) := hS.at fun o e => hk1 S o (by simpa using hSI) e
    have hget : kvs[i]'(by (first | lia | omega)) = (ky, y) := by rw [List.getElem?_eq_getElem (by (first | lia | omega))] at hky; exact Option.some.inj hky
    have hnot : ky ∉ (kvs.take i).map (·.1) := by
      have hd := hnd
      rw [← List.take_append_drop i kvs, List.drop_eq_getElem_cons (by (first | lia | omega)), List.map_append, List.nodup_append] at hd
      intro q
      refine hd.2.2 ky q ky ?_ rfl
      rw [hget]; simp
    refine wpAny_holding (wpAny_dictSet_pairs (intKind_is _ _ _ _) hS1 (fun h2 hS2 hsb2 => ?_) (by rw [List.length_take, sizeLine_eq]; (first | lia | omega)))
    rw [stored_snoc hnot] at hS2
    have et : kvs.take i ++ [(ky, y)] = kvs.take (i + 1) := by rw [List.take_add_one, hky]; rfl
    rw [et] at hS2
    have hstep : ∀ b o, b ≠ S → b ≠ I → s.heap.get? b = some o → h2.get? b = some o := fun b o hb hbI e => (hsb2.2 b hb).trans (hk1 b o (by simpa using hbI) e)
    refine wpAny_pure ⟨plainId_quiet plain_update_loop _, ih (i + 1) _ (by (first | lia | omega)) hlt ?_ ?_ hS2 fun h' tk hk' hd' => hR h' tk (fun b o hb hbI e => hk' b o hb hbI (hstep b o hb hbI e)) hd'⟩
    · exact Wk.frame _ h1 _ hst1 fun b hb o e => (hsb2.2 b fun q => hSf (q ▸ hb)).trans e
    · intro j v hv
      obtain ⟨k', y', h3, h4⟩ := hP j v hv
      exact ⟨k', y', h3, h4.keep hstep⟩
theorem dict_call {src : Addr} {o : Obj} {xs : Array Value} {kvs : List (Int × Value)} {Q : Value → Shared → Prop} (hA : A.handled = none) (hx : s.heap.get? src = some o) (hs : SeqObj o xs) (hlen : kvs.length = xs.size) (hl : xs.size ≤ 10000) (hnd : (kvs.map (·.1)).Nodup)
    (hP : ∀ (j : Nat) v, xs[j]? = some v → ∃ k y, kvs[j]? = some (k, y) ∧ ∃ T o t m, v = .ref T ∧ s.heap.get? T = some o ∧ o.cls = .type "tuple" ∧ o.data = .seq #[.int k t, y] m)
    (h : ∀ h' tk, h'.DictOf (intKind prog w) s.heap.objs.size kvs → (∀ b o, s.heap.get? b = some o → h'.get? b = some o) → Q (.ref s.heap.objs.size) { s with heap := h', toks := tk }) :
    wpAny (model prog w) A (call (.type "dict") [.ref src]) Q E s := by
  refine callType_codes (Q₁ := fun obj s₁ => obj = .ref s.heap.objs.size ∧ s₁ = { s with heap := s.heap.push { cls := .type "dict", data := .dict #[] } }) PySem.F.kt_called_dict (PySem.F.kt_typeCall_dict_1 _) PySem.F.entry_dict_init (kt_code_dict_new _ ⟨rfl, rfl⟩) ?_
  rintro obj s₁ ⟨rfl, rfl⟩
  have hnew : (s.heap.push { cls := .type "dict", data := .dict #[] }).DictOf (intKind prog w) s.heap.objs.size [] := Heap.DictOf.new s.heap
  have hx1 : (s.heap.push { cls := .type "dict", data := .dict #[] }).get? src = some o := Heap.get?_push_of_some _ hx
  refine ⟨hnew.typeIs, PySem.F.args_dict_init_2 _ _, ?_⟩
  unfold Builtin.«dict.__init__»
  refine wpAny_bind ?_
  unfold Builtin.Dict.selfAndRest
  refine wpAny_bind (wpAny_notOrdered_dict hnew.typeIs ?_)
  show wpAny _ _ (pure (s.heap.objs.size, [Value.ref src])) _ _ _
  refine wpAny_pure ?_
  show wpAny _ _ (Builtin.Dict.updateFrom "dict.__init__" s.heap.objs.size (.ref src) [] .none) _ _ _
  unfold Builtin.Dict.updateFrom
  have hsrc : src < s.heap.objs.size := Heap.lt_size hx
  have fin : ∀ (h2 : Heap) (tk2 : Nat), (∀ b ob, (s.heap.push { cls := .type "dict", data := .dict #[] }).get? b = some ob → h2.get? b = some ob) →
      wpAny (model prog w) A.in1.in1 (pyIter (.ref src)) (fun x s' => codeAny (model prog w) A.in1 (.builtin "dict.update.loop" ⟨[.ref s.heap.objs.size, x, .int 0 0, .none], []⟩) (wants (fun r s₂ => r = .none ∧ Q (.ref s.heap.objs.size) s₂) E) s')
        (fun e s' => wants (fun r s₂ => r = .none ∧ Q (.ref s.heap.objs.size) s₂) E (.error e) s') { s with heap := h2, toks := tk2 } := by
    intro h2 tk2 hk2
    have hd2 : h2.DictOf (intKind prog w) s.heap.objs.size [] := hnew.at fun o e => hk2 _ o e
    have hS2 : s.heap.objs.size < h2.objs.size := by
      obtain ⟨_, _, _, hg, _⟩ := hd2
      exact Heap.lt_size hg
    refine seq_iter (s := { s with heap := h2, toks := tk2 }) (o := o) (B := A.in1.in1) (by simp [hA]) (hk2 _ _ hx1) hs fun oI St hf Wk st => ?_
    refine upd_loop Wk (ni2 (Nat.ne_of_lt hS2) (Nat.ne_of_gt hsrc)) (Nat.ne_of_lt hS2) hlen hl hnd (xs.size - 0) 0 _ rfl (Nat.zero_le _) st (fun j v hv => ?_) (by simpa using hd2.push oI) fun h' tk hk' hd' => ?_
    · obtain ⟨k, y, h1, T, o, t, m, rfl, hT, hTc, hTd⟩ := hP j v hv
      have hTl := Heap.lt_size hT
      exact ⟨k, y, h1, T, o, t, m, rfl, Nat.ne_of_lt hTl, Nat.ne_of_lt (Nat.lt_trans hTl hS2), Heap.get?_push_of_some _ (hk2 _ _ (Heap.get?_push_of_some _ hT)), hTc, hTd⟩
    · exact ⟨rfl, h h' tk hd' fun b o e => hk' b o (Nat.ne_of_lt (Heap.lt_size e)) (Nat.ne_of_lt (Nat.lt_trans (Heap.lt_size e) hS2)) (Heap.get?_push_of_some _ (hk2 _ _ (Heap.get?_push_of_some _ e)))⟩
  obtain ⟨hc, ⟨k, hd⟩, hn⟩ := id hs
  rcases hc with hc | hc
  · refine wpAny_bind (wpAny_typeOf (T := "list") ⟨_, hx1, hc⟩ ?_)
    rw [if_pos (by decide)]
    refine wpAny_bind (keys_miss_list hx1 hc hd hn (by simp [hA]) fun h2 tk2 hk2 => ?_)
    simp only [Option.isNone_none, if_true]
    refine wpAny_bind (wpAny_rule (wpAny_bind (wpAny_mono (fin h2 tk2 hk2) (fun x s' hq => ?_) fun _ _ e => e)))
    exact wpAny_pure ⟨plainId_quiet plain_update_loop _, hq⟩
  · refine wpAny_bind (wpAny_typeOf (T := "tuple") ⟨_, hx1, hc⟩ ?_)
    rw [if_pos (by decide)]
    refine wpAny_bind (keys_miss_tuple hx1 hc hd hn (by simp [hA]) fun h2 tk2 hk2 => ?_)
    simp only [Option.isNone_none, if_true]
    refine wpAny_bind (wpAny_rule (wpAny_bind (wpAny_mono (fin h2 tk2 hk2) (fun x s' hq => ?_) fun _ _ e => e)))
    exact wpAny_pure ⟨plainId_quiet plain_update_loop _, hq⟩
end
section
variable {W : Wd} {n : Nat} {σ : St}
theorem pair_vals {Z : Addr → Obj → Prop} {h : Heap} (hZ : ∀ a o, Z a o → h.get? a = some o) : ∀ {kvs : List (Int × V)} {xs : List Value}, VRels W Z (kvs.map fun kv => .tup [.int kv.1, kv.2]) xs →
    ∃ ys, VRels W Z (kvs.map (·.2)) ys ∧ ∀ (j : Nat) v, xs[j]? = some v → ∃ k y, ((kvs.map (·.1)).zip ys)[j]? = some (k, y) ∧ ∃ T o t m, v = .ref T ∧ h.get? T = some o ∧ o.cls = .type "tuple" ∧ o.data = .seq #[.int k t, y] m
  | [], xs, hr => by
    simp only [List.map_nil, VRels] at hr; subst hr
    exact ⟨[], .nil, by simp⟩
  | kv :: r, xs, hr => by
    simp only [List.map_cons, VRels] at hr
    obtain ⟨x, xs, rfl, h1, h2⟩ := hr
    obtain ⟨ys, h3, h4⟩ := pair_vals hZ h2
    obtain ⟨T, o, zs, m, rfl, hz, hto, hzs⟩ := h1
    obtain ⟨a, b, rfl, ha, hb⟩ := vrels2 hzs
    obtain ⟨t, rfl⟩ := ha
    refine ⟨b :: ys, .cons hb h3, fun j v hv => ?_⟩
    cases j with
    | zero =>
      simp at hv; subst hv
      exact ⟨kv.1, b, rfl, T, o, t, m, rfl, hZ _ _ hz, hto.1, hto.2.1⟩
    | succ j => exact h4 j v (by simpa using hv)
theorem o_dict_sq {b : Bool} {kvs : List (Int × V)} {Q : V → St → Prop} (hl : kvs.length ≤ 10000) (hnd : (kvs.map (·.1)).Nodup) (h : ∀ D, Q (.ref D) ((D, .idict kvs) :: σ)) : acall W n (.type "dict") [sq b (kvs.map fun kv => .tup [.int kv.1, kv.2])] σ Q := fun X A s xs rm B rv E K kk => by
  obtain ⟨x, rfl, hx⟩ := vrels1 rv
  have hob : ∃ a o zs, x = .ref a ∧ s.heap.get? a = some o ∧ SeqObj o (List.toArray zs) ∧ VRels W (Fz X σ s.heap) (kvs.map fun kv => .tup [.int kv.1, kv.2]) zs := by
    cases b
    · simp only [sq, Bool.false_eq_true, if_false, VRel] at hx; obtain ⟨a, ys, k, rfl, hz, hr⟩ := hx
      exact ⟨a, _, ys, rfl, hz.1, ⟨.inl rfl, ⟨k, rfl⟩, rfl⟩, hr⟩
    · simp only [sq, if_true, VRel] at hx; obtain ⟨a, o, ys, k, rfl, hz, hto, hr⟩ := hx
      exact ⟨a, _, ys, rfl, hz.1, ⟨.inr hto.1, ⟨k, hto.2.1⟩, hto.2.2⟩, hr⟩
  obtain ⟨a, o, zs, rfl, ho, hso, hr⟩ := hob
  obtain ⟨ys, hys, hP⟩ := pair_vals fz_get hr
  have hzl := hr.length
  have hyl := hys.length
  simp only [List.length_map] at hzl hyl
  have hlz : ((kvs.map (·.1)).zip ys).length = kvs.length := by rw [List.length_zip, List.length_map, hyl]; simp
  have hke : ((kvs.map (·.1)).zip ys).map (·.1) = kvs.map (·.1) := by rw [List.map_fst_zip]; simp [hyl]
  refine dict_call rm.1 ho hso (kvs := (kvs.map (·.1)).zip ys) (by rw [hlz]; simp [hzl]) (by simp [hzl]; (first | lia | omega)) (by rw [hke]; exact hnd) (fun j v hv => hP j v (by simpa using hv)) fun h' tk hd' hk => ?_
  obtain ⟨he, hb⟩ := Bears.step (h' := h') (old := []) (new := [(s.heap.objs.size, .idict kvs)]) (τ := σ) B (List.Perm.refl _) (fun b o' x _ => hk b o' x) (by intro a ha; simp [fp] at ha; subst ha; exact .inr (size_none _)) (by simp [fp])
  refine kk (.ref s.heap.objs.size) _ _ _ (Nx.mk' (tk := tk) (hb fun p hp => ?_) he) (by simp only [VRel]) (h _)
  simp only [List.mem_singleton] at hp; subst hp
  obtain ⟨o, ho, hio⟩ := Heap.dictOf_iff.mp hd'
  exact ⟨o, ys, ho, VRels.mono he.fz0 _ _ hys, hio⟩
theorem of_dict_sq {b : Bool} {kvs : List (Int × V)} {Q : V → St → Prop} (hl : kvs.length ≤ 10000) (hnd : (kvs.map (·.1)).Nodup) (h : Q (fd kvs) σ) : acall W n (.type "dict") [sq b (kvs.map fun kv => .tup [.int kv.1, kv.2])] σ Q :=
  acall_re (o_dict_sq hl hnd fun D => ⟨_, _, Re.idict .head, h⟩)
end
/- part A34 -/
/- ## iterators that hand out pairs -/
section
variable {W : Wd} {n : Nat} {sc : Scope} {ρ : Ro} {σ : St}
theorem IterOk.ofWalksT {A : Around} {elts : List Expr} {k : Nat} {pos : Pos} {I : Addr} {fp wr : List Addr} {m : Nat} {Pt : Nat → Array Value → Prop} {St' : Nat → Heap → Prop} {Mid : Nat → Addr → Heap → Prop} (Wk : WalksT W.prog W.w A I fp wr m Pt St' Mid)
    {vs : List V} (hm : m = vs.length) (hex : ∀ (i : Nat) (h : Heap), St' i h → ∀ b ∈ wr, ∃ o, h.get? b = some o) (hT : ∀ (i : Nat) (T : Addr) (h : Heap), Mid i T h → ∃ o, h.get? T = some o ∧ o.dict = none) :
    IterOk W A (.Tuple elts k pos) I (fun b => b ∈ wr) vs (fun X i σ h => St' i h ∧ (∀ b ∈ fp, b ∈ wr ∨ ∃ o, Fz X σ h b o) ∧ (∀ (j : Nat) (v : V), vs[j]? = some v → ∀ x, Pt j x → ∃ us, v = .tup us ∧ VRels W (Fz X σ h) us x.toList)) where
  frame := fun X i σ h X' σ' h' st hk hz => ⟨Wk.frame i h h' st.1 fun b hb o e => by
      rcases st.2.1 b hb with q | ⟨o', q⟩
      · exact hk b q o e
      · have h1 := q.1
        rw [e] at h1; cases h1
        exact (hz b o q).1, fun b hb => (st.2.1 b hb).imp id fun ⟨o, q⟩ => ⟨o, hz b o q⟩, fun j v hv x hp => let ⟨us, h1, h2⟩ := st.2.2 j v hv x hp; ⟨us, h1, VRels.mono hz _ _ h2⟩⟩
  item := fun X i v σ s Q E hv hX B st hQ => by
    have hi : i < m := by rw [hm]; exact (List.getElem?_eq_some_iff.mp hv).1
    refine Wk.item i s _ E hi st.1 fun T vals h1 tk hP hTn hT1 hM hk1 => ⟨_, rfl, ?_⟩
    refine Wk.go elts k pos i T _ _ E hM fun h2 st2 hk2 => ?_
    have hTw := Wk.apart i T h1 hM
    obtain ⟨us, rfl, hus⟩ := st.2.2 i v hv vals hP
    obtain ⟨o, ho, hdn⟩ := hT i T h1 hM
    obtain ⟨o2, ho2, hc2, nn, hd2⟩ := hT1
    have eo : o2 = o := Option.some.inj (ho2.symm.trans ho)
    subst eo
    have hto : IsTupO o2 vals.toList nn := ⟨hc2, by simpa using hd2, hdn⟩
    have hkk : ∀ b o, s.heap.get? b = some o → ¬ b ∈ wr → h2.get? b = some o := fun b o e f => hk2 b o f (hk1 b o f e)
    obtain ⟨eE, bB⟩ := B.keepF (F := fun b => b ∈ wr) (h' := h2) (fun a q => hX a q) (fun a q => hex _ _ st2 a q) hkk
    have hz := eE.fz fun a q => hX a q
    have fresh : s.heap.get? T = none := by
      cases e : s.heap.get? T with
      | none => rfl
      | some o => exact absurd (Heap.lt_size e) (Nat.not_lt.mpr hTn)
    have hTF : Fz X σ h2 T o2 := ⟨hk2 T o2 hTw ho, fresh_hid B fresh, fresh_own B fresh⟩
    refine hQ (.ref T) _ (Nx.mk' bB eE) ?_ ⟨st2, fun b hb => (st.2.1 b hb).imp id fun ⟨o, q⟩ => ⟨o, hz b o q⟩, fun j v hv x hp => let ⟨us, h1, h2⟩ := st.2.2 j v hv x hp; ⟨us, h1, VRels.mono hz _ _ h2⟩⟩
    simp only [VRel]; exact ⟨T, o2, vals.toList, nn, rfl, hTF, hto, VRels.mono hz _ _ hus⟩
  done := fun X σ s Q E st hQ => by
    have st1 := st.1
    rw [← hm] at st1
    exact Wk.done s Q E st1 fun h' tk hk => hQ _ ⟨h', tk, rfl⟩ fun b o e f => hk b o f e
  self := fun X i σ s Q E st hQ => Wk.self i s Q E st.1 hQ
end
section
variable {prog : Program} {w : World} {A : Around}
theorem enum_walks (hh : A.handled = none) (e it l : Addr) (hei : e ≠ it) (hle : l ≠ e) (hli : l ≠ it) (items : Array Value) :
    WalksT prog w A e [e, it, l] [e, it] items.size (fun i vals => ∃ t x, items[i]? = some x ∧ vals = #[.int i t, x]) (fun i h => (∃ old, IsEnum h e it i old) ∧ h.IsListIter it l i ∧ h.IsList l items)
      (fun i T h => (∃ x, IsEnumOut h e it ((i : Int) + 1) x T) ∧ h.IsListIter it l (i + 1) ∧ h.IsList l items ∧ T ∉ [e, it] ∧ ∃ o, h.get? T = some o ∧ o.dict = none) where
  sub := fa2 (.head _) (.tail _ (.head _))
  frame := fun i h h' st hk => by
    obtain ⟨⟨old, he⟩, hit, hl⟩ := st
    exact ⟨⟨old, hk e (.head _) _ he⟩, hit.at (hk it (.tail _ (.head _))), hl.at (hk l (.tail _ (.tail _ (.head _))))⟩
  item := fun i s Q E hi st hQ => by
    obtain ⟨⟨old, he⟩, hit, hl⟩ := st
    refine wpAny_pyNext_enum_item he hit hl (Array.getElem?_eq_getElem hi) hei fun h' ho hit' hT hsz hk => ?_
    have l1 : e < s.heap.objs.size := Heap.lt_size he
    have l2 : it < s.heap.objs.size := by obtain ⟨_, x, _⟩ := hit; exact Heap.lt_size x
    refine hQ s.heap.objs.size #[.int i s.toks, items[i]] h' (s.toks + 1) ⟨_, _, Array.getElem?_eq_getElem hi, rfl⟩ (Nat.le_refl _) ⟨_, hT, rfl, _, rfl⟩ ⟨⟨_, ho⟩, hit', hl.at fun o x => hk l o hle hli x, ni2 (Nat.ne_of_gt l1) (Nat.ne_of_gt l2), _, hT, rfl⟩ fun b o hb x => hk b o (nh hb) (nh (nt hb)) x
  go := fun elts k pos i T s Q E hm hQ => by
    obtain ⟨⟨x, ho⟩, hit, hl, _⟩ := hm
    refine wpAny_letOwnedTupleGo_enum ho fun h' he' hs' => hQ h' ⟨⟨x, by simpa using he'⟩, hit.at fun o y => (hs'.2 it hei.symm).trans y, hl.at fun o y => (hs'.2 l hle).trans y⟩ fun b o hb y => (hs'.2 b (nh hb)).trans y
  apart := fun i T h hm => hm.2.2.2.1
  done := fun s Q E st hQ => by
    obtain ⟨⟨old, he⟩, hit, hl⟩ := st
    refine wpAny_pyNext_enum_end hh he hit hl (Array.getElem?_eq_none (Nat.le_refl _)) fun h' hx => hQ h' s.toks fun b o hb y => hx b o (nh (nt hb)) y
  self := fun i s Q E st hQ => by
    obtain ⟨⟨old, he⟩, _, _⟩ := st
    exact wpAny_pyIter_enum he hQ
end
section
variable {W : Wd} {n : Nat} {sc : Scope} {ρ : Ro} {σ : St}
/- an iterator just made, of several new objects -/
theorem iterT_of {A : Around} {elts : List Expr} {k : Nat} {pos : Pos} {X : Addr → Prop} {E : Value → Shared → Prop} {K : Value → Shared → Prop} {Q : List V → St → Prop} {s s1 : Shared} {σ' : St} {I : Addr} {h2 : Heap} {fp wr : List Addr} {m : Nat} {Pt : Nat → Array Value → Prop} {St' : Nat → Heap → Prop} {Mid : Nat → Addr → Heap → Prop} {vs : List V} {tk : Nat}
    (nx : Nx W X noF σ s σ' s1) (Wk : WalksT W.prog W.w A I fp wr m Pt St' Mid) (hm : m = vs.length) (hex : ∀ (i : Nat) (h : Heap), St' i h → ∀ b ∈ wr, ∃ o, h.get? b = some o) (hT : ∀ (i : Nat) (T : Addr) (h : Heap), Mid i T h → ∃ o, h.get? T = some o ∧ o.dict = none)
    (hk : ∀ b o, s1.heap.get? b = some o → h2.get? b = some o) (hw : ∀ b ∈ wr, s1.heap.get? b = none) (st0 : St' 0 h2) (hfp : ∀ b ∈ fp, b ∈ wr ∨ (∃ o, Fz X σ' s1.heap b o) ∨ (s1.heap.get? b = none ∧ ∃ o, h2.get? b = some o))
    (hP : ∀ (j : Nat) (v : V), vs[j]? = some v → ∀ x, Pt j x → ∃ us, v = .tup us ∧ VRels W (Fz X σ' s1.heap) us x.toList) (hq : Q vs σ')
    (kk : ∀ I wr vs SI σ' s', IterOk W A (.Tuple elts k pos) I wr vs SI → (∀ b o, s.heap.get? b = some o → b ∉ own σ → ¬ wr b) → (∃ h' tk, s' = { s with heap := h', toks := tk }) → Bears W (orX X wr) σ' s'.heap → Ext noF σ s.heap σ' s'.heap →
      (∀ a o, Fz X σ s.heap a o → Fz (orX X wr) σ' s'.heap a o) → SI (orX X wr) 0 σ' s'.heap → Q vs σ' → K (.ref I) s') : K (.ref I) { s1 with heap := h2, toks := tk } := by
  let Y : Addr → Prop := fun b => b ∈ wr
  obtain ⟨B2, hz2⟩ := nx.2.1.hideNew (Y := Y) hk (fun a q => hw a q) (fun a q => hex 0 h2 st0 a q)
  refine kk I Y vs _ σ' _ (IterOk.ofWalksT Wk hm hex hT) (fun b o e no hb => ?_) ?_ B2 ?_ (fun a o e => hz2 a o (nx.2.2.fz0 a o e)) ⟨st0, fun b hb => ?_, fun j v hv x hp => let ⟨us, h1, h2⟩ := hP j v hv x hp; ⟨us, h1, VRels.mono hz2 _ _ h2⟩⟩ hq
  · have e1 := (nx.2.2 b o e id no).1
    rw [hw b hb] at e1; cases e1
  · exact sh_toks nx.1
  · intro a o e f no
    obtain ⟨e1, no1⟩ := nx.2.2 a o e f no
    exact ⟨hk a o e1, no1⟩
  · by_cases q : b ∈ wr
    · exact .inl q
    rcases hfp b hb with r | ⟨o, r⟩ | ⟨r, o, r2⟩
    · exact .inl r
    · exact .inr ⟨o, hz2 b o r⟩
    · exact .inr ⟨o, r2, fun z => z.elim (fresh_hid nx.2.1 r) q, fresh_own nx.2.1 r⟩
noncomputable abbrev KItE (Q : List V → St → Prop) : V → St → Prop := fun v σ => IsF (fun vs => Q (vs.zipIdx.map fun q => .tup [.int q.2, q.1]) σ) v
/- for i, x in enumerate(a list that nothing writes) -/
theorem ai_enum {elts : List Expr} {kt : Nat} {pt : Pos} {e : Expr} {x : Str} {p pos : Pos} {Q : List V → St → Prop} (hb : aE W n sc ρ σ (.Name x p) (fun fv σ' => fv = .con (.type "enumerate") ∧ aE W n sc ρ σ' e (KItE Q)))
    (hs : autoParam (notStar e = true) tRfl) : aIter W n sc ρ σ (.Tuple elts kt pt) (.Call (.Name x p) [e] [] pos) Q := fun X env A s rm B F E K kk => by
  rw [arm_eval_Call_Name']
  refine wpAny_bind (hb X env A s rm B F E _ fun fv y σ1 s0 nx0 rv0 hq => ?_)
  obtain ⟨rfl, hq⟩ := hq
  obtain rfl := rv0
  have hes : [e].all notStar = true := by simp [hs]
  refine callWith_of (P := fun h => ∀ b o, W.h0.get? b = some o → h.get? b = some o) (by rw [starEach_any hes]; rfl) (fun h' hP => Kp.type W "enumerate" h' hP) ?_
  have F0 := nx0.fram B F
  refine evalArgs_of hes ?_
  have hone : aEs W n sc ρ σ1 [e] (fun us σ'' => ∃ vs, us = [.flist vs] ∧ Q (vs.zipIdx.map fun q => .tup [.int q.2, q.1]) σ'') :=
    aEs_cons (hq.mono fun v σ' hv => aEs_nil (by obtain ⟨m, rfl, h1⟩ := hv; exact ⟨m, rfl, h1⟩)) fun env => starEach_plain hs
  refine hone pos X env A s0 rm nx0.2.1 F0 E _ fun us xs σ2 s1 nx1 rv1 hq1 => ?_
  obtain ⟨vs, rfl, hq1⟩ := hq1
  obtain ⟨y, rfl, hy⟩ := vrels1 rv1
  obtain ⟨l, ys, kk', rfl, hz, hr⟩ := hy
  refine ⟨nx1.2.1.keeps, ?_⟩
  show wpAny _ _ (call (.type "enumerate") [.ref l]) _ _ _
  refine call_enumerate_1 hz.1 fun h' he hit hsz hk => ?_
  refine wpAny_pyIter_enum he ?_
  have nx01 := nx0.trans nx1
  have hl : h'.IsList l ys.toArray := (isList_of hz.1).at fun o e => hk l o e
  have hne1 : l ≠ s1.heap.objs.size + 1 := Nat.ne_of_lt (Nat.lt_succ_of_lt (Heap.lt_size hz.1))
  have hne2 : l ≠ s1.heap.objs.size := Nat.ne_of_lt (Heap.lt_size hz.1)
  have fresh : ∀ c, s1.heap.objs.size ≤ c → s1.heap.get? c = none := fun c hc => by
    cases e : s1.heap.get? c with
    | none => rfl
    | some o => exact absurd (Heap.lt_size e) (Nat.not_lt.mpr hc)
  refine iterT_of (E := E) (tk := s1.toks) nx01 (enum_walks rm.1 (s1.heap.objs.size + 1) s1.heap.objs.size l (Nat.succ_ne_self _) hne1 hne2 ys.toArray) (by simp [hr.length]) (fun i h st => ?_) (fun i T h hM => hM.2.2.2.2) hk (fa2 (fresh _ (Nat.le_succ _)) (fresh _ (Nat.le_refl _))) ⟨⟨.none, by simpa using he⟩, hit, hl⟩ (fa3 (.inl (.head _)) (.inl (.tail _ (.head _))) (.inr (.inl ⟨_, hz⟩))) (fun j v hv x hx => ?_) hq1 kk
  · obtain ⟨⟨old, h1⟩, ⟨o, h2, _⟩, _⟩ := st
    exact fa2 ⟨_, h1⟩ ⟨_, h2⟩
  · obtain ⟨t, z, h1, rfl⟩ := hx
    rw [List.getElem?_map, List.getElem?_zipIdx] at hv
    cases hj : vs[j]? with
    | none => rw [hj] at hv; cases hv
    | some u =>
      rw [hj] at hv
      simp only [Option.map_some, Option.some.injEq, Nat.zero_add] at hv
      subst hv
      obtain ⟨z', h3, h4⟩ := hr.get hj
      have e2 : z' = z := by have h5 : ys[j]? = some z := by simpa using h1
                             rw [h3] at h5; exact Option.some.inj h5
      subst e2
      exact ⟨_, rfl, .cons (by simp only [VRel]; exact ⟨t, rfl⟩) (.one h4)⟩
theorem zipAt_new {N l1 l2 : Nat} (L1 : l1 < N) (L2 : l2 < N) : ZipAt (N + 4) (N + 2) (N + 3) N (N + 1) [N, l1] [N + 1, l2] := by
  constructor
  · refine ⟨?_, ?_, ?_, ?_, ?_, ?_, ?_, ?_, ?_, ?_⟩ <;> first | exact Nat.ne_of_lt (by (first | lia | omega)) | exact Nat.ne_of_gt (by (first | lia | omega))
  · refine ⟨?_, ?_, ?_⟩ <;> refine ni2 ?_ ?_ <;> first | exact Nat.ne_of_lt (by (first | lia | omega)) | exact Nat.ne_of_gt (by (first | lia | omega))
  · refine ⟨?_, ?_, ?_⟩ <;> refine ni2 ?_ ?_ <;> first | exact Nat.ne_of_lt (by (first | lia | omega)) | exact Nat.ne_of_gt (by (first | lia | omega))
/- for a, b in zip(a tuple, a tuple) of one length -/
theorem ai_zip {elts : List Expr} {kt : Nat} {pt : Pos} {e f : Expr} {x : Str} {p pos : Pos} {Q : List V → St → Prop} (hb : aE W n sc ρ σ (.Name x p) (fun fv σ' => fv = .con (.type "zip") ∧ aE W n sc ρ σ' e (fun v σ1 => aE W n sc ρ σ1 f (fun u σ2 => ∃ vs us, v = .tup vs ∧ u = .tup us ∧ vs.length = us.length ∧ Q ((vs.zip us).map fun q => .tup [q.1, q.2]) σ2))))
    (hs : autoParam (notStar e = true) tRfl) (hs2 : autoParam (notStar f = true) tRfl) : aIter W n sc ρ σ (.Tuple elts kt pt) (.Call (.Name x p) [e, f] [] pos) Q := fun X env A s rm B F E K kk => by
  rw [arm_eval_Call_Name']
  refine wpAny_bind (hb X env A s rm B F E _ fun fv y σ1 s0 nx0 rv0 hq => ?_)
  obtain ⟨rfl, hq⟩ := hq
  obtain rfl := rv0
  have hes : [e, f].all notStar = true := by simp [hs, hs2]
  refine callWith_of (P := fun h => ∀ b o, W.h0.get? b = some o → h.get? b = some o) (by rw [starEach_any hes]; rfl) (fun h' hP => Kp.type W "zip" h' hP) ?_
  have F0 := nx0.fram B F
  refine evalArgs_of hes ?_
  have hone : aEs W n sc ρ σ1 [e, f] (fun ws σ'' => ∃ vs us, ws = [.tup vs, .tup us] ∧ vs.length = us.length ∧ Q ((vs.zip us).map fun q => .tup [q.1, q.2]) σ'') :=
    aEs_cons (hq.mono fun v σ' hv => aEs_cons (hv.mono fun u σ'' hu => aEs_nil (by obtain ⟨vs, us, rfl, rfl, h1⟩ := hu; exact ⟨vs, us, rfl, h1⟩)) fun env => starEach_plain hs2) fun env => starEach_plain hs
  refine hone pos X env A s0 rm nx0.2.1 F0 E _ fun ws xs σ2 s1 nx1 rv1 hq1 => ?_
  obtain ⟨vs, us, rfl, hlen, hq1⟩ := hq1
  obtain ⟨y1, y2, rfl, hy1, hy2⟩ := vrels2 rv1
  obtain ⟨l1, o1, ys, k1, rfl, hz1, ht1, hr1⟩ := hy1; obtain ⟨l2, o2, zs, k2, rfl, hz2, ht2, hr2⟩ := hy2
  refine ⟨nx1.2.1.keeps, ?_⟩
  show wpAny _ _ (call (.type "zip") [.ref l1, .ref l2]) _ _ _
  have T1 := isTuple_of hz1.1 ht1
  have T2 := isTuple_of hz2.1 ht2
  refine zip_call T1 T2 ?_
  have nx01 := nx0.trans nx1
  generalize hN : s1.heap.objs.size = N
  have z1 : (s1.heap.push (tit l1)).objs.size = N + 1 := by rw [Heap.size_push, hN]
  have z2 : (zp2 s1.heap l1 l2).objs.size = N + 2 := by rw [Heap.size_push, z1]
  have z3 : (zp3 s1.heap l1 l2).objs.size = N + 3 := by rw [Heap.size_push, z2]
  have z4 : (zp4 s1.heap l1 l2).objs.size = N + 4 := by rw [Heap.size_push, z3]
  have g5 : IsZip (zp5 s1.heap l1 l2) (zp4 s1.heap l1 l2).objs.size (zp2 s1.heap l1 l2).objs.size (zp3 s1.heap l1 l2).objs.size .none := Heap.get?_push_size _ rfl
  have g4 : (zp5 s1.heap l1 l2).get? (zp3 s1.heap l1 l2).objs.size = some _ := Heap.get?_push_of_some _ (Heap.get?_push_size _ rfl)
  have g3 : (zp5 s1.heap l1 l2).get? (zp2 s1.heap l1 l2).objs.size = some _ := Heap.get?_push_of_some _ (Heap.get?_push_of_some _ (Heap.get?_push_size _ rfl))
  have g2 : (zp5 s1.heap l1 l2).get? (s1.heap.push (tit l1)).objs.size = some _ := Heap.get?_push_of_some _ (Heap.get?_push_of_some _ (Heap.get?_push_of_some _ (Heap.get?_push_size _ rfl)))
  have g1 : (zp5 s1.heap l1 l2).get? s1.heap.objs.size = some _ := Heap.get?_push_of_some _ (Heap.get?_push_of_some _ (Heap.get?_push_of_some _ (Heap.get?_push_of_some _ (Heap.get?_push_size _ rfl))))
  have hk : ∀ c o, s1.heap.get? c = some o → (zp5 s1.heap l1 l2).get? c = some o := fun c o e => Heap.get?_push_of_some _ (Heap.get?_push_of_some _ (Heap.get?_push_of_some _ (Heap.get?_push_of_some _ (Heap.get?_push_of_some _ e))))
  rw [z2, z3, z4] at g5
  rw [z1, z2, hN] at g3
  rw [z3] at g4
  rw [z1] at g2
  rw [hN] at g1
  rw [z4]
  generalize hH : zp5 s1.heap l1 l2 = H at g1 g2 g3 g4 g5 hk
  have L1 : l1 < N := hN ▸ Heap.lt_size hz1.1
  have L2 : l2 < N := hN ▸ Heap.lt_size hz2.1
  have hzz : IsZip H (N + 4) (N + 2) (N + 3) .none := g5
  refine wpAny_pyIter_zip (s := { s1 with heap := H }) hzz ?_
  have D := zipAt_new L1 L2
  have Wk := zip_walks (prog := W.prog) (w := W.w) (A := A) D (tupDraws (A := A.in1) (by simp [rm.1]) N l1 (Nat.ne_of_lt L1) ys.toArray) (by
    have := tupDraws (prog := W.prog) (w := W.w) (A := A.in1) (by simp [rm.1]) (N + 1) l2 (Nat.ne_of_lt (Nat.lt_succ_of_lt L2)) zs.toArray
    have e : zs.toArray.size = ys.toArray.size := by simp [hr1.length, hr2.length, hlen]
    rw [e] at this; exact this)
  have fresh : ∀ c, N ≤ c → s1.heap.get? c = none := fun c hc => by
    cases e : s1.heap.get? c with
    | none => rfl
    | some o => exact absurd (Heap.lt_size e) (by rw [hN]; exact Nat.not_lt.mpr hc)
  refine iterT_of (E := E) (tk := s1.toks) nx01 Wk (by simp [hr1.length, hlen]) (fun i h st => ?_) (fun i T h hM => hM.2.2) hk (fa4 (fresh _ (by (first | lia | omega))) (fresh _ (by (first | lia | omega))) (fresh _ (by (first | lia | omega))) (fresh _ (by (first | lia | omega)))) ⟨hzz, g3, ⟨_, _, g4⟩, ⟨⟨_, g1, rfl, rfl⟩, ⟨_, hk _ _ hz1.1, ht1.1, _, ht1.2.1⟩⟩, ⟨⟨_, g2, rfl, rfl⟩, ⟨_, hk _ _ hz2.1, ht2.1, _, ht2.2.1⟩⟩⟩ (List.forall_mem_cons.mpr ⟨.inl (.head _), List.forall_mem_cons.mpr ⟨.inr (.inr ⟨fresh _ (by (first | lia | omega)), _, g3⟩), List.forall_mem_cons.mpr ⟨.inl (.tail _ (.head _)), List.forall_mem_cons.mpr ⟨.inl (.tail _ (.tail _ (.head _))), List.forall_mem_cons.mpr ⟨.inl (.tail _ (.tail _ (.tail _ (.head _)))), List.forall_mem_append.mpr ⟨fa2 (.inl (.tail _ (.tail _ (.head _)))) (.inr (.inl ⟨_, hz1⟩)), fa2 (.inl (.tail _ (.tail _ (.tail _ (.head _))))) (.inr (.inl ⟨_, hz2⟩))⟩⟩⟩⟩⟩⟩) (fun j v hv x hx => ?_) hq1 kk
  · obtain ⟨h1, _, ⟨_, _, h2⟩, ⟨⟨o3, h3, _⟩, _⟩, ⟨o4, h4, _⟩, _⟩ := st
    exact fa4 ⟨_, h1⟩ ⟨_, h2⟩ ⟨_, h3⟩ ⟨_, h4⟩
  · obtain ⟨a, b, h1, h2, rfl⟩ := hx
    rw [List.getElem?_map] at hv
    obtain ⟨q, h3, rfl⟩ := Option.map_eq_some_iff.mp hv
    rw [List.getElem?_zip_eq_some] at h3
    obtain ⟨a', h4, h5⟩ := hr1.get h3.1
    obtain ⟨b', h6, h7⟩ := hr2.get h3.2
    have e1 : a' = a := by have h8 : ys[j]? = some a := by simpa using h1
                           rw [h4] at h8; exact Option.some.inj h8
    have e2 : b' = b := by have h8 : zs[j]? = some b := by simpa using h2
                           rw [h6] at h8; exact Option.some.inj h8
    subst e1 e2
    exact ⟨_, rfl, .cons h5 (.one h7)⟩
end
/- part A35 -/
section
variable {W : Wd} {n : Nat} {sc : Scope} {ρ : Ro} {σ : St}
noncomputable abbrev KSw3 (W : Wd) (n : Nat) (sc : Scope) (ρ : Ro) (i j l : Nat) (rest : List Stmt) (Q : Fl → Ro → St → Prop) : V → St → Prop := fun v σ => Is3 (fun a b c => aSs W n sc (((ρ.set l (some c)).set j (some b)).set i (some a)) σ rest Q) v
/- a, b, c = (..), three locals on a line: stored from behind -/
theorem ss_swap3 {x y z : Str} {p q r p2 pos : Pos} {k : Nat} {i j l : Nat} {e : Expr} {rest : List Stmt} {Q : Fl → Ro → St → Prop} (hx : slot sc x = some (i, NameKind.local)) (hy : slot sc y = some (j, NameKind.local)) (hz : slot sc z = some (l, NameKind.local))
    (h : aE W n sc ρ σ e (KSw3 W n sc ρ i j l rest Q))
    (hs : autoParam (∀ env, swapsWithSole [.Tuple [.Name x p, .Name y q, .Name z r] k p2] e pos.line env = pure false) tRfl1)
    (hw : ∀ env, env.scope = sc → swappedStores [.Tuple [.Name x p, .Name y q, .Name z r] k p2] e env = pure (some [x, y, z]) := by intro _ h; unfold swappedStores Env.blockKind Env.kindOf; rw [h]; rfl) :
    aSs W n sc ρ σ (.Assign [.Tuple [.Name x p, .Name y q, .Name z r] k p2] e pos :: rest) Q := ss_cons fun X env A s rm B F E K kk => by
  show wpAny _ _ (exec _ _) _ _ _
  rw [exec_Assign_arm]
  refine wpAny_bind (wpAny_standAt ?_)
  rw [hs env]
  refine wpAny_bind (wpAny_pure ?_)
  simp only [Bool.false_eq_true, if_false]
  refine wpAny_bind (h X env A s rm B F E _ fun v x' σ' s' nx rv hq => ?_)
  obtain ⟨a, b, c, rfl, hq⟩ := hq
  rw [hw env F.sc_eq]
  refine wpAny_bind (wpAny_pure ?_)
  obtain ⟨t, o, xs, m, rfl, hz', hto, hr⟩ := rv
  obtain ⟨ya, yb, yc, rfl, ha, hb, hc⟩ := vrels3 hr
  unfold assignStores
  refine wpAny_bind (wpAny_rule (wpAny_bind ?_))
  show wpAny _ _ (unpackItems (.ref t) 3 none) _ _ _
  refine wpAny_unpackItems_tuple (items := #[ya, yb, yc]) rm.1 (isTuple_of hz'.1 hto) fun h' he => ?_
  have hk : ∀ b o, s'.heap.get? b = some o → h'.get? b = some o := fun b o e => he b o (Nat.ne_of_lt (Heap.lt_size e)) e
  obtain ⟨eE, bB⟩ := nx.2.1.keep hk
  have nx1 : Nx W X noF σ' s' σ' { s' with heap := h' } := Nx.mk' (tk := s'.toks) bB eE
  have F1 := nx1.fram nx.2.1 (nx.fram B F)
  refine wpAny_bind ?_
  show wpAny _ _ (holding [yb, ya] (bindName env z yc) >>= fun _ => holding [ya] (bindName env y yb) >>= fun _ => holding [] (bindName env x ya) >>= fun _ => pure ()) _ _ _
  refine wpAny_bind (wpAny_holding (wpAny_bindName (store_local (slot_get hz) bB F1 (VRel.mono eE.fz0 _ _ hc) fun s2 nx2 F2 => ?_)))
  refine wpAny_bind (wpAny_holding (wpAny_bindName (store_local (slot_get hy) nx2.2.1 F2 (VRel.mono (nx2.2.2.fz (frF_hid F1)) _ _ (VRel.mono eE.fz0 _ _ hb)) fun s3 nx3 F3 => ?_)))
  refine wpAny_bind (wpAny_holding (wpAny_bindName (store_local (slot_get hx) nx3.2.1 F3 (VRel.mono (nx3.2.2.fz (frF_hid F2)) _ _ (VRel.mono (nx2.2.2.fz (frF_hid F1)) _ _ (VRel.mono eE.fz0 _ _ ha))) fun s4 nx4 F4 => ?_)))
  exact wpAny_pure (wpAny_pure (kk .next .next _ _ s4 ((((nx.trans nx1).weak.trans nx2).trans nx3).trans nx4) F4 rfl hq))
end
/- part A36 -/
section
variable {W : Wd} {n : Nat} {sc : Scope} {ρ : Ro} {σ : St}
theorem c_ne_bool {a b : Bool} {Q : Bool → St → Prop} (h : Q (a != b) σ) : aC W n σ .NotEq (.bool a) (.bool b) Q := fun X A s xs rm B rv E K kk => by
  obtain ⟨x, y, rfl, hx, hy⟩ := vrels2 rv
  simp only [VRel] at hx hy; subst hx; subst hy
  refine SeqAt.compareNe_shaped (.bool a) (.bool b) (by cases a <;> rfl) (by cases b <;> rfl) (by have := room_units rm; (first | lia | omega)) (kk (a != b) _ _ _ (.refl B) ?_ h)
  cases a <;> cases b <;> rfl
theorem s_flist_last {value slice : Expr} {vs : List V} {v : V} {Q : V → St → Prop} (hlen : vs.length ≤ 1000) (hv : vs[vs.length - 1]? = some v) (h : Q v σ)
    (hs : autoParam (∀ o i, subscripted slice false o i = operate [o, i] (getItem o i)) tRfl2) : aO W n σ [.flist vs, .int (-1)] (op2 (subscriptTail value slice)) (VRel W) Q := fun X A s xs rm B rv E K kk => by
  obtain ⟨x, y, rfl, hx, hy⟩ := vrels2 rv
  obtain ⟨a, ys, k, rfl, hz, hr⟩ := hx; obtain ⟨u, rfl⟩ := hy
  obtain ⟨z, h1, h2⟩ := hr.get hv
  have hL := isList_of hz.1
  have hl := hr.length
  have hlt : vs.length - 1 < ys.length := (List.getElem?_eq_some_iff.mp h1).1
  refine tail_any hL.typeIs slot_list_getitem.lookup ?_ (hs _ _)
  refine wpAny_getItem_list_neg hL (by decide) (by simp; (first | lia | omega)) (by decide) ?_ (kk v z _ _ (.refl B) h2 h)
  have e : ((-1 : Int) + (ys.toArray.size : Int)).toNat = vs.length - 1 := by simp only [List.size_toArray]; (first | lia | omega)
  rw [e]; simpa using h1
theorem VRels.take {Z : Addr → Obj → Prop} : ∀ {vs : List V} {xs : List Value} (k : Nat), VRels W Z vs xs → VRels W Z (vs.take k) (xs.take k)
  | [], _, k, h => by obtain rfl := h; simp [VRels]
  | v :: vs, _, 0, h => by simp [VRels]
  | v :: vs, _, k + 1, h => by
    obtain ⟨y, ys, rfl, h1, h2⟩ := h
    simp only [List.take_succ_cons]
    exact .cons h1 (VRels.take k h2)
theorem pick60 (items : Array Value) : slicePick items none (some 60) none = (items.toList.take 60).toArray := by
  by_cases h : items.size ≤ 60
  · have e : sliceBounds none (some (60 : Int)) none items.size = ((0 : Int), (items.size : Int), 1) := by
      simp only [sliceBounds, Option.getD_none, show (1 : Int) > 0 by decide, if_true, show ¬ ((60 : Int) < 0) by decide, if_false]
      simp; (first | lia | omega)
    have := slicePick_run items 0 items.size (Nat.le_refl _) (Nat.zero_le _)
    have e2 : sliceBounds (some ((0 : Nat) : Int)) (some (items.size : Int)) none items.size = ((0 : Int), (items.size : Int), 1) := by
      simp only [sliceBounds, Option.getD_none, show (1 : Int) > 0 by decide, if_true]
      have h2 : ¬ ((items.size : Int) < 0) := by (first | lia | omega)
      simp [h2]; (first | lia | omega)
    unfold slicePick at this ⊢
    rw [e2] at this
    rw [e, this, List.drop_zero, Nat.sub_zero]
    rw [List.take_of_length_le (by simp), List.take_of_length_le (by simpa using h)]
  · have e : sliceBounds none (some (60 : Int)) none items.size = ((0 : Int), (60 : Int), 1) := by
      simp only [sliceBounds, Option.getD_none, show (1 : Int) > 0 by decide, if_true, show ¬ ((60 : Int) < 0) by decide, if_false]
      simp; (first | lia | omega)
    have := slicePick_run items 0 60 (by (first | lia | omega)) (by decide)
    have e2 : sliceBounds (some ((0 : Nat) : Int)) (some ((60 : Nat) : Int)) none items.size = ((0 : Int), (60 : Int), 1) := by
      simp only [sliceBounds, Option.getD_none, show (1 : Int) > 0 by decide, if_true]
      simp; (first | lia | omega)
    unfold slicePick at this ⊢
    rw [e2] at this
    rw [e, this, List.drop_zero, Nat.sub_zero]
end
/- part A37 -/
section
variable {W : Wd} {n : Nat} {sc : Scope} {ρ : Ro} {σ : St}
theorem intsAre_vrels {Z : Addr → Obj → Prop} : ∀ {xs : List Value} {ns : List Int}, IntsAre xs ns → VRels W Z (ns.map V.int) xs
  | _, _, .nil => by simp [VRels]
  | _, _, .cons m t r => by
    simp only [List.map_cons]
    exact .cons (by simp only [VRel]; exact ⟨_, rfl⟩) (intsAre_vrels r)
/- xs[:60] of a list of ints of the base -/
theorem aE_slice60B {value : Expr} {kk0 : Nat} {p0 p pos : Pos} {Q : V → St → Prop} (h : aE W n sc ρ σ value (fun v σ' => ∃ a xs ns, v = .con (.ref a) ∧ W.h0.IsList a (List.toArray xs) ∧ IntsAre xs ns ∧ ns.length ≤ 100000 ∧ Q (.flist ((ns.take 60).map .int)) σ'))
    (ht : autoParam (∀ o r, letTemporaryGo value o r = pure ()) tRfl2) : aE W n sc ρ σ (.Subscript value (.Slice none (some (.Constant (.int 60) kk0 p0)) none p) pos) Q := fun X env A s rm B F E K kk => by
  refine wpAny_Subscript_list_slice (h X env A s rm B F E _ fun v x σ' s1 nx rv hq => ?_) ht
  obtain ⟨a, ys, ns, rfl, hL, hI, hl, hq⟩ := hq
  obtain rfl := rv
  rw [evalPart_none]
  refine wpAny_pure ?_
  show wpAny _ _ (eval (.Constant (.int 60) kk0 p0) env) _ _ _
  refine wpAny_Constant_int ?_
  have hyl := hI.length
  have hL1 : s1.heap.IsList a ys.toArray := hL.at (fun o e => Bears.keeps nx.2.1 _ _ e)
  refine ⟨a, ys.toArray, none, some 60, rfl, hL1, by simp [hyl, sizeLine_eq]; (first | lia | omega), .none, .int _ _, ?_⟩
  rw [pick60]
  have e1 := push_bears nx.2.1 { cls := .type "slice", data := .fields #[.none, .int 60 s1.toks, .none] }
  have e2 := push_bears e1.2 (lstO (ys.take 60) 0)
  have hf := push_fz (o := lstO (ys.take 60) 0) e1.2 rfl
  have nx2 := nx.trans (Nx.mk' (F := noF) (tk := s1.toks + 1) e2.2 (e1.1.trans e2.1))
  refine kk (.flist ((ns.take 60).map .int)) _ _ _ (by simpa using nx2) ?_ hq
  simp only [VRel]
  refine ⟨_, ys.take 60, 0, rfl, ?_, ?_⟩
  · have hsz : (s1.heap.push { cls := .type "slice", data := .fields #[.none, .int 60 s1.toks, .none] }).objs.size = s1.heap.objs.size + 1 := Heap.size_push ..
    rw [hsz] at hf
    simpa using hf
  · rw [show (ns.take 60).map V.int = (ns.map V.int).take 60 from List.map_take]
    exact VRels.take 60 (intsAre_vrels hI)
end
/- part A39 -/
/- ## an opaque post: the steps carry one variable -/
section
variable {W : Wd} {n : Nat} {sc : Scope} {ρ : Ro} {σ : St}
theorem ss_opaque {ss : List Stmt} {Q : Fl → Ro → St → Prop} (h : ∀ Q' : Fl → Ro → St → Prop, (∀ fl ρ' σ', Q fl ρ' σ' → Q' fl ρ' σ') → aSs W n sc ρ σ ss Q') : aSs W n sc ρ σ ss Q := h Q fun _ _ _ q => q
theorem acall_opaque {f : Value} {vs : List V} {Q : V → St → Prop} (h : ∀ Q' : V → St → Prop, (∀ b σ', Q b σ' → Q' b σ') → acall W n f vs σ Q') : acall W n f vs σ Q := h Q fun _ _ q => q
end
/- part B0 -/
/- the bank's places and attributes -/
set_option genInjectivity false in
structure BAd where
  self : Addr
  dx : Addr
  fn : Addr
  fa : Addr
  fr : Addr
  ops : Addr
  args : Addr
  sorts : Addr
  datas : Addr
  nums : Addr
noncomputable def battrs (ad : BAd) (ex : List (Str × V)) : List (Str × V) :=
  ("sort_names", .flist [.str "Bool", .str "Int", .str "Real"]) :: ("sort_widths", .flist [.int 0, .int 0, .int 0]) :: ("fun_names", .ref ad.fn) :: ("fun_args", .ref ad.fa) :: ("fun_results", .ref ad.fr) :: ("fresh_count", .int 0) ::
    ("term_ops", .ref ad.ops) :: ("term_args", .ref ad.args) :: ("term_sorts", .ref ad.sorts) :: ("term_datas", .ref ad.datas) :: ("numbers", .ref ad.nums) :: ex
/- part B1 -/
/- ## names of the program's things -/
noncomputable def gv (W : Wd) (x : Str) : Value := (W.mg x).getD .none
noncomputable def cA (W : Wd) (x : Str) : Addr := match W.mg x with
  | some (.ref a) => a
  | _ => 0
noncomputable def mf (W : Wd) (c x : Str) : Addr := match findIn W.K (.ref (cA W c)) x with
  | some (some (.ref a)) => a
  | _ => 0
structure FnG (W : Wd) (x : Str) (ps : List Str) (st : Stmt) : Prop where
  g : W.mg x = some (gv W x)
  k : Kp W (gv W x)
  ok : FnOk W (gv W x) ps (bodyS st) (scopeS st)
structure MtG (W : Wd) (c x : Str) (ps : List Str) (st : Stmt) : Prop where
  m : MethOk W (cA W c) x (mf W c x)
  ok : FnOk W (.ref (mf W c x)) ps (bodyS st) (scopeS st)
structure ClG (W : Wd) (c : Str) : Prop where
  g : W.mg c = some (.ref (cA W c))
  k : Kp W (.ref (cA W c))
  cls : ClsOk W (cA W c)
  new : NewOk W (cA W c) (mf W c "__init__")
section
variable {W : Wd} {n : Nat} {sc : Scope} {ρ : Ro} {σ : St}
/- a call of a global def -/
theorem aE_fn {x : Str} {i : Nat} {p pos : Pos} {args : List Expr} {f : Value} {Q : V → St → Prop} (hs : slot sc x = some (i, NameKind.globalImplicit)) (hg : W.mg x = some f) (hk : Kp W f) (h : aEs W n sc ρ σ args (KCall W n f Q))
    (hn : autoParam (args.all notStar = true) tRfl) (hd : autoParam ((x == ("__debug__" : Str)) = false) tDec) : aE W n sc ρ σ (.Call (.Name x p) args [] pos) Q :=
  aE_call (aE_glob (v := .con f) hs ⟨f, hg, by simp only [VRel]⟩ ⟨f, rfl, hk, h⟩ hd) hn
/- a call of a builtin -/
theorem aE_bf {x : Str} {i : Nat} {p pos : Pos} {args : List Expr} {f : Value} {Q : V → St → Prop} (hs : slot sc x = some (i, NameKind.globalImplicit)) (hg : W.mg x = none) (hb : bootBuiltins x = some f) (hk : Kp W f) (h : aEs W n sc ρ σ args (KCall W n f Q))
    (hn : autoParam (args.all notStar = true) tRfl) (hd : autoParam ((x == ("__debug__" : Str)) = false) tDec) (hn' : autoParam (x ≠ "__name__") tDec) : aE W n sc ρ σ (.Call (.Name x p) args [] pos) Q :=
  aE_call (aE_builtin hs hg hb ⟨f, rfl, hk, h⟩ hd hn') hn
end
/- ## all that is asked of the program -/
structure Prog (W : Wd) : Prop where
  nb : ∀ x ∈ ([ "abs", "len", "max", "min", "sorted", "tuple", "list", "dict", "set", "range", "enumerate", "zip" ] : List Str), W.mg x = none
  zero : GV W "ZERO" (.tup [.int 0, .int 1])
  one : GV W "ONE" (.tup [.int 1, .int 1])
  mone : GV W "MINUS_ONE" (.tup [.int (-1), .int 1])
  bool : GV W "BOOL" (.int 0)
  int : GV W "INT" (.int 1)
  real : GV W "REAL" (.int 2)
  f8 : FnG W "gcd_of" ["a", "b"] (top 8)
  f9 : FnG W "ratio" ["top", "bottom"] (top 9)
  f10 : FnG W "add" ["a", "b"] (top 10)
  f11 : FnG W "mul" ["a", "b"] (top 11)
  f12 : FnG W "is_whole" ["a"] (top 12)
  f15 : FnG W "form_of" ["bank", "t"] (top 15)
  f16 : FnG W "difference_of" ["bank", "one", "other"] (top 16)
  f17 : FnG W "term_of_form" ["bank", "form", "sort"] (top 17)
  f18 : FnG W "atom_of_row" ["bank", "row", "sort"] (top 18)
  f27 : FnG W "_law_next" ["tape", "many"] (top 27)
  f28 : FnG W "_law_pick" ["tape", "some"] (top 28)
  f29 : FnG W "_law_low" ["top", "bottom"] (top 29)
  f30 : FnG W "_law_sum" ["a", "b", "factor"] (top 30)
  f31 : FnG W "_law_row_sum" ["one", "other", "factor"] (top 31)
  f32 : FnG W "_law_told" ["form"] (top 32)
  f33 : FnG W "_law_factor" ["tape", "sort"] (top 33)
  f34 : FnG W "_law_term" ["tape", "bank", "sort", "pool"] (top 34)
  f35 : FnG W "_law_is_written" ["bank", "t", "row", "sort"] (top 35)
  f36 : FnG W "_law_worth" ["row", "point"] (top 36)
  f37 : FnG W "_law_is_form_led" ["tape", "sort", "leaves"] (top 37)
  f38 : FnG W "_law_is_atom_right" ["bank", "sort", "row", "relation", "bound"] (top 38)
  f39 : FnG W "law" ["script"] (top 39)
  cL : ClG W "LinearForm"
  cN : ClG W "NumberBank"
  m14_0 : MtG W "LinearForm" "__init__" ["self"] (meth 14 0)
  m14_1 : MtG W "LinearForm" "add_part" ["self", "term", "factor"] (meth 14 1)
  m14_2 : MtG W "LinearForm" "add_constant" ["self", "number"] (meth 14 2)
  m14_3 : MtG W "LinearForm" "add_form" ["self", "other", "factor"] (meth 14 3)
  m14_4 : MtG W "LinearForm" "sorted_parts" ["self"] (meth 14 4)
  m14_5 : MtG W "LinearForm" "evaluate" ["self", "values"] (meth 14 5)
  m23_0 : MtG W "NumberBank" "__init__" ["self"] (meth 23 0)
  m23_4 : MtG W "NumberBank" "is_number_sort" ["self", "s"] (meth 23 4)
  m23_6 : MtG W "NumberBank" "declare_fun" ["self", "name", "arg_sorts", "result"] (meth 23 6)
  m23_8 : MtG W "NumberBank" "fresh_const" ["self", "name", "s"] (meth 23 8)
  m23_13 : MtG W "NumberBank" "op" ["self", "t"] (meth 23 13)
  m23_14 : MtG W "NumberBank" "args" ["self", "t"] (meth 23 14)
  m23_15 : MtG W "NumberBank" "sort" ["self", "t"] (meth 23 15)
  m23_16 : MtG W "NumberBank" "data" ["self", "t"] (meth 23 16)
  m23_19 : MtG W "NumberBank" "make" ["self", "op", "args", "sort", "data"] (meth 23 19)
  m23_22 : MtG W "NumberBank" "want" ["self", "t", "s", "where"] (meth 23 22)
  m23_23 : MtG W "NumberBank" "want_all" ["self", "some", "s", "where"] (meth 23 23)
  m23_24 : MtG W "NumberBank" "true_term" ["self"] (meth 23 24)
  m24_6 : MtG W "NumberBank" "eq" ["self", "a", "b"] (meth 24 6)
  m24_8 : MtG W "NumberBank" "ite" ["self", "c", "a", "b"] (meth 24 8)
  m24_9 : MtG W "NumberBank" "app" ["self", "f", "some"] (meth 24 9)
  m25_0 : MtG W "NumberBank" "num" ["self", "value", "s"] (meth 25 0)
  m25_1 : MtG W "NumberBank" "want_number" ["self", "t", "where"] (meth 25 1)
  m25_2 : MtG W "NumberBank" "plus" ["self", "some"] (meth 25 2)
  m25_3 : MtG W "NumberBank" "times_num" ["self", "value", "t"] (meth 25 3)
  m25_6 : MtG W "NumberBank" "negative" ["self", "t"] (meth 25 6)
  m25_7 : MtG W "NumberBank" "minus" ["self", "a", "b"] (meth 25 7)
  m25_8 : MtG W "NumberBank" "le" ["self", "a", "b"] (meth 25 8)
  m25_9 : MtG W "NumberBank" "lt" ["self", "a", "b"] (meth 25 9)
  naL : ∀ x ∈ (["parts", "constant"] : List Str), findIn W.K (.ref (cA W "LinearForm")) x = some none
  naN : ∀ x ∈ (["sort_names", "sort_widths", "fun_names", "fun_args", "fun_results", "fresh_count", "term_ops", "term_args", "term_sorts", "term_datas", "numbers", "true_number", "false_number"] : List Str), findIn W.K (.ref (cA W "NumberBank")) x = some none
/- ## the program's names, by a look in a list -/
noncomputable def lkS {α : Type} (x : Str) : List (Str × α) → Option α
  | [] => none
  | (y, v) :: r => if x = y then some v else lkS x r
theorem lkS_mem {α : Type} {x : Str} {v : α} : ∀ {l : List (Str × α)}, lkS x l = some v → (x, v) ∈ l
  | [], h => nomatch h
  | (y, u) :: r, h => by
    unfold lkS at h
    split at h
    · rename_i e; subst e; cases h; exact .head _
    · exact .tail _ (lkS_mem h)
noncomputable def okV : V → Option V
  | .con (.builtin _) => none
  | v => some v
theorem okV_of {v : V} : ∀ {o : Option V}, o.bind okV = some v → o = some v ∧ ∀ i, v ≠ .con (.builtin i)
  | none, h => nomatch h
  | some u, h => by
    have h : okV u = some v := h
    unfold okV at h
    split at h
    · cases h
    · rename_i hu; cases h; exact ⟨rfl, hu⟩
noncomputable def gvs : List (Str × V) := [("ZERO", .tup [.int 0, .int 1]), ("ONE", .tup [.int 1, .int 1]), ("MINUS_ONE", .tup [.int (-1), .int 1]), ("BOOL", .int 0), ("INT", .int 1), ("REAL", .int 2)]
noncomputable def bfs : List (Str × Value) := [("abs", .builtin "abs"), ("len", .builtin "len"), ("max", .builtin "max"), ("min", .builtin "min"), ("sorted", .builtin "sorted"), ("tuple", .type "tuple"), ("list", .type "list"), ("dict", .type "dict"), ("set", .type "set")]
noncomputable def fnNs : List Str := ["gcd_of", "ratio", "add", "mul", "is_whole", "form_of", "difference_of", "term_of_form", "atom_of_row", "_law_next", "_law_pick", "_law_low", "_law_sum", "_law_row_sum", "_law_told", "_law_factor", "_law_term", "_law_is_written", "_law_worth", "_law_is_form_led", "_law_is_atom_right", "law"]
noncomputable def mLs : List Str := ["__init__", "add_part", "add_constant", "add_form", "sorted_parts", "evaluate"]
noncomputable def mNs : List Str := ["__init__", "is_number_sort", "declare_fun", "fresh_const", "op", "args", "sort", "data", "make", "want", "want_all", "true_term", "eq", "ite", "app", "num", "want_number", "plus", "times_num", "negative", "minus", "le", "lt"]
noncomputable abbrev aLs : List Str := ["parts", "constant"]
noncomputable abbrev aNs : List Str := ["sort_names", "sort_widths", "fun_names", "fun_args", "fun_results", "fresh_count", "term_ops", "term_args", "term_sorts", "term_datas", "numbers", "true_number", "false_number"]
section
variable {W : Wd} {n : Nat} {sc : Scope} {ρ : Ro} {σ : St} (P : Prog W)
include P
theorem Prog.gvs : ∀ p ∈ gvs, GV W p.1 p.2 := List.forall_mem_cons.mpr ⟨P.zero, List.forall_mem_cons.mpr ⟨P.one, List.forall_mem_cons.mpr ⟨P.mone, List.forall_mem_cons.mpr ⟨P.bool, List.forall_mem_cons.mpr ⟨P.int, List.forall_mem_cons.mpr ⟨P.real, (fun _ h => nomatch h)⟩⟩⟩⟩⟩⟩
theorem Prog.bfs : ∀ p ∈ bfs, W.mg p.1 = none ∧ bootBuiltins p.1 = some p.2 ∧ Kp W p.2 ∧ p.1 ≠ "__name__" := List.forall_mem_cons.mpr ⟨⟨P.nb _ (by decide +kernel), PyProof.Rows.Boot.abs, Kp.builtin _ _, by decide +kernel⟩, List.forall_mem_cons.mpr ⟨⟨P.nb _ (by decide +kernel), PyProof.Rows.Boot.len, Kp.builtin _ _, by decide +kernel⟩, List.forall_mem_cons.mpr ⟨⟨P.nb _ (by decide +kernel), PyProof.Rows.Boot.max, Kp.builtin _ _, by decide +kernel⟩, List.forall_mem_cons.mpr ⟨⟨P.nb _ (by decide +kernel), PyProof.Rows.Boot.min, Kp.builtin _ _, by decide +kernel⟩, List.forall_mem_cons.mpr ⟨⟨P.nb _ (by decide +kernel), PyProof.Rows.Boot.sorted, Kp.builtin _ _, by decide +kernel⟩, List.forall_mem_cons.mpr ⟨⟨P.nb _ (by decide +kernel), PyProof.Rows.Boot.tuple, Kp.type _ _, by decide +kernel⟩, List.forall_mem_cons.mpr ⟨⟨P.nb _ (by decide +kernel), PyProof.Rows.Boot.list, Kp.type _ _, by decide +kernel⟩, List.forall_mem_cons.mpr ⟨⟨P.nb _ (by decide +kernel), PyProof.Rows.Boot.dict, Kp.type _ _, by decide +kernel⟩, List.forall_mem_cons.mpr ⟨⟨P.nb _ (by decide +kernel), PyProof.Rows.Boot.set, Kp.type _ _, by decide +kernel⟩, (fun _ h => nomatch h)⟩⟩⟩⟩⟩⟩⟩⟩⟩
theorem Prog.fns : ∀ x ∈ fnNs, W.mg x = some (gv W x) ∧ Kp W (gv W x) := List.forall_mem_cons.mpr ⟨⟨P.f8.g, P.f8.k⟩, List.forall_mem_cons.mpr ⟨⟨P.f9.g, P.f9.k⟩, List.forall_mem_cons.mpr ⟨⟨P.f10.g, P.f10.k⟩, List.forall_mem_cons.mpr ⟨⟨P.f11.g, P.f11.k⟩, List.forall_mem_cons.mpr ⟨⟨P.f12.g, P.f12.k⟩, List.forall_mem_cons.mpr ⟨⟨P.f15.g, P.f15.k⟩, List.forall_mem_cons.mpr ⟨⟨P.f16.g, P.f16.k⟩, List.forall_mem_cons.mpr ⟨⟨P.f17.g, P.f17.k⟩, List.forall_mem_cons.mpr ⟨⟨P.f18.g, P.f18.k⟩, List.forall_mem_cons.mpr ⟨⟨P.f27.g, P.f27.k⟩, List.forall_mem_cons.mpr ⟨⟨P.f28.g, P.f28.k⟩, List.forall_mem_cons.mpr ⟨⟨P.f29.g, P.f29.k⟩, List.forall_mem_cons.mpr ⟨⟨P.f30.g, P.f30.k⟩, List.forall_mem_cons.mpr ⟨⟨P.f31.g, P.f31.k⟩, List.forall_mem_cons.mpr ⟨⟨P.f32.g, P.f32.k⟩, List.forall_mem_cons.mpr ⟨⟨P.f33.g, P.f33.k⟩, List.forall_mem_cons.mpr ⟨⟨P.f34.g, P.f34.k⟩, List.forall_mem_cons.mpr ⟨⟨P.f35.g, P.f35.k⟩, List.forall_mem_cons.mpr ⟨⟨P.f36.g, P.f36.k⟩, List.forall_mem_cons.mpr ⟨⟨P.f37.g, P.f37.k⟩, List.forall_mem_cons.mpr ⟨⟨P.f38.g, P.f38.k⟩, List.forall_mem_cons.mpr ⟨⟨P.f39.g, P.f39.k⟩, (fun _ h => nomatch h)⟩⟩⟩⟩⟩⟩⟩⟩⟩⟩⟩⟩⟩⟩⟩⟩⟩⟩⟩⟩⟩⟩
theorem Prog.mLs : ∀ x ∈ mLs, MethOk W (cA W "LinearForm") x (mf W "LinearForm" x) := List.forall_mem_cons.mpr ⟨P.m14_0.m, List.forall_mem_cons.mpr ⟨P.m14_1.m, List.forall_mem_cons.mpr ⟨P.m14_2.m, List.forall_mem_cons.mpr ⟨P.m14_3.m, List.forall_mem_cons.mpr ⟨P.m14_4.m, List.forall_mem_cons.mpr ⟨P.m14_5.m, (fun _ h => nomatch h)⟩⟩⟩⟩⟩⟩
theorem Prog.mNs : ∀ x ∈ mNs, MethOk W (cA W "NumberBank") x (mf W "NumberBank" x) := List.forall_mem_cons.mpr ⟨P.m23_0.m, List.forall_mem_cons.mpr ⟨P.m23_4.m, List.forall_mem_cons.mpr ⟨P.m23_6.m, List.forall_mem_cons.mpr ⟨P.m23_8.m, List.forall_mem_cons.mpr ⟨P.m23_13.m, List.forall_mem_cons.mpr ⟨P.m23_14.m, List.forall_mem_cons.mpr ⟨P.m23_15.m, List.forall_mem_cons.mpr ⟨P.m23_16.m, List.forall_mem_cons.mpr ⟨P.m23_19.m, List.forall_mem_cons.mpr ⟨P.m23_22.m, List.forall_mem_cons.mpr ⟨P.m23_23.m, List.forall_mem_cons.mpr ⟨P.m23_24.m, List.forall_mem_cons.mpr ⟨P.m24_6.m, List.forall_mem_cons.mpr ⟨P.m24_8.m, List.forall_mem_cons.mpr ⟨P.m24_9.m, List.forall_mem_cons.mpr ⟨P.m25_0.m, List.forall_mem_cons.mpr ⟨P.m25_1.m, List.forall_mem_cons.mpr ⟨P.m25_2.m, List.forall_mem_cons.mpr ⟨P.m25_3.m, List.forall_mem_cons.mpr ⟨P.m25_6.m, List.forall_mem_cons.mpr ⟨P.m25_7.m, List.forall_mem_cons.mpr ⟨P.m25_8.m, List.forall_mem_cons.mpr ⟨P.m25_9.m, (fun _ h => nomatch h)⟩⟩⟩⟩⟩⟩⟩⟩⟩⟩⟩⟩⟩⟩⟩⟩⟩⟩⟩⟩⟩⟩⟩
/- a call of a builtin -/
theorem r_bf {x : Str} {i : Nat} {p pos : Pos} {args : List Expr} {f : Value} {Q : V → St → Prop} (hs : autoParam (slot sc x = some (i, NameKind.globalImplicit)) tRfl) (hb : autoParam (lkS x bfs = some f) tRfl)
    (h : aEs W n sc ρ σ args (KCall W n f Q)) (hn : autoParam (args.all notStar = true) tRfl) (hd : autoParam ((x == ("__debug__" : Str)) = false) tDec) : aE W n sc ρ σ (.Call (.Name x p) args [] pos) Q :=
  have b := P.bfs _ (lkS_mem hb); aE_bf hs b.1 b.2.1 b.2.2.1 h hn hd b.2.2.2
/- a call of a def -/
theorem r_fn {x : Str} {i : Nat} {p pos : Pos} {args : List Expr} {Q : V → St → Prop} (hs : autoParam (slot sc x = some (i, NameKind.globalImplicit)) tRfl) (hx : autoParam (x ∈ fnNs) tDecK)
    (h : aEs W n sc ρ σ args (KCall W n (gv W x) Q)) (hn : autoParam (args.all notStar = true) tRfl) (hd : autoParam ((x == ("__debug__" : Str)) = false) tDec) : aE W n sc ρ σ (.Call (.Name x p) args [] pos) Q :=
  aE_fn hs (P.fns x hx).1 (P.fns x hx).2 h hn hd
/- an object made -/
theorem r_cN {i : Nat} {p pos : Pos} {args : List Expr} {Q : V → St → Prop} (hs : autoParam (slot sc "NumberBank" = some (i, NameKind.globalImplicit)) tRfl)
    (h : aEs W n sc ρ σ args (KCall W n (.ref (cA W "NumberBank")) Q)) (hn : autoParam (args.all notStar = true) tRfl) : aE W n sc ρ σ (.Call (.Name "NumberBank" p) args [] pos) Q :=
  aE_fn hs P.cN.g P.cN.k h hn (by decide)
theorem r_cL {i : Nat} {p pos : Pos} {args : List Expr} {Q : V → St → Prop} (hs : autoParam (slot sc "LinearForm" = some (i, NameKind.globalImplicit)) tRfl)
    (h : aEs W n sc ρ σ args (KCall W n (.ref (cA W "LinearForm")) Q)) (hn : autoParam (args.all notStar = true) tRfl) : aE W n sc ρ σ (.Call (.Name "LinearForm" p) args [] pos) Q :=
  aE_fn hs P.cL.g P.cL.k h hn (by decide)
variable {a dx : Addr} {attrs : List (Str × V)}
/- attributes and methods of the two classes' instances -/
theorem x_getN {x : Str} {v : V} {Q : V → St → Prop} (hm : (a, .inst (cA W "NumberBank") dx attrs) ∈ σ) (hv : (attrs.lookup x).bind okV = some v) (h : Q v σ) (hx : autoParam (x ∈ aNs) tDecK) : AttrX W x Q (.ref a) σ :=
  ⟨_, _, _, _, _, rfl, hm, (okV_of hv).1, P.cN.cls, P.naN _ hx, (okV_of hv).2, h⟩
theorem x_getL {x : Str} {v : V} {Q : V → St → Prop} (hm : (a, .inst (cA W "LinearForm") dx attrs) ∈ σ) (hv : (attrs.lookup x).bind okV = some v) (h : Q v σ) (hx : autoParam (x ∈ aLs) tDecK) : AttrX W x Q (.ref a) σ :=
  ⟨_, _, _, _, _, rfl, hm, (okV_of hv).1, P.cL.cls, P.naL _ hx, (okV_of hv).2, h⟩
theorem x_methN {x : Str} {args : List Expr} {Q : V → St → Prop} (hm : (a, .inst (cA W "NumberBank") dx attrs) ∈ σ) (hn : attrs.lookup x = none) (h : aEs W n sc ρ σ args (KCallM W n (mf W "NumberBank" x) a Q)) (hx : autoParam (x ∈ mNs) tDecK) :
    MethX W n sc ρ x args Q (.ref a) σ := ⟨_, _, _, _, _, rfl, hm, hn, P.cN.cls, P.mNs x hx, h⟩
theorem x_methL {x : Str} {args : List Expr} {Q : V → St → Prop} (hm : (a, .inst (cA W "LinearForm") dx attrs) ∈ σ) (hn : attrs.lookup x = none) (h : aEs W n sc ρ σ args (KCallM W n (mf W "LinearForm" x) a Q)) (hx : autoParam (x ∈ mLs) tDecK) :
    MethX W n sc ρ x args Q (.ref a) σ := ⟨_, _, _, _, _, rfl, hm, hn, P.cL.cls, P.mLs x hx, h⟩
theorem x_setN {x : Str} {v : V} {rest : List Stmt} {σ' : St} {Q : Fl → Ro → St → Prop} (hu : Upd (a, .inst (cA W "NumberBank") dx attrs) (a, .inst (cA W "NumberBank") dx (setA x v attrs)) σ σ') (hl : Nat.ble attrs.length 900 = true) (h : aSs W n sc ρ σ' rest Q)
    (hx : autoParam (x ∈ aNs) tDecK) : SetX W n sc ρ rest Q x v (.ref a) σ := ⟨_, _, _, _, _, rfl, hu, P.cN.cls, P.naN _ hx, Nat.le_of_ble_eq_true hl, h⟩
theorem x_setL {x : Str} {v : V} {rest : List Stmt} {σ' : St} {Q : Fl → Ro → St → Prop} (hu : Upd (a, .inst (cA W "LinearForm") dx attrs) (a, .inst (cA W "LinearForm") dx (setA x v attrs)) σ σ') (hl : Nat.ble attrs.length 900 = true) (h : aSs W n sc ρ σ' rest Q)
    (hx : autoParam (x ∈ aLs) tDecK) : SetX W n sc ρ rest Q x v (.ref a) σ := ⟨_, _, _, _, _, rfl, hu, P.cL.cls, P.naL _ hx, Nat.le_of_ble_eq_true hl, h⟩
end
theorem and_len {vs : List V} {q : Prop} (h : q) (hl : autoParam (Nat.ble vs.length 1000 = true) tRfl) : vs.length ≤ 1000 ∧ q := ⟨Nat.le_of_ble_eq_true hl, h⟩
theorem and_none {q : Prop} (h : q) : V.none = V.none ∧ q := ⟨rfl, h⟩
theorem isB {P : Bool → Prop} {b : Bool} (h : P b) : IsB P (.bool b) := ⟨b, rfl, h⟩
/- ## plain expressions, whose value is read off in one step: names, constants, tuples, + and - of ints, an item of a tuple, a comparison of ints or strs -/
noncomputable def vadd (s : Operator) (v u : V) : Option V := match v with
  | .int a => match u with
    | .int b => match s with
      | .Add => some (.int (a + b))
      | .Sub => some (.int (a - b))
      | _ => none
    | _ => none
  | _ => none
noncomputable def vcmp (op : CmpOp) (v u : V) : Option Bool := match v with
  | .int a => match u with
    | .int b => match op with
      | .Eq => some (decide (a = b))
      | .NotEq => some (decide (a ≠ b))
      | .Lt => some (decide (a < b))
      | .Gt => some (decide (b < a))
      | _ => none
    | _ => none
  | .str a => match u with
    | .str b => match op with
      | .Eq => some (decide (a = b))
      | _ => none
    | _ => none
  | _ => none
noncomputable def vcon : Const → Option V
  | .int i => some (.int i)
  | .str x => some (.str x)
  | .none => some .none
  | .bool b => some (.bool b)
  | _ => none
noncomputable def vget (ρ : Ro) (i : Nat) : Option V := match ρ[i]? with
  | some o => o
  | none => none
noncomputable def vname (x : Str) (ρ : Ro) : Option (Nat × NameKind) → Option V
  | some p => match p.2 with
    | .local => vget ρ p.1
    | .cell => vget ρ p.1
    | .globalImplicit => lkS x gvs
    | _ => none
  | none => none
noncomputable def vitem (o : V) (i : Expr) : Option V := match i with
  | .Constant c _ _ => match c with
    | .int j => match j with
      | .ofNat j => match o with
        | .tup vs => match Nat.ble j 1000 with
          | true => vs[j]?
          | false => none
        | _ => none
      | _ => none
    | _ => none
  | _ => none
noncomputable def pvs (f : Expr → Option V) : List Expr → Option (List V)
  | [] => some []
  | e :: es => match f e with
    | some v => match pvs f es with
      | some vs => some (v :: vs)
      | none => none
    | none => none
noncomputable def pev2 {α : Type} (f : Expr → Option V) (k : V → V → Option α) (l r : Expr) : Option α := match f l with
  | some v => match f r with
    | some u => k v u
    | none => none
  | none => none
noncomputable def pname (sc : Scope) (ρ : Ro) (x : Str) : Option V := match decide (x = "__debug__") with
  | true => none
  | false => vname x ρ (slot sc x)
noncomputable def ptup (vs : List V) : Option V := match Nat.ble vs.length 1000 with
  | true => some (.tup vs)
  | false => none
noncomputable def pev (sc : Scope) (ρ : Ro) : Nat → Expr → Option V
  | 0, _ => none
  | n + 1, e => match e with
    | .Constant c _ _ => vcon c
    | .Name x _ => pname sc ρ x
    | .Tuple es _ _ => (pvs (pev sc ρ n) es).bind ptup
    | .BinOp l op r _ => pev2 (pev sc ρ n) (vadd op) l r
    | .Subscript o i _ => (pev sc ρ n o).bind fun v => vitem v i
    | .Compare l ops rs _ => match ops with
      | [op] => match rs with
        | [r] => pev2 (pev sc ρ n) (fun v u => (vcmp op v u).map .bool) l r
        | _ => none
      | _ => none
    | _ => none
section
variable {W : Wd} {n : Nat} {sc : Scope} {ρ : Ro} {σ : St}
theorem si {α : Type} {a v : α} {Q : α → St → Prop} (h : some a = some v) (k : Q v σ) : Q a σ := Option.some.inj h ▸ k
theorem vadd_ok {s : Operator} {v u w : V} {Q : V → St → Prop} (h : vadd s v u = some w) (q : Q w σ) : aO W n σ [v, u] (op2 (binaryOp s)) (VRel W) Q := by
  cases v with
  | int a =>
    cases u with
    | int b =>
      cases s with
      | Add => exact o_add (si h q)
      | Sub => exact o_sub (si h q)
      | _ => exact nn h
    | _ => exact nn h
  | _ => exact nn h
theorem vcmp_ok {op : CmpOp} {v u : V} {b : Bool} {Q : Bool → St → Prop} (h : vcmp op v u = some b) (q : Q b σ) : (∀ r, behindInMarks op r = false) ∧ aC W n σ op v u Q := by
  have mk : ∀ op : CmpOp, (op == .In || op == .NotIn) = false → ∀ r, behindInMarks op r = false := fun op e r => by
    cases r with
    | Set elts k p => show (k == 0 && (op == .In || op == .NotIn) && elts.all (constantsAlone 8)) = false; rw [e, Bool.and_false, Bool.false_and]
    | _ => rfl
  cases v with
  | int a =>
    cases u with
    | int b =>
      cases op with
      | Eq => exact ⟨mk _ rfl, c_eq_int (si h q)⟩
      | NotEq => exact ⟨mk _ rfl, c_ne_int (si h q)⟩
      | Lt => exact ⟨mk _ rfl, c_lt_int (si h q)⟩
      | Gt => exact ⟨mk _ rfl, c_gt_int (si h q)⟩
      | _ => exact nn h
    | _ => exact nn h
  | str a =>
    cases u with
    | str b =>
      cases op with
      | Eq => exact ⟨mk _ rfl, c_eq_str (si h q)⟩
      | _ => exact nn h
    | _ => exact nn h
  | _ => exact nn h
theorem vget_ok {i : Nat} {v : V} (h : vget ρ i = some v) : ρ[i]? = some (some v) := by
  cases e : ρ[i]? with
  | none => unfold vget at h; rw [e] at h; cases h
  | some o => unfold vget at h; rw [e] at h; exact congrArg some h
theorem pev_star {e : Expr} {v : V} : ∀ {k : Nat}, pev sc ρ k e = some v → notStar e = true
  | 0, h => nn h
  | k + 1, h => by cases e <;> first | rfl | exact nn h
theorem pvs_ok {k : Nat} (ih : ∀ e v (σ : St) (Q : V → St → Prop), pev sc ρ k e = some v → Q v σ → aE W n sc ρ σ e Q) : ∀ es vs (σ : St) (Q : List V → St → Prop), pvs (pev sc ρ k) es = some vs → Q vs σ → aEs W n sc ρ σ es Q
  | [], vs, σ, Q, h, q => by cases h; exact aEs_nil q
  | e :: es, vs, σ, Q, h, q => by
    unfold pvs at h
    cases h1 : pev sc ρ k e with
    | none => rw [h1] at h; cases h
    | some v =>
      rw [h1] at h
      cases h2 : pvs (pev sc ρ k) es with
      | none => rw [h2] at h; cases h
      | some us =>
        rw [h2] at h; cases h
        exact aEs_cons (ih _ _ _ _ h1 (pvs_ok ih es us _ _ h2 q)) fun env => starEach_plain (pev_star h1)
theorem pev2_ok {α : Type} {f : Expr → Option V} {k : V → V → Option α} {l r : Expr} {w : α} (h : pev2 f k l r = some w) : ∃ v u, f l = some v ∧ f r = some u ∧ k v u = some w := by
  unfold pev2 at h
  cases h1 : f l with
  | none => rw [h1] at h; cases h
  | some v =>
    rw [h1] at h
    cases h2 : f r with
    | none => rw [h2] at h; cases h
    | some u => rw [h2] at h; exact ⟨v, u, rfl, rfl, h⟩
theorem pev_ok (P : Prog W) : ∀ k, ∀ e v (σ : St) (Q : V → St → Prop), pev sc ρ k e = some v → Q v σ → aE W n sc ρ σ e Q
  | 0, e, v, σ, Q, h, q => nn h
  | k + 1, e, v, σ, Q, h, q => by
    cases e with
    | Constant c a pos =>
      cases c with
      | int i => exact aE_int (si h q)
      | str i => exact aE_str (si h q)
      | none => exact aE_none (si h q)
      | bool i => exact aE_bool (si h q)
      | _ => exact nn h
    | Name x pos =>
      have h : pname sc ρ x = some v := h
      unfold pname at h
      cases hd : decide (x = ("__debug__" : Str)) with
      | true => rw [hd] at h; cases h
      | false =>
        rw [hd] at h
        have hd' : (x == ("__debug__" : Str)) = false := by simpa using hd
        have h : vname x ρ (slot sc x) = some v := h
        cases hs : slot sc x with
        | none => rw [hs] at h; cases h
        | some p =>
          rw [hs] at h
          obtain ⟨i, kd⟩ := p
          cases kd with
          | «local» => exact aE_local hs (vget_ok h) q hd'
          | cell => exact aE_cell hs (vget_ok h) q hd'
          | globalImplicit => exact aE_glob hs (P.gvs _ (lkS_mem h)) q hd'
          | _ => exact nn h
    | Tuple es a pos =>
      obtain ⟨vs, h1, h2⟩ := Option.bind_eq_some_iff.mp (show (pvs (pev sc ρ k) es).bind ptup = some v from h)
      unfold ptup at h2
      cases h3 : Nat.ble vs.length 1000 with
      | false => rw [h3] at h2; cases h2
      | true => rw [h3] at h2; cases h2; exact aE_tuple (pvs_ok (pev_ok P k) _ _ _ _ h1 ⟨Nat.le_of_ble_eq_true h3, q⟩)
    | BinOp l op r pos =>
      obtain ⟨v, u, h1, h2, h3⟩ := pev2_ok h
      exact aE_binop (pev_ok P k _ _ _ _ h1 (pev_ok P k _ _ _ _ h2 (vadd_ok h3 q)))
    | Subscript o i pos =>
      obtain ⟨w, h1, h⟩ := Option.bind_eq_some_iff.mp (show ((pev sc ρ k o).bind fun v => vitem v i) = some v from h)
      cases i with
      | Constant c a p =>
        cases c with
        | int j =>
          cases j with
          | ofNat j =>
            cases w with
            | tup vs =>
              cases h2 : Nat.ble j 1000 with
              | false => unfold vitem at h; simp only [h2] at h; cases h
              | true =>
                unfold vitem at h
                simp only [h2] at h
                have := Nat.le_of_ble_eq_true h2
                exact aE_sub (pev_ok P k _ _ _ _ h1 (aE_int (s_tup (Int.natCast_nonneg _) (by show ((j : Nat) : Int) < _; (first | lia | omega)) h q)))
            | _ => exact nn h
          | _ => exact nn h
        | _ => exact nn h
      | _ => exact nn h
    | Compare l ops rs pos =>
      cases ops with
      | nil => cases h
      | cons op ops =>
        cases ops with
        | cons _ _ => cases h
        | nil =>
          cases rs with
          | nil => cases h
          | cons r rs =>
            cases rs with
            | cons _ _ => cases h
            | nil =>
              obtain ⟨v, u, h1, h2, h3⟩ := pev2_ok h
              obtain ⟨b, h4, rfl⟩ := Option.map_eq_some_iff.mp h3
              have h5 := vcmp_ok (W := W) (n := n) (σ := σ) (Q := fun b => Q (.bool b)) h4 q
              exact aE_cmp (pev_ok P k _ _ _ _ h1 (pev_ok P k _ _ _ _ h2 h5.2)) (h5.1 r)
    | _ => exact nn h
theorem r_pure (P : Prog W) {e : Expr} {v : V} {Q : V → St → Prop} (hv : autoParam (pev sc ρ 8 e = some v) tRfl) (h : Q v σ) : aE W n sc ρ σ e Q := pev_ok P 8 _ _ _ _ hv h
theorem r_args (P : Prog W) {es : List Expr} {vs : List V} {Q : List V → St → Prop} (hv : autoParam (pvs (pev sc ρ 8) es = some vs) tRfl) (h : Q vs σ) : aEs W n sc ρ σ es Q := pvs_ok (pev_ok P 8) _ _ _ _ hv h
/- a test that is one comparison of plain things -/
noncomputable def pevT (sc : Scope) (ρ : Ro) (e : Expr) : Option Bool := match e with
  | .Compare l ops rs _ => match ops with
    | [op] => match rs with
      | [r] => pev2 (pev sc ρ 8) (vcmp op) l r
      | _ => none
    | _ => none
  | _ => none
theorem r_test (P : Prog W) {e : Expr} {b : Bool} {Q : Bool → St → Prop} (hv : autoParam (pevT sc ρ e = some b) tRfl) (h : Q b σ) : aT W n sc ρ σ e Q := by
  cases e with
  | Compare l ops rs pos =>
    cases ops with
    | nil => exact nn hv
    | cons op ops =>
      cases ops with
      | cons _ _ => exact nn hv
      | nil =>
        cases rs with
        | nil => exact nn hv
        | cons r rs =>
          cases rs with
          | cons _ _ => exact nn hv
          | nil =>
            obtain ⟨v, u, h1, h2, h3⟩ := pev2_ok hv
            have h5 := vcmp_ok (W := W) (n := n) (σ := σ) (Q := Q) h3 h
            exact aT_cmp (pev_ok P 8 _ _ _ _ h1 (pev_ok P 8 _ _ _ _ h2 h5.2)) (h5.1 r)
  | _ => exact nn hv
/- a branch whose test is known -/
theorem ss_t {b o : List Stmt} {c : Bool} {Q : Fl → Ro → St → Prop} (hc : c = true) (h : aSs W n sc ρ σ b Q) : aSs W n sc ρ σ (if c = true then b else o) Q := by subst hc; exact h
theorem ss_f {b o : List Stmt} {c : Bool} {Q : Fl → Ro → St → Prop} (hc : c = false) (h : aSs W n sc ρ σ o Q) : aSs W n sc ρ σ (if c = true then b else o) Q := by subst hc; exact h
end
theorem p_t {p q : Prop} {c : Bool} (hc : c = true) (h : p) : if c = true then p else q := by subst hc; exact h
theorem p_f {p q : Prop} {c : Bool} (hc : c = false) (h : q) : if c = true then p else q := by subst hc; exact h
theorem ne_f {α : Type} {a b : α} [Decidable (a ≠ b)] (h : a = b) : decide (a ≠ b) = false := decide_eq_false fun k => k h
theorem nd_t {p : Prop} [Decidable p] (h : ¬p) : (!decide p) = true := by simp [h]
theorem nd_f {p : Prop} [Decidable p] (h : p) : (!decide p) = false := by simp [h]
theorem mem_hd {α : Type} {a : α} {l : List α} : a ∈ a :: l := .head _
theorem dt_rfl {α : Type} {a : α} [Decidable (a = a)] : decide (a = a) = true := decide_eq_true rfl
theorem ne_f_rfl {α : Type} {a : α} [Decidable (a ≠ a)] : decide (a ≠ a) = false := decide_eq_false fun k => k rfl
theorem q_t {p : Prop} [Decidable p] {Q : V → St → Prop} {σ : St} (hp : p) (h : Q (.bool true) σ) : Q (.bool (decide p)) σ := by rw [decide_eq_true hp]; exact h
theorem and_fdict {σ : St} {p : Prop} {kvs} (h : p) : IsT σ (fd kvs) "dict" ∧ p := ⟨IsT.fdict, h⟩
section
variable {W : Wd} {n : Nat} {sc : Scope} {ρ : Ro} {σ : St} {o : Expr} {apos pos : Pos} {args : List Expr} {Q : V → St → Prop}
theorem aE_append (h : aE W n sc ρ σ o (KBm W n sc ρ "list" "list.append" args Q)) (hs : autoParam (args.all notStar = true) tRfl) (hl : autoParam (args.length < 20) tDec) (hline : autoParam ((apos.endLine == pos.line) = true) tRfl)
    (hbase : autoParam (∀ env, env.scope = sc → attributeBase o "append" env (eval o env) = eval o env) tBase) : aE W n sc ρ σ (.Call (.Attribute o "append" apos) args [] pos) Q := aE_bmeth F.plainAttrs_list PySem.slot_list_append PySem.F.type_list_append h hs hl hline hbase
theorem aE_dget (h : aE W n sc ρ σ o (KBm W n sc ρ "dict" "dict.get" args Q)) (hs : autoParam (args.all notStar = true) tRfl) (hl : autoParam (args.length < 20) tDec) (hline : autoParam ((apos.endLine == pos.line) = true) tRfl)
    (hbase : autoParam (∀ env, env.scope = sc → attributeBase o "get" env (eval o env) = eval o env) tBase) : aE W n sc ρ σ (.Call (.Attribute o "get" apos) args [] pos) Q := aE_bmeth F.plainAttrs_dict PySem.F.slot_dict_get PySem.F.type_dict_get h hs hl hline hbase
theorem aE_dpop (h : aE W n sc ρ σ o (KBm W n sc ρ "dict" "dict.pop" args Q)) (hs : autoParam (args.all notStar = true) tRfl) (hl : autoParam (args.length < 20) tDec) (hline : autoParam ((apos.endLine == pos.line) = true) tRfl)
    (hbase : autoParam (∀ env, env.scope = sc → attributeBase o "pop" env (eval o env) = eval o env) tBase) : aE W n sc ρ σ (.Call (.Attribute o "pop" apos) args [] pos) Q := aE_bmeth F.plainAttrs_dict PySem.F.slot_dict_pop PySem.F.type_dict_pop h hs hl hline hbase
end
/- a resource at its place; a test's value -/
local macro_rules | `(tactic| tb_start) => do
  let a ← tacs mE "mem_hd Upd.head Pull.head"
  let b ← tacs (fun x => `(tactic| (apply $x; tb_start))) "List.Mem.tail Upd.tail Pull.tail"
  let c ← tacs (fun _ => `(tactic| assumption)) "x"
  let d ← tacs mA "decide_eq_true"
  let e ← tacs mE "dt_rfl"
  let f ← tacs mA "decide_eq_false nd_t nd_f ne_f"
  let g ← tacs mE "ne_f_rfl rfl"
  `(tactic| first $[| $(a ++ b ++ c ++ d ++ e ++ f ++ g)]*)
/- the body laid open -/
local macro_rules | `(tactic| ktr_rel) => `(tactic| show aSs _ _ _ _ _ (_ :: _) _)
/- a step -/
local macro_rules | `(tactic| tb_rel) => do
  let h (x : Lean.Ident) := do mR (← `($x ‹_› (h := ?_)))
  let k (t : Lean.Term) := do
    let t ← mR t
    `(tactic| (($t:tactic); (case m => tb_start)))
  let a ← tacs h "r_args r_pure r_test"
  let b ← tacs (fun x => do mR (← `($x ?_))) "aEs_cons aE_append aE_dget aE_dpop aE_meth aE_attr ss_setitem ss_setattr ss_assign ss_if ss_ret aE_sub aE_binop aE_cmp aT_cmp o_abs o_add o_sub o_neg o_min2 o_max2 c_eq_int c_ne_int c_lt_int c_gt_int c_eq_str ss_expr ss_delitem and_len and_none and_fdict aE_or2 aE_and2 aT_not aT_bool aTs_and aTs_or aTs_and_nil aTs_or_nil truthy_bool isB aE_tuple aE_unop aE_ifexp aT_cmp2 aAs_cons aAs_nil aT_value"
  let c ← tacs (fun x => do mR (← `($x (h := ?_)))) "aA_local s_tup aA_tuple aA_cell"
  let d ← tacs h "r_fn r_bf r_cN r_cL"
  let e ← tacs (fun x => do let t ← k (← `($x ‹_› ?m ?v ?_)); `(tactic| (($t:tactic); (case v => rfl)))) "x_getN x_methN x_setN x_getL x_methL x_setL"
  let f ← tacs (fun x => do k (← `(And.intro ($x ?m) ?_))) "IsT.list IsT.idict IsT.tdict"
  let g ← tacs (fun x => do k (← `($x ?m ?_))) "ss_t p_t ss_f p_f"
  `(tactic| first $[| $(a ++ b ++ c ++ d ++ e ++ f ++ g)]*)
section
variable {W : Wd} {n : Nat} {σ : St}
theorem gcd_step {x y : Int} (hx : 0 ≤ x) (hy : 0 ≤ y) : Int.gcd y (x % y) = Int.gcd x y := by
  obtain ⟨m, rfl⟩ := Int.eq_ofNat_of_zero_le hx
  obtain ⟨k, rfl⟩ := Int.eq_ofNat_of_zero_le hy
  rw [← Int.natCast_emod, Int.gcd_natCast_natCast, Int.gcd_natCast_natCast, Nat.gcd_comm m k, Nat.gcd_rec k m, Nat.gcd_comm]
inductive IGcd (σ : St) (a : Int) (b : Int) (k : Nat) (ρ : Ro) (τ : St) : Prop
  | mk (x y : Int) (h1 : ρ = [some (.int x), some (.int y), none]) (h2 : τ = σ) (h3 : 0 ≤ x) (h4 : 0 ≤ y) (h5 : k = y.toNat) (h6 : Int.gcd x y = Int.gcd a b) : IGcd σ a b k ρ τ
theorem c_gcd (P : Prog W) {a b : Int} {Q : V → St → Prop} (h : Q (.int (Int.gcd a b)) σ) : acall W (n + 1) (gv W "gcd_of") [.int a, .int b] σ Q := by
  refine acall_def (ρ0 := [some (.int a), some (.int b), none]) P.f8.ok rfl ?_
  refine ss_swap2 (x := "a") (y := "b") (i := 0) (j := 1) rfl rfl ?_
  tb_rel
  repeat tb_rel
  refine ⟨_, _, rfl, ?_⟩
  refine ss_while (IGcd σ a b) _ ⟨_, _, rfl, rfl, by split <;> (first | lia | omega), by split <;> (first | lia | omega), rfl, ?_⟩ ?_
  · split <;> split <;> simp
  · rintro k ρ τ ⟨x, y, rfl, rfl, hx, hy, rfl, hg⟩
    repeat tb_rel
    by_cases h0 : y = 0
    · subst h0
      try tb_rel
      repeat tb_rel
      have : x = (Int.gcd a b : Int) := by rw [← hg]; simp; (first | lia | omega)
      rw [this]; exact h
    · try tb_rel
      refine ss_swap2 (x := "a") (y := "b") (i := 0) (j := 1) rfl rfl ?_
      repeat tb_rel
      refine o_mod h0 ?_
      repeat tb_rel
      refine ⟨_, _, rfl, ?_⟩
      refine ss_nil ?_
      have h1 := Int.fmod_nonneg_of_pos x (b := y) (by (first | lia | omega))
      have h2 := Int.fmod_lt_of_pos x (b := y) (by (first | lia | omega))
      refine ⟨_, by (first | lia | omega), y, x.fmod y, rfl, rfl, hy, h1, rfl, ?_⟩
      rw [← hg, Int.fmod_eq_emod_of_nonneg _ hy, gcd_step hx hy]
end
/- part B2 -/
/- ## ratios -/
noncomputable abbrev rv (q : Rat) : V := .tup [.int q.num, .int q.den]
noncomputable def big : Nat := 2 ^ 2900
noncomputable def Sm (q : Rat) : Prop := q.num.natAbs < big ∧ q.den < big
theorem low_pos {t b : Int} (hb : 0 < b) : t.fdiv (Int.gcd t b) = (Rat.divInt t b).num ∧ b.fdiv (Int.gcd t b) = ((Rat.divInt t b).den : Int) := by
  have hg : (0 : Int) < Int.gcd t b := by
    have : Int.gcd t b ≠ 0 := by simp [Int.gcd_eq_zero_iff]; (first | lia | omega)
    (first | lia | omega)
  rw [Int.fdiv_eq_ediv_of_nonneg _ (by (first | lia | omega)), Int.fdiv_eq_ediv_of_nonneg _ (by (first | lia | omega)), Rat.num_divInt, Rat.den_divInt, if_neg (by (first | lia | omega)), Int.sign_eq_one_of_pos hb, Int.gcd_comm b t, Int.one_mul]
  refine ⟨rfl, ?_⟩
  rw [Int.natCast_ediv, Int.natAbs_of_nonneg (by (first | lia | omega))]
theorem low_neg {t b : Int} (hb : b < 0) : t.fdiv (-(Int.gcd t b : Int)) = (Rat.divInt t b).num ∧ b.fdiv (-(Int.gcd t b : Int)) = ((Rat.divInt t b).den : Int) := by
  have h := low_pos (t := -t) (b := -b) (by (first | lia | omega))
  rw [Rat.neg_divInt_neg, Int.gcd_neg, Int.neg_gcd] at h
  obtain ⟨h1, h2⟩ := h
  have e : ∀ x y : Int, x.fdiv (-y) = (-x).fdiv y := fun x y => by rw [← Int.neg_fdiv_neg, Int.neg_neg]
  exact ⟨(e _ _).trans h1, (e _ _).trans h2⟩
theorem log_of_lt {n : Nat} (h : n < 2 ^ 8999) : n.log2 < 9000 := by
  by_cases h0 : n = 0
  · subst h0; decide
  · exact Nat.lt_of_lt_of_le ((Nat.log2_lt h0).mpr h) (by decide)
section
variable {W : Wd} {n : Nat} {σ : St}
theorem c_ratio (P : Prog W) {t b : Int} {Q : V → St → Prop} (hb : b ≠ 0) (hs : b.natAbs < 2 ^ 8999) (h : Q (rv (Rat.divInt t b)) σ) : acall W (n + 2) (gv W "ratio") [.int t, .int b] σ Q := by
  have hg0 : Int.gcd t b ≠ 0 := by simp [Int.gcd_eq_zero_iff]; (first | lia | omega)
  have hgs : (Int.gcd t b : Int).natAbs.log2 < 9000 := log_of_lt (Nat.lt_of_le_of_lt (by
    rw [Int.natAbs_natCast]; exact Nat.le_of_dvd (by (first | lia | omega)) (Int.gcd_dvd_natAbs_right t b)) hs)
  refine acall_def (ρ0 := [some (.int t), some (.int b), none, none, none]) P.f9.ok rfl ?_
  ktr_rel
  repeat tb_rel
  try tb_rel
  refine ss_nil ?_
  repeat tb_rel
  refine c_gcd P ?_
  repeat tb_rel
  by_cases hn : b < 0
  · try tb_rel
    repeat tb_rel
    refine ss_nil ?_
    have hh := low_neg (t := t) hn
    repeat tb_rel
    refine o_fdiv (by (first | lia | omega)) (by rwa [Int.natAbs_neg]) ?_
    repeat tb_rel
    refine o_fdiv (by (first | lia | omega)) (by rwa [Int.natAbs_neg]) ?_
    repeat tb_rel
    rw [hh.1, hh.2]; exact h
  · try tb_rel
    refine ss_nil ?_
    have hh := low_pos (t := t) (b := b) (by (first | lia | omega))
    repeat tb_rel
    refine o_fdiv (by (first | lia | omega)) hgs ?_
    repeat tb_rel
    refine o_fdiv (by (first | lia | omega)) hgs ?_
    repeat tb_rel
    rw [hh.1, hh.2]; exact h
end
/- part B3 -/
theorem bits_of_lt {x : Int} {k : Nat} (h : x.natAbs < 2 ^ k) : Builtin.Int.intBits x ≤ k := by
  unfold Builtin.Int.intBits
  split
  · exact Nat.zero_le _
  · rename_i h0
    have h1 : x.natAbs ≠ 0 := by simpa using h0
    exact (Nat.log2_lt h1).mpr h
theorem mul_sm {x y : Int} (hx : x.natAbs < big) (hy : y.natAbs < big) : IntMulOk x y := IntMulOk.of_bits (Nat.le_trans (bits_of_lt (k := 2900) hx) (by decide)) (Nat.le_trans (bits_of_lt (k := 2900) hy) (by decide))
theorem prod_lt {x y : Nat} (hx : x < big) (hy : y < big) : x * y < 2 ^ 8999 := by
  have h1 : x * y ≤ big * big := Nat.mul_le_mul (Nat.le_of_lt hx) (Nat.le_of_lt hy)
  have h2 : big * big = 2 ^ 5800 := by unfold big; rw [← Nat.pow_add]
  have h3 : (2 : Nat) ^ 5800 < 2 ^ 8999 := Nat.pow_lt_pow_right (by decide) (by decide)
  (first | lia | omega)
theorem add_divInt (a b : Rat) : Rat.divInt (a.num * b.den + b.num * a.den) (a.den * b.den) = a + b := by
  rw [Rat.add_def', ← Rat.divInt_ofNat, Int.natCast_mul]
theorem mul_divInt (a b : Rat) : Rat.divInt (a.num * b.num) (a.den * b.den) = a * b := by
  rw [Rat.mul_def', ← Rat.divInt_ofNat, Int.natCast_mul]
theorem rat_int {q : Rat} (h : q.den = 1) : ((q.num : Int) : Rat) = q := by
  refine Rat.ext ?_ ?_
  · simp
  · simp [h]
theorem add_one {a b : Rat} (ha : a.den = 1) (hb : b.den = 1) : (a + b).num = a.num + b.num ∧ (a + b).den = 1 := by
  have e : a + b = ((a.num + b.num : Int) : Rat) := by rw [Rat.intCast_add, rat_int ha, rat_int hb]
  rw [e]; exact ⟨Rat.num_intCast _, Rat.den_intCast _⟩
theorem mul_one' {a b : Rat} (ha : a.den = 1) (hb : b.den = 1) : (a * b).num = a.num * b.num ∧ (a * b).den = 1 := by
  have e : a * b = ((a.num * b.num : Int) : Rat) := by rw [Rat.intCast_mul, rat_int ha, rat_int hb]
  rw [e]; exact ⟨Rat.num_intCast _, Rat.den_intCast _⟩
theorem den_ne {a b : Rat} : ((a.den : Int) * (b.den : Int)) ≠ 0 := by
  have h1 := a.den_nz
  have h2 := b.den_nz
  rw [← Int.natCast_mul]
  have : a.den * b.den ≠ 0 := Nat.mul_ne_zero h1 h2
  (first | lia | omega)
theorem den_lt {a b : Rat} (ha : Sm a) (hb : Sm b) : ((a.den : Int) * (b.den : Int)).natAbs < 2 ^ 8999 := by
  rw [Int.natAbs_mul]
  exact prod_lt (by simpa using ha.2) (by simpa using hb.2)
section
variable {W : Wd} {n : Nat} {σ : St}
theorem c_add (P : Prog W) {a b : Rat} {Q : V → St → Prop} (ha : Sm a) (hb : Sm b) (h : Q (rv (a + b)) σ) : acall W (n + 3) (gv W "add") [rv a, rv b] σ Q := by
  refine acall_def (ρ0 := [some (rv a), some (rv b), none]) P.f10.ok rfl ?_
  ktr_rel
  repeat tb_rel
  have tl : (Rat.divInt (a.num * b.den + b.num * a.den) (a.den * b.den)) = a + b := add_divInt a b
  have tail : ∀ {p q : Prop}, p → q → p ∧ q := fun x y => ⟨x, y⟩
  by_cases h1 : a.den = b.den
  · have h1' : ((a.den : Int) = b.den) := by rw [h1]
    try tb_rel
    repeat tb_rel
    by_cases h2 : b.den = 1
    · have h2' : ((b.den : Int) = 1) := by rw [h2]; rfl
      try tb_rel
      repeat tb_rel
      have e := add_one (h1.trans h2) h2
      show Q _ σ
      rw [← e.1]
      have e2 : (1 : Int) = ((a + b).den : Int) := by rw [e.2]; rfl
      rw [e2]; exact h
    · have h2' : ¬ ((b.den : Int) = 1) := by (first | lia | omega)
      try tb_rel
      refine ss_nil ?_
      repeat tb_rel
      refine o_mul (mul_sm ha.1 (by simpa using hb.2)) ?_
      repeat tb_rel
      refine o_mul (mul_sm hb.1 (by simpa using ha.2)) ?_
      repeat tb_rel
      refine o_mul (mul_sm (by simpa using ha.2) (by simpa using hb.2)) ?_
      repeat tb_rel
      refine c_ratio P den_ne (den_lt ha hb) ?_
      rw [tl]; exact h
  · have h1' : ¬ ((a.den : Int) = b.den) := by (first | lia | omega)
    try tb_rel
    refine ss_nil ?_
    repeat tb_rel
    refine o_mul (mul_sm ha.1 (by simpa using hb.2)) ?_
    repeat tb_rel
    refine o_mul (mul_sm hb.1 (by simpa using ha.2)) ?_
    repeat tb_rel
    refine o_mul (mul_sm (by simpa using ha.2) (by simpa using hb.2)) ?_
    repeat tb_rel
    refine c_ratio P den_ne (den_lt ha hb) ?_
    rw [tl]; exact h
theorem c_mul (P : Prog W) {a b : Rat} {Q : V → St → Prop} (ha : Sm a) (hb : Sm b) (h : Q (rv (a * b)) σ) : acall W (n + 3) (gv W "mul") [rv a, rv b] σ Q := by
  refine acall_def (ρ0 := [some (rv a), some (rv b), none]) P.f11.ok rfl ?_
  ktr_rel
  repeat tb_rel
  have tl : (Rat.divInt (a.num * b.num) (a.den * b.den)) = a * b := mul_divInt a b
  by_cases h1 : a.den = b.den
  · have h1' : ((a.den : Int) = b.den) := by rw [h1]
    try tb_rel
    repeat tb_rel
    by_cases h2 : b.den = 1
    · have h2' : ((b.den : Int) = 1) := by rw [h2]; rfl
      try tb_rel
      repeat tb_rel
      refine o_mul (mul_sm ha.1 hb.1) ?_
      repeat tb_rel
      have e := mul_one' (h1.trans h2) h2
      show Q _ σ
      rw [← e.1]
      have e2 : (1 : Int) = ((a * b).den : Int) := by rw [e.2]; rfl
      rw [e2]; exact h
    · have h2' : ¬ ((b.den : Int) = 1) := by (first | lia | omega)
      try tb_rel
      refine ss_nil ?_
      repeat tb_rel
      refine o_mul (mul_sm ha.1 hb.1) ?_
      repeat tb_rel
      refine o_mul (mul_sm (by simpa using ha.2) (by simpa using hb.2)) ?_
      repeat tb_rel
      refine c_ratio P den_ne (den_lt ha hb) ?_
      rw [tl]; exact h
  · have h1' : ¬ ((a.den : Int) = b.den) := by (first | lia | omega)
    try tb_rel
    refine ss_nil ?_
    repeat tb_rel
    refine o_mul (mul_sm ha.1 hb.1) ?_
    repeat tb_rel
    refine o_mul (mul_sm (by simpa using ha.2) (by simpa using hb.2)) ?_
    repeat tb_rel
    refine c_ratio P den_ne (den_lt ha hb) ?_
    rw [tl]; exact h
theorem c_whole (P : Prog W) {a : Rat} {Q : V → St → Prop} (h : Q (.bool (decide (a.den = 1))) σ) : acall W (n + 1) (gv W "is_whole") [rv a] σ Q := by
  refine acall_def (ρ0 := [some (rv a)]) P.f12.ok rfl ?_
  ktr_rel
  repeat tb_rel
  have e : decide ((a.den : Int) = 1) = decide (a.den = 1) := by
    by_cases e : a.den = 1
    · simp [e]
    · have : ¬ ((a.den : Int) = 1) := by (first | lia | omega)
      simp [e, this]
  show Q _ σ
  rw [e]; exact h
inductive ILow (σ : St) (t : Int) (b : Int) (k : Nat) (ρ : Ro) (τ : St) : Prop
  | mk (x y : Int) (h1 : ρ = [some (.int t), some (.int b), some (.int x), some (.int y), none]) (h2 : τ = σ) (h3 : 0 ≤ x) (h4 : 0 ≤ y) (h5 : k = y.toNat) (h6 : Int.gcd x y = Int.gcd t b) : ILow σ t b k ρ τ
/- ### the law's own -/
theorem c_low (P : Prog W) {t b : Int} {Q : V → St → Prop} (hb : 0 < b) (hs : b.natAbs < 2 ^ 8999) (h : Q (rv (Rat.divInt t b)) σ) : acall W (n + 1) (gv W "_law_low") [.int t, .int b] σ Q := by
  have hg0 : Int.gcd t b ≠ 0 := by simp [Int.gcd_eq_zero_iff]; (first | lia | omega)
  have hgs : (Int.gcd t b : Int).natAbs.log2 < 9000 := log_of_lt (Nat.lt_of_le_of_lt (by
    rw [Int.natAbs_natCast]; exact Nat.le_of_dvd (by (first | lia | omega)) (Int.gcd_dvd_natAbs_right t b)) hs)
  refine acall_def (ρ0 := [some (.int t), some (.int b), none, none, none]) P.f29.ok rfl ?_
  refine ss_swap2 (x := "one") (y := "other") (i := 2) (j := 3) rfl rfl ?_
  repeat tb_rel
  refine ⟨_, _, rfl, ?_⟩
  refine ss_while (ILow σ t b) _ ⟨_, _, rfl, rfl, by split <;> (first | lia | omega), by (first | lia | omega), rfl, ?_⟩ ?_
  · split <;> simp
  · rintro k ρ τ ⟨x, y, rfl, rfl, hx, hy, rfl, hg⟩
    repeat tb_rel
    by_cases h0 : y = 0
    · subst h0
      try tb_rel
      have hx' : x = (Int.gcd t b : Int) := by rw [← hg]; simp; (first | lia | omega)
      subst hx'
      have hh := low_pos (t := t) hb
      repeat tb_rel
      refine o_fdiv (by (first | lia | omega)) hgs ?_
      repeat tb_rel
      refine o_fdiv (by (first | lia | omega)) hgs ?_
      repeat tb_rel
      rw [hh.1, hh.2]; exact h
    · try tb_rel
      refine ss_swap2 (x := "one") (y := "other") (i := 2) (j := 3) rfl rfl ?_
      repeat tb_rel
      refine o_mod h0 ?_
      repeat tb_rel
      refine ⟨_, _, rfl, ?_⟩
      refine ss_nil ?_
      have h1 := Int.fmod_nonneg_of_pos x (b := y) (by (first | lia | omega))
      have h2 := Int.fmod_lt_of_pos x (b := y) (by (first | lia | omega))
      refine ⟨_, by (first | lia | omega), y, x.fmod y, rfl, rfl, hy, h1, rfl, ?_⟩
      rw [← hg, Int.fmod_eq_emod_of_nonneg _ hy, gcd_step hx hy]
theorem sum_divInt (a b f : Rat) : Rat.divInt (a.num * (f.den * b.den) + f.num * b.num * a.den) (a.den * (f.den * b.den)) = a + f * b := by
  have h1 := a.den_nz
  have e1 : f * b = Rat.divInt (f.num * b.num) (f.den * b.den) := (mul_divInt f b).symm
  conv => rhs; rw [e1, ← Rat.num_divInt_den a]
  rw [Rat.divInt_add_divInt _ _ (by (first | lia | omega)) den_ne]
theorem prod_big {x y : Int} (hx : x.natAbs < big) (hy : y.natAbs < big) : (x * y).natAbs < 2 ^ 5800 := by
  have h2 : big * big = 2 ^ 5800 := by unfold big; rw [← Nat.pow_add]
  rw [Int.natAbs_mul, ← h2]
  exact Nat.mul_lt_mul'' hx hy
theorem mul_sm2 {x y : Int} {j k : Nat} (hx : x.natAbs < 2 ^ j) (hy : y.natAbs < 2 ^ k) (hj : j ≤ 1000000) (hk : k ≤ 1000000) : IntMulOk x y := IntMulOk.of_bits (Nat.le_trans (bits_of_lt hx) (Nat.le_trans hj (by decide))) (Nat.le_trans (bits_of_lt hy) (Nat.le_trans hk (by decide)))
theorem c_lsum (P : Prog W) {a b f : Rat} {Q : V → St → Prop} (ha : Sm a) (hb : Sm b) (hf : Sm f) (h : Q (rv (a + f * b)) σ) : acall W (n + 2) (gv W "_law_sum") [rv a, rv b, rv f] σ Q := by
  have da : ((a.den : Int)).natAbs < big := by simpa using ha.2
  have db : ((b.den : Int)).natAbs < big := by simpa using hb.2
  have df : ((f.den : Int)).natAbs < big := by simpa using hf.2
  refine acall_def (ρ0 := [some (rv a), some (rv b), some (rv f), none, none, none]) P.f30.ok rfl ?_
  refine ss_swap2 (x := "top") (y := "bottom") (i := 3) (j := 4) rfl rfl ?_
  repeat tb_rel
  refine o_mul (mul_sm hf.1 hb.1) ?_
  repeat tb_rel
  refine o_mul (mul_sm df db) ?_
  repeat tb_rel
  refine ⟨_, _, rfl, ?_⟩
  have h1 := prod_big hf.1 hb.1
  have h2 := prod_big df db
  repeat tb_rel
  refine o_mul (mul_sm2 (k := 5800) (j := 2900) ha.1 h2 (by decide) (by decide)) ?_
  repeat tb_rel
  refine o_mul (mul_sm2 (j := 5800) (k := 2900) h1 da (by decide) (by decide)) ?_
  repeat tb_rel
  refine o_mul (mul_sm2 (k := 5800) (j := 2900) da h2 (by decide) (by decide)) ?_
  repeat tb_rel
  have hpos : (0 : Int) < a.den * (f.den * b.den) := by
    have h3 := a.den_pos
    have h4 := b.den_pos
    have h5 := f.den_pos
    exact Int.mul_pos (by (first | lia | omega)) (Int.mul_pos (by (first | lia | omega)) (by (first | lia | omega)))
  refine c_low P hpos ?_ ?_
  · rw [Int.natAbs_mul]
    have h6 : (2 : Nat) ^ 2900 * 2 ^ 5800 = 2 ^ 8700 := by rw [← Nat.pow_add]
    have h7 : (2 : Nat) ^ 8700 < 2 ^ 8999 := Nat.pow_lt_pow_right (by decide) (by decide)
    have h8 := Nat.mul_lt_mul'' (a := (a.den : Int).natAbs) (b := ((f.den : Int) * b.den).natAbs) (c := 2 ^ 2900) (d := 2 ^ 5800) da h2
    (first | lia | omega)
  · rw [sum_divInt]; exact h
end
/- part B4 -/
/- ## the bank -/
inductive D where
  | i (z : Int)
  | q (r : Rat)
noncomputable def dv : D → V
  | .i z => .int z
  | .q r => rv r
structure T where
  op : Str
  args : List Int
  sort : Int
  data : D
noncomputable abbrev itup (l : List Int) : V := .tup (l.map .int)
noncomputable abbrev tkey (t : T) : V := .tup [.str t.op, itup t.args, .int t.sort, dv t.data]
noncomputable def keysOf : Nat → List T → List (V × V)
  | _, [] => []
  | i, t :: r => (tkey t, .int i) :: keysOf (i + 1) r
set_option genInjectivity false in
structure Bk where
  ns : List Str
  fas : List (List Int)
  frs : List Int
  ts : List T
noncomputable def bankA (W : Wd) (ad : BAd) (ex : List (Str × V)) (B : Bk) : St :=
  [(ad.self, .inst (cA W "NumberBank") ad.dx (battrs ad ex)), (ad.fn, .list (B.ns.map .str)), (ad.fa, .list (B.fas.map itup)), (ad.fr, .list (B.frs.map .int)), (ad.ops, .list (B.ts.map fun t => .str t.op)), (ad.args, .list (B.ts.map fun t => itup t.args)),
    (ad.sorts, .list (B.ts.map fun t => .int t.sort)), (ad.datas, .list (B.ts.map fun t => dv t.data)), (ad.nums, .tdict (keysOf 1 B.ts.tail))]
noncomputable abbrev bex : List (Str × V) := [("true_number", .int 1), ("false_number", .int 2)]
noncomputable abbrev bank (W : Wd) (ad : BAd) (B : Bk) : St := bankA W ad bex B
theorem rv_inj {a b : Rat} (h : rv a = rv b) : a = b := by
  simp only [rv, V.tup.injEq, List.cons.injEq, V.int.injEq] at h
  exact Rat.ext h.1 (by (first | lia | omega))
theorem dv_inj : ∀ {a b : D}, dv a = dv b → a = b
  | .i x, .i y, h => by simp [dv] at h; rw [h]
  | .q x, .q y, h => by rw [rv_inj h]
  | .i _, .q _, h => by cases h
  | .q _, .i _, h => by cases h
theorem tkey_inj {s t : T} (h : tkey s = tkey t) : s = t := by
  simp only [tkey, V.tup.injEq, List.cons.injEq, V.str.injEq, V.int.injEq] at h
  obtain ⟨h1, h2, h3, h4, _⟩ := h
  obtain ⟨o, a, s', d⟩ := s
  obtain ⟨o', a', s'', d'⟩ := t
  simp only at h1 h2 h3 h4
  have e2 : a = a' := (List.map_inj_right (fun a b e => by injection e)).mp h2
  rw [h1, e2, h3, dv_inj h4]
theorem keysOf_append (l : List T) (t : T) : ∀ i, keysOf i (l ++ [t]) = keysOf i l ++ [(tkey t, .int ((i + l.length : Nat) : Int))] := by
  induction l with
  | nil => intro i; simp [keysOf]
  | cons x l ih => intro i; simp only [List.cons_append, keysOf, ih, List.length_cons]; rw [show i + 1 + l.length = i + (l.length + 1) by (first | lia | omega)]
theorem keysOf_hit {l : List T} {t : T} : ∀ {i j : Nat}, l[j]? = some t → (tkey t, V.int ((i + j : Nat) : Int)) ∈ keysOf i l := by
  induction l with
  | nil => intro i j h; simp at h
  | cons x l ih =>
    intro i j h
    cases j with
    | zero => simp at h; subst h; simp [keysOf]
    | succ j =>
      simp at h
      have := ih (i := i + 1) h
      simp only [keysOf]
      rw [show i + 1 + j = i + (j + 1) by (first | lia | omega)] at this
      exact .tail _ this
theorem keysOf_miss {l : List T} {t : T} (h : t ∉ l) : ∀ {i : Nat}, ∀ p ∈ keysOf i l, p.1 ≠ tkey t := by
  induction l with
  | nil => intro i p hp; simp [keysOf] at hp
  | cons x l ih =>
    intro i p hp
    simp only [keysOf, List.mem_cons] at hp
    rcases hp with rfl | hp
    · exact fun e => h (by rw [tkey_inj e]; exact .head _)
    · exact ih (fun q => h (.tail _ q)) p hp
theorem keysOf_len (l : List T) : ∀ i, (keysOf i l).length = l.length := by
  induction l with
  | nil => intro i; rfl
  | cons x l ih => intro i; simp [keysOf, ih]
theorem keys_ok (t : T) (h : PyData.strOk t.op = true) : isKey (tkey t) = true ∧ vdep (tkey t) ≤ 8 := by
  have h1 : ∀ l : List Int, isKeys (l.map V.int) = true ∧ vdeps (l.map V.int) = 0 := by
    intro l; induction l with
    | nil => exact ⟨rfl, rfl⟩
    | cons a l ih => simp [isKeys, isKey, vdeps, vdep, ih.1, ih.2]
  have h2 : isKey (dv t.data) = true ∧ vdep (dv t.data) ≤ 1 := by
    cases t.data with
    | i z => simp [dv, isKey, vdep]
    | q r => simp [dv, rv, isKey, isKeys, vdep, vdeps]
  refine ⟨by simp [isKey, isKeys, h, (h1 _).1, h2.1], ?_⟩
  simp only [vdep, vdeps, (h1 _).2]
  have := h2.2
  (first | lia | omega)
/- a bank in good order -/
structure Bk.Ok (B : Bk) : Prop where
  nil : B.ts ≠ []
  nd : B.ts.tail.Nodup
  l1 : B.fas.length = B.ns.length
  l2 : B.frs.length = B.ns.length
  l3 : B.ns.length ≤ 50000
/- what make does -/
structure Mk (B : Bk) (t : T) (r : Int) (B' : Bk) : Prop where
  pos : 1 ≤ r
  at_ : B'.ts[r.toNat]? = some t
  same : B'.ns = B.ns ∧ B'.fas = B.fas ∧ B'.frs = B.frs
  ts : B'.ts = B.ts ∨ (t ∉ B.ts.tail ∧ B'.ts = B.ts ++ [t])
/- a bank grown by at most k terms -/
structure BLe (B B' : Bk) (k : Nat) : Prop where
  ok : B'.Ok
  pre : ∃ l, B'.ts = B.ts ++ l ∧ l.length ≤ k
  same : B'.ns = B.ns ∧ B'.fas = B.fas ∧ B'.frs = B.frs
theorem BLe.refl {B : Bk} (h : B.Ok) {k : Nat} : BLe B B k := ⟨h, ⟨[], by simp, by simp⟩, rfl, rfl, rfl⟩
theorem BLe.trans {A B C : Bk} {j k : Nat} (h : BLe A B j) (h' : BLe B C k) : BLe A C (j + k) := by
  obtain ⟨_, ⟨l, e, hl⟩, s1, s2, s3⟩ := h
  obtain ⟨o, ⟨m, e', hm⟩, t1, t2, t3⟩ := h'
  exact ⟨o, ⟨l ++ m, by rw [e', e, List.append_assoc], by simp; (first | lia | omega)⟩, t1.trans s1, t2.trans s2, t3.trans s3⟩
theorem BLe.le {B B' : Bk} {j k : Nat} (h : BLe B B' j) (hk : j ≤ k) : BLe B B' k := ⟨h.ok, let ⟨l, e, hl⟩ := h.pre; ⟨l, e, by (first | lia | omega)⟩, h.same⟩
theorem BLe.at_ {B B' : Bk} {k i : Nat} {t : T} (h : BLe B B' k) (e : B.ts[i]? = some t) : B'.ts[i]? = some t := by
  obtain ⟨l, e', _⟩ := h.pre
  rw [e', List.getElem?_append_left (List.getElem?_eq_some_iff.mp e).1]; exact e
theorem BLe.len {B B' : Bk} {k : Nat} (h : BLe B B' k) : B.ts.length ≤ B'.ts.length ∧ B'.ts.length ≤ B.ts.length + k := by
  obtain ⟨l, e', hl⟩ := h.pre
  rw [e']; simp; exact hl
theorem Mk.ble {B B' : Bk} {t : T} {r : Int} (h : Mk B t r B') (hB : B.Ok) : BLe B B' 1 := by
  obtain ⟨s1, s2, s3⟩ := h.same
  rcases h.ts with e | ⟨hn, e⟩
  · have : B' = B := by
      cases B; cases B'; simp only at s1 s2 s3 e; subst s1 s2 s3 e; rfl
    rw [this]; exact .refl hB
  · refine ⟨⟨by rw [e]; simp, ?_, by rw [s1, s2]; exact hB.l1, by rw [s1, s3]; exact hB.l2, by rw [s1]; exact hB.l3⟩, ⟨[t], e, by simp⟩, s1, s2, s3⟩
    have e1 : B'.ts.tail = B.ts.tail ++ [t] := by
      rw [e]
      have := hB.nil
      cases hb : B.ts with
      | nil => exact absurd hb this
      | cons a l => simp
    rw [e1, List.nodup_append]
    refine ⟨hB.nd, by simp, ?_⟩
    rintro a ha b hb rfl
    simp only [List.mem_singleton] at hb
    subst hb; exact hn ha
section
variable {W : Wd} {n : Nat} {σ : St}
theorem c_make0 (P : Prog W) {ad : BAd} {ex : List (Str × V)} {B : Bk} {t : T} {Q : V → St → Prop} (hop : PyData.strOk t.op = true) (hB : B.Ok) (hbl : B.ts.length ≤ 50000) (h : ∀ r B', Mk B t r B' → Q (.int r) (bankA W ad ex B')) :
    acall W (n + 1) (.ref (mf W "NumberBank" "make")) [.ref ad.self, .str t.op, itup t.args, .int t.sort, dv t.data] (bankA W ad ex B) Q := by
  refine acall_def (ρ0 := [some (.ref ad.self), some (.str t.op), some (itup t.args), some (.int t.sort), some (dv t.data), none, none, none]) P.m23_19.ok rfl ?_
  ktr_rel
  repeat tb_rel
  by_cases hin : t ∈ B.ts.tail
  · obtain ⟨j, hj⟩ := List.mem_iff_getElem?.mp hin
    refine get_tdict_hit (v := .int ((1 + j : Nat) : Int)) (by tb_start) (keys_ok t hop).1 (keys_ok t hop).2 (keysOf_hit hj) ?_
    repeat tb_rel
    have h0 : ¬ (((1 + j : Nat) : Int) = 0) := by (first | lia | omega)
    try tb_rel
    refine ss_nil ?_
    repeat tb_rel
    refine h _ B ⟨by (first | lia | omega), ?_, ⟨rfl, rfl, rfl⟩, .inl rfl⟩
    rw [List.getElem?_tail] at hj
    rw [← hj]; congr 1; (first | lia | omega)
  · refine get_tdict_miss (by tb_start) (keys_ok t hop).1 (keys_ok t hop).2 (keysOf_miss hin) ?_
    repeat tb_rel
    try tb_rel
    repeat tb_rel
    refine o_len_list (by tb_start) (by simp; (first | lia | omega)) ?_
    repeat tb_rel
    refine o_append (by tb_start) (by simp; (first | lia | omega)) ?_
    repeat tb_rel
    refine o_append (by tb_start) (by simp; (first | lia | omega)) ?_
    repeat tb_rel
    refine o_append (by tb_start) (by simp; (first | lia | omega)) ?_
    repeat tb_rel
    refine o_append (by tb_start) (by simp; (first | lia | omega)) ?_
    repeat tb_rel
    refine set_tdict_new (by tb_start) (keys_ok t hop).1 (keys_ok t hop).2 (keysOf_miss hin) (by rw [keysOf_len]; simp; (first | lia | omega)) ?_
    refine ss_nil ?_
    repeat tb_rel
    have hl : B.ts.length = B.ts.tail.length + 1 := by
      have := hB.nil
      cases hb : B.ts with
      | nil => exact absurd hb this
      | cons a l => simp
    have hfin := h (B.ts.length : Int) { B with ts := B.ts ++ [t] } ⟨by (first | lia | omega), by simp, ⟨rfl, rfl, rfl⟩, .inr ⟨hin, rfl⟩⟩
    have e1 : (B.ts ++ [t]).tail = B.ts.tail ++ [t] := by
      have := hB.nil
      cases hb : B.ts with
      | nil => exact absurd hb this
      | cons a l => simp
    have e2 : keysOf 1 (B.ts ++ [t]).tail = keysOf 1 B.ts.tail ++ [(tkey t, .int (B.ts.length : Int))] := by
      rw [e1, keysOf_append, hl]
      congr 4; (first | lia | omega)
    simp only [bankA, List.map_append, e2, List.map_cons, List.map_nil] at hfin
    simp only [List.length_map]
    exact hfin
theorem c_make (P : Prog W) {ad : BAd} {ex : List (Str × V)} {B : Bk} {F : St} {t : T} {Q : V → St → Prop} (hop : PyData.strOk t.op = true) (hB : B.Ok) (hbl : B.ts.length ≤ 50000) (h : ∀ r B', BLe B B' 1 → Mk B t r B' → Q (.int r) (F ++ bankA W ad ex B')) :
    acall W (n + 1) (.ref (mf W "NumberBank" "make")) [.ref ad.self, .str t.op, itup t.args, .int t.sort, dv t.data] (F ++ bankA W ad ex B) Q :=
  acall_frame (c_make0 P hop hB hbl fun r B' m => h r B' (m.ble hB) m)
/- ### looking a term up -/
variable {ad : BAd} {B : Bk} {F : St} {i : Int} {t : T} {Q : V → St → Prop}
theorem c_op (P : Prog W) (hi : 0 ≤ i) (h63 : i < 2 ^ 63) (ht : B.ts[i.toNat]? = some t) (h : Q (.str t.op) (F ++ bank W ad B)) : acall W (n + 1) (.ref (mf W "NumberBank" "op")) [.ref ad.self, .int i] (F ++ bank W ad B) Q := by
  refine acall_frame (acall_def (ρ0 := [some (.ref ad.self), some (.int i)]) P.m23_13.ok rfl ?_)
  ktr_rel
  repeat tb_rel
  refine s_list (vs := B.ts.map fun t => .str t.op) (by tb_start) hi h63 (v := .str t.op) (by rw [List.getElem?_map, ht]; rfl) h (by intro _ _; with_unfolding_all rfl)
theorem c_args (P : Prog W) (hi : 0 ≤ i) (h63 : i < 2 ^ 63) (ht : B.ts[i.toNat]? = some t) (h : Q (itup t.args) (F ++ bank W ad B)) : acall W (n + 1) (.ref (mf W "NumberBank" "args")) [.ref ad.self, .int i] (F ++ bank W ad B) Q := by
  refine acall_frame (acall_def (ρ0 := [some (.ref ad.self), some (.int i)]) P.m23_14.ok rfl ?_)
  ktr_rel
  repeat tb_rel
  refine s_list (vs := B.ts.map fun t => itup t.args) (by tb_start) hi h63 (v := itup t.args) (by rw [List.getElem?_map, ht]; rfl) h (by intro _ _; with_unfolding_all rfl)
theorem c_sort (P : Prog W) (hi : 0 ≤ i) (h63 : i < 2 ^ 63) (ht : B.ts[i.toNat]? = some t) (h : Q (.int t.sort) (F ++ bank W ad B)) : acall W (n + 1) (.ref (mf W "NumberBank" "sort")) [.ref ad.self, .int i] (F ++ bank W ad B) Q := by
  refine acall_frame (acall_def (ρ0 := [some (.ref ad.self), some (.int i)]) P.m23_15.ok rfl ?_)
  ktr_rel
  repeat tb_rel
  refine s_list (vs := B.ts.map fun t => .int t.sort) (by tb_start) hi h63 (v := .int t.sort) (by rw [List.getElem?_map, ht]; rfl) h (by intro _ _; with_unfolding_all rfl)
theorem c_data (P : Prog W) (hi : 0 ≤ i) (h63 : i < 2 ^ 63) (ht : B.ts[i.toNat]? = some t) (h : Q (dv t.data) (F ++ bank W ad B)) : acall W (n + 1) (.ref (mf W "NumberBank" "data")) [.ref ad.self, .int i] (F ++ bank W ad B) Q := by
  refine acall_frame (acall_def (ρ0 := [some (.ref ad.self), some (.int i)]) P.m23_16.ok rfl ?_)
  ktr_rel
  repeat tb_rel
  refine s_list (vs := B.ts.map fun t => dv t.data) (by tb_start) hi h63 (v := dv t.data) (by rw [List.getElem?_map, ht]; rfl) h (by intro _ _; with_unfolding_all rfl)
theorem c_want (P : Prog W) {w : Str} {s : Int} (hi : 0 ≤ i) (h63 : i < 2 ^ 63) (ht : B.ts[i.toNat]? = some t) (hs : t.sort = s) (h : Q .none (F ++ bank W ad B)) : acall W (n + 1) (.ref (mf W "NumberBank" "want")) [.ref ad.self, .int i, .int s, .str w] (F ++ bank W ad B) Q := by
  subst hs
  refine acall_frame (acall_def (ρ0 := [some (.ref ad.self), some (.int i), some (.int t.sort), some (.str w), none]) P.m23_22.ok rfl ?_)
  ktr_rel
  repeat tb_rel
  refine s_list (vs := B.ts.map fun t => .int t.sort) (by tb_start) hi h63 (v := .int t.sort) (by rw [List.getElem?_map, ht]; rfl) ?_ (by intro _ _; with_unfolding_all rfl)
  repeat tb_rel
  try tb_rel
  refine ss_nil ?_
  exact ss_nil h
theorem c_isnum (P : Prog W) {s : Int} (h : Q (.bool (decide (s = 1 ∨ s = 2))) (F ++ bank W ad B)) : acall W (n + 1) (.ref (mf W "NumberBank" "is_number_sort")) [.ref ad.self, .int s] (F ++ bank W ad B) Q := by
  refine acall_def (ρ0 := [some (.ref ad.self), some (.int s), none, none]) P.m23_4.ok rfl ?_
  ktr_rel
  repeat tb_rel
  by_cases h1 : s = 1
  · subst h1
    show Q _ _; simpa [flv] using h
  · try tb_rel
    repeat tb_rel
    show Q _ _; simpa [flv, h1] using h
end
/- part B5 -/
section
variable {W : Wd} {n : Nat} {σ : St} {ad : BAd} {B : Bk} {F : St} {i : Int} {t : T} {Q : V → St → Prop}
/- a term number that the bank has -/
structure At (B : Bk) (i : Int) (t : T) : Prop where
  pos : 0 ≤ i
  at_ : B.ts[i.toNat]? = some t
theorem At.lt {B : Bk} {i : Int} {t : T} (h : At B i t) (hl : B.ts.length ≤ 50000) : i < 2 ^ 63 := by
  have := (List.getElem?_eq_some_iff.mp h.at_).1
  have := h.pos
  (first | lia | omega)
theorem At.ble {B B' : Bk} {i : Int} {t : T} {k : Nat} (h : At B i t) (hb : BLe B B' k) : At B' i t := ⟨h.pos, hb.at_ h.at_⟩
theorem Mk.at' {B B' : Bk} {t : T} {r : Int} (h : Mk B t r B') : At B' r t := ⟨by have := h.pos; (first | lia | omega), h.at_⟩
theorem c_wantnum (P : Prog W) {w : Str} (ht : At B i t) (hl : B.ts.length ≤ 50000) (hs : t.sort = 1 ∨ t.sort = 2) (h : Q .none (F ++ bank W ad B)) : acall W (n + 2) (.ref (mf W "NumberBank" "want_number")) [.ref ad.self, .int i, .str w] (F ++ bank W ad B) Q := by
  refine acall_frame (acall_def (ρ0 := [some (.ref ad.self), some (.int i), some (.str w), none]) P.m25_1.ok rfl ?_)
  ktr_rel
  repeat tb_rel
  refine s_list (vs := B.ts.map fun t => .int t.sort) (by tb_start) ht.pos (ht.lt hl) (v := .int t.sort) (by rw [List.getElem?_map, ht.at_]; rfl) ?_ (by intro _ _; with_unfolding_all rfl)
  repeat tb_rel
  refine c_isnum (F := []) P ?_
  repeat tb_rel
  try tb_rel
  refine ss_nil ?_
  exact ss_nil h
inductive IWant (W : Wd) (ad : BAd) (B : Bk) (b : Bool) (s : Int) (w : Str) (l0 : List Int) (vs : List V) (ρ : Ro) (τ : St) : Prop
  | mk (l : List Int) (u : Option V) (h1 : (∀ x ∈ l, ∃ t, At B x t ∧ t.sort = s)) (h2 : vs = l.map .int) (h3 : τ = bank W ad B) (h4 : ρ = [some (.ref ad.self), some (sq b (l0.map .int)), some (.int s), some (.str w), u]) : IWant W ad B b s w l0 vs ρ τ
theorem c_wantall (P : Prog W) {w : Str} {b : Bool} {l : List Int} {s : Int} (ht : ∀ x ∈ l, ∃ t, At B x t ∧ t.sort = s) (hl : B.ts.length ≤ 50000) (h : Q .none (F ++ bank W ad B)) :
    acall W (n + 2) (.ref (mf W "NumberBank" "want_all")) [.ref ad.self, sq b (l.map .int), .int s, .str w] (F ++ bank W ad B) Q := by
  refine acall_frame (acall_def (ρ0 := [some (.ref ad.self), some (sq b (l.map .int)), some (.int s), some (.str w), none]) P.m23_23.ok rfl ?_)
  refine ss_for (ai_sq (b := b) (vs := l.map .int) ?_) (by intro _ _; rfl)
  repeat tb_rel
  refine ⟨rfl, ?_⟩
  refine loop_inv (IWant W ad B b s w _) ?_ ?_ _ _ _ ⟨l, none, ht, rfl, rfl, rfl⟩
  · rintro v vs ρ τ ⟨l, u, hl', he, rfl, rfl⟩
    cases l with
    | nil => cases he
    | cons x l =>
      simp only [List.map_cons, List.cons.injEq] at he
      obtain ⟨rfl, rfl⟩ := he
      obtain ⟨t, h1, rfl⟩ := hl' x (.head _)
      repeat tb_rel
      refine c_want (F := []) P h1.pos (h1.lt hl) h1.at_ rfl ?_
      repeat tb_rel
      refine ss_nil ?_
      exact ⟨l, _, fun y hy => hl' y (.tail _ hy), rfl, rfl, rfl⟩
  · rintro ρ τ ⟨l, u, _, _, rfl, rfl⟩
    exact ss_nil h
theorem strOk_ops : PyData.strOk "num" = true ∧ PyData.strOk "+" = true ∧ PyData.strOk "*" = true ∧ PyData.strOk "<=" = true ∧ PyData.strOk "<" = true ∧ PyData.strOk "=" = true ∧ PyData.strOk "ite" = true ∧ PyData.strOk "app" = true ∧ PyData.strOk "true" = true ∧ PyData.strOk "false" = true := by decide +kernel
noncomputable abbrev tNum (q : Rat) (s : Int) : T := ⟨"num", [], s, .q q⟩
noncomputable abbrev tPlus (l : List Int) (s : Int) : T := ⟨"+", l, s, .i 0⟩
noncomputable abbrev tMul (c x s : Int) : T := ⟨"*", [c, x], s, .i 0⟩
theorem c_num (P : Prog W) {q : Rat} {s : Int} (hs : s = 2 ∨ (s = 1 ∧ q.den = 1)) (hB : B.Ok) (hl : B.ts.length ≤ 50000) (h : ∀ r B', BLe B B' 1 → Mk B (tNum q s) r B' → Q (.int r) (F ++ bank W ad B')) :
    acall W (n + 2) (.ref (mf W "NumberBank" "num")) [.ref ad.self, rv q, .int s] (F ++ bank W ad B) Q := by
  refine acall_frame (acall_def (ρ0 := [some (.ref ad.self), some (rv q), some (.int s), none, none, none]) P.m25_0.ok rfl ?_)
  have h0 : s = 1 ∨ s = 2 := by (first | lia | omega)
  ktr_rel
  repeat tb_rel
  refine c_isnum (F := []) P ?_
  repeat tb_rel
  try tb_rel
  refine ss_nil ?_
  repeat tb_rel
  have fin : ∀ {fl : Fl} {τ : St} {r : Int} {B' : Bk}, BLe B B' 1 → Mk B (tNum q s) r B' → Q (.int r) (F ++ bank W ad B') := fun a b => h _ _ a b
  rcases hs with rfl | ⟨rfl, hd⟩
  · try simp only [show ¬ ((2 : Int) = 1) by (first | lia | omega), decide_false, Bool.false_eq_true, if_false]
    refine ss_nil ?_
    repeat tb_rel
    exact c_make (F := []) (t := tNum q 2) P strOk_ops.1 hB hl fun r B' h1 h2 => h r B' h1 h2
  · try tb_rel
    repeat tb_rel
    refine c_whole P ?_
    repeat tb_rel
    try tb_rel
    refine ss_nil ?_
    repeat tb_rel
    exact c_make (F := []) (t := tNum q 1) P strOk_ops.1 hB hl fun r B' h1 h2 => h r B' h1 h2
theorem c_plus (P : Prog W) {b : Bool} {l : List Int} {s : Int} (hs : s = 1 ∨ s = 2) (hne : l ≠ []) (hll : l.length ≤ 100000) (ht : ∀ x ∈ l, ∃ t, At B x t ∧ t.sort = s) (hB : B.Ok) (hl : B.ts.length ≤ 50000)
    (h : ∀ r B', BLe B B' 1 → ((l = [r] ∧ B' = B) ∨ (2 ≤ l.length ∧ Mk B (tPlus l s) r B')) → Q (.int r) (F ++ bank W ad B')) :
    acall W (n + 3) (.ref (mf W "NumberBank" "plus")) [.ref ad.self, sq b (l.map .int)] (F ++ bank W ad B) Q := by
  refine acall_frame (acall_def (ρ0 := [some (.ref ad.self), some (sq b (l.map .int)), none, none, none]) P.m25_2.ok rfl ?_)
  obtain ⟨x, l', rfl⟩ : ∃ x l', l = x :: l' := by cases l with | nil => exact absurd rfl hne | cons x l' => exact ⟨x, l', rfl⟩
  obtain ⟨t, h1, h2⟩ := ht x (.head _)
  ktr_rel
  repeat tb_rel
  refine o_len_sq (by simpa using hll) ?_
  repeat tb_rel
  have hn0 : ¬ (((((x :: l').map V.int).length : Nat) : Int) = 0) := by simp; (first | lia | omega)
  try tb_rel
  refine ss_nil ?_
  repeat tb_rel
  refine s_sq (by decide) (by decide) (v := .int x) (by simp) ?_ (by intro _ _; with_unfolding_all rfl)
  repeat tb_rel
  refine c_wantnum (F := []) P h1 hl (by rw [h2]; exact hs) ?_
  repeat tb_rel
  refine s_sq (by decide) (by decide) (v := .int x) (by simp) ?_ (by intro _ _; with_unfolding_all rfl)
  refine s_list (vs := B.ts.map fun t => .int t.sort) (by tb_start) h1.pos (h1.lt hl) (v := .int t.sort) (by rw [List.getElem?_map, h1.at_]; rfl) ?_ (by intro _ _; with_unfolding_all rfl)
  repeat tb_rel
  refine c_wantall (F := []) P (by rw [h2]; exact ht) hl ?_
  repeat tb_rel
  refine o_len_sq (by simpa using hll) ?_
  repeat tb_rel
  by_cases hl1 : l' = []
  · subst hl1
    try simp only [List.map_cons, List.map_nil, List.length_cons, List.length_nil, Nat.zero_add, Int.natCast_one, decide_true, if_true]
    repeat tb_rel
    refine s_sq (by decide) (by decide) (v := .int x) (by simp) ?_ (by intro _ _; with_unfolding_all rfl)
    exact h x B (.refl hB) (.inl ⟨rfl, rfl⟩)
  · have hpos : 0 < l'.length := List.length_pos_iff.mpr hl1
    have hn1 : ¬ (((((x :: l').map V.int).length : Nat) : Int) = 1) := by simp; (first | lia | omega)
    try tb_rel
    repeat tb_rel
    refine o_tuple_sq (by simpa using hll) ?_
    repeat tb_rel
    refine s_sq (by decide) (by decide) (v := .int x) (by simp) ?_ (by intro _ _; with_unfolding_all rfl)
    refine s_list (vs := B.ts.map fun t => .int t.sort) (by tb_start) h1.pos (h1.lt hl) (v := .int t.sort) (by rw [List.getElem?_map, h1.at_]; rfl) ?_ (by intro _ _; with_unfolding_all rfl)
    repeat tb_rel
    rw [h2]
    exact c_make (F := []) (t := tPlus (x :: l') s) P strOk_ops.2.1 hB hl fun r B' h3 h4 => h r B' h3 (.inr ⟨by simp; (first | lia | omega), h4⟩)
end
/- part B6 -/
section
variable {W : Wd} {n : Nat} {σ : St} {ad : BAd} {B : Bk} {F : St} {i : Int} {t : T} {Q : V → St → Prop}
noncomputable def TMul (B : Bk) (t : T) (x : Int) (v : Rat) (r : Int) (B' : Bk) : Prop :=
  (t.op = "num" ∧ ∃ d, t.data = .q d ∧ Mk B (tNum (v * d) t.sort) r B') ∨ (t.op ≠ "num" ∧ v = 1 ∧ r = x ∧ B' = B) ∨ (t.op ≠ "num" ∧ v ≠ 1 ∧ ∃ c B1, BLe B B1 1 ∧ Mk B (tNum v t.sort) c B1 ∧ Mk B1 (tMul c x t.sort) r B')
theorem whole_mul {a b : Rat} (ha : a.den = 1) (hb : b.den = 1) : (a * b).den = 1 := (mul_one' ha hb).2
theorem veq_one (v : Rat) : veq (rv v) (.tup [.int 1, .int 1]) = decide (v = 1) := by
  have h : veq (rv v) (rv 1) = true ↔ rv v = rv 1 := veq_iff _ _ (by simp [rv, eqOk, eqOks]) (by simp [rv, eqOk, eqOks])
  show veq (rv v) (rv 1) = _
  by_cases e : v = 1
  · subst e; simp only [decide_true]; exact h.mpr rfl
  · try rw [decide_eq_false e]
    cases hh : veq (rv v) (rv 1) with
    | false => rfl
    | true => exact absurd (rv_inj (h.mp hh)) e
theorem rv_ok (v : Rat) : eqOk (rv v) = true ∧ vdep (rv v) ≤ 64 := by simp [rv, eqOk, eqOks, vdep, vdeps]
theorem c_times (P : Prog W) {v : Rat} {x : Int} (hx : At B x t) (hs : t.sort = 1 ∨ t.sort = 2) (hv : t.sort = 1 → v.den = 1) (hnum : t.op = "num" → ∃ d, t.data = .q d ∧ Sm d ∧ (t.sort = 1 → d.den = 1)) (hsm : Sm v) (hB : B.Ok) (hl : B.ts.length ≤ 40000)
    (h : ∀ r B', BLe B B' 2 → TMul B t x v r B' → Q (.int r) (F ++ bank W ad B')) :
    acall W (n + 4) (.ref (mf W "NumberBank" "times_num")) [.ref ad.self, rv v, .int x] (F ++ bank W ad B) Q := by
  refine acall_frame (acall_def (ρ0 := [some (.ref ad.self), some (rv v), some (.int x), none, none]) P.m25_3.ok rfl ?_)
  ktr_rel
  repeat tb_rel
  refine c_wantnum (F := []) P hx (by (first | lia | omega)) hs ?_
  repeat tb_rel
  refine s_list (vs := B.ts.map fun t => .int t.sort) (by tb_start) hx.pos (hx.lt (by (first | lia | omega))) (v := .int t.sort) (by rw [List.getElem?_map, hx.at_]; rfl) ?_ (by intro _ _; with_unfolding_all rfl)
  repeat tb_rel
  refine s_list (vs := B.ts.map fun t => .str t.op) (by tb_start) hx.pos (hx.lt (by (first | lia | omega))) (v := .str t.op) (by rw [List.getElem?_map, hx.at_]; rfl) ?_ (by intro _ _; with_unfolding_all rfl)
  repeat tb_rel
  by_cases hop : t.op = "num"
  · try tb_rel
    obtain ⟨d, hd, hds, hdw⟩ := hnum hop
    repeat tb_rel
    refine s_list (vs := B.ts.map fun t => dv t.data) (by tb_start) hx.pos (hx.lt (by (first | lia | omega))) (v := dv t.data) (by rw [List.getElem?_map, hx.at_]; rfl) ?_ (by intro _ _; with_unfolding_all rfl)
    rw [hd]
    repeat tb_rel
    refine c_mul P hsm hds ?_
    repeat tb_rel
    refine c_num (F := []) P ?_ hB (by (first | lia | omega)) fun r B' h1 h2 => h r B' (h1.le (by (first | lia | omega))) (.inl ⟨hop, d, hd, h2⟩)
    rcases hs with e | e
    · exact .inr ⟨e, whole_mul (hv e) (hdw e)⟩
    · exact .inl e
  · try tb_rel
    refine ss_nil ?_
    repeat tb_rel
    refine c_eq (rv_ok v).1 (by simp [eqOk, eqOks]) (rv_ok v).2 (by simp [vdep, vdeps]) ?_
    rw [veq_one]
    by_cases h1 : v = 1
    · try tb_rel
      repeat tb_rel
      exact h x B (.refl hB) (.inr (.inl ⟨hop, h1, rfl, rfl⟩))
    · try tb_rel
      repeat tb_rel
      refine c_num (F := []) P ?_ hB (by (first | lia | omega)) fun c B1 h2 h3 => ?_
      · rcases hs with e | e
        · exact .inr ⟨e, hv e⟩
        · exact .inl e
      · repeat tb_rel
        refine c_make (F := []) (t := tMul c x t.sort) P strOk_ops.2.2.1 h2.ok (by have := h2.len; (first | lia | omega)) fun r B' h4 h5 => ?_
        exact h r B' (h2.trans h4) (.inr (.inr ⟨hop, h1, c, B1, h2, h3, h5⟩))
theorem c_neg (P : Prog W) {x : Int} (hx : At B x t) (hs : t.sort = 1 ∨ t.sort = 2) (hnum : t.op = "num" → ∃ d, t.data = .q d ∧ Sm d ∧ (t.sort = 1 → d.den = 1)) (hB : B.Ok) (hl : B.ts.length ≤ 40000)
    (h : ∀ r B', BLe B B' 2 → TMul B t x (-1) r B' → Q (.int r) (F ++ bank W ad B')) :
    acall W (n + 5) (.ref (mf W "NumberBank" "negative")) [.ref ad.self, .int x] (F ++ bank W ad B) Q := by
  refine acall_frame (acall_def (ρ0 := [some (.ref ad.self), some (.int x)]) P.m25_6.ok rfl ?_)
  ktr_rel
  repeat tb_rel
  refine c_times (F := []) (v := -1) P hx hs (fun _ => rfl) hnum ⟨?_, ?_⟩ hB hl h
  · show (1 : Nat) < big
    exact Nat.one_lt_two_pow (by decide)
  · show (1 : Nat) < big
    exact Nat.one_lt_two_pow (by decide)
noncomputable def TMin (B : Bk) (t : T) (x y : Int) (r : Int) (B' : Bk) : Prop := ∃ m B1, BLe B B1 2 ∧ TMul B t y (-1) m B1 ∧ Mk B1 (tPlus [x, m] t.sort) r B'
theorem TMul.sort {B B' : Bk} {t : T} {x r : Int} {v : Rat} (h : TMul B t x v r B') (hx : At B x t) : ∃ t', At B' r t' ∧ t'.sort = t.sort := by
  rcases h with ⟨_, d, _, m⟩ | ⟨_, _, rfl, rfl⟩ | ⟨_, _, c, B1, _, _, m⟩
  · exact ⟨_, m.at', rfl⟩
  · exact ⟨t, hx, rfl⟩
  · exact ⟨_, m.at', rfl⟩
theorem c_minus (P : Prog W) {x y : Int} {u : T} (hx : At B x u) (hy : At B y t) (hst : t.sort = u.sort) (hs : t.sort = 1 ∨ t.sort = 2) (hnum : t.op = "num" → ∃ d, t.data = .q d ∧ Sm d ∧ (t.sort = 1 → d.den = 1)) (hB : B.Ok) (hl : B.ts.length ≤ 40000)
    (h : ∀ r B', BLe B B' 3 → TMin B t x y r B' → Q (.int r) (F ++ bank W ad B')) :
    acall W (n + 6) (.ref (mf W "NumberBank" "minus")) [.ref ad.self, .int x, .int y] (F ++ bank W ad B) Q := by
  refine acall_frame (acall_def (ρ0 := [some (.ref ad.self), some (.int x), some (.int y)]) P.m25_7.ok rfl ?_)
  ktr_rel
  repeat tb_rel
  refine c_wantnum (F := []) P hx (by (first | lia | omega)) (by rw [← hst]; exact hs) ?_
  repeat tb_rel
  refine s_list (vs := B.ts.map fun t => .int t.sort) (by tb_start) hx.pos (hx.lt (by (first | lia | omega))) (v := .int u.sort) (by rw [List.getElem?_map, hx.at_]; rfl) ?_ (by intro _ _; with_unfolding_all rfl)
  repeat tb_rel
  refine c_want (F := []) P hy.pos (hy.lt (by (first | lia | omega))) hy.at_ hst ?_
  repeat tb_rel
  refine aE_listF ?_
  repeat tb_rel
  refine c_neg (F := []) P hy hs hnum hB hl fun m B1 h1 h2 => ?_
  repeat tb_rel
  obtain ⟨t', h3, h4⟩ := h2.sort hy
  refine c_plus (F := []) (b := false) (l := [x, m]) (s := t.sort) P hs (List.cons_ne_nil _ _) (Nat.le_of_ble_eq_true rfl) (fa2 ⟨u, hx.ble h1, hst.symm⟩ ⟨t', h3, h4⟩) h1.ok (by have := h1.len; (first | lia | omega)) fun r B' h5 h6 => ?_
  exact h r B' (h1.trans h5) ⟨m, B1, h1, h2, (h6.resolve_left fun e => by have e := e.1; simp at e).2⟩
noncomputable abbrev tRel (o : Str) (a b : Int) : T := ⟨o, [a, b], 0, .i 0⟩
theorem c_le (P : Prog W) {x y : Int} {u : T} (hx : At B x u) (hy : At B y t) (hst : t.sort = u.sort) (hs : t.sort = 1 ∨ t.sort = 2) (hB : B.Ok) (hl : B.ts.length ≤ 40000) (h : ∀ r B', BLe B B' 1 → Mk B (tRel "<=" x y) r B' → Q (.int r) (F ++ bank W ad B')) :
    acall W (n + 3) (.ref (mf W "NumberBank" "le")) [.ref ad.self, .int x, .int y] (F ++ bank W ad B) Q := by
  refine acall_frame (acall_def (ρ0 := [some (.ref ad.self), some (.int x), some (.int y), none]) P.m25_8.ok rfl ?_)
  ktr_rel
  repeat tb_rel
  refine c_wantnum (F := []) P hx (by (first | lia | omega)) (by rw [← hst]; exact hs) ?_
  repeat tb_rel
  refine s_list (vs := B.ts.map fun t => .int t.sort) (by tb_start) hx.pos (hx.lt (by (first | lia | omega))) (v := .int u.sort) (by rw [List.getElem?_map, hx.at_]; rfl) ?_ (by intro _ _; with_unfolding_all rfl)
  repeat tb_rel
  refine c_want (F := []) P hy.pos (hy.lt (by (first | lia | omega))) hy.at_ hst ?_
  repeat tb_rel
  exact c_make (F := []) (t := tRel "<=" x y) P strOk_ops.2.2.2.1 hB (by (first | lia | omega)) h
theorem c_lt (P : Prog W) {x y : Int} {u : T} (hx : At B x u) (hy : At B y t) (hst : t.sort = u.sort) (hs : t.sort = 1 ∨ t.sort = 2) (hB : B.Ok) (hl : B.ts.length ≤ 40000) (h : ∀ r B', BLe B B' 1 → Mk B (tRel "<" x y) r B' → Q (.int r) (F ++ bank W ad B')) :
    acall W (n + 3) (.ref (mf W "NumberBank" "lt")) [.ref ad.self, .int x, .int y] (F ++ bank W ad B) Q := by
  refine acall_frame (acall_def (ρ0 := [some (.ref ad.self), some (.int x), some (.int y), none]) P.m25_9.ok rfl ?_)
  ktr_rel
  repeat tb_rel
  refine c_wantnum (F := []) P hx (by (first | lia | omega)) (by rw [← hst]; exact hs) ?_
  repeat tb_rel
  refine s_list (vs := B.ts.map fun t => .int t.sort) (by tb_start) hx.pos (hx.lt (by (first | lia | omega))) (v := .int u.sort) (by rw [List.getElem?_map, hx.at_]; rfl) ?_ (by intro _ _; with_unfolding_all rfl)
  repeat tb_rel
  refine c_want (F := []) P hy.pos (hy.lt (by (first | lia | omega))) hy.at_ hst ?_
  repeat tb_rel
  exact c_make (F := []) (t := tRel "<" x y) P strOk_ops.2.2.2.2.1 hB (by (first | lia | omega)) h
theorem c_eqt (P : Prog W) {x y : Int} {u : T} (hx : At B x u) (hy : At B y t) (hst : t.sort = u.sort) (hB : B.Ok) (hl : B.ts.length ≤ 40000)
    (h : ∀ r B', BLe B B' 1 → ((x = y ∧ r = 1 ∧ B' = B) ∨ (x ≠ y ∧ Mk B (tRel "=" (min x y) (max x y)) r B')) → Q (.int r) (F ++ bank W ad B')) :
    acall W (n + 3) (.ref (mf W "NumberBank" "eq")) [.ref ad.self, .int x, .int y] (F ++ bank W ad B) Q := by
  refine acall_frame (acall_def (ρ0 := [some (.ref ad.self), some (.int x), some (.int y), none, none, none]) P.m24_6.ok rfl ?_)
  ktr_rel
  repeat tb_rel
  refine s_list (vs := B.ts.map fun t => .int t.sort) (by tb_start) hx.pos (hx.lt (by (first | lia | omega))) (v := .int u.sort) (by rw [List.getElem?_map, hx.at_]; rfl) ?_ (by intro _ _; with_unfolding_all rfl)
  repeat tb_rel
  refine c_want (F := []) P hy.pos (hy.lt (by (first | lia | omega))) hy.at_ hst ?_
  repeat tb_rel
  by_cases hxy : x = y
  · try tb_rel
    repeat tb_rel
    exact h 1 B (.refl hB) (.inl ⟨hxy, rfl, rfl⟩)
  · try tb_rel
    refine ss_nil ?_
    repeat tb_rel
    have e1 : (if y < x then y else x) = min x y := by rw [Int.min_def]; split <;> split <;> (first | lia | omega)
    have e2 : (if y > x then y else x) = max x y := by rw [Int.max_def]; split <;> split <;> (first | lia | omega)
    rw [e1, e2]
    exact c_make (F := []) (t := tRel "=" (min x y) (max x y)) P strOk_ops.2.2.2.2.2.1 hB (by (first | lia | omega)) fun r B' h1 h2 => h r B' h1 (.inr ⟨hxy, h2⟩)
theorem c_ite (P : Prog W) {c x y : Int} {u w : T} (hc : At B c w) (hw : w.sort = 0) (hx : At B x u) (hy : At B y t) (hst : t.sort = u.sort) (hB : B.Ok) (hl : B.ts.length ≤ 40000)
    (h : ∀ r B', BLe B B' 1 → Mk B ⟨"ite", [c, x, y], u.sort, .i 0⟩ r B' → Q (.int r) (F ++ bank W ad B')) :
    acall W (n + 3) (.ref (mf W "NumberBank" "ite")) [.ref ad.self, .int c, .int x, .int y] (F ++ bank W ad B) Q := by
  refine acall_frame (acall_def (ρ0 := [some (.ref ad.self), some (.int c), some (.int x), some (.int y), none]) P.m24_8.ok rfl ?_)
  ktr_rel
  repeat tb_rel
  refine c_want (F := []) P hc.pos (hc.lt (by (first | lia | omega))) hc.at_ hw ?_
  repeat tb_rel
  refine s_list (vs := B.ts.map fun t => .int t.sort) (by tb_start) hx.pos (hx.lt (by (first | lia | omega))) (v := .int u.sort) (by rw [List.getElem?_map, hx.at_]; rfl) ?_ (by intro _ _; with_unfolding_all rfl)
  repeat tb_rel
  refine c_want (F := []) P hy.pos (hy.lt (by (first | lia | omega))) hy.at_ hst ?_
  repeat tb_rel
  refine s_list (vs := B.ts.map fun t => .int t.sort) (by tb_start) hx.pos (hx.lt (by (first | lia | omega))) (v := .int u.sort) (by rw [List.getElem?_map, hx.at_]; rfl) ?_ (by intro _ _; with_unfolding_all rfl)
  repeat tb_rel
  exact c_make (F := []) (t := ⟨"ite", [c, x, y], u.sort, .i 0⟩) P strOk_ops.2.2.2.2.2.2.1 hB (by (first | lia | omega)) fun r B' h1 h2 => h r B' h1 h2
theorem c_true (P : Prog W) (h : Q (.int 1) (F ++ bank W ad B)) : acall W (n + 1) (.ref (mf W "NumberBank" "true_term")) [.ref ad.self] (F ++ bank W ad B) Q := by
  refine acall_frame (acall_def (ρ0 := [some (.ref ad.self)]) P.m23_24.ok rfl ?_)
  ktr_rel
  repeat tb_rel
  exact h
end
/- part B7 -/
/- ## finite functions from term numbers to ratios -/
noncomputable abbrev Row := List (Int × Rat)
noncomputable def rl (p : Row) : List (Int × V) := p.map fun kv => (kv.1, rv kv.2)
noncomputable def lk : Row → Int → Rat
  | [], _ => 0
  | (k', v) :: r, k => if k' = k then v else lk r k
noncomputable def putR (p : Row) (k : Int) (v : Rat) : Row := if p.any (fun kv => kv.1 = k) then p.map (fun kv => if kv.1 = k then (kv.1, v) else kv) else p ++ [(k, v)]
noncomputable def delR (p : Row) (k : Int) : Row := p.filter fun kv => decide (kv.1 ≠ k)
noncomputable def addP (p : Row) (k : Int) (f : Rat) : Row := if lk p k + f = 0 then delR p k else putR p k (lk p k + f)
theorem rl_any (p : Row) (k : Int) : (rl p).any (fun kv => kv.1 = k) = p.any (fun kv => kv.1 = k) := by
  induction p with
  | nil => rfl
  | cons a p ih => simp only [rl, List.map_cons, List.any_cons] at ih ⊢; rw [ih]
theorem rl_put (p : Row) (k : Int) (v : Rat) : putK (rl p) k (rv v) = rl (putR p k v) := by
  unfold putK putR
  rw [rl_any]
  split
  · simp only [rl, List.map_map]
    refine List.map_congr_left fun a _ => ?_
    simp only [Function.comp]
    split <;> rfl
  · simp [rl]
theorem rl_del (p : Row) (k : Int) : delK (rl p) k = rl (delR p k) := by
  unfold delK delR
  simp only [rl, List.filter_map]
  rfl
theorem rl_look (p : Row) (k : Int) : (lookI (rl p) k).getD (rv 0) = rv (lk p k) := by
  unfold lookI
  induction p with
  | nil => rfl
  | cons a p ih =>
    obtain ⟨k', v⟩ := a
    simp only [rl, List.map_cons, List.find?_cons, lk] at ih ⊢
    by_cases e : k' = k
    · simp [e]
    · simp only [e, decide_false, if_false]; exact ih
theorem rl_isSome (p : Row) (k : Int) : (lookI (rl p) k).isSome = p.any (fun kv => kv.1 = k) := by
  unfold lookI
  induction p with
  | nil => rfl
  | cons a p ih =>
    obtain ⟨k', v⟩ := a
    simp only [rl, List.map_cons, List.find?_cons, List.any_cons] at ih ⊢
    by_cases e : k' = k
    · simp [e]
    · simp only [e, decide_false, Bool.false_or]; exact ih
theorem rl_len (p : Row) : (rl p).length = p.length := by simp [rl]
theorem rl_keys (p : Row) : (rl p).map (·.1) = p.map (·.1) := by simp [rl, Function.comp_def]
theorem del_none {p : Row} {k : Int} (h : p.any (fun kv => kv.1 = k) = false) : delR p k = p := by
  unfold delR
  rw [List.filter_eq_self]
  intro a ha
  have := List.any_eq_false.mp h a ha
  simpa using this
theorem lk_none {p : Row} {k : Int} (h : p.any (fun kv => kv.1 = k) = false) : lk p k = 0 := by
  induction p with
  | nil => rfl
  | cons a p ih =>
    obtain ⟨k', v⟩ := a
    simp only [List.any_cons, Bool.or_eq_false_iff, decide_eq_false_iff_not] at h
    unfold lk
    rw [if_neg h.1]; exact ih h.2
set_option genInjectivity false in
structure FAd where
  self : Addr
  dx : Addr
  pa : Addr
noncomputable def formS (W : Wd) (fa : FAd) (p : Row) (c : Rat) : St := [(fa.pa, .idict (rl p)), (fa.self, .inst (cA W "LinearForm") fa.dx [("parts", .ref fa.pa), ("constant", rv c)])]
section
variable {W : Wd} {n : Nat} {σ : St} {fa : FAd} {p : Row} {c : Rat} {F : St} {Q : V → St → Prop}
theorem num_ne {q : Rat} : decide (q.num ≠ 0) = !decide (q = 0) := by
  by_cases h : q = 0
  · subst h; rfl
  · have : q.num ≠ 0 := fun e => h (Rat.num_eq_zero.mp e)
    simp [h, this]
theorem c_newform (P : Prog W) (h : ∀ fa, Q (.ref fa.self) (formS W fa [] 0 ++ F)) : acall W (n + 2) (.ref (cA W "LinearForm")) [] F Q := by
  refine acall_new P.cL.new fun a dx => acode_def (ρ0 := [some (.ref a), none]) P.m14_0.ok rfl ?_
  ktr_rel
  with_reducible refine' ss_setattr ?_ ?hs
  case hs => rfl
  refine aE_dict0 fun pa => ?_
  repeat tb_rel
  repeat tb_rel
  refine ss_nil ?_
  exact ⟨rfl, h ⟨a, dx, pa⟩⟩
theorem c_addpart (P : Prog W) {k : Int} {f : Rat} (hs : Sm (lk p k)) (hf : Sm f) (hl : p.length ≤ 50000) (h : Q .none (formS W fa (addP p k f) c)) : acall W (n + 4) (.ref (mf W "LinearForm" "add_part")) [.ref fa.self, .int k, rv f] (formS W fa p c) Q := by
  refine acall_def (ρ0 := [some (.ref fa.self), some (.int k), some (rv f), none, none, none]) P.m14_1.ok rfl ?_
  ktr_rel
  repeat tb_rel
  refine get_idict (kvs := rl p) (by tb_start) ?_
  rw [show (V.tup [V.int 0, V.int 1]) = rv 0 from rfl, rl_look]
  repeat tb_rel
  refine c_add P hs hf ?_
  repeat tb_rel
  rw [num_ne]
  unfold addP at h
  by_cases h0 : lk p k + f = 0
  · simp only [h0, decide_true, Bool.not_true, Bool.false_eq_true, if_false, if_true] at h ⊢
    repeat tb_rel
    refine in_idict (kvs := rl p) (by tb_start) ?_
    rw [rl_isSome]
    cases hh : p.any (fun kv => kv.1 = k) with
    | false =>
      try tb_rel
      refine ss_nil ?_
      refine ss_nil ?_
      rw [del_none hh] at h
      exact ss_nil h
    | true =>
      try tb_rel
      repeat tb_rel
      refine del_idict (kvs := rl p) (by tb_start) (by rw [rl_isSome]; exact hh) (by rw [rl_len]; (first | lia | omega)) ?_
      refine ss_nil ?_
      refine ss_nil ?_
      rw [rl_del]
      exact ss_nil h
  · simp only [h0, decide_false, Bool.not_false, if_true, if_false] at h ⊢
    repeat tb_rel
    refine set_idict (kvs := rl p) (by tb_start) (by rw [rl_len]; (first | lia | omega)) ?_
    refine ss_nil ?_
    refine ss_nil ?_
    rw [rl_put]
    exact h
theorem c_addconst (P : Prog W) {f : Rat} (hs : Sm c) (hf : Sm f) (h : Q .none (formS W fa p (c + f))) : acall W (n + 4) (.ref (mf W "LinearForm" "add_constant")) [.ref fa.self, rv f] (formS W fa p c) Q := by
  refine acall_def (ρ0 := [some (.ref fa.self), some (rv f), none]) P.m14_2.ok rfl ?_
  ktr_rel
  repeat tb_rel
  refine c_add P hs hf ?_
  repeat tb_rel
  exact ss_nil h
end
/- part C1 -/
/- ## rows: plain laws -/
structure RowOk (p : Row) : Prop where
  nd : (p.map (·.1)).Nodup
  nz : ∀ kv ∈ p, kv.2 ≠ 0
theorem RowOk.nil : RowOk [] := ⟨by simp, by simp⟩
theorem any_iff {p : Row} {k : Int} : p.any (fun kv => kv.1 = k) = true ↔ k ∈ p.map (·.1) := by
  simp [List.any_eq_true]
theorem lk_out {p : Row} {k : Int} (h : k ∉ p.map (·.1)) : lk p k = 0 := lk_none (by
  cases e : p.any (fun kv => kv.1 = k) with
  | false => rfl
  | true => exact absurd (any_iff.mp e) h)
theorem lk_mem {p : Row} (h : (p.map (·.1)).Nodup) {k : Int} {v : Rat} (hm : (k, v) ∈ p) : lk p k = v := by
  induction p with
  | nil => cases hm
  | cons a p ih =>
    obtain ⟨k', v'⟩ := a
    rw [List.map_cons, List.nodup_cons] at h
    unfold lk
    rcases List.mem_cons.mp hm with e | e
    · injection e with e1 e2; subst e1 e2; simp
    · have : k' ≠ k := by rintro rfl; exact h.1 (List.mem_map.mpr ⟨_, e, rfl⟩)
      rw [if_neg this]; exact ih h.2 e
theorem RowOk.key {p : Row} (h : RowOk p) {k : Int} : k ∈ p.map (·.1) ↔ lk p k ≠ 0 := by
  constructor
  · intro hk
    obtain ⟨⟨k', v⟩, hm, rfl⟩ := List.mem_map.mp hk
    rw [lk_mem h.nd hm]; exact h.nz _ hm
  · intro hk
    by_cases e : k ∈ p.map (·.1)
    · exact e
    · exact absurd (lk_out e) hk
theorem lk_del (p : Row) (k j : Int) : lk (delR p k) j = if j = k then 0 else lk p j := by
  induction p with
  | nil => simp [delR, lk]
  | cons a p ih =>
    obtain ⟨k', v⟩ := a
    unfold delR at ih ⊢
    by_cases e : k' = k
    · subst e
      simp only [List.filter_cons, ne_eq, not_true_eq_false, decide_false, Bool.false_eq_true, if_false]
      rw [ih]
      by_cases e2 : j = k'
      · simp [e2]
      · simp only [e2, if_false]
        conv => rhs; unfold lk
        rw [if_neg (fun q => e2 q.symm)]
    · simp only [List.filter_cons, ne_eq, e, not_false_eq_true, decide_true, if_true]
      unfold lk
      by_cases e2 : k' = j
      · subst e2; simp [e]
      · rw [if_neg e2, if_neg e2]; exact ih
theorem lk_app (p : Row) (k : Int) (v : Rat) (h : k ∉ p.map (·.1)) (j : Int) : lk (p ++ [(k, v)]) j = if j = k then v else lk p j := by
  induction p with
  | nil =>
    simp only [List.nil_append, lk]
    by_cases e : k = j
    · subst e; simp
    · have : ¬ j = k := fun q => e q.symm
      simp [e, this]
  | cons a p ih =>
    obtain ⟨k', v'⟩ := a
    simp only [List.map_cons, List.mem_cons, not_or] at h
    simp only [List.cons_append, lk]
    rw [ih h.2]
    by_cases e : k' = j
    · subst e
      have : ¬ k' = k := fun q => h.1 q.symm
      simp [this]
    · simp [e]
theorem lk_upd (p : Row) (k : Int) (v : Rat) (h : k ∈ p.map (·.1)) (j : Int) : lk (p.map fun kv => if kv.1 = k then (kv.1, v) else kv) j = if j = k then v else lk p j := by
  induction p with
  | nil => simp at h
  | cons a p ih =>
    obtain ⟨k', v'⟩ := a
    simp only [List.map_cons]
    by_cases e : k' = k
    · subst e
      simp only [if_true, lk]
      by_cases e2 : k' = j
      · subst e2; simp
      · have e3 : ¬ j = k' := fun q => e2 q.symm
        simp only [e2, e3, if_false]
        by_cases hin : k' ∈ p.map (·.1)
        · rw [ih hin, if_neg e3]
        · have : (p.map fun kv => if kv.1 = k' then (kv.1, v) else kv) = p := by
            conv => rhs; rw [← List.map_id p]
            refine List.map_congr_left fun b hb => ?_
            have : b.1 ≠ k' := by rintro rfl; exact hin (List.mem_map_of_mem hb)
            simp [this]
          rw [this]
    · have hin : k ∈ p.map (·.1) := by
        simp only [List.map_cons, List.mem_cons] at h
        exact h.resolve_left fun q => e q.symm
      simp only [e, if_false, lk]
      by_cases e2 : k' = j
      · subst e2; simp [e]
      · simp only [e2, if_false]; exact ih hin
theorem lk_put (p : Row) (k j : Int) (v : Rat) : lk (putR p k v) j = if j = k then v else lk p j := by
  unfold putR
  by_cases h : p.any (fun kv => kv.1 = k) = true
  · rw [if_pos h]; exact lk_upd p k v (any_iff.mp h) j
  · rw [if_neg h]; exact lk_app p k v (fun q => h (any_iff.mpr q)) j
theorem lk_addP (p : Row) (k j : Int) (f : Rat) : lk (addP p k f) j = if j = k then lk p k + f else lk p j := by
  unfold addP
  split
  · rename_i h
    rw [lk_del]
    split
    · rw [h]
    · rfl
  · rw [lk_put]
theorem keys_upd (p : Row) (k : Int) (v : Rat) : (p.map fun kv => if kv.1 = k then (kv.1, v) else kv).map (·.1) = p.map (·.1) := by
  rw [List.map_map]
  refine List.map_congr_left fun a _ => ?_
  simp only [Function.comp]; split <;> rfl
theorem nodup_put {p : Row} (h : (p.map (·.1)).Nodup) (k : Int) (v : Rat) : ((putR p k v).map (·.1)).Nodup := by
  unfold putR
  by_cases hh : p.any (fun kv => kv.1 = k) = true
  · rw [if_pos hh, keys_upd]; exact h
  · rw [if_neg hh, List.map_append, List.nodup_append]
    refine ⟨h, by simp, ?_⟩
    rintro a ha b hb rfl
    simp only [List.map_cons, List.map_nil, List.mem_singleton] at hb
    subst hb; exact hh (any_iff.mpr ha)
theorem nodup_del {p : Row} (h : (p.map (·.1)).Nodup) (k : Int) : ((delR p k).map (·.1)).Nodup := h.sublist ((List.filter_sublist).map _)
theorem RowOk.addP {p : Row} (h : RowOk p) (k : Int) (f : Rat) : RowOk (addP p k f) := by
  unfold Mine.addP
  split
  · exact ⟨nodup_del h.nd k, fun kv hkv => h.nz kv (List.mem_filter.mp hkv).1⟩
  · rename_i hne
    refine ⟨nodup_put h.nd k _, fun kv hkv => ?_⟩
    unfold putR at hkv
    split at hkv
    · obtain ⟨a, ha, rfl⟩ := List.mem_map.mp hkv
      split
      · exact hne
      · exact h.nz a ha
    · rcases List.mem_append.mp hkv with q | q
      · exact h.nz kv q
      · simp only [List.mem_singleton] at q; subst q; exact hne
/- the keys lie in a list -/
noncomputable def Supp (p : Row) (S : List Int) : Prop := ∀ k, lk p k ≠ 0 → k ∈ S
theorem RowOk.len {p : Row} (h : RowOk p) {S : List Int} (hs : Supp p S) : p.length ≤ S.length := by
  have : (p.map (·.1)).length ≤ S.length := (List.subset_iff_sublist_perm h.nd S (fun k hk => hs k (h.key.mp hk)))
  simpa using this
where
  List.subset_iff_sublist_perm : ∀ {l : List Int}, l.Nodup → ∀ (S : List Int), (∀ k ∈ l, k ∈ S) → l.length ≤ S.length
    | [], _, S, _ => Nat.zero_le _
    | a :: l, hn, S, h => by
      rw [List.nodup_cons] at hn
      have ha := h a (.head _)
      have := List.subset_iff_sublist_perm hn.2 (S.erase a) fun k hk => by
        have hne : k ≠ a := by rintro rfl; exact hn.1 hk
        exact (List.mem_erase_of_ne hne).mpr (h k (.tail _ hk))
      rw [List.length_erase_of_mem ha] at this
      have hpos := List.length_pos_of_mem ha
      simp only [List.length_cons]
      (first | lia | omega)
/- dict equality is equality of functions -/
theorem rl_lookI {p : Row} (h : RowOk p) (k : Int) : lookI (rl p) k = if lk p k = 0 then none else some (rv (lk p k)) := by
  have e := rl_look p k
  have e2 := rl_isSome p k
  cases hq : lookI (rl p) k with
  | none =>
    rw [hq] at e2
    have : lk p k = 0 := lk_none e2.symm
    simp [this]
  | some v =>
    rw [hq] at e e2
    have hm := any_iff.mp e2.symm
    rw [if_neg (h.key.mp hm)]
    simp only [Option.getD_some] at e
    rw [e]
theorem veq_rv (a b : Rat) : veq (rv a) (rv b) = decide (a = b) := by
  have h := veq_iff (rv a) (rv b) (by simp [eqOk, eqOks]) (by simp [eqOk, eqOks])
  by_cases e : a = b
  · subst e; rw [decide_eq_true rfl]; exact h.mpr rfl
  · rw [decide_eq_false e]
    cases hh : veq (rv a) (rv b) with
    | false => rfl
    | true => exact absurd (rv_inj (h.mp hh)) e
theorem deq_rl {p q : Row} (hp : RowOk p) (hq : RowOk q) : deq (rl p) (rl q) = true ↔ ∀ k, lk p k = lk q k := by
  unfold deq
  rw [Bool.and_eq_true, beq_iff_eq, rl_len, rl_len, List.all_eq_true]
  constructor
  · rintro ⟨hl, ha⟩ k
    have sub : ∀ k ∈ p.map (·.1), k ∈ q.map (·.1) ∧ lk p k = lk q k := by
      intro k hk
      obtain ⟨⟨k', v⟩, hm, rfl⟩ := List.mem_map.mp hk
      have := ha (k', rv v) (by unfold rl; exact List.mem_map_of_mem (f := fun kv : Int × Rat => (kv.1, rv kv.2)) hm)
      rw [rl_lookI hq] at this
      simp only at this
      by_cases hne : lk q k' = 0
      · rw [if_pos hne] at this; cases this
      · rw [if_neg hne] at this
        simp only at this
        rw [veq_rv, decide_eq_true_eq] at this
        exact ⟨hq.key.mpr hne, by rw [lk_mem hp.nd hm]; exact this⟩
    by_cases hk : k ∈ p.map (·.1)
    · exact (sub k hk).2
    · rw [lk_out hk]
      by_cases hk2 : k ∈ q.map (·.1)
      · exfalso
        have h1 := RowOk.len.List.subset_iff_sublist_perm (l := k :: p.map (·.1)) (by rw [List.nodup_cons]; exact ⟨hk, hp.nd⟩) (q.map (·.1)) (by
          intro j hj
          rcases List.mem_cons.mp hj with rfl | hj
          · exact hk2
          · exact (sub j hj).1)
        simp at h1
        (first | lia | omega)
      · rw [lk_out hk2]
  · intro h
    have hk : ∀ k, k ∈ p.map (·.1) ↔ k ∈ q.map (·.1) := fun k => by rw [hp.key, hq.key, h k]
    refine ⟨?_, ?_⟩
    · have h1 := RowOk.len.List.subset_iff_sublist_perm hp.nd (q.map (·.1)) fun k hh => (hk k).mp hh
      have h2 := RowOk.len.List.subset_iff_sublist_perm hq.nd (p.map (·.1)) fun k hh => (hk k).mpr hh
      simp at h1 h2
      (first | lia | omega)
    · rintro ⟨k, v⟩ hm
      unfold rl at hm
      obtain ⟨⟨k', v'⟩, hm', e⟩ := List.mem_map.mp hm
      injection e with e1 e2
      subst e1 e2
      have hv := lk_mem hp.nd hm'
      have hne : lk q k' ≠ 0 := by rw [← h, hv]; exact hp.nz _ hm'
      simp only
      rw [rl_lookI hq, if_neg hne, ← h, hv]
      show veq (rv v') (rv v') = true
      rw [veq_rv]; simp
theorem deq_rl' {p q : Row} (hp : RowOk p) (hq : RowOk q) : deq (rl p) (rl q) = false ↔ ¬ ∀ k, lk p k = lk q k := by
  rw [← deq_rl hp hq]; simp
theorem vals_rl (p : Row) : valsOk (rl p) := by
  intro kv hkv
  unfold rl at hkv
  obtain ⟨a, _, rfl⟩ := List.mem_map.mp hkv
  simp [eqOk, eqOks, vdep, vdeps]
/- part B8 -/
noncomputable def addAll (q : Row) (f : Rat) : List Int → Row → Row
  | [], p => p
  | k :: ks, p => addAll q f ks (addP p k (lk q k * f))
theorem lk_addAll (q : Row) (f : Rat) : ∀ (ks : List Int) (p : Row), ks.Nodup → ∀ j, lk (addAll q f ks p) j = lk p j + (if j ∈ ks then lk q j * f else 0)
  | [], p, _, j => by simp [addAll, Rat.add_zero]
  | k :: ks, p, h, j => by
    rw [List.nodup_cons] at h
    unfold addAll
    rw [lk_addAll q f ks _ h.2 j, lk_addP]
    by_cases e : j = k
    · subst e
      simp [h.1, Rat.add_zero]
    · simp [e]
theorem addAll_ok (q : Row) (f : Rat) : ∀ (ks : List Int) (p : Row), RowOk p → RowOk (addAll q f ks p)
  | [], p, h => h
  | k :: ks, p, h => addAll_ok q f ks _ (h.addP k _)
theorem rl_some {p : Row} (h : RowOk p) {k : Int} (hk : k ∈ p.map (·.1)) : lookI (rl p) k = some (rv (lk p k)) := by rw [rl_lookI h, if_neg (h.key.mp hk)]
section
variable {W : Wd} {n : Nat} {σ : St} {fa fb : FAd} {p q : Row} {c d : Rat} {F : St} {Q : V → St → Prop}
inductive IAdd (W : Wd) (fa : FAd) (fb : FAd) (p : Row) (q : Row) (f : Rat) (c : Rat) (d : Rat) (ns : List Int) (vs : List V) (ρ : Ro) (τ : St) : Prop
  | mk (l : List Int) (u : Option V) (pp : Row) (h1 : vs = l.map .int) (h2 : (∀ x ∈ l, x ∈ q.map (·.1))) (h3 : l.Nodup) (h4 : RowOk pp) (h5 : pp.length + l.length ≤ p.length + q.length) (h6 : (∀ j, j ∈ l → lk pp j = lk p j)) (h7 : addAll q f l pp = addAll q f ns p) (h8 : ρ = [some (.ref fa.self), some (.ref fb.self), some (rv f), u, none, none, none]) (h9 : τ = formS W fb q d ++ formS W fa pp c) : IAdd W fa fb p q f c d ns vs ρ τ
theorem c_addform (P : Prog W) {f : Rat} (hp : RowOk p) (hq : RowOk q) (hf : Sm f) (hql : q.length < 64) (hpl : p.length ≤ 40000) (hm : ∀ k, Sm (lk q k)) (hm2 : ∀ k, Sm (lk p k)) (hm3 : ∀ k, Sm (lk q k * f)) (hc : Sm c) (hd : Sm d) (hdf : Sm (d * f))
    (h : ∀ p', RowOk p' → (∀ k, lk p' k = lk p k + lk q k * f) → Q .none (formS W fb q d ++ formS W fa p' (c + d * f))) :
    acall W (n + 5) (.ref (mf W "LinearForm" "add_form")) [.ref fa.self, .ref fb.self, rv f] (formS W fb q d ++ formS W fa p c) Q := by
  refine acall_def (ρ0 := [some (.ref fa.self), some (.ref fb.self), some (rv f), none, none, none, none]) P.m14_3.ok rfl ?_
  ktr_rel
  repeat tb_rel
  by_cases h0 : f = 0
  · subst h0
    have : decide ((0 : Rat).num = 0) = true := rfl
    try tb_rel
    refine ss_ret0 ?_
    have := h p hp (fun k => by simp [Rat.mul_zero, Rat.add_zero])
    show Q _ _; simpa [flv, Rat.mul_zero, Rat.add_zero] using this
  · have : decide (f.num = 0) = false := by
      have := num_ne (q := f)
      simp only [h0, decide_false, Bool.not_false] at this
      simpa using this
    try tb_rel
    refine ss_nil ?_
    refine ss_for (ai_flist ?_) (by intro _ _; rfl)
    repeat tb_rel
    refine of_sorted_idict (kvs := rl q) (by tb_start) (by rw [rl_len]; exact hql) fun ns hperm hsort => ?_
    refine ⟨_, rfl, ?_⟩
    rw [rl_keys] at hperm
    have hnd : ns.Nodup := hperm.nodup_iff.mpr hq.nd
    refine loop_inv (IAdd W fa fb p q f c d ns) ?_ ?_ _ _ _ ⟨ns, none, p, rfl, fun x hx => (hperm.mem_iff.mp hx), hnd, hp, by have := hperm.length_eq; simp at this; (first | lia | omega), fun _ _ => rfl, rfl, rfl, rfl⟩
    · rintro v vs ρ τ ⟨l, u, pp, he, hin, hl, hok, hlen, heq, hall, rfl, rfl⟩
      cases l with
      | nil => cases he
      | cons x l =>
        simp only [List.map_cons, List.cons.injEq] at he
        obtain ⟨rfl, rfl⟩ := he
        rw [List.nodup_cons] at hl
        repeat tb_rel
        refine s_idict (kvs := rl q) (by tb_start) (rl_some hq (hin x (.head _))) ?_ (by intro _ _; with_unfolding_all rfl)
        repeat tb_rel
        refine c_mul P (hm x) hf ?_
        repeat tb_rel
        refine acall_frame (F := formS W fb q d) (c_addpart P ?_ (hm3 x) (by simp at hlen; (first | lia | omega)) ?_)
        · rw [heq x (.head _)]; exact hm2 x
        repeat tb_rel
        refine ss_nil ?_
        refine ⟨l, some (.int x), addP pp x (lk q x * f), rfl, fun y hy => hin y (.tail _ hy), hl.2, hok.addP _ _, ?_, fun j hj => ?_, hall, rfl, rfl⟩
        · have h2 : (addP pp x (lk q x * f)).length ≤ pp.length + 1 := by
            unfold addP
            split
            · exact Nat.le_succ_of_le (List.length_filter_le ..)
            · unfold putR; split <;> simp
          simp only [List.length_cons] at hlen; (first | lia | omega)
        · rw [lk_addP, if_neg (by rintro rfl; exact hl.1 hj)]
          exact heq j (.tail _ hj)
    · rintro ρ τ ⟨l, u, pp, he, _, _, hok, _, _, hall, rfl, rfl⟩
      cases l with
      | cons _ _ => cases he
      | nil =>
        simp only [addAll] at hall
        subst hall
        repeat tb_rel
        refine c_mul P hd hf ?_
        repeat tb_rel
        refine c_add P hc hdf ?_
        repeat tb_rel
        refine ss_nil ?_
        refine h _ (addAll_ok q f ns p hp) fun k => ?_
        rw [lk_addAll q f ns p hnd]
        by_cases hk : k ∈ ns
        · simp [hk]
        · have : lk q k = 0 := lk_out fun hq' => hk (hperm.mem_iff.mpr hq')
          simp [hk, this, Rat.zero_mul, Rat.add_zero]
/- the pairs of a row, by a list of keys -/
noncomputable def pairs (p : Row) (ks : List Int) : V := .tup (ks.map fun k => .tup [.int k, rv (lk p k)])
inductive ISorted (W : Wd) (fa : FAd) (p : Row) (c : Rat) (ns : List Int) (vs : List V) (acc : List V) (ρ : Ro) (τ : St) : Prop
  | mk (l done : List Int) (u : Option V) (h1 : vs = l.map .int) (h2 : ns = done ++ l) (h3 : acc = done.map (fun k => .tup [.int k, rv (lk p k)])) (h4 : ρ = [none, u, some (.ref fa.self)]) (h5 : τ = formS W fa p c) : ISorted W fa p c ns vs acc ρ τ
theorem c_sortedparts (P : Prog W) (hp : RowOk p) (hl : p.length < 64) (h : ∀ ns : List Int, ns.Perm (p.map (·.1)) → ns.Pairwise (· ≤ ·) → Q (pairs p ns) (formS W fa p c)) :
    acall W (n + 2) (.ref (mf W "LinearForm" "sorted_parts")) [.ref fa.self] (formS W fa p c) Q := by
  refine acall_def (ρ0 := [some (.ref fa.self), none, none]) P.m14_4.ok rfl ?_
  ktr_rel
  repeat tb_rel
  refine aE_re (aE_listcomp (ρ' := [none, none, some (.ref fa.self)]) (.of (by decide +kernel)) rfl (ai_flist ?_) (by intro _ _; rfl))
  repeat tb_rel
  refine of_sorted_idict (kvs := rl p) (by tb_start) (by rw [rl_len]; exact hl) fun ns hperm hsort => ?_
  rw [rl_keys] at hperm
  refine ⟨_, rfl, by have := hperm.length_eq; simp at this ⊢; (first | lia | omega), ?_⟩
  refine comp_inv (ISorted W fa p c ns) ?_ ?_ _ _ _ _ ⟨ns, [], none, rfl, rfl, rfl, rfl, rfl⟩
  · rintro v vs acc ρ τ ⟨l, done, u, he, hns, rfl, rfl, rfl⟩
    cases l with
    | nil => cases he
    | cons x l =>
      simp only [List.map_cons, List.cons.injEq] at he
      obtain ⟨rfl, rfl⟩ := he
      refine aAL_local (i := 1) rfl ?_
      show aE _ _ _ _ _ _ _
      repeat tb_rel
      refine s_idict (kvs := rl p) (by tb_start) (rl_some hp (hperm.mem_iff.mp (by rw [hns]; simp))) ?_ (by intro _ _; with_unfolding_all rfl)
      repeat tb_rel
      exact ⟨l, done ++ [x], some (.int x), rfl, by rw [hns]; simp, by simp, rfl, rfl⟩
  · rintro acc ρ τ ⟨l, done, u, he, hns, rfl, rfl, rfl⟩ D
    cases l with
    | cons _ _ => cases he
    | nil =>
      rw [List.append_nil] at hns
      subst hns
      refine ⟨_, _, Re.list .head, ?_⟩
      repeat tb_rel
      refine o_tuple_flist (by have := hperm.length_eq; simp at this ⊢; (first | lia | omega)) ?_
      exact h ns hperm hsort
end
/- part C2 -/
/- ## sizes of ratios -/
noncomputable def ab (q : Rat) : Rat := if q < 0 then -q else q
theorem den_num (q : Rat) : q * q.den = q.num := by
  have h1 : ((q.den : Nat) : Rat) ≠ 0 := by
    have := q.den_nz
    exact_mod_cast this
  have h2 : (q.num : Rat) / ((q.den : Int) : Rat) = q := by rw [← Rat.divInt_eq_div, Rat.num_divInt_den]
  rw [Rat.intCast_natCast] at h2
  exact (congrArg (· * (q.den : Rat)) h2.symm).trans (Rat.div_mul_cancel h1)
theorem ab_nonneg (q : Rat) : 0 ≤ ab q := by unfold ab; split <;> grind
theorem ab_le (q : Rat) : q ≤ ab q ∧ -q ≤ ab q := by unfold ab; split <;> constructor <;> grind
theorem ab_add (a b : Rat) : ab (a + b) ≤ ab a + ab b := by
  have h1 := ab_le a
  have h2 := ab_le b
  unfold ab at *
  split <;> split at * <;> grind
theorem ab_zero : ab 0 = 0 := by unfold ab; split <;> grind
theorem ab_one : ab 1 = 1 := by unfold ab; split <;> grind
theorem ab_neg (q : Rat) : ab (-q) = ab q := by unfold ab; split <;> split <;> grind
theorem ab_mul (a b : Rat) : ab (a * b) = ab a * ab b := by
  have h : ∀ x y : Rat, 0 ≤ x → 0 ≤ y → ab (x * y) = ab x * ab y := fun x y hx hy => by
    have := Rat.mul_nonneg hx hy
    unfold ab
    rw [if_neg (Rat.not_lt.mpr this), if_neg (Rat.not_lt.mpr hx), if_neg (Rat.not_lt.mpr hy)]
  rcases Rat.le_total (a := 0) (b := a) with ha | ha <;> rcases Rat.le_total (a := 0) (b := b) with hb | hb
  · exact h a b ha hb
  · have := h a (-b) ha (by grind)
    rw [ab_neg, show a * -b = -(a * b) by grind, ab_neg] at this; exact this
  · have := h (-a) b (by grind) hb
    rw [ab_neg, show -a * b = -(a * b) by grind, ab_neg] at this; exact this
  · have := h (-a) (-b) (by grind) (by grind)
    rw [ab_neg, ab_neg, show -a * -b = a * b by grind] at this; exact this
noncomputable def Dv (q : Rat) (N : Nat) : Prop := ∃ z : Int, q * N = z
theorem Dv.add {a b : Rat} {N : Nat} (h : Dv a N) (h' : Dv b N) : Dv (a + b) N := by
  obtain ⟨x, hx⟩ := h
  obtain ⟨y, hy⟩ := h'
  exact ⟨x + y, by rw [Rat.intCast_add, ← hx, ← hy]; grind⟩
theorem Dv.mul {a b : Rat} {M N : Nat} (h : Dv a M) (h' : Dv b N) : Dv (a * b) (M * N) := by
  obtain ⟨x, hx⟩ := h
  obtain ⟨y, hy⟩ := h'
  exact ⟨x * y, by rw [Rat.intCast_mul, ← hx, ← hy, Rat.natCast_mul]; grind⟩
theorem Dv.dvd {a : Rat} {M N : Nat} (h : Dv a M) (hd : M ∣ N) : Dv a N := by
  obtain ⟨x, hx⟩ := h
  obtain ⟨k, rfl⟩ := hd
  exact ⟨x * k, by rw [Rat.intCast_mul, ← hx, Rat.natCast_mul]; show _ = a * M * ((k : Int) : Rat); rw [Rat.intCast_natCast]; grind⟩
theorem Dv.int (z : Int) (N : Nat) : Dv z N := ⟨z * N, by rw [Rat.intCast_mul, Rat.intCast_natCast]⟩
theorem Dv.self (q : Rat) : Dv q q.den := ⟨q.num, by
  have h := den_num q
  exact h⟩
theorem Dv.den {q : Rat} {N : Nat} (hN : 0 < N) (h : Dv q N) : q.den ∣ N := by
  obtain ⟨z, hz⟩ := h
  have h1 : q * q.den = q.num := den_num q
  have h2 : ((q.num * N : Int) : Rat) = ((z * q.den : Int) : Rat) := by
    rw [Rat.intCast_mul, Rat.intCast_mul, ← hz, ← h1, Rat.intCast_natCast, Rat.intCast_natCast]
    grind
  have h3 : q.num * N = z * q.den := Rat.intCast_inj.mp h2
  have h4 : q.den ∣ q.num.natAbs * N := by
    have : (q.num * N).natAbs = (z * q.den).natAbs := by rw [h3]
    rw [Int.natAbs_mul, Int.natAbs_mul, Int.natAbs_natCast, Int.natAbs_natCast] at this
    rw [this]; exact Nat.dvd_mul_left ..
  exact q.reduced.symm.dvd_of_dvd_mul_left h4
theorem Dv.zero (N : Nat) : Dv 0 N := ⟨0, by simp⟩
theorem sm_of {q : Rat} {w N : Nat} (h : ab q ≤ w) (hd : Dv q N) (hN : 0 < N) (hb : w * N < big) (hb2 : N < big) : Sm q := by
  have h1 := hd.den hN
  have h2 : q.den ≤ N := Nat.le_of_dvd hN h1
  refine ⟨?_, by (first | lia | omega)⟩
  have h3 : ((q.num.natAbs : Nat) : Rat) = ab q * q.den := by
    have e : q * q.den = q.num := den_num q
    have hpos : (0 : Rat) ≤ (q.den : Rat) := by exact_mod_cast Nat.zero_le _
    have h5 : ab (q * q.den) = ab q * q.den := by
      rw [ab_mul]
      congr 1
      unfold ab; rw [if_neg (Rat.not_lt.mpr hpos)]
    rw [← h5, e]
    unfold ab
    by_cases hn : q.num < 0
    · rw [if_pos (by exact_mod_cast hn)]
      have : ((q.num.natAbs : Nat) : Int) = -q.num := by (first | lia | omega)
      rw [← Rat.intCast_natCast, this, Rat.intCast_neg]
    · rw [if_neg (fun h => hn (by exact_mod_cast h))]
      have : ((q.num.natAbs : Nat) : Int) = q.num := by (first | lia | omega)
      rw [← Rat.intCast_natCast, this]
  have h6 : ((q.num.natAbs : Nat) : Rat) ≤ ((w * N : Nat) : Rat) := by
    rw [h3, Rat.natCast_mul]
    have hd' : ((q.den : Nat) : Rat) ≤ (N : Rat) := by exact_mod_cast h2
    have hden : (0 : Rat) ≤ (q.den : Rat) := by exact_mod_cast Nat.zero_le _
    have hw : (0 : Rat) ≤ (w : Rat) := by exact_mod_cast Nat.zero_le _
    calc ab q * q.den ≤ w * q.den := Rat.mul_le_mul_of_nonneg_right h hden
      _ ≤ w * N := Rat.mul_le_mul_of_nonneg_left hd' hw
  have h7 : q.num.natAbs ≤ w * N := by exact_mod_cast h6
  (first | lia | omega)
/- part C3 -/
/- ## what a bank's terms mean -/
set_option genInjectivity false in
structure Inf where
  row : Int → Rat
  w : Nat
  N : Nat
inductive GoodAt (ts : List T) (g : Int → Inf) (i : Int) (t : T) : Prop
  | num (d : Rat) (ho : t.op = "num") (hd : t.data = .q d) (hr : ∀ k, (g i).row k = if k = 0 then d else 0) (hw : ab d ≤ (g i).w) (hn : Dv d (g i).N) (hs : t.sort = 1 → d.den = 1)
  | plus (ho : t.op = "+") (ha : ∀ a ∈ t.args, 1 ≤ a ∧ a < i ∧ (g a).N ∣ (g i).N) (hr : ∀ k, (g i).row k = (t.args.map fun a => (g a).row k).sum) (hw : (t.args.map fun a => (g a).w).sum ≤ (g i).w)
  | mul (c x : Int) (u : T) (d : Rat) (m D : Nat) (ho : t.op = "*") (ha : t.args = [c, x]) (hc : 0 ≤ c ∧ ts[c.toNat]? = some u) (hu : u.op = "num") (hd : u.data = .q d) (hx : 1 ≤ x ∧ x < i) (hr : ∀ k, (g i).row k = d * (g x).row k)
      (hm : ab d ≤ m) (hw : m * (g x).w ≤ (g i).w) (hD : Dv d D) (hn : D * (g x).N ∣ (g i).N)
  | leaf (ho : t.op ≠ "num" ∧ t.op ≠ "+" ∧ t.op ≠ "*") (hr : ∀ k, (g i).row k = if k = i then 1 else 0) (h1 : (g i).w = 1 ∧ (g i).N = 1)
structure Good (ts : List T) (g : Int → Inf) : Prop where
  pos : ∀ i, 0 < (g i).N ∧ 1 ≤ (g i).w
  at_ : ∀ (i : Int) (t : T), 1 ≤ i → ts[i.toNat]? = some t → GoodAt ts g i t
noncomputable def sm (φ : Int → Rat → Rat) : Row → Rat
  | [] => 0
  | kv :: r => φ kv.1 kv.2 + sm φ r
theorem sm_cons (φ : Int → Rat → Rat) (kv : Int × Rat) (r : Row) : sm φ (kv :: r) = φ kv.1 kv.2 + sm φ r := rfl
theorem lk_cons (k' : Int) (v : Rat) (r : Row) (k : Int) : lk ((k', v) :: r) k = if k' = k then v else lk r k := rfl
theorem sm_nonneg {φ : Int → Rat → Rat} (h : ∀ k v, 0 ≤ φ k v) : ∀ p, 0 ≤ sm φ p
  | [] => Rat.le_refl
  | kv :: r => by unfold sm; have := sm_nonneg h r; have := h kv.1 kv.2; grind
theorem sm_append (φ : Int → Rat → Rat) (q : Row) : ∀ p, sm φ (p ++ q) = sm φ p + sm φ q
  | [] => by simp [sm, Rat.zero_add]
  | kv :: r => by rw [List.cons_append, sm_cons, sm_cons, sm_append φ q r, Rat.add_assoc]
theorem sm_del {φ : Int → Rat → Rat} {p : Row} (h : (p.map (·.1)).Nodup) {k : Int} (hk : k ∈ p.map (·.1)) : sm φ p = φ k (lk p k) + sm φ (delR p k) := by
  induction p with
  | nil => simp at hk
  | cons a p ih =>
    obtain ⟨k', v⟩ := a
    rw [List.map_cons, List.nodup_cons] at h
    by_cases e : k' = k
    · subst e
      have e2 : delR ((k', v) :: p) k' = p := by
        unfold delR
        rw [List.filter_cons]
        simp only [ne_eq, not_true_eq_false, decide_false, Bool.false_eq_true, if_false]
        rw [List.filter_eq_self]
        intro b hb
        have : b.1 ≠ k' := fun e => h.1 (List.mem_map.mpr ⟨b, hb, e⟩)
        simpa using this
      rw [e2, sm_cons, lk_cons, if_pos rfl]
    · have hk' : k ∈ p.map (·.1) := by
        simp only [List.map_cons, List.mem_cons] at hk
        exact hk.resolve_left fun q => e q.symm
      have e2 : delR ((k', v) :: p) k = (k', v) :: delR p k := by
        unfold delR
        rw [List.filter_cons]
        simp [e]
      rw [e2]
      have e3 : lk ((k', v) :: p) k = lk p k := by rw [lk_cons, if_neg e]
      rw [e3]
      have := ih h.2 hk'
      simp only [sm]
      rw [this]; grind
theorem sm_put {φ : Int → Rat → Rat} (h0 : ∀ k, φ k 0 = 0) {p : Row} (h : (p.map (·.1)).Nodup) (k : Int) (v : Rat) : sm φ (putR p k v) + φ k (lk p k) = sm φ p + φ k v := by
  unfold putR
  by_cases hin : p.any (fun kv => kv.1 = k) = true
  · rw [if_pos hin]
    have hk := any_iff.mp hin
    clear hin
    induction p with
    | nil => simp at hk
    | cons a p ih =>
      obtain ⟨k', v'⟩ := a
      rw [List.map_cons, List.nodup_cons] at h
      rw [List.map_cons]
      by_cases e : k' = k
      · subst e
        have : (p.map fun kv => if kv.1 = k' then (kv.1, v) else kv) = p := by
          conv => rhs; rw [← List.map_id p]
          refine List.map_congr_left fun b hb => ?_
          have : b.1 ≠ k' := fun e => h.1 (List.mem_map.mpr ⟨b, hb, e⟩)
          simp [this]
        rw [this]
        simp only [if_true, sm, lk]
        grind
      · have hk' : k ∈ p.map (·.1) := by
          simp only [List.map_cons, List.mem_cons] at hk
          exact hk.resolve_left fun q => e q.symm
        have := ih h.2 hk'
        simp only [e, if_false, sm, lk]
        grind
  · rw [if_neg hin, sm_append]
    have : lk p k = 0 := lk_none (by cases hh : p.any (fun kv => kv.1 = k) with
      | false => rfl
      | true => exact absurd hh hin)
    rw [this, h0]
    simp only [sm]
    grind
theorem sm_one {φ : Int → Rat → Rat} (hn : ∀ k v, 0 ≤ φ k v) {p : Row} (h : (p.map (·.1)).Nodup) {k : Int} (hk : k ∈ p.map (·.1)) : φ k (lk p k) ≤ sm φ p := by
  rw [sm_del h hk]
  have := sm_nonneg hn (delR p k)
  grind
theorem sm_mem {φ : Int → Rat → Rat} (hn : ∀ k v, 0 ≤ φ k v) : ∀ {p : Row} {kv : Int × Rat}, kv ∈ p → φ kv.1 kv.2 ≤ sm φ p
  | [], _, h => by cases h
  | a :: r, kv, h => by
    unfold sm
    have h1 := sm_nonneg hn r
    rcases List.mem_cons.mp h with e | e
    · subst e; grind
    · have := sm_mem hn e
      have := hn a.1 a.2
      grind
theorem lk_del_ne {p : Row} {k j : Int} (h : j ≠ k) : lk (delR p k) j = lk p j := by rw [lk_del, if_neg h]
theorem mem_del {p : Row} {k j : Int} : j ∈ (delR p k).map (·.1) ↔ j ∈ p.map (·.1) ∧ j ≠ k := by
  unfold delR
  simp only [List.mem_map, List.mem_filter, decide_eq_true_eq]
  constructor
  · rintro ⟨a, ⟨h1, h2⟩, rfl⟩; exact ⟨⟨a, h1, rfl⟩, h2⟩
  · rintro ⟨⟨a, h1, rfl⟩, h2⟩; exact ⟨a, ⟨h1, h2⟩, rfl⟩
theorem mem_put {p : Row} {k j : Int} {v : Rat} : j ∈ (putR p k v).map (·.1) ↔ j ∈ p.map (·.1) ∨ j = k := by
  unfold putR
  by_cases hin : p.any (fun kv => kv.1 = k) = true
  · rw [if_pos hin, keys_upd]
    exact ⟨.inl, fun h => h.elim id fun e => e ▸ any_iff.mp hin⟩
  · rw [if_neg hin, List.map_append]; simp
noncomputable abbrev rowφ (g : Int → Inf) (m : Int) : Int → Rat → Rat := fun k v => v * (g k).row m
noncomputable abbrev wφ (g : Int → Inf) : Int → Rat → Rat := fun k v => ab v * ((g k).w : Rat)
noncomputable abbrev aφ : Int → Rat → Rat := fun _ v => ab v
/- form_of under way: waiting, pending, found -/
structure FP (g : Int → Inf) (t M : Int) (wt L p : Row) (c : Rat) : Prop where
  nd : (wt.map (·.1)).Nodup
  key : ∀ k ∈ wt.map (·.1), 1 ≤ k ∧ k < M
  ok : RowOk p
  p0 : lk p 0 = 0
  sum : ∀ m, sm (rowφ g m) wt + sm (rowφ g m) L + (if m = 0 then c else lk p m) = (g t).row m
  wsum : sm (wφ g) wt + sm (wφ g) L + sm aφ p + ab c ≤ ((g t).w : Rat)
  dw : ∀ k ∈ wt.map (·.1), (g k).N ∣ (g t).N ∧ Dv (lk wt k) ((g t).N / (g k).N)
  dl : ∀ kv ∈ L, (g kv.1).N ∣ (g t).N ∧ Dv kv.2 ((g t).N / (g kv.1).N)
  dp : ∀ k, Dv (lk p k) (g t).N
  dc : Dv c (g t).N
  len : (p.length : Int) + M ≤ t + 1
section
variable {g : Int → Inf} {t M : Int} {wt L p : Row} {c : Rat} {ts : List T}
theorem w_nonneg (g : Int → Inf) : ∀ (k : Int) (v : Rat), 0 ≤ wφ g k v := fun k v => Rat.mul_nonneg (ab_nonneg v) (by exact_mod_cast Nat.zero_le _)
theorem a_nonneg : ∀ (k : Int) (v : Rat), 0 ≤ aφ k v := fun _ v => ab_nonneg v
theorem ab_le_w (hg : Good ts g) (k : Int) (v : Rat) : ab v ≤ wφ g k v := by
  have h1 : (1 : Rat) ≤ ((g k).w : Rat) := by exact_mod_cast (hg.pos k).2
  have := Rat.mul_le_mul_of_nonneg_left h1 (ab_nonneg v)
  rwa [Rat.mul_one] at this
theorem dv_part {a b : Nat} {q : Rat} (h : Dv q (b / a)) (hd : a ∣ b) : Dv q b := h.dvd (Nat.div_dvd_of_dvd hd)
/- everything at hand is small -/
theorem FP.sm_wt (F : FP g t M wt L p c) (hg : Good ts g) (hb : (g t).w * (g t).N < big) (hb2 : (g t).N < big) (k : Int) : Sm (lk wt k) := by
  by_cases hk : k ∈ wt.map (·.1)
  · refine sm_of ?_ (dv_part (F.dw k hk).2 (F.dw k hk).1) (hg.pos t).1 hb hb2
    have h1 := sm_one (w_nonneg g) F.nd hk
    have h2 := ab_le_w hg k (lk wt k)
    have h3 := sm_nonneg (w_nonneg g) L
    have h4 := sm_nonneg a_nonneg p
    have h5 := ab_nonneg c
    have h6 := F.wsum
    grind
  · rw [lk_out hk]; exact sm_of (w := 0) (by rw [ab_zero]; exact Rat.le_refl) (Dv.zero 1) (by decide) (by unfold big; exact Nat.two_pow_pos _) (by unfold big; exact Nat.one_lt_two_pow (by decide))
theorem FP.sm_L (F : FP g t M wt L p c) (hg : Good ts g) (hb : (g t).w * (g t).N < big) (hb2 : (g t).N < big) {kv : Int × Rat} (hk : kv ∈ L) : Sm kv.2 := by
  refine sm_of ?_ (dv_part (F.dl kv hk).2 (F.dl kv hk).1) (hg.pos t).1 hb hb2
  have h1 := sm_mem (w_nonneg g) hk
  have h2 := ab_le_w hg kv.1 kv.2
  have h3 := sm_nonneg (w_nonneg g) wt
  have h4 := sm_nonneg a_nonneg p
  have h5 := ab_nonneg c
  have h6 := F.wsum
  grind
theorem FP.sm_p (F : FP g t M wt L p c) (hg : Good ts g) (hb : (g t).w * (g t).N < big) (hb2 : (g t).N < big) (k : Int) : Sm (lk p k) := by
  refine sm_of (w := (g t).w) ?_ (F.dp k) (hg.pos t).1 hb hb2
  have h3 := sm_nonneg (w_nonneg g) wt
  have h2 := sm_nonneg (w_nonneg g) L
  have h5 := ab_nonneg c
  have h6 := F.wsum
  have h7 := sm_nonneg a_nonneg p
  by_cases hk : k ∈ p.map (·.1)
  · have h1 := sm_one a_nonneg F.ok.nd hk
    simp only [aφ] at h1
    grind
  · rw [lk_out hk, ab_zero]; grind
theorem FP.sm_c (F : FP g t M wt L p c) (hg : Good ts g) (hb : (g t).w * (g t).N < big) (hb2 : (g t).N < big) : Sm c := by
  refine sm_of (w := (g t).w) ?_ F.dc (hg.pos t).1 hb hb2
  have h3 := sm_nonneg (w_nonneg g) wt
  have h2 := sm_nonneg (w_nonneg g) L
  have h6 := F.wsum
  have h7 := sm_nonneg a_nonneg p
  grind
end
/- part C4 -/
section
variable {g : Int → Inf} {t M : Int} {wt L p : Row} {c : Rat} {ts : List T}
theorem div_dvd {a b n : Nat} (ha : a ∣ b) (hb : b ∣ n) (hp : 0 < b) : n / b ∣ n / a := by
  obtain ⟨k, rfl⟩ := ha
  obtain ⟨l, rfl⟩ := hb
  have hpa : 0 < a := Nat.pos_of_mul_pos_right hp
  rw [Nat.mul_div_cancel_left _ hp, Nat.mul_assoc, Nat.mul_div_cancel_left _ hpa]
  exact Nat.dvd_mul_left ..
theorem FP.start (hg : Good ts g) (ht : 1 ≤ t) : FP g t (t + 1) [(t, 1)] [] [] 0 where
  nd := by simp
  key := by intro k hk; simp at hk; subst hk; (first | lia | omega)
  ok := RowOk.nil
  p0 := rfl
  sum := fun m => by
    have e : lk [] m = 0 := rfl
    simp only [sm, rowφ, e]
    split <;> grind
  wsum := by
    simp only [sm, wφ, ab_one, ab_zero]
    grind
  dw := by
    intro k hk
    simp at hk; subst hk
    refine ⟨Nat.dvd_refl _, ?_⟩
    rw [Nat.div_self (hg.pos k).1]
    have : lk [(k, (1 : Rat))] k = 1 := by rw [lk_cons, if_pos rfl]
    rw [this]
    exact Dv.int 1 1
  dl := by intro kv h; cases h
  dp := fun k => Dv.zero _
  dc := Dv.zero _
  len := by simp
theorem FP.pop (F : FP g t M wt [] p c) {i : Int} (hi : i ∈ wt.map (·.1)) (hmax : ∀ j ∈ wt.map (·.1), j ≤ i) : FP g t i (delR wt i) [(i, lk wt i)] p c ∧ (p.length : Int) + i + 1 ≤ t + 1 where
  left := by
    have hMi := F.key i hi
    exact {
      nd := nodup_del F.nd i
      key := fun k hk => by
        obtain ⟨h1, h2⟩ := mem_del.mp hk
        have := F.key k h1
        have := hmax k h1
        (first | lia | omega)
      ok := F.ok
      p0 := F.p0
      sum := fun m => by
        have h1 := F.sum m
        rw [sm_del F.nd hi] at h1
        simp only [sm, rowφ] at h1 ⊢
        grind
      wsum := by
        have h1 := F.wsum
        rw [sm_del F.nd hi] at h1
        simp only [sm, wφ] at h1 ⊢
        grind
      dw := fun k hk => by
        obtain ⟨h1, h2⟩ := mem_del.mp hk
        rw [lk_del_ne h2]
        exact F.dw k h1
      dl := fun kv hk => by
        simp only [List.mem_singleton] at hk
        subst hk
        exact F.dw i hi
      dp := F.dp
      dc := F.dc
      len := by have := F.len; (first | lia | omega) }
  right := by have := F.len; have := F.key i hi; (first | lia | omega)
theorem FP.push {k : Int} {f : Rat} (F : FP g t M wt ((k, f) :: L) p c) (hk : 1 ≤ k ∧ k < M) : FP g t M (putR wt k (lk wt k + f)) L p c where
  nd := nodup_put F.nd k _
  key := fun j hj => (mem_put.mp hj).elim (F.key j) fun e => e ▸ hk
  ok := F.ok
  p0 := F.p0
  sum := fun m => by
    have h1 := F.sum m
    have h2 := sm_put (φ := rowφ g m) (fun k => by simp only [rowφ]; grind) F.nd k (lk wt k + f)
    rw [sm_cons] at h1
    simp only [rowφ] at h1 h2 ⊢
    grind
  wsum := by
    have h1 := F.wsum
    have h2 := sm_put (φ := wφ g) (fun k => by simp only [wφ, ab_zero]; grind) F.nd k (lk wt k + f)
    have hw : (0 : Rat) ≤ ((g k).w : Rat) := by exact_mod_cast Nat.zero_le _
    have h3 := Rat.mul_le_mul_of_nonneg_right (ab_add (lk wt k) f) hw
    rw [sm_cons] at h1
    simp only [wφ] at h1 h2 h3 ⊢
    grind
  dw := fun j hj => by
    obtain ⟨h1, h2⟩ := F.dl (k, f) (.head _)
    by_cases e : j = k
    · subst e
      refine ⟨h1, ?_⟩
      rw [lk_put, if_pos rfl]
      refine Dv.add ?_ h2
      by_cases hin : j ∈ wt.map (·.1)
      · exact (F.dw j hin).2
      · rw [lk_out hin]; exact Dv.zero _
    · rw [lk_put, if_neg e]
      exact F.dw j ((mem_put.mp hj).resolve_right e)
  dl := fun kv h => F.dl kv (.tail _ h)
  dp := F.dp
  dc := F.dc
  len := F.len
theorem FP.num {i : Int} {f d : Rat} (F : FP g t M wt [(i, f)] p c) (hr : ∀ k, (g i).row k = if k = 0 then d else 0) (hw : ab d ≤ (g i).w) (hn : Dv d (g i).N) : FP g t M wt [] p (c + d * f) where
  nd := F.nd
  key := F.key
  ok := F.ok
  p0 := F.p0
  sum := fun m => by
    have h1 := F.sum m
    simp only [sm, rowφ, hr] at h1 ⊢
    split at h1
    · rename_i e; subst e; simp only [if_true] at h1 ⊢; grind
    · rename_i e; simp only [e, if_false] at h1 ⊢; grind
  wsum := by
    have h1 := F.wsum
    have h2 := ab_add c (d * f)
    rw [ab_mul] at h2
    have h3 := Rat.mul_le_mul_of_nonneg_right hw (ab_nonneg f)
    simp only [sm, wφ] at h1 ⊢
    grind
  dw := F.dw
  dl := by intro kv h; cases h
  dp := F.dp
  dc := by
    obtain ⟨h1, h2⟩ := F.dl (i, f) (.head _)
    refine F.dc.add ((hn.mul h2).dvd ?_)
    rw [Nat.mul_div_cancel' h1]; exact Nat.dvd_refl _
  len := F.len
theorem FP.plus {i : Int} {f : Rat} {args : List Int} (hg : Good ts g) (F : FP g t M wt [(i, f)] p c) (ha : ∀ a ∈ args, (g a).N ∣ (g i).N) (hr : ∀ k, (g i).row k = (args.map fun a => (g a).row k).sum) (hw : (args.map fun a => (g a).w).sum ≤ (g i).w) :
    FP g t M wt (args.map fun a => (a, f)) p c where
  nd := F.nd
  key := F.key
  ok := F.ok
  p0 := F.p0
  sum := fun m => by
    have h1 := F.sum m
    have h2 : sm (rowφ g m) (args.map fun a => (a, f)) = f * (args.map fun a => (g a).row m).sum := by
      clear hr hw ha h1
      induction args with
      | nil => simp [sm, Rat.mul_zero]
      | cons a l ih => rw [List.map_cons, sm_cons, ih, List.map_cons, List.sum_cons, Rat.mul_add]
    rw [h2, ← hr m]
    simp only [sm, rowφ] at h1
    grind
  wsum := by
    have h1 := F.wsum
    have h2 : sm (wφ g) (args.map fun a => (a, f)) = ab f * (((args.map fun a => (g a).w).sum : Nat) : Rat) := by
      clear hr hw ha h1
      induction args with
      | nil => simp [sm, Rat.mul_zero]
      | cons a l ih => rw [List.map_cons, sm_cons, ih, List.map_cons, List.sum_cons, Rat.natCast_add, Rat.mul_add]
    rw [h2]
    have h3 : (((args.map fun a => (g a).w).sum : Nat) : Rat) ≤ ((g i).w : Rat) := by exact_mod_cast hw
    have h4 := Rat.mul_le_mul_of_nonneg_left h3 (ab_nonneg f)
    simp only [sm, wφ] at h1
    grind
  dw := F.dw
  dl := fun kv h => by
    obtain ⟨a, ha', rfl⟩ := List.mem_map.mp h
    obtain ⟨h1, h2⟩ := F.dl (i, f) (.head _)
    have h3 := ha a ha'
    exact ⟨Nat.dvd_trans h3 h1, h2.dvd (div_dvd h3 h1 (hg.pos i).1)⟩
  dp := F.dp
  dc := F.dc
  len := F.len
theorem FP.mul {i x : Int} {f d : Rat} {m D : Nat} (hg : Good ts g) (F : FP g t M wt [(i, f)] p c) (hr : ∀ k, (g i).row k = d * (g x).row k) (hm : ab d ≤ m) (hw : m * (g x).w ≤ (g i).w) (hD : Dv d D) (hn : D * (g x).N ∣ (g i).N) :
    FP g t M wt [(x, d * f)] p c where
  nd := F.nd
  key := F.key
  ok := F.ok
  p0 := F.p0
  sum := fun k => by
    have h1 := F.sum k
    simp only [sm, rowφ, hr] at h1 ⊢
    grind
  wsum := by
    have h1 := F.wsum
    have hwx : (0 : Rat) ≤ ((g x).w : Rat) := by exact_mod_cast Nat.zero_le _
    have h2 : (m : Rat) * ((g x).w : Rat) ≤ ((g i).w : Rat) := by exact_mod_cast hw
    have h3 := Rat.mul_le_mul_of_nonneg_right hm hwx
    have h4 := Rat.mul_le_mul_of_nonneg_left (Rat.le_trans h3 h2) (ab_nonneg f)
    simp only [sm, wφ, ab_mul] at h1 ⊢
    grind
  dw := F.dw
  dl := fun kv h => by
    simp only [List.mem_singleton] at h
    subst h
    obtain ⟨h1, h2⟩ := F.dl (i, f) (.head _)
    have h3 : (g x).N ∣ (g i).N := Nat.dvd_trans (Nat.dvd_mul_left ..) hn
    refine ⟨Nat.dvd_trans h3 h1, (hD.mul h2).dvd ?_⟩
    have hx := (hg.pos x).1
    refine (Nat.mul_dvd_mul_iff_left hx).mp ?_
    rw [Nat.mul_div_cancel' (Nat.dvd_trans h3 h1)]
    have h5 : (g x).N * (D * ((g t).N / (g i).N)) = (D * (g x).N) * ((g t).N / (g i).N) := by rw [← Nat.mul_assoc, Nat.mul_comm (g x).N D]
    rw [h5]
    have h6 := Nat.mul_dvd_mul_right hn ((g t).N / (g i).N)
    rwa [Nat.mul_div_cancel' h1] at h6
  dp := F.dp
  dc := F.dc
  len := F.len
theorem sm_a_addP {p : Row} (h : RowOk p) (k : Int) (f : Rat) : sm aφ (addP p k f) ≤ sm aφ p + ab f := by
  unfold addP
  split
  · have h1 := ab_nonneg f
    by_cases hk : k ∈ p.map (·.1)
    · have := sm_del (φ := aφ) h.nd hk
      have h2 := ab_nonneg (lk p k)
      simp only [aφ] at this ⊢
      grind
    · rw [del_none (by cases hh : p.any (fun kv => kv.1 = k) with
        | false => rfl
        | true => exact absurd (any_iff.mp hh) hk)]
      grind
  · have := sm_put (φ := aφ) (fun k => ab_zero) h.nd k (lk p k + f)
    have h2 := ab_add (lk p k) f
    simp only [aφ] at this ⊢
    grind
theorem FP.leaf {i : Int} {f : Rat} (hg : Good ts g) (F : FP g t i wt [(i, f)] p c) (hi : 1 ≤ i) (hl : (p.length : Int) + i + 1 ≤ t + 1) (hr : ∀ k, (g i).row k = if k = i then 1 else 0) : FP g t i wt [] (addP p i f) c where
  nd := F.nd
  key := F.key
  ok := F.ok.addP i f
  p0 := by rw [lk_addP, if_neg (by (first | lia | omega))]; exact F.p0
  sum := fun m => by
    have h1 := F.sum m
    simp only [sm, rowφ, hr, lk_addP] at h1 ⊢
    by_cases e : m = i
    · subst e
      have : ¬ m = 0 := by (first | lia | omega)
      simp only [this, if_false, if_true] at h1 ⊢
      grind
    · simp only [e, if_false] at h1 ⊢
      grind
  wsum := by
    have h1 := F.wsum
    have h2 := sm_a_addP F.ok i f
    have h3 := ab_le_w hg i f
    simp only [sm, wφ] at h1 h3 ⊢
    grind
  dw := F.dw
  dl := by intro kv h; cases h
  dp := fun k => by
    obtain ⟨h1, h2⟩ := F.dl (i, f) (.head _)
    rw [lk_addP]
    split
    · exact (F.dp i).add (dv_part h2 h1)
    · exact F.dp k
  dc := F.dc
  len := by
    have h2 : (addP p i f).length ≤ p.length + 1 := by
      unfold addP
      split
      · exact Nat.le_succ_of_le (List.length_filter_le ..)
      · unfold putR; split <;> simp
    (first | lia | omega)
theorem FP.skip {i : Int} (hg : Good ts g) (F : FP g t M wt [(i, 0)] p c) : FP g t M wt [] p c where
  nd := F.nd
  key := F.key
  ok := F.ok
  p0 := F.p0
  sum := fun m => by
    have h1 := F.sum m
    simp only [sm, rowφ] at h1 ⊢
    grind
  wsum := by
    have h1 := F.wsum
    simp only [sm, wφ, ab_zero] at h1 ⊢
    grind
  dw := F.dw
  dl := by intro kv h; cases h
  dp := F.dp
  dc := F.dc
  len := F.len
end
/- part B9 -/
theorem FP.sm_num {g : Int → Inf} {t M : Int} {wt p : Row} {c : Rat} {ts : List T} {i : Int} {f d : Rat} (F : FP g t M wt [(i, f)] p c) (hg : Good ts g) (hb : (g t).w * (g t).N < big) (hb2 : (g t).N < big) (hw : ab d ≤ (g i).w) (hn : Dv d (g i).N) : Sm (d * f) := by
  obtain ⟨h1, h2⟩ := F.dl (i, f) (.head _)
  have hdv : Dv (d * f) (g t).N := by
    refine (hn.mul h2).dvd ?_
    rw [Nat.mul_div_cancel' h1]; exact Nat.dvd_refl _
  refine sm_of (w := (g t).w) ?_ hdv (hg.pos t).1 hb hb2
  rw [ab_mul]
  have h3 := Rat.mul_le_mul_of_nonneg_right hw (ab_nonneg f)
  have h4 := F.wsum
  have h5 := sm_nonneg (w_nonneg g) wt
  have h6 := sm_nonneg a_nonneg p
  have h7 := ab_nonneg c
  simp only [sm, wφ] at h4
  grind
theorem rl_lookI' {p : Row} {k : Int} (h : k ∈ p.map (·.1)) : lookI (rl p) k = some (rv (lk p k)) := by
  have e := rl_look p k
  have e2 := rl_isSome p k
  rw [any_iff.mpr h] at e2
  obtain ⟨v, hv⟩ := Option.isSome_iff_exists.mp e2
  rw [hv] at e ⊢
  simp only [Option.getD_some] at e
  rw [e]
theorem strNe : decide (Str.ofString "+" = Str.ofString "num") = false ∧ decide (Str.ofString "*" = Str.ofString "num") = false ∧ decide (Str.ofString "*" = Str.ofString "+") = false := by decide +kernel
section
variable {W : Wd} {n : Nat} {σ : St} {ad : BAd} {B : Bk} {F : St} {Q : V → St → Prop} {g : Int → Inf}
/- small enough to reckon with -/
structure Bnd (B : Bk) (g : Int → Inf) : Prop where
  good : Good B.ts g
  lim : ∀ (i : Int), 1 ≤ i → i.toNat < B.ts.length → (g i).w * (g i).N < big ∧ (g i).N < big
  dat : ∀ (i : Int) (u : T) (d : Rat), 0 ≤ i → B.ts[i.toNat]? = some u → u.data = .q d → Sm d
  len : B.ts.length ≤ 40000
  ok : B.Ok
/- what form_of tells -/
structure FRes (g : Int → Inf) (t : Int) (p : Row) (c : Rat) : Prop where
  ok : RowOk p
  p0 : lk p 0 = 0
  row : ∀ k, k ≠ 0 → lk p k = (g t).row k
  con : c = (g t).row 0
  abp : ∀ k, ab (lk p k) ≤ ((g t).w : Rat) ∧ Dv (lk p k) (g t).N
  abc : ab c ≤ ((g t).w : Rat) ∧ Dv c (g t).N
inductive IForm (W : Wd) (ad : BAd) (B : Bk) (g : Int → Inf) (t : Int) (fa : FAd) (wa : Addr) (k : Nat) (ρ : Ro) (τ : St) : Prop
  | mk (M : Int) (wt p : Row) (c : Rat) (u4 u5 u6 u7 u8 u9 : Option V) (h1 : k = M.toNat) (h2 : ρ = [some (.ref ad.self), some (.int t), some (.ref fa.self), some (.ref wa), u4, u5, u6, u7, u8, u9, none, none, none, none, none, none, none]) (h3 : τ = (wa, .idict (rl wt)) :: (formS W fa p c ++ bank W ad B)) (h4 : FP g t M wt [] p c) : IForm W ad B g t fa wa k ρ τ
inductive IFormP (W : Wd) (ad : BAd) (B : Bk) (g : Int → Inf) (t : Int) (fa : FAd) (wa : Addr) (i : Int) (f : Rat) (u : T) (u9 : Option V) (p : Row) (c : Rat) (vs : List V) (ρ : Ro) (τ : St) : Prop
  | mk (l : List Int) (wt2 : Row) (u8 : Option V) (h1 : vs = l.map .int) (h2 : (∀ a ∈ l, 1 ≤ a ∧ a < i)) (h3 : FP g t i wt2 (l.map fun a => (a, f)) p c) (h4 : τ = (wa, .idict (rl wt2)) :: (formS W fa p c ++ bank W ad B)) (h5 : ρ = [some (.ref ad.self), some (.int t), some (.ref fa.self), some (.ref wa), some (.int i), some (rv f), some (.str "+"), some (itup u.args), u8, u9, none, none, none, none, none, none, none]) : IFormP W ad B g t fa wa i f u u9 p c vs ρ τ
set_option maxHeartbeats 4000000 in
theorem c_formof (P : Prog W) (hB : Bnd B g) {t : Int} (ht : 1 ≤ t) (htl : t.toNat < B.ts.length)
    (h : ∀ fa p c, FRes g t p c → Q (.ref fa.self) (F ++ (formS W fa p c ++ bank W ad B))) :
    acall W (n + 6) (gv W "form_of") [.ref ad.self, .int t] (F ++ bank W ad B) Q := by
  obtain ⟨hlim1, hlim2⟩ := hB.lim t ht htl
  have hl := hB.len
  refine acall_frame (acall_def (ρ0 := [some (.ref ad.self), some (.int t), none, none, none, none, none, none, none, none, none, none, none, none, none, none, none]) P.f15.ok rfl ?_)
  ktr_rel
  repeat tb_rel
  refine c_newform P fun fa => ?_
  repeat tb_rel
  refine aE_dict1 ?_
  repeat tb_rel
  refine ⟨_, rfl, fun wa => ?_⟩
  repeat tb_rel
  refine ss_while (IForm W ad B g t fa wa) (t + 1).toNat ⟨t + 1, [(t, 1)], [], 0, _, _, _, _, _, _, rfl, rfl, rfl, .start hB.good ht⟩ ?_
  rintro k ρ τ ⟨M, wt, p, c, u4, u5, u6, u7, u8, u9, rfl, rfl, rfl, FF⟩
  have hwl : (rl wt).length ≤ 50000 := by
    have : (wt.map (·.1)).length ≤ ((List.range 50000).map fun i : Nat => (i : Int)).length := RowOk.len.List.subset_iff_sublist_perm FF.nd _ fun k hk => by
      obtain ⟨h1, h2⟩ := FF.key k hk
      have := FF.len
      exact List.mem_map.mpr ⟨k.toNat, List.mem_range.mpr (by (first | lia | omega)), by (first | lia | omega)⟩
    simpa [rl] using this
  have hMt : M ≤ t + 1 := by have := FF.len; (first | lia | omega)
  repeat tb_rel
  refine o_len_idict (kvs := rl wt) (by tb_start) (by (first | lia | omega)) ?_
  repeat tb_rel
  by_cases hw0 : wt = []
  · subst hw0
    try simp only [rl, List.map_nil, List.length_nil, Int.ofNat_zero, Int.natCast_zero, Int.lt_irrefl, decide_false, Bool.false_eq_true, if_false]
    refine ss_ret (aE_re ?_)
    repeat tb_rel
    refine ⟨_, _, Re.drop .head, ?_⟩
    have hw := FF.wsum
    simp only [sm] at hw
    refine h fa p c ⟨FF.ok, FF.p0, fun k hk => ?_, ?_, fun k => ⟨?_, FF.dp k⟩, ?_, FF.dc⟩
    · have := FF.sum k
      simp only [sm, hk, if_false] at this
      rw [← this]; grind
    · have := FF.sum 0
      simp only [sm, if_true] at this
      rw [← this]; grind
    · have h5 := ab_nonneg c
      have h7 := sm_nonneg a_nonneg p
      by_cases hk : k ∈ p.map (·.1)
      · have h1 := sm_one a_nonneg FF.ok.nd hk
        simp only [aφ] at h1
        grind
      · rw [lk_out hk, ab_zero]; grind
    · have h7 := sm_nonneg a_nonneg p
      grind
  · have hpos : (0 : Int) < ((rl wt).length : Int) := by
      rw [rl_len]
      have := List.length_pos_iff.mpr hw0
      (first | lia | omega)
    try tb_rel
    repeat tb_rel
    refine o_max_idict (kvs := rl wt) (by tb_start) (by intro e; rw [e] at hpos; simp at hpos) fun i hi hmax => ?_
    rw [rl_keys] at hi hmax
    obtain ⟨FP1, hlen1⟩ := FF.pop hi hmax
    obtain ⟨hi1, hi2⟩ := FF.key i hi
    have hil : i.toNat < B.ts.length := by (first | lia | omega)
    obtain ⟨u, hu⟩ : ∃ u, B.ts[i.toNat]? = some u := ⟨_, List.getElem?_eq_getElem hil⟩
    have hi63 : i < 2 ^ 63 := by (first | lia | omega)
    generalize hf : lk wt i = f at FP1
    repeat tb_rel
    refine pop_idict (kvs := rl wt) (by tb_start) (v := rv f) (by rw [← hf, rl_lookI' hi]) (by (first | lia | omega)) ?_
    rw [rl_del]
    repeat tb_rel
    refine ss_swap2 (x := "op") (y := "args") (i := 6) (j := 7) rfl rfl ?_
    repeat tb_rel
    refine c_op (F := (wa, .idict (rl (delR wt i))) :: formS W fa p c) P (by (first | lia | omega)) hi63 hu ?_
    repeat tb_rel
    refine c_args (F := (wa, .idict (rl (delR wt i))) :: formS W fa p c) P (by (first | lia | omega)) hi63 hu ?_
    repeat tb_rel
    refine ⟨_, _, rfl, ?_⟩
    repeat tb_rel
    have hgood := hB.good.at_ i u hi1 hu
    generalize delR wt i = wt1 at FP1
    cases hgood with
    | num d ho hd hr hw hn hs =>
      try tb_rel
      repeat tb_rel
      refine c_data (F := (wa, .idict (rl wt1)) :: formS W fa p c) P (by (first | lia | omega)) hi63 hu ?_
      rw [hd]
      repeat tb_rel
      refine c_mul P (hB.dat i u d (by (first | lia | omega)) hu hd) (FP1.sm_L hB.good hlim1 hlim2 (.head _)) ?_
      repeat tb_rel
      refine acall_mid (F := [(wa, .idict (rl wt1))]) (G := bank W ad B) (c_addconst P (FP1.sm_c hB.good hlim1 hlim2) (FP1.sm_num hB.good hlim1 hlim2 hw hn) ?_)
      repeat tb_rel
      repeat (refine ss_nil ?_)
      exact ⟨_, by (first | lia | omega), i, wt1, p, c + d * f, _, _, _, _, _, _, rfl, rfl, rfl, FP1.num hr hw hn⟩
    | plus ho ha hr hw =>
      try simp only [ho, strNe.1, Bool.false_eq_true, if_false]
      repeat tb_rel
      try tb_rel
      refine ss_for (ai_tup ?_) (by intro _ _; rfl)
      repeat tb_rel
      refine ⟨_, rfl, ?_⟩
      refine loop_inv (IFormP W ad B g t fa wa i f u u9 p c) ?_ ?_ _ _ _ ⟨u.args, wt1, u8, rfl, fun a h => ⟨(ha a h).1, (ha a h).2.1⟩, FP1.plus hB.good (fun a h => (ha a h).2.2) hr hw, rfl, rfl⟩
      · rintro v vs ρ τ ⟨l, wt2, u8, he, hin, F2, rfl, rfl⟩
        cases l with
        | nil => cases he
        | cons x l =>
          simp only [List.map_cons, List.cons.injEq] at he
          obtain ⟨rfl, rfl⟩ := he
          have hwl2 : (rl wt2).length ≤ 50000 := by
            have : (wt2.map (·.1)).length ≤ ((List.range 50000).map fun i : Nat => (i : Int)).length := RowOk.len.List.subset_iff_sublist_perm F2.nd _ fun k hk => by
              obtain ⟨h1, h2⟩ := F2.key k hk
              exact List.mem_map.mpr ⟨k.toNat, List.mem_range.mpr (by (first | lia | omega)), by (first | lia | omega)⟩
            simpa [rl] using this
          repeat tb_rel
          refine get_idict (kvs := rl wt2) (by tb_start) ?_
          rw [show (V.tup [V.int 0, V.int 1]) = rv 0 from rfl, rl_look]
          repeat tb_rel
          refine c_add P (F2.sm_wt hB.good hlim1 hlim2 x) (F2.sm_L hB.good hlim1 hlim2 (kv := (x, f)) (.head _)) ?_
          repeat tb_rel
          refine set_idict (kvs := rl wt2) (by tb_start) (by (first | lia | omega)) ?_
          rw [rl_put]
          refine ss_nil ?_
          exact ⟨l, _, _, rfl, fun a h => hin a (.tail _ h), F2.push (hin x (.head _)), rfl, rfl⟩
      · rintro ρ τ ⟨l, wt2, u8, he, hin, F2, rfl, rfl⟩
        cases l with
        | cons _ _ => cases he
        | nil =>
          repeat (refine ss_nil ?_)
          exact ⟨_, by (first | lia | omega), i, wt2, p, c, _, _, _, _, _, _, rfl, rfl, rfl, F2⟩
    | mul cc x uu d m D ho ha hc hu' hd hx hr hm hw hD hn =>
      have hc63 : cc < 2 ^ 63 := by
        have := (List.getElem?_eq_some_iff.mp hc.2).1
        (first | lia | omega)
      have F2 := FP1.mul hB.good hr hm hw hD hn
      try simp only [ho, ha, strNe.2.1, Bool.false_eq_true, if_false, List.map_cons, List.map_nil]
      repeat tb_rel
      try simp only [strNe.2.2, Bool.false_eq_true, if_false]
      repeat tb_rel
      try tb_rel
      repeat tb_rel
      refine c_op (F := (wa, .idict (rl wt1)) :: formS W fa p c) P hc.1 hc63 hc.2 ?_
      rw [hu']
      repeat tb_rel
      try tb_rel
      repeat tb_rel
      try tb_rel
      repeat tb_rel
      refine c_data (F := (wa, .idict (rl wt1)) :: formS W fa p c) P hc.1 hc63 hc.2 ?_
      rw [hd]
      repeat tb_rel
      refine c_mul P (hB.dat cc uu d hc.1 hc.2 hd) (FP1.sm_L hB.good hlim1 hlim2 (kv := (i, f)) (.head _)) ?_
      repeat tb_rel
      refine get_idict (kvs := rl wt1) (by tb_start) ?_
      rw [show (V.tup [V.int 0, V.int 1]) = rv 0 from rfl, rl_look]
      repeat tb_rel
      refine c_add P (F2.sm_wt hB.good hlim1 hlim2 x) (F2.sm_L hB.good hlim1 hlim2 (kv := (x, d * f)) (.head _)) ?_
      repeat tb_rel
      have hwl2 : (rl wt1).length ≤ 50000 := by
        have : (wt1.map (·.1)).length ≤ ((List.range 50000).map fun i : Nat => (i : Int)).length := RowOk.len.List.subset_iff_sublist_perm F2.nd _ fun k hk => by
          obtain ⟨h1, h2⟩ := F2.key k hk
          exact List.mem_map.mpr ⟨k.toNat, List.mem_range.mpr (by (first | lia | omega)), by (first | lia | omega)⟩
        simpa [rl] using this
      refine set_idict (kvs := rl wt1) (by tb_start) (by (first | lia | omega)) ?_
      rw [rl_put]
      repeat (refine ss_nil ?_)
      exact ⟨_, by (first | lia | omega), i, _, p, c, _, _, _, _, _, _, rfl, rfl, rfl, F2.push hx⟩
    | leaf ho hr _ =>
      have e1 : decide (u.op = Str.ofString "num") = false := decide_eq_false ho.1
      have e2 : decide (u.op = Str.ofString "+") = false := decide_eq_false ho.2.1
      have e3 : decide (u.op = Str.ofString "*") = false := decide_eq_false ho.2.2
      try tb_rel
      repeat tb_rel
      try tb_rel
      repeat tb_rel
      try tb_rel
      repeat tb_rel
      rw [num_ne]
      by_cases h0 : f = 0
      · subst h0
        try tb_rel
        repeat (refine ss_nil ?_)
        exact ⟨_, by (first | lia | omega), i, wt1, p, c, _, _, _, _, _, _, rfl, rfl, rfl, FP1.skip hB.good⟩
      · try tb_rel
        repeat tb_rel
        refine acall_mid (F := [(wa, .idict (rl wt1))]) (G := bank W ad B) (c_addpart P (FP1.sm_p hB.good hlim1 hlim2 i) (FP1.sm_L hB.good hlim1 hlim2 (kv := (i, f)) (.head _)) (by (first | lia | omega)) ?_)
        repeat tb_rel
        repeat (refine ss_nil ?_)
        exact ⟨_, by (first | lia | omega), i, wt1, _, c, _, _, _, _, _, _, rfl, rfl, rfl, FP1.leaf hB.good hi1 hlen1 hr⟩
end
/- part C5 -/
/- ## a bank's meaning grows with it -/
structure Bd (B : Bk) (g : Int → Inf) (PW GN : Nat) : Prop where
  good : Good B.ts g
  lim : ∀ (i : Int), 1 ≤ i → i.toNat < B.ts.length → (g i).w ≤ PW ∧ (g i).N ∣ GN
  dat : ∀ (i : Int) (u : T) (d : Rat), 0 ≤ i → B.ts[i.toNat]? = some u → u.data = .q d → ab d ≤ PW ∧ Dv d GN
  len : B.ts.length ≤ 40000
  ok : B.Ok
theorem Bd.bnd {B : Bk} {g : Int → Inf} {PW GN : Nat} (h : Bd B g PW GN) (h1 : PW * GN < big) (h2 : GN < big) (h3 : 0 < GN) : Bnd B g where
  good := h.good
  lim := fun i hi hl => by
    obtain ⟨a, b⟩ := h.lim i hi hl
    have := Nat.le_of_dvd h3 b
    exact ⟨Nat.lt_of_le_of_lt (Nat.mul_le_mul a this) h1, by (first | lia | omega)⟩
  dat := fun i u d hi hu hd => sm_of (h.dat i u d hi hu hd).1 (h.dat i u d hi hu hd).2 h3 h1 h2
  len := h.len
  ok := h.ok
theorem Bd.le {B : Bk} {g : Int → Inf} {PW GN PW' GN' : Nat} (h : Bd B g PW GN) (h1 : PW ≤ PW') (h2 : GN ∣ GN') : Bd B g PW' GN' where
  good := h.good
  lim := fun i hi hl => ⟨Nat.le_trans (h.lim i hi hl).1 h1, Nat.dvd_trans (h.lim i hi hl).2 h2⟩
  dat := fun i u d hi hu hd => ⟨Rat.le_trans (h.dat i u d hi hu hd).1 (by exact_mod_cast h1), (h.dat i u d hi hu hd).2.dvd h2⟩
  len := h.len
  ok := h.ok
theorem GoodAt.mono {ts ts' : List T} {g g' : Int → Inf} {i : Int} {t : T} (h : GoodAt ts g i t) (hg : ∀ j, 1 ≤ j → j ≤ i → g' j = g j) (hi : 1 ≤ i) (hts : ∀ (j : Nat) (u : T), ts[j]? = some u → ts'[j]? = some u) : GoodAt ts' g' i t := by
  have ei := hg i hi (Int.le_refl _)
  cases h with
  | num d ho hd hr hw hn hs => exact .num d ho hd (by rw [ei]; exact hr) (by rw [ei]; exact hw) (by rw [ei]; exact hn) hs
  | plus ho ha hr hw =>
    have e : ∀ a ∈ t.args, g' a = g a := fun a h => hg a (ha a h).1 (by have := (ha a h).2.1; (first | lia | omega))
    refine .plus ho (fun a h => ?_) (fun k => ?_) ?_
    · rw [e a h, ei]; exact ha a h
    · rw [ei, hr k]
      congr 1
      exact List.map_congr_left fun a h => by rw [e a h]
    · rw [ei]
      have : (t.args.map fun a => (g' a).w) = t.args.map fun a => (g a).w := List.map_congr_left fun a h => by rw [e a h]
      rw [this]; exact hw
  | mul c x u d m D ho ha hc hu hd hx hr hm hw hD hn =>
    have e := hg x hx.1 (by (first | lia | omega))
    exact .mul c x u d m D ho ha ⟨hc.1, hts _ _ hc.2⟩ hu hd hx (fun k => by rw [ei, e]; exact hr k) hm (by rw [ei, e]; exact hw) hD (by rw [ei, e]; exact hn)
  | leaf ho hr h1 => exact .leaf ho (by rw [ei]; exact hr) (by rw [ei]; exact h1)
noncomputable def updI (g : Int → Inf) (n : Int) (x : Inf) : Int → Inf := fun i => if i = n then x else g i
theorem Bd.ext {B B' : Bk} {g : Int → Inf} {PW GN PW' GN' : Nat} {t : T} {r : Int} (h : Bd B g PW GN) (hm : Mk B t r B') (x : Inf) (hx : 0 < x.N ∧ 1 ≤ x.w) (hl : B.ts.length < 40000)
    (hG : GoodAt (B.ts ++ [t]) (updI g B.ts.length x) B.ts.length t) (hw : x.w ≤ PW') (hN : x.N ∣ GN') (h1 : PW ≤ PW') (h2 : GN ∣ GN') (hd : ∀ d, t.data = .q d → ab d ≤ PW' ∧ Dv d GN')
    (hold : B' = B → GoodAt B.ts g r t → (g r).row = x.row) :
    ∃ g', (∀ i : Int, 1 ≤ i → i.toNat < B.ts.length → g' i = g i) ∧ Bd B' g' PW' GN' ∧ (g' r).row = x.row := by
  rcases hm.ts with e | ⟨hn, e⟩
  · have eB : B' = B := by
      obtain ⟨s1, s2, s3⟩ := hm.same
      cases B; cases B'; simp only at s1 s2 s3 e; subst s1 s2 s3 e; rfl
    subst eB
    exact ⟨g, fun _ _ _ => rfl, h.le h1 h2, hold rfl (h.good.at_ r t hm.pos hm.at_)⟩
  · have hr : r = B.ts.length := by
      have h3 := hm.at_
      rw [e] at h3
      by_cases hlt : r.toNat < B.ts.length
      · rw [List.getElem?_append_left hlt] at h3
        exfalso
        have hp := hm.pos
        apply hn
        refine List.mem_iff_getElem?.mpr ⟨r.toNat - 1, ?_⟩
        rw [List.getElem?_tail, show r.toNat - 1 + 1 = r.toNat by (first | lia | omega)]; exact h3
      · rw [List.getElem?_append_right (by (first | lia | omega))] at h3
        have : r.toNat - B.ts.length = 0 := by
          have := (List.getElem?_eq_some_iff.mp h3).1
          simp at this; (first | lia | omega)
        have := hm.pos
        (first | lia | omega)
    have hlen : B'.ts.length = B.ts.length + 1 := by rw [e]; simp
    have hne : B.ts.length ≠ 0 := by
      intro q; exact h.ok.nil (List.length_eq_zero_iff.mp q)
    have hold' : ∀ i : Int, 1 ≤ i → i.toNat < B.ts.length → updI g B.ts.length x i = g i := fun i hi hl' => by
      unfold updI; rw [if_neg (by (first | lia | omega))]
    refine ⟨updI g B.ts.length x, hold', ⟨⟨fun i => ?_, fun i u hi hu => ?_⟩, fun i hi hl' => ?_, fun i u d hi hu hd' => ?_, by (first | lia | omega), (hm.ble h.ok).ok⟩, by rw [hr]; unfold updI; rw [if_pos rfl]⟩
    · unfold updI; split
      · exact hx
      · exact h.good.pos i
    · rw [e] at hu ⊢
      by_cases hlt : i.toNat < B.ts.length
      · rw [List.getElem?_append_left hlt] at hu
        exact (h.good.at_ i u hi hu).mono (fun j h3 h4 => hold' j h3 (by (first | lia | omega))) hi fun j u h => by
          rw [List.getElem?_append_left (List.getElem?_eq_some_iff.mp h).1]; exact h
      · have h5 := (List.getElem?_eq_some_iff.mp hu).1
        simp at h5
        have h6 : i = B.ts.length := by (first | lia | omega)
        subst h6
        rw [List.getElem?_append_right (by (first | lia | omega))] at hu
        simp at hu
        subst hu
        exact hG
    · by_cases hlt : i.toNat < B.ts.length
      · rw [hold' i hi hlt]
        exact ⟨Nat.le_trans (h.lim i hi hlt).1 h1, Nat.dvd_trans (h.lim i hi hlt).2 h2⟩
      · have h6 : i = B.ts.length := by (first | lia | omega)
        unfold updI; rw [if_pos h6]
        exact ⟨hw, hN⟩
    · rw [e] at hu
      by_cases hlt : i.toNat < B.ts.length
      · rw [List.getElem?_append_left hlt] at hu
        have := h.dat i u d hi hu hd'
        exact ⟨Rat.le_trans this.1 (by exact_mod_cast h1), this.2.dvd h2⟩
      · have h5 := (List.getElem?_eq_some_iff.mp hu).1
        simp at h5
        rw [List.getElem?_append_right (by (first | lia | omega))] at hu
        have h6 : i.toNat - B.ts.length = 0 := by (first | lia | omega)
        rw [h6] at hu
        simp at hu
        subst hu
        exact hd d hd'
/- part C6 -/
theorem opNe : ¬ Str.ofString "num" = Str.ofString "+" ∧ ¬ Str.ofString "num" = Str.ofString "*" ∧ ¬ Str.ofString "+" = Str.ofString "*" ∧ ¬ Str.ofString "*" = Str.ofString "+" := by decide +kernel
section
variable {B B' : Bk} {g : Int → Inf} {PW GN : Nat} {r s : Int}
/- g' goes on from g -/
structure Go (B B' : Bk) (g g' : Int → Inf) (PW GN : Nat) : Prop where
  old : ∀ i : Int, 1 ≤ i → i.toNat < B.ts.length → g' i = g i
  bd : Bd B' g' PW GN
theorem Go.trans {B C D : Bk} {g g' g'' : Int → Inf} {P1 G1 P2 G2 k : Nat} (h : Go B C g g' P1 G1) (hb : BLe B C k) (h' : Go C D g' g'' P2 G2) : Go B D g g'' P2 G2 :=
  ⟨fun i hi hl => (h'.old i hi (by have := hb.len; (first | lia | omega))).trans (h.old i hi hl), h'.bd⟩
theorem num_sem (h : Bd B g PW GN) {q : Rat} (hm : Mk B (tNum q s) r B') (hl : B.ts.length < 40000) {PW' GN' : Nat} (h1 : PW ≤ PW') (h2 : GN ∣ GN') (hG0 : 0 < GN') (hP0 : 1 ≤ PW') (hq : ab q ≤ PW') (hd : Dv q GN') (hs : s = 1 → q.den = 1) :
    ∃ g', Go B B' g g' PW' GN' ∧ ∀ k, (g' r).row k = if k = 0 then q else 0 := by
  obtain ⟨g', a, b, c⟩ := h.ext hm ⟨fun k => if k = 0 then q else 0, PW', GN'⟩ ⟨hG0, hP0⟩ hl (.num q rfl rfl (fun k => by unfold updI; rw [if_pos rfl]) (by unfold updI; rw [if_pos rfl]; exact hq) (by unfold updI; rw [if_pos rfl]; exact hd) hs)
    (Nat.le_refl _) (Nat.dvd_refl _) h1 h2 (fun d e => by cases e; exact ⟨hq, hd⟩) (fun _ hg => by
      cases hg with
      | num d ho hd' hr hw hn hs' => cases hd'; exact funext hr
      | plus ho => exact absurd ho opNe.1
      | mul c x u d m D ho => exact absurd ho opNe.2.1
      | leaf ho => exact absurd rfl ho.1)
  exact ⟨g', ⟨a, b⟩, fun k => congrFun c k⟩
theorem sum_le_len {l : List Int} {f : Int → Nat} {V : Nat} (h : ∀ a ∈ l, f a ≤ V) : (l.map f).sum ≤ l.length * V := by
  induction l with
  | nil => simp
  | cons a l ih =>
    have h1 := h a (.head _)
    have h2 := ih fun b hb => h b (.tail _ hb)
    simp only [List.map_cons, List.sum_cons, List.length_cons, Nat.add_mul, Nat.one_mul]
    (first | lia | omega)
theorem plus_sem (h : Bd B g PW GN) {l : List Int} (hm : Mk B (tPlus l s) r B') (hl : B.ts.length < 40000) {PW' : Nat} (h1 : l.length * PW ≤ PW') (hne : l ≠ []) (hG0 : 0 < GN) (ha : ∀ a ∈ l, 1 ≤ a ∧ a.toNat < B.ts.length) :
    ∃ g', Go B B' g g' PW' GN ∧ ∀ k, (g' r).row k = (l.map fun a => (g a).row k).sum := by
  have hlp : 1 ≤ l.length := List.length_pos_iff.mpr hne
  have hPP : PW ≤ PW' := Nat.le_trans (by have := Nat.mul_le_mul_right PW hlp; (first | lia | omega)) h1
  have hup : ∀ a ∈ l, updI g B.ts.length ⟨fun k => (l.map fun a => (g a).row k).sum, (l.map fun a => (g a).w).sum, GN⟩ a = g a := fun a h => by
    unfold updI; rw [if_neg (by have := ha a h; (first | lia | omega))]
  have hw1 : 1 ≤ (l.map fun a => (g a).w).sum := by
    cases l with
    | nil => exact absurd rfl hne
    | cons a l => simp only [List.map_cons, List.sum_cons]; have := (h.good.pos a).2; (first | lia | omega)
  have hw2 : (l.map fun a => (g a).w).sum ≤ PW' := Nat.le_trans (sum_le_len fun a h' => (h.lim a (ha a h').1 (ha a h').2).1) h1
  obtain ⟨g', a, b, c⟩ := h.ext hm ⟨fun k => (l.map fun a => (g a).row k).sum, (l.map fun a => (g a).w).sum, GN⟩ ⟨hG0, hw1⟩ hl
    (.plus rfl (fun a h' => ⟨(ha a h').1, by have := (ha a h').2; (first | lia | omega), by rw [hup a h']; unfold updI; rw [if_pos rfl]; exact (h.lim a (ha a h').1 (ha a h').2).2⟩)
      (fun k => by
        conv => lhs; unfold updI
        rw [if_pos rfl]
        show (l.map _).sum = (l.map _).sum
        congr 1
        exact List.map_congr_left fun a h' => by rw [hup a h'])
      (by
        conv => rhs; unfold updI
        rw [if_pos rfl]
        have : (l.map fun a => (updI g B.ts.length ⟨fun k => (l.map fun a => (g a).row k).sum, (l.map fun a => (g a).w).sum, GN⟩ a).w) = l.map fun a => (g a).w := List.map_congr_left fun a h' => by rw [hup a h']
        show (l.map fun a => (updI g B.ts.length _ a).w).sum ≤ _
        rw [this]; exact Nat.le_refl _))
    hw2 (Nat.dvd_refl _) hPP (Nat.dvd_refl _) (fun d e => by cases e) (fun _ hg => by
      cases hg with
      | num d ho hd' hr hw hn hs' => cases hd'
      | plus ho ha hr hw => exact funext hr
      | mul c x u d m D ho => exact absurd ho opNe.2.2.1
      | leaf ho => exact absurd rfl ho.2.1)
  exact ⟨g', ⟨a, b⟩, fun k => congrFun c k⟩
theorem mul_sem (h : Bd B g PW GN) {c x : Int} {v : Rat} {u : T} (hm : Mk B (tMul c x s) r B') (hl : B.ts.length < 40000) (hc : At B c u) (hu : u.op = "num") (hud : u.data = .q v) (hx : 1 ≤ x ∧ x.toNat < B.ts.length) {PW' GN' m D : Nat} (hPP : PW ≤ PW') (hGG : GN ∣ GN') (hG0 : 0 < GN')
    (hm1 : 1 ≤ m) (hm2 : ab v ≤ m) (hmw : m * (g x).w ≤ PW') (hD : Dv v D) (hDN : D * (g x).N ∣ GN') :
    ∃ g', Go B B' g g' PW' GN' ∧ ∀ k, (g' r).row k = v * (g x).row k := by
  have hup : updI g B.ts.length ⟨fun k => v * (g x).row k, m * (g x).w, GN'⟩ x = g x := by unfold updI; rw [if_neg (by (first | lia | omega))]
  have hw1 : 1 ≤ m * (g x).w := Nat.mul_pos hm1 (h.good.pos x).2
  obtain ⟨g', a, b, e⟩ := h.ext hm ⟨fun k => v * (g x).row k, m * (g x).w, GN'⟩ ⟨hG0, hw1⟩ hl
    (.mul c x u v m D rfl rfl ⟨hc.pos, by rw [List.getElem?_append_left (List.getElem?_eq_some_iff.mp hc.at_).1]; exact hc.at_⟩ hu hud ⟨hx.1, by (first | lia | omega)⟩ (fun k => by
        rw [hup]; unfold updI; rw [if_pos rfl]) hm2 (by rw [hup]; unfold updI; rw [if_pos rfl]; exact Nat.le_refl _) hD (by rw [hup]; unfold updI; rw [if_pos rfl]; exact hDN))
    hmw (Nat.dvd_refl _) hPP hGG (fun d e => by cases e) (fun _ hg => by
      cases hg with
      | num d ho hd' hr hw hn hs' => cases hd'
      | plus ho ha hr hw => exact absurd ho opNe.2.2.2
      | mul c' x' u' d m D ho ha hc' hu' hd hx hr =>
        simp only [List.cons.injEq] at ha
        obtain ⟨rfl, rfl, _⟩ := ha
        have e1 : u = u' := Option.some.inj (hc.at_.symm.trans hc'.2)
        subst e1
        have e2 : v = d := by rw [hud] at hd; injection hd
        subst e2
        exact funext hr
      | leaf ho => exact absurd rfl ho.2.2)
  exact ⟨g', ⟨a, b⟩, fun k => congrFun e k⟩
theorem leaf_sem (h : Bd B g PW GN) {t : T} (hm : Mk B t r B') (hl : B.ts.length < 40000) (ho : t.op ≠ "num" ∧ t.op ≠ "+" ∧ t.op ≠ "*") (hd : ∀ d, t.data ≠ .q d) (hP0 : 1 ≤ PW) :
    ∃ g', Go B B' g g' PW GN ∧ ∀ k, (g' r).row k = if k = r then 1 else 0 := by
  by_cases hB : B' = B
  · subst hB
    refine ⟨g, ⟨fun _ _ _ => rfl, h⟩, ?_⟩
    have := h.good.at_ r t hm.pos hm.at_
    cases this with
    | num d ho' => exact absurd ho' ho.1
    | plus ho' => exact absurd ho' ho.2.1
    | mul c x u d m D ho' => exact absurd ho' ho.2.2
    | leaf _ hr _ => exact hr
  · have hr : r = B.ts.length := by
      rcases hm.ts with e | ⟨hn, e⟩
      · obtain ⟨s1, s2, s3⟩ := hm.same
        exact absurd (by cases B; cases B'; simp only at s1 s2 s3 e; subst s1 s2 s3 e; rfl) hB
      · have h3 := hm.at_
        rw [e] at h3
        by_cases hlt : r.toNat < B.ts.length
        · rw [List.getElem?_append_left hlt] at h3
          exfalso
          have hp := hm.pos
          apply hn
          refine List.mem_iff_getElem?.mpr ⟨r.toNat - 1, ?_⟩
          rw [List.getElem?_tail, show r.toNat - 1 + 1 = r.toNat by (first | lia | omega)]; exact h3
        · rw [List.getElem?_append_right (by (first | lia | omega))] at h3
          have := (List.getElem?_eq_some_iff.mp h3).1
          simp at this
          have := hm.pos
          (first | lia | omega)
    obtain ⟨g', a, b, c⟩ := h.ext hm ⟨fun k => if k = r then 1 else 0, 1, 1⟩ ⟨Nat.one_pos, Nat.le_refl _⟩ hl (.leaf ho (fun k => by unfold updI; rw [if_pos rfl, hr]) (by unfold updI; rw [if_pos rfl]; exact ⟨rfl, rfl⟩)) hP0 (Nat.one_dvd _) (Nat.le_refl _) (Nat.dvd_refl _) (fun d e => absurd e (hd d)) (fun e => absurd e hB)
    exact ⟨g', ⟨a, b⟩, fun k => congrFun c k⟩
end
/- part B10 -/
theorem Sm.neg {q : Rat} (h : Sm q) : Sm (q * -1) := by
  have e : q * -1 = -q := by grind
  rw [e]
  exact ⟨by rw [Rat.neg_num, Int.natAbs_neg]; exact h.1, by rw [Rat.neg_den]; exact h.2⟩
theorem FRes.smp {B : Bk} {g : Int → Inf} {t : Int} {p : Row} {c : Rat} (h : FRes g t p c) (hB : Bnd B g) (ht : 1 ≤ t) (hl : t.toNat < B.ts.length) : (∀ k, Sm (lk p k)) ∧ Sm c := by
  obtain ⟨h1, h2⟩ := hB.lim t ht hl
  exact ⟨fun k => sm_of (h.abp k).1 (h.abp k).2 (hB.good.pos t).1 h1 h2, sm_of h.abc.1 h.abc.2 (hB.good.pos t).1 h1 h2⟩
theorem FRes.len {g : Int → Inf} {t : Int} {p : Row} {c : Rat} (h : FRes g t p c) {S : List Int} (hS : ∀ k, k ≠ 0 → (g t).row k ≠ 0 → k ∈ S) : p.length ≤ S.length := h.ok.len fun k hk => by
  by_cases h0 : k = 0
  · subst h0; exact absurd h.p0 hk
  · exact hS k h0 (by rw [← h.row k h0]; exact hk)
section
variable {W : Wd} {n : Nat} {σ : St} {ad : BAd} {B : Bk} {F : St} {Q : V → St → Prop} {g : Int → Inf}
theorem c_diff (P : Prog W) (hB : Bnd B g) {x y : Int} (hx : 1 ≤ x) (hxl : x.toNat < B.ts.length) (hy : 1 ≤ y) (hyl : y.toNat < B.ts.length) {S S' : List Int} (hS : ∀ k, k ≠ 0 → (g x).row k ≠ 0 → k ∈ S) (hS' : ∀ k, k ≠ 0 → (g y).row k ≠ 0 → k ∈ S') (hSl : S.length < 64 ∧ S'.length < 64)
    (h : ∀ fa p c, RowOk p → lk p 0 = 0 → (∀ k, k ≠ 0 → lk p k = (g x).row k - (g y).row k) → c = (g x).row 0 - (g y).row 0 → Q (.ref fa.self) (F ++ (formS W fa p c ++ bank W ad B))) :
    acall W (n + 7) (gv W "difference_of") [.ref ad.self, .int x, .int y] (F ++ bank W ad B) Q := by
  refine acall_frame (acall_re (acall_def (ρ0 := [some (.ref ad.self), some (.int x), some (.int y), none, none, none]) P.f16.ok rfl ?_))
  ktr_rel
  repeat tb_rel
  refine c_formof (F := []) P hB hx hxl fun fa p c R1 => ?_
  repeat tb_rel
  refine c_formof (F := formS W fa p c) P hB hy hyl fun fb q d R2 => ?_
  repeat tb_rel
  obtain ⟨s1, s2⟩ := R1.smp hB hx hxl
  obtain ⟨s3, s4⟩ := R2.smp hB hy hyl
  have hpl := R1.len hS
  have hql := R2.len hS'
  have hperm : (formS W fa p c ++ (formS W fb q d ++ bank W ad B)).Perm ([] ++ ((formS W fb q d ++ formS W fa p c) ++ bank W ad B)) := by
    rw [List.nil_append, ← List.append_assoc]
    exact List.Perm.append_right _ List.perm_append_comm
  refine acall_start hperm (acall_mid (F := []) (G := bank W ad B) (c_addform P R1.ok R2.ok (f := -1) ⟨?_, ?_⟩ (by (first | lia | omega)) (by (first | lia | omega)) s3 s1 (fun k => (s3 k).neg) s2 s4 s4.neg fun p' hp' hlk => ?_))
  · show (1 : Nat) < big
    exact Nat.one_lt_two_pow (by decide)
  · show (1 : Nat) < big
    exact Nat.one_lt_two_pow (by decide)
  · repeat tb_rel
    refine ⟨_, _, Re.trans (Re.drop .head) (Re.drop .head), ?_⟩
    refine h fa p' (c + d * -1) hp' ?_ (fun k hk => ?_) ?_
    · rw [hlk, R1.p0, R2.p0]; grind
    · rw [hlk, R1.row k hk, R2.row k hk]; grind
    · rw [R1.con, R2.con]; grind
/- ### a form written -/
inductive WrP (B : Bk) (s : Int) (k : Int) (v : Rat) (r : Int) : Prop
  | one (h : v = 1) (e : r = k)
  | mul (h : v ≠ 1) (c : Int) (hc : At B c (tNum v s)) (hr : At B r (tMul c k s)) (h1 : 1 ≤ c ∧ 1 ≤ r)
inductive WrL (B : Bk) (s : Int) (p : Row) : List Int → List Int → Prop
  | nil : WrL B s p [] []
  | snoc {ks ids : List Int} {k r : Int} : WrL B s p ks ids → WrP B s k (lk p k) r → WrL B s p (ks ++ [k]) (ids ++ [r])
theorem WrP.ble {B B' : Bk} {s k r : Int} {v : Rat} {n : Nat} (h : WrP B s k v r) (hb : BLe B B' n) : WrP B' s k v r := by
  cases h with
  | one h e => exact .one h e
  | mul h c hc hr h1 => exact .mul h c (hc.ble hb) (hr.ble hb) h1
theorem WrL.ble {B B' : Bk} {s : Int} {p : Row} {ks ids : List Int} {n : Nat} (h : WrL B s p ks ids) (hb : BLe B B' n) : WrL B' s p ks ids := by
  induction h with
  | nil => exact .nil
  | snoc _ hp ih => exact .snoc ih (hp.ble hb)
theorem WrL.len {B : Bk} {s : Int} {p : Row} {ks ids : List Int} (h : WrL B s p ks ids) : ids.length = ks.length := by
  induction h with
  | nil => rfl
  | snoc _ _ ih => simp [ih]
/- r is the written form of (p, c), keys ns -/
structure Wr (B : Bk) (s : Int) (p : Row) (c : Rat) (ns : List Int) (r : Int) : Prop where
  ex : ∃ ids all, WrL B s p ns ids ∧ ((all = ids ∧ c = 0 ∧ ids ≠ []) ∨ (∃ z, all = ids ++ [z] ∧ At B z (tNum c s) ∧ 1 ≤ z ∧ (c ≠ 0 ∨ ids = []))) ∧ (all = [r] ∨ (2 ≤ all.length ∧ At B r (tPlus all s) ∧ 1 ≤ r))
/- keys that a form may have: leaves of the sort -/
structure LeafKey (B : Bk) (g : Int → Inf) (s k : Int) : Prop where
  pos : 1 ≤ k
  ex : ∃ t, At B k t ∧ t.sort = s ∧ (t.op ≠ "num" ∧ t.op ≠ "+" ∧ t.op ≠ "*")
theorem LeafKey.row {B : Bk} {g : Int → Inf} {s k : Int} (h : LeafKey B g s k) (hg : Good B.ts g) : (∀ j, (g k).row j = if j = k then 1 else 0) ∧ (g k).w = 1 ∧ (g k).N = 1 := by
  obtain ⟨t, ht, _, ho⟩ := h.ex
  have := hg.at_ k t h.pos ht.at_
  cases this with
  | num d ho' => exact absurd ho' ho.1
  | plus ho' => exact absurd ho' ho.2.1
  | mul c x u d m D ho' => exact absurd ho' ho.2.2
  | leaf _ hr h1 => exact ⟨hr, h1.1, h1.2⟩
theorem LeafKey.lt {B : Bk} {g : Int → Inf} {s k : Int} (h : LeafKey B g s k) : k.toNat < B.ts.length := by
  obtain ⟨t, ht, _⟩ := h.ex
  exact (List.getElem?_eq_some_iff.mp ht.at_).1
theorem LeafKey.ble {B B' : Bk} {g g' : Int → Inf} {s k : Int} {n : Nat} (h : LeafKey B g s k) (hb : BLe B B' n) : LeafKey B' g' s k := by
  obtain ⟨t, ht, r⟩ := h.ex
  exact ⟨h.pos, t, ht.ble hb, r⟩
theorem Mk.lt {B B' : Bk} {t : T} {r : Int} (h : Mk B t r B') : 1 ≤ r ∧ r.toNat < B'.ts.length := ⟨h.pos, (List.getElem?_eq_some_iff.mp h.at_).1⟩
/- one part: its number, its meaning -/
theorem tmul_sem {B B' : Bk} {g : Int → Inf} {PW GN : Nat} {t : T} {k r : Int} {v : Rat} {s : Int} (h : Bd B g PW GN) (hk : LeafKey B g s k) (hkt : At B k t) (hts : t.sort = s) (hm : TMul B t k v r B') (hl : B.ts.length + 2 < 40000) (hG0 : 0 < GN) (hP0 : 1 ≤ PW) (hv : ab v ≤ PW) (hd : Dv v GN) (hw : s = 1 → v.den = 1) :
    ∃ g', Go B B' g g' PW GN ∧ (∀ j, (g' r).row j = if j = k then v else 0) ∧ WrP B' s k v r ∧ 1 ≤ r ∧ r.toNat < B'.ts.length ∧ ∃ t', At B' r t' ∧ t'.sort = s := by
  obtain ⟨hr, hw1, hn1⟩ := hk.row h.good
  obtain ⟨tk, htk, _, ho⟩ := hk.ex
  have e : t = tk := Option.some.inj (hkt.at_.symm.trans htk.at_)
  subst e
  rcases hm with ⟨h1, _⟩ | ⟨_, hv1, rfl, rfl⟩ | ⟨_, hv1, c, B1, hb1, m1, m2⟩
  · exact absurd h1 ho.1
  · subst hv1
    exact ⟨g, ⟨fun _ _ _ => rfl, h⟩, hr, .one rfl rfl, hk.pos, hk.lt, t, hkt, hts⟩
  · rw [hts] at m1 m2
    obtain ⟨g1, go1, r1⟩ := num_sem h m1 (by (first | lia | omega)) (Nat.le_refl PW) (Nat.dvd_refl GN) hG0 hP0 hv hd hw
    have hl1 := hb1.len
    have hkk : g1 k = g k := go1.old k hk.pos hk.lt
    have hk1 : (g1 k).w = 1 ∧ (g1 k).N = 1 := by rw [hkk]; exact ⟨hw1, hn1⟩
    obtain ⟨g2, go2, r2⟩ := mul_sem go1.bd m2 (by (first | lia | omega)) m1.at' rfl rfl ⟨hk.pos, by have := hk.lt; (first | lia | omega)⟩ (Nat.le_refl PW) (Nat.dvd_refl GN) hG0 (m := PW) (D := GN) hP0 hv (by rw [hk1.1]; (first | lia | omega)) hd (by rw [hk1.2, Nat.mul_one]; exact Nat.dvd_refl _)
    refine ⟨g2, go1.trans hb1 go2, fun j => ?_, .mul hv1 c (m1.at'.ble (m2.ble hb1.ok)) m2.at' ⟨m1.pos, m2.pos⟩, m2.lt.1, m2.lt.2, _, m2.at', rfl⟩
    rw [r2, hkk, hr]
    split
    · exact Rat.mul_one _
    · exact Rat.mul_zero _
end
/- part B11 -/
noncomputable def rowSum (p : Row) (c : Rat) (j : Int) : Rat := if j = 0 then c else lk p j
theorem sum_keys {p : Row} (hp : RowOk p) : ∀ (ks : List Int), ks.Nodup → ∀ j, (ks.map fun k => if j = k then lk p k else 0).sum = if j ∈ ks then lk p j else 0
  | [], _, j => by simp
  | k :: ks, h, j => by
    rw [List.nodup_cons] at h
    rw [List.map_cons, List.sum_cons, sum_keys hp ks h.2 j]
    by_cases e : j = k
    · subst e; simp only [if_true, h.1, if_false, List.mem_cons, true_or]; grind
    · simp only [e, if_false, List.mem_cons, false_or]; grind
section
variable {W : Wd} {n : Nat} {σ : St} {ad : BAd} {B : Bk} {F : St} {Q : V → St → Prop} {g : Int → Inf} {PW GN : Nat} {fa : FAd} {p : Row} {c : Rat} {s : Int}
inductive ITof (W : Wd) (ad : BAd) (B : Bk) (g : Int → Inf) (PW : Nat) (GN : Nat) (fa : FAd) (p : Row) (c : Rat) (s : Int) (ns : List Int) (D : Addr) (vs : List V) (ρ : Ro) (τ : St) : Prop
  | mk (l done ids : List Int) (Bj : Bk) (gj : Int → Inf) (u4 u5 : Option V) (h1 : vs = (l.map fun k => .tup [.int k, rv (lk p k)])) (h2 : ns = done ++ l) (h3 : BLe B Bj (2 * done.length)) (h4 : Go B Bj g gj PW GN) (h5 : WrL Bj s p done ids) (h6 : (∀ j, (ids.map fun a => (gj a).row j).sum = (done.map fun k => if j = k then lk p k else 0).sum)) (h7 : (∀ a ∈ ids, 1 ≤ a ∧ a.toNat < Bj.ts.length ∧ ∃ t, At Bj a t ∧ t.sort = s)) (h8 : ρ = [some (.ref ad.self), some (.ref fa.self), some (.int s), some (.ref D), u4, u5, none, none, none]) (h9 : τ = (D, .list (ids.map .int)) :: (formS W fa p c ++ bank W ad Bj)) : ITof W ad B g PW GN fa p c s ns D vs ρ τ
set_option maxHeartbeats 4000000 in
theorem c_tof (P : Prog W) (hB : Bd B g PW GN) (hG0 : 0 < GN) (hP0 : 1 ≤ PW) (hbig : PW * GN < big) (hbig2 : GN < big) (hs : s = 1 ∨ s = 2) (hl : B.ts.length ≤ 30000) (hp : RowOk p) (hp0 : lk p 0 = 0) (hpl : p.length ≤ 7) (hk : ∀ k, lk p k ≠ 0 → LeafKey B g s k)
    (hv : ∀ k, ab (lk p k) ≤ PW ∧ Dv (lk p k) GN ∧ (s = 1 → (lk p k).den = 1)) (hc : ab c ≤ PW ∧ Dv c GN ∧ (s = 1 → c.den = 1))
    (h : ∀ r B' g' ns, ns.Perm (p.map (·.1)) → ns.Pairwise (· ≤ ·) → BLe B B' 20 → Go B B' g g' (8 * PW) GN → Wr B' s p c ns r → (∀ j, (g' r).row j = rowSum p c j) → 1 ≤ r → r.toNat < B'.ts.length → (∃ t, At B' r t ∧ t.sort = s) → Q (.int r) (F ++ (formS W fa p c ++ bank W ad B'))) :
    acall W (n + 6) (gv W "term_of_form") [.ref ad.self, .ref fa.self, .int s] (F ++ (formS W fa p c ++ bank W ad B)) Q := by
  refine acall_frame (acall_def (ρ0 := [some (.ref ad.self), some (.ref fa.self), some (.int s), none, none, none, none, none, none]) P.f17.ok rfl ?_)
  have smv : ∀ k, Sm (lk p k) := fun k => sm_of (hv k).1 (hv k).2.1 hG0 hbig hbig2
  have smc : Sm c := sm_of hc.1 hc.2.1 hG0 hbig hbig2
  ktr_rel
  repeat tb_rel
  refine aE_list (aEs_nil ⟨by simp, fun D => ?_⟩)
  repeat tb_rel
  refine ss_for (ai_tup ?_) (by intro _ _; rfl)
  repeat tb_rel
  refine acall_mid (F := [(D, .list [])]) (G := bank W ad B) (c_sortedparts P hp (by (first | lia | omega)) fun ns hperm hsort => ?_)
  have hnd : ns.Nodup := hperm.nodup_iff.mpr hp.nd
  have hnl : ns.length = p.length := by have := hperm.length_eq; simpa using this
  refine ⟨_, rfl, ?_⟩
  refine loop_inv (ITof W ad B g PW GN fa p c s ns D) ?_ ?_ _ _ _
    ⟨ns, [], [], B, g, none, none, rfl, rfl, .refl hB.ok, ⟨fun _ _ _ => rfl, hB⟩, .nil, fun _ => rfl, by simp, rfl, rfl⟩
  · rintro v vs ρ τ ⟨l, done, ids, Bj, gj, u4, u5, he, hns, hble, hgo, hwr, hsum, hids, rfl, rfl⟩
    cases l with
    | nil => cases he
    | cons k l =>
      simp only [List.map_cons, List.cons.injEq] at he
      obtain ⟨rfl, rfl⟩ := he
      have hdl : done.length + 1 ≤ 7 := by
        have := congrArg List.length hns
        simp at this; (first | lia | omega)
      have hkn : lk p k ≠ 0 := hp.key.mp (hperm.mem_iff.mp (by rw [hns]; simp))
      have hkl := (hk k hkn)
      obtain ⟨t, ht, hts, hto⟩ := hkl.ex
      have hlenj := hble.len
      have hwlen := hwr.len
      -- what the rest asks
      have fin : ∀ (r : Int) (B2 : Bk), BLe Bj B2 2 → TMul Bj t k (lk p k) r B2 → ∃ g2, (BLe B B2 (2 * (done ++ [k]).length) ∧ Go B B2 g g2 PW GN ∧ WrL B2 s p (done ++ [k]) (ids ++ [r]) ∧ (∀ j, ((ids ++ [r]).map fun a => (g2 a).row j).sum = ((done ++ [k]).map fun k => if j = k then lk p k else 0).sum) ∧ (∀ a ∈ ids ++ [r], 1 ≤ a ∧ a.toNat < B2.ts.length ∧ ∃ t, At B2 a t ∧ t.sort = s)) := by
        intro r B2 hb2 hm2
        obtain ⟨g2, go2, r2, w2, h1, h2, h3⟩ := tmul_sem hgo.bd (hkl.ble hble) (ht.ble hble) hts hm2 (by (first | lia | omega)) hG0 hP0 (hv k).1 (hv k).2.1 (hv k).2.2
        refine ⟨g2, ⟨(hble.trans hb2).le (by simp; (first | lia | omega)), hgo.trans hble go2, .snoc (hwr.ble hb2) w2, fun j => ?_, fun a ha => ?_⟩⟩
        · rw [List.map_append, List.map_append, List.sum_append, List.sum_append, ← hsum j]
          simp only [List.map_cons, List.map_nil, List.sum_cons, List.sum_nil, r2]
          congr 1
          congr 1
          exact List.map_congr_left fun a ha => by rw [go2.old a (hids a ha).1 (hids a ha).2.1]
        · rcases List.mem_append.mp ha with q | q
          · obtain ⟨a1, a2, t', a3, a4⟩ := hids a q
            exact ⟨a1, by have := hb2.len; (first | lia | omega), t', a3.ble hb2, a4⟩
          · simp only [List.mem_singleton] at q
            subst q; exact ⟨h1, h2, h3⟩
      repeat tb_rel
      refine c_eq (rv_ok _).1 (by simp [eqOk, eqOks]) (rv_ok _).2 (by simp [vdep, vdeps]) ?_
      rw [veq_one]
      by_cases h1 : lk p k = 1
      · try tb_rel
        repeat tb_rel
        refine o_append (by tb_start) (by simp; (first | lia | omega)) ?_
        repeat tb_rel
        refine ss_nil ?_
        obtain ⟨g2, f1, f2, f3, f4, f5⟩ := fin k Bj (.refl hble.ok) (.inr (.inl ⟨hto.1, h1, rfl, rfl⟩))
        exact ⟨l, done ++ [k], ids ++ [k], Bj, g2, _, _, rfl, by rw [hns]; simp, f1, f2, f3, f4, f5, rfl, by simp⟩
      · try tb_rel
        repeat tb_rel
        refine c_times (F := (D, .list (ids.map .int)) :: formS W fa p c) P (ht.ble hble) (by rw [hts]; exact hs) (by rw [hts]; exact (hv k).2.2) (fun e => absurd e hto.1) (smv k) hble.ok (by (first | lia | omega)) fun r B2 hb2 hm2 => ?_
        repeat tb_rel
        refine o_append (by tb_start) (by simp; (first | lia | omega)) ?_
        repeat tb_rel
        refine ss_nil ?_
        obtain ⟨g2, f1, f2, f3, f4, f5⟩ := fin r B2 hb2 hm2
        exact ⟨l, done ++ [k], ids ++ [r], B2, g2, _, _, rfl, by rw [hns]; simp, f1, f2, f3, f4, f5, rfl, by simp⟩
  · rintro ρ τ ⟨l, done, ids, Bj, gj, u4, u5, he, hns, hble, hgo, hwr, hsum, hids, rfl, rfl⟩
    cases l with
    | cons _ _ => cases he
    | nil =>
      rw [List.append_nil] at hns
      subst hns
      have hlenj := hble.len
      have hwlen := hwr.len
      have hrow : ∀ j, (ids.map fun a => (gj a).row j).sum = lk p j := fun j => by
        rw [hsum j, sum_keys hp _ hnd]
        split
        · rfl
        · rename_i hj
          exact (lk_out fun q => hj (hperm.mem_iff.mpr q)).symm
      -- the end: one list, all its facts
      have fin : ∀ (all : List Int) (B2 : Bk) (g2 : Int → Inf), BLe B B2 15 → Go B B2 g g2 PW GN → all ≠ [] → all.length ≤ 8 → (∀ j, (all.map fun a => (g2 a).row j).sum = rowSum p c j) → (∀ a ∈ all, 1 ≤ a ∧ a.toNat < B2.ts.length ∧ ∃ t, At B2 a t ∧ t.sort = s) →
          (∀ (B3 : Bk) (r : Int), BLe B2 B3 1 → (all = [r] ∨ (2 ≤ all.length ∧ At B3 r (tPlus all s) ∧ 1 ≤ r)) → Wr B3 s p c ns r) → ∀ (r : Int) (B3 : Bk), BLe B2 B3 1 → ((all = [r] ∧ B3 = B2) ∨ (2 ≤ all.length ∧ Mk B2 (tPlus all s) r B3)) → Q (.int r) (F ++ (formS W fa p c ++ bank W ad B3)) := by
        intro all B2 g2 hb2 hgo2 hne hal hsum2 hall hwr2 r B3 hb3 hr
        have hl2 := hb2.len
        rcases hr with ⟨e, rfl⟩ | ⟨h2, m⟩
        · subst e
          obtain ⟨a1, a2, a3⟩ := hall r (.head _)
          refine h r B3 g2 ns hperm hsort (hb2.le (by (first | lia | omega))) ⟨hgo2.old, hgo2.bd.le (by (first | lia | omega)) (Nat.dvd_refl _)⟩ (hwr2 B3 r hb3 (.inl rfl)) (fun j => ?_) a1 a2 a3
          rw [← hsum2 j]; simp [Rat.add_zero]
        · obtain ⟨g3, go3, r3⟩ := plus_sem hgo2.bd m (by (first | lia | omega)) (PW' := 8 * PW) (Nat.mul_le_mul_right PW hal) hne hG0 (fun a ha => ⟨(hall a ha).1, (hall a ha).2.1⟩)
          refine h r B3 g3 ns hperm hsort ((hb2.trans hb3).le (by (first | lia | omega))) (hgo2.trans hb2 go3) (hwr2 B3 r hb3 (.inr ⟨h2, m.at', m.pos⟩)) (fun j => ?_) m.lt.1 m.lt.2 ⟨_, m.at', rfl⟩
          rw [r3, hsum2]
      by_cases hc0 : c = 0 ∧ ids ≠ []
      · obtain ⟨h0, hne⟩ := hc0
        have hfin := fin ids Bj gj (hble.le (by (first | lia | omega))) hgo hne (by (first | lia | omega)) (fun j => by
          rw [hrow j]; unfold rowSum
          split
          · rename_i e; rw [e, hp0, h0]
          · rfl) hids (fun B3 r hb3 hr => ⟨ids, ids, hwr.ble hb3, .inl ⟨rfl, h0, hne⟩, hr⟩)
        have hbbok := hble.ok
        have hallne := hne
        have hallt : ∀ x ∈ ids, ∃ t, At Bj x t ∧ t.sort = s := fun a ha => (hids a ha).2.2
        have hidl : ids.length ≤ 8 := by (first | lia | omega)
        repeat tb_rel
        have ed : (!decide (c = 0)) = false := by simp [h0]
        rw [num_ne, ed]
        try tb_rel
        repeat tb_rel
        refine o_len_list (by tb_start) (by simp; (first | lia | omega)) ?_
        repeat tb_rel
        have e0 : ¬ (((ids.map V.int).length : Nat) : Int) = 0 := by
          have := List.length_pos_iff.mpr hne
          rw [List.length_map]; (first | lia | omega)
        try tb_rel
        repeat tb_rel
        try tb_rel
        refine ss_nil ?_
        refine ss_re (FRe.list .head (i := 3) rfl) ?_
        repeat tb_rel
        refine o_len_flist (by simp only [List.length_map]; (first | lia | omega)) ?_
        repeat tb_rel
        by_cases hone : (ids).length = 1
        · obtain ⟨r, hr⟩ : ∃ r, ids = [r] := List.length_eq_one_iff.mp hone
          have e1 : ((((ids).map V.int).length : Nat) : Int) = 1 := by rw [List.length_map, hone]; rfl
          try tb_rel
          repeat tb_rel
          refine s_flist (by decide) (by decide) (v := .int r) (by rw [hr]; rfl) ?_ (by intro _ _; with_unfolding_all rfl)
          exact hfin r Bj (.refl hbbok) (.inl ⟨hr, rfl⟩)
        · have e1 : ¬ ((((ids).map V.int).length : Nat) : Int) = 1 := by rw [List.length_map]; (first | lia | omega)
          try tb_rel
          repeat tb_rel
          refine o_tuple_flist (by simp only [List.length_map]; (first | lia | omega)) ?_
          repeat tb_rel
          exact c_plus (F := formS W fa p c) (b := true) (l := ids) (s := s) P hs hallne (by (first | lia | omega)) hallt hbbok (by (first | lia | omega)) hfin
      · have hor : c ≠ 0 ∨ ids = [] := by
          by_cases h0 : c = 0
          · exact .inr (by
              cases ids with
              | nil => rfl
              | cons a l => exact absurd ⟨h0, by simp⟩ hc0)
          · exact .inl h0
        -- the constant's own number
        have fin2 : ∀ (z : Int) (B2 : Bk), BLe Bj B2 1 → Mk Bj (tNum c s) z B2 → ∀ (r : Int) (B3 : Bk), BLe B2 B3 1 → ((ids ++ [z] = [r] ∧ B3 = B2) ∨ (2 ≤ (ids ++ [z]).length ∧ Mk B2 (tPlus (ids ++ [z]) s) r B3)) → Q (.int r) (F ++ (formS W fa p c ++ bank W ad B3)) := by
          intro z B2 hb2 m
          obtain ⟨g2, go2, r2⟩ := num_sem hgo.bd m (by (first | lia | omega)) (Nat.le_refl PW) (Nat.dvd_refl GN) hG0 hP0 hc.1 hc.2.1 hc.2.2
          refine fin (ids ++ [z]) B2 g2 ((hble.trans hb2).le (by (first | lia | omega))) (hgo.trans hble go2) (by simp) (by simp; (first | lia | omega)) (fun j => ?_) (fun a ha => ?_) (fun B3 r hb3 hr => ⟨ids, ids ++ [z], (hwr.ble hb2).ble hb3, .inr ⟨z, rfl, m.at'.ble hb3, m.pos, hor⟩, hr⟩)
          · rw [List.map_append, List.sum_append]
            have e : (ids.map fun a => (g2 a).row j) = ids.map fun a => (gj a).row j := List.map_congr_left fun a ha => by rw [go2.old a (hids a ha).1 (hids a ha).2.1]
            rw [e, hrow j]
            simp only [List.map_cons, List.map_nil, List.sum_cons, List.sum_nil, r2]
            unfold rowSum
            split
            · rename_i e; subst e; rw [hp0]; grind
            · grind
          · rcases List.mem_append.mp ha with q | q
            · obtain ⟨a1, a2, t', a3, a4⟩ := hids a q
              exact ⟨a1, by have := hb2.len; (first | lia | omega), t', a3.ble hb2, a4⟩
            · simp only [List.mem_singleton] at q
              subst q; exact ⟨m.lt.1, m.lt.2, _, m.at', rfl⟩
        have hnum : s = 2 ∨ (s = 1 ∧ c.den = 1) := by
          rcases hs with e | e
          · exact .inr ⟨e, hc.2.2 e⟩
          · exact .inl e
        have hallt2 : ∀ (z : Int) (B2 : Bk), BLe Bj B2 1 → Mk Bj (tNum c s) z B2 → ∀ x ∈ ids ++ [z], ∃ t, At B2 x t ∧ t.sort = s := by
          intro z B2 hb2 m a ha
          rcases List.mem_append.mp ha with q | q
          · obtain ⟨a1, a2, t', a3, a4⟩ := hids a q
            exact ⟨t', a3.ble hb2, a4⟩
          · simp only [List.mem_singleton] at q
            subst q; exact ⟨_, m.at', rfl⟩
        repeat tb_rel
        rw [num_ne]
        by_cases h0 : c = 0
        · have hid : ids = [] := hor.resolve_left fun q => q h0
          have ed : (!decide (c = 0)) = false := by simp [h0]
          rw [ed]
          try tb_rel
          repeat tb_rel
          refine o_len_list (by tb_start) (by simp; (first | lia | omega)) ?_
          repeat tb_rel
          have e0 : (((ids.map V.int).length : Nat) : Int) = 0 := by rw [hid]; rfl
          try tb_rel
          repeat tb_rel
          refine c_num (F := (D, .list (ids.map .int)) :: formS W fa p c) P hnum hble.ok (by (first | lia | omega)) fun z B2 hb2 m => ?_
          repeat tb_rel
          refine o_append (by tb_start) (by simp; (first | lia | omega)) ?_
          repeat tb_rel
          refine ss_nil ?_
          have hfin := fin2 z B2 hb2 m
          have hbbok := hb2.ok
          have hallne : ids ++ [z] ≠ [] := by simp
          have hallt := hallt2 z B2 hb2 m
          have hidl : (ids ++ [z]).length ≤ 8 := by simp; (first | lia | omega)
          have hb2l := hb2.len
          rw [show ids.map V.int ++ [V.int z] = (ids ++ [z]).map V.int by simp]
          refine ss_re (FRe.list .head (i := 3) rfl) ?_
          repeat tb_rel
          refine o_len_flist (by simp only [List.length_map]; (first | lia | omega)) ?_
          repeat tb_rel
          by_cases hone : (ids ++ [z]).length = 1
          · obtain ⟨r, hr⟩ : ∃ r, ids ++ [z] = [r] := List.length_eq_one_iff.mp hone
            have e1 : ((((ids ++ [z]).map V.int).length : Nat) : Int) = 1 := by rw [List.length_map, hone]; rfl
            try tb_rel
            repeat tb_rel
            refine s_flist (by decide) (by decide) (v := .int r) (by rw [hr]; rfl) ?_ (by intro _ _; with_unfolding_all rfl)
            exact hfin r B2 (.refl hbbok) (.inl ⟨hr, rfl⟩)
          · have e1 : ¬ ((((ids ++ [z]).map V.int).length : Nat) : Int) = 1 := by rw [List.length_map]; (first | lia | omega)
            try tb_rel
            repeat tb_rel
            refine o_tuple_flist (by simp only [List.length_map]; (first | lia | omega)) ?_
            repeat tb_rel
            exact c_plus (F := formS W fa p c) (b := true) (l := ids ++ [z]) (s := s) P hs hallne (by (first | lia | omega)) hallt hbbok (by (first | lia | omega)) hfin
        · have ed : (!decide (c = 0)) = true := by simp [h0]
          rw [ed]
          try tb_rel
          repeat tb_rel
          refine c_num (F := (D, .list (ids.map .int)) :: formS W fa p c) P hnum hble.ok (by (first | lia | omega)) fun z B2 hb2 m => ?_
          repeat tb_rel
          refine o_append (by tb_start) (by simp; (first | lia | omega)) ?_
          repeat tb_rel
          refine ss_nil ?_
          have hfin := fin2 z B2 hb2 m
          have hbbok := hb2.ok
          have hallne : ids ++ [z] ≠ [] := by simp
          have hallt := hallt2 z B2 hb2 m
          have hidl : (ids ++ [z]).length ≤ 8 := by simp; (first | lia | omega)
          have hb2l := hb2.len
          rw [show ids.map V.int ++ [V.int z] = (ids ++ [z]).map V.int by simp]
          refine ss_re (FRe.list .head (i := 3) rfl) ?_
          repeat tb_rel
          refine o_len_flist (by simp only [List.length_map]; (first | lia | omega)) ?_
          repeat tb_rel
          by_cases hone : (ids ++ [z]).length = 1
          · obtain ⟨r, hr⟩ : ∃ r, ids ++ [z] = [r] := List.length_eq_one_iff.mp hone
            have e1 : ((((ids ++ [z]).map V.int).length : Nat) : Int) = 1 := by rw [List.length_map, hone]; rfl
            try tb_rel
            repeat tb_rel
            refine s_flist (by decide) (by decide) (v := .int r) (by rw [hr]; rfl) ?_ (by intro _ _; with_unfolding_all rfl)
            exact hfin r B2 (.refl hbbok) (.inl ⟨hr, rfl⟩)
          · have e1 : ¬ ((((ids ++ [z]).map V.int).length : Nat) : Int) = 1 := by rw [List.length_map]; (first | lia | omega)
            try tb_rel
            repeat tb_rel
            refine o_tuple_flist (by simp only [List.length_map]; (first | lia | omega)) ?_
            repeat tb_rel
            exact c_plus (F := formS W fa p c) (b := true) (l := ids ++ [z]) (s := s) P hs hallne (by (first | lia | omega)) hallt hbbok (by (first | lia | omega)) hfin
end
/- part B12 -/
section
variable {W : Wd} {n : Nat} {σ : St} {ad : BAd} {B : Bk} {F : St} {Q : V → St → Prop} {g : Int → Inf} {PW GN : Nat} {s : Int}
/- the atom's number -/
noncomputable def AtomIs (B : Bk) (rel : Str) (l rt r : Int) : Prop := (rel = "=" ∧ l = rt ∧ r = 1) ∨ (rel = "=" ∧ l ≠ rt ∧ At B r (tRel "=" (min l rt) (max l rt)) ∧ 1 ≤ r) ∨ (rel ≠ "=" ∧ At B r (tRel rel l rt) ∧ 1 ≤ r)
theorem relNe : decide (Str.ofString "<=" = Str.ofString "=") = false ∧ decide (Str.ofString "<" = Str.ofString "=") = false ∧ decide (Str.ofString "<" = Str.ofString "<=") = false := by decide +kernel
theorem relNe' : ¬ Str.ofString "<=" = Str.ofString "=" ∧ ¬ Str.ofString "<" = Str.ofString "=" := by decide +kernel
inductive IAtom (W : Wd) (ad : BAd) (B : Bk) (fa : FAd) (rr : Row) (bd : Rat) (rel : Str) (s : Int) (ns : List Int) (vs : List V) (ρ : Ro) (τ : St) : Prop
  | mk (l done : List Int) (pp : Row) (u4 u5 : Option V) (h1 : vs = (l.map fun k => .tup [.int k, rv (lk rr k)])) (h2 : ns = done ++ l) (h3 : RowOk pp) (h4 : (∀ j, lk pp j = if j ∈ done then lk rr j else 0)) (h5 : pp.length ≤ done.length) (h6 : ρ = [some (.ref ad.self), some (.tup [pairs rr ns, .str rel, rv bd]), some (.int s), some (.ref fa.self), u4, u5, none, none, none, none]) (h7 : τ = formS W fa pp 0 ++ bank W ad B) : IAtom W ad B fa rr bd rel s ns vs ρ τ
set_option maxHeartbeats 4000000 in
theorem c_atom (P : Prog W) (hB : Bd B g PW GN) (hG0 : 0 < GN) (hP0 : 1 ≤ PW) (hbig : PW * GN < big) (hbig2 : GN < big) (hs : s = 1 ∨ s = 2) (hl : B.ts.length ≤ 29000) {rr : Row} {bd : Rat} {rel : Str} {ns : List Int} (hrel : rel = "=" ∨ rel = "<=" ∨ rel = "<")
    (hnd : ns.Nodup) (hn0 : 0 ∉ ns) (hnl : ns.length ≤ 7) (hk : ∀ k ∈ ns, LeafKey B g s k) (hv : ∀ k, ab (lk rr k) ≤ PW ∧ Dv (lk rr k) GN ∧ (s = 1 → (lk rr k).den = 1)) (hb : ab bd ≤ PW ∧ Dv bd GN ∧ (s = 1 → bd.den = 1))
    (h : ∀ r l rt B' g', BLe B B' 22 → Go B B' g g' (8 * PW) GN → (∀ j, (g' l).row j = if j ∈ ns then lk rr j else 0) → (∀ j, (g' rt).row j = if j = 0 then bd else 0) → 1 ≤ l → l.toNat < B'.ts.length → 1 ≤ rt → rt.toNat < B'.ts.length → AtomIs B' rel l rt r → (ns = [] → At B' l (tNum 0 s)) → At B' rt (tNum bd s) → Q (.int r) (F ++ bank W ad B')) :
    acall W (n + 7) (gv W "atom_of_row") [.ref ad.self, .tup [pairs rr ns, .str rel, rv bd], .int s] (F ++ bank W ad B) Q := by
  refine acall_frame (acall_re (acall_def (ρ0 := [some (.ref ad.self), some (.tup [pairs rr ns, .str rel, rv bd]), some (.int s), none, none, none, none, none, none, none]) P.f18.ok rfl ?_))
  have smv : ∀ k, Sm (lk rr k) := fun k => sm_of (hv k).1 (hv k).2.1 hG0 hbig hbig2
  ktr_rel
  repeat tb_rel
  refine c_newform P fun fa => ?_
  repeat tb_rel
  refine ss_for (ai_tup ?_) (by intro _ _; rfl)
  repeat tb_rel
  refine ⟨_, rfl, ?_⟩
  refine loop_inv (IAtom W ad B fa rr bd rel s ns) ?_ ?_ _ _ _ ⟨ns, [], [], none, none, rfl, rfl, .nil, fun j => rfl, by simp, rfl, rfl⟩
  · rintro v vs ρ τ ⟨l, done, pp, u4, u5, he, hns, hok, hlk, hpl, rfl, rfl⟩
    cases l with
    | nil => cases he
    | cons k l =>
      simp only [List.map_cons, List.cons.injEq] at he
      obtain ⟨rfl, rfl⟩ := he
      have hkd : k ∉ done := by
        rw [hns, List.nodup_append] at hnd
        exact fun q => hnd.2.2 k q k (.head _) rfl
      have hlkk : lk pp k = 0 := by rw [hlk, if_neg hkd]
      have hdl : done.length + 1 ≤ 7 := by
        have := congrArg List.length hns
        simp at this; (first | lia | omega)
      repeat tb_rel
      refine acall_mid (F := []) (G := bank W ad B) (c_addpart P ?_ (smv k) (by (first | lia | omega)) ?_)
      · rw [hlkk]; exact sm_of (w := 0) (by rw [ab_zero]; exact Rat.le_refl) (Dv.zero 1) (by decide) (by unfold big; exact Nat.two_pow_pos _) (by unfold big; exact Nat.one_lt_two_pow (by decide))
      repeat tb_rel
      refine ss_nil ?_
      refine ⟨l, done ++ [k], addP pp k (lk rr k), _, _, rfl, by rw [hns]; simp, hok.addP _ _, fun j => ?_, ?_, rfl, rfl⟩
      · rw [lk_addP, hlkk]
        by_cases e : j = k
        · subst e; simp [Rat.zero_add]
        · rw [if_neg e, hlk]
          simp [e]
      · have h2 : (addP pp k (lk rr k)).length ≤ pp.length + 1 := by
          unfold addP
          split
          · exact Nat.le_succ_of_le (List.length_filter_le ..)
          · unfold putR; split <;> simp
        simp; (first | lia | omega)
  · rintro ρ τ ⟨l, done, pp, u4, u5, he, hns, hok, hlk, hpl, rfl, rfl⟩
    cases l with
    | cons _ _ => cases he
    | nil =>
      rw [List.append_nil] at hns
      subst hns
      refine ss_swap2 (x := "left") (y := "right") (i := 6) (j := 7) rfl rfl ?_
      repeat tb_rel
      refine c_tof (F := []) P hB hG0 hP0 hbig hbig2 hs (by (first | lia | omega)) hok (by rw [hlk, if_neg hn0]) (by (first | lia | omega)) (fun k hk' => ?_) (fun k => ?_) ⟨by rw [ab_zero]; exact_mod_cast Nat.zero_le _, Dv.zero _, fun _ => rfl⟩ fun l1 B1 g1 ns1 hpm1 _ hb1 go1 hwr1 hrow1 h1 h2 ht1 => ?_
      · refine hk k ?_
        rw [hlk] at hk'
        by_cases q : k ∈ ns
        · exact q
        · rw [if_neg q] at hk'; exact absurd rfl hk'
      · rw [hlk]
        split
        · exact hv k
        · exact ⟨by rw [ab_zero]; exact_mod_cast Nat.zero_le _, Dv.zero _, fun _ => rfl⟩
      have hnum : ns = [] → At B1 l1 (tNum 0 s) := fun e => by
        have hl0 := hpm1.length_eq
        simp only [List.length_map] at hl0
        rw [e] at hpl
        simp only [List.length_nil] at hpl
        have hn1 : ns1 = [] := List.length_eq_zero_iff.mp (by (first | lia | omega))
        obtain ⟨ids, all, hwl, hall, hone⟩ := hwr1.ex
        have hi := hwl.len
        rw [hn1] at hi
        have hid : ids = [] := List.length_eq_zero_iff.mp hi
        rcases hall with ⟨_, _, q⟩ | ⟨z, rfl, hz, hz1, _⟩
        · exact absurd hid q
        · rw [hid, List.nil_append] at hone
          rcases hone with q | ⟨q, _⟩
          · injection q with q _
            rw [← q]; exact hz
          · simp at q
      repeat tb_rel
      have hb1l := hb1.len
      refine c_num (F := formS W fa pp 0) P ?_ hb1.ok (by (first | lia | omega)) fun rt B2 hb2 m => ?_
      · rcases hs with e | e
        · exact .inr ⟨e, hb.2.2 e⟩
        · exact .inl e
      have hb2l := hb2.len
      obtain ⟨g2, go2, hrow2⟩ := num_sem go1.bd m (by (first | lia | omega)) (Nat.le_refl _) (Nat.dvd_refl _) hG0 (by (first | lia | omega)) (Rat.le_trans hb.1 (by exact_mod_cast (by (first | lia | omega) : PW ≤ 8 * PW))) hb.2.1 hb.2.2
      have hrl : ∀ j, (g2 l1).row j = if j ∈ ns then lk rr j else 0 := fun j => by
        rw [go2.old l1 h1 h2, hrow1 j]; unfold rowSum
        split
        · rename_i e; subst e; rw [if_neg hn0]
        · exact hlk j
      obtain ⟨t1, hat1, hts1⟩ := ht1
      repeat tb_rel
      refine ⟨_, _, rfl, ?_⟩
      have fin : ∀ (r : Int) (B3 : Bk) (g3 : Int → Inf), BLe B2 B3 1 → Go B2 B3 g2 g3 (8 * PW) GN → AtomIs B3 rel l1 rt r → ReX W (fun b τ => Q b (F ++ τ)) (.int r) (formS W fa pp 0 ++ bank W ad B3) := by
        intro r B3 g3 hb3 go3 hat
        have hb3l := hb3.len
        refine ⟨_, _, Re.trans (Re.drop .head) (Re.drop .head), h r l1 rt B3 g3 (((hb1.trans hb2).trans hb3).le (by (first | lia | omega))) ((go1.trans hb1 go2).trans (hb1.trans hb2) go3) (fun j => ?_) (fun j => ?_) h1 (by (first | lia | omega)) m.lt.1 (by have := m.lt.2; (first | lia | omega)) hat (fun e => ((hnum e).ble hb2).ble hb3) (m.at'.ble hb3)⟩
        · rw [go3.old l1 h1 (by (first | lia | omega))]; exact hrl j
        · rw [go3.old rt m.lt.1 m.lt.2]; exact hrow2 j
      have hl2 := hat1.ble hb2
      have hr2 := m.at'
      have leafs : ∀ {o : Str} {x y r : Int} {B3 : Bk}, (o ≠ "num" ∧ o ≠ "+" ∧ o ≠ "*") → Mk B2 (tRel o x y) r B3 → ∃ g3, Go B2 B3 g2 g3 (8 * PW) GN := fun ho mm => by
        obtain ⟨g3, a, _⟩ := leaf_sem go2.bd mm (by (first | lia | omega)) ho (fun d e => by cases e) (by (first | lia | omega))
        exact ⟨g3, a⟩
      rcases hrel with rfl | rfl | rfl
      · repeat tb_rel
        try tb_rel
        repeat tb_rel
        refine c_eqt (F := formS W fa pp 0) P hl2 hr2 (by rw [hts1]) hb2.ok (by (first | lia | omega)) fun r B3 hb3 hr => ?_
        rcases hr with ⟨e, rfl, rfl⟩ | ⟨e, mm⟩
        · exact fin 1 _ g2 hb3 ⟨fun _ _ _ => rfl, go2.bd⟩ (.inl ⟨rfl, e, rfl⟩)
        · obtain ⟨g3, go3⟩ := leafs (by decide +kernel) mm
          exact fin r B3 g3 hb3 go3 (.inr (.inl ⟨rfl, e, mm.at', mm.pos⟩))
      · repeat tb_rel
        try simp only [relNe.1, Bool.false_eq_true, if_false]
        refine ss_nil ?_
        repeat tb_rel
        try tb_rel
        repeat tb_rel
        refine c_le (F := formS W fa pp 0) P hl2 hr2 (by rw [hts1]) hs hb2.ok (by (first | lia | omega)) fun r B3 hb3 mm => ?_
        obtain ⟨g3, go3⟩ := leafs (by decide +kernel) mm
        exact fin r B3 g3 hb3 go3 (.inr (.inr ⟨relNe'.1, mm.at', mm.pos⟩))
      · repeat tb_rel
        try simp only [relNe.2.1, Bool.false_eq_true, if_false]
        refine ss_nil ?_
        repeat tb_rel
        try simp only [relNe.2.2, Bool.false_eq_true, if_false]
        repeat tb_rel
        refine c_lt (F := formS W fa pp 0) P hl2 hr2 (by rw [hts1]) hs hb2.ok (by (first | lia | omega)) fun r B3 hb3 mm => ?_
        obtain ⟨g3, go3⟩ := leafs (by decide +kernel) mm
        exact fin r B3 g3 hb3 go3 (.inr (.inr ⟨relNe'.2, mm.at', mm.pos⟩))
end
/- part B13 -/
/- ## the law's tape -/
noncomputable def tapeS (ta : Addr) (cells : List Int) (k : Nat) : St := [(ta, .sdict [("cells", .flist (cells.map .int)), ("spot", .int k)])]
theorem small_mul {x y : Int} (h : x.natAbs < 2 ^ 60) : IntMulOk x y := IntMulOk.of_left (Nat.le_trans (bits_of_lt h) (by decide))
theorem mod_lt {x m : Int} (h : 0 < m) : 0 ≤ x.fmod m ∧ x.fmod m < m := ⟨Int.fmod_nonneg_of_pos x h, Int.fmod_lt_of_pos x h⟩
section
variable {W : Wd} {n : Nat} {σ : St} {F : St} {Q : V → St → Prop} {ta : Addr} {cells : List Int} {k : Nat}
theorem c_next (P : Prog W) {m : Int} (hm : 1 ≤ m) (hk : k ≤ 100000) (hcl : cells.length ≤ 1000) (h : ∀ r, 0 ≤ r → r < m → Q (.int r) (tapeS ta cells (k + 1))) : acall W (n + 1) (gv W "_law_next") [.ref ta, .int m] (tapeS ta cells k) Q := by
  refine acall_def (ρ0 := [some (.ref ta), some (.int m), none, none]) P.f27.ok rfl ?_
  ktr_rel
  repeat tb_rel
  refine s_sdict (kvs := [("cells", .flist (cells.map .int)), ("spot", .int k)]) (by tb_start) (v := .int k) (by with_unfolding_all rfl) ?_ (by intro _ _; with_unfolding_all rfl)
  repeat tb_rel
  refine set_sdict (kvs := [("cells", .flist (cells.map .int)), ("spot", .int k)]) (σ' := tapeS ta cells (k + 1)) (by tb_start) (by simp) ?_
  repeat tb_rel
  refine s_sdict (kvs := [("cells", .flist (cells.map .int)), ("spot", .int ((k + 1 : Nat)))]) (by tb_start) (v := .flist (cells.map .int)) (by with_unfolding_all rfl) ?_ (by intro _ _; with_unfolding_all rfl)
  repeat tb_rel
  refine o_len_flist (by simp; (first | lia | omega)) ?_
  simp only [List.length_map]
  repeat tb_rel
  by_cases c : k < cells.length
  · refine ss_t (by simpa using c) ?_
    repeat tb_rel
    refine s_sdict (kvs := [("cells", .flist (cells.map .int)), ("spot", .int ((k + 1 : Nat)))]) (by tb_start) (v := .flist (cells.map .int)) (by with_unfolding_all rfl) ?_ (by intro _ _; with_unfolding_all rfl)
    repeat tb_rel
    refine s_flist (by (first | lia | omega)) (by (first | lia | omega)) (v := .int cells[k]) (by simp [c]) ?_ (by intro _ _; with_unfolding_all rfl)
    repeat tb_rel
    refine o_mod (by (first | lia | omega)) ?_
    exact h _ (mod_lt (by (first | lia | omega))).1 (mod_lt (by (first | lia | omega))).2
  refine ss_f (by simpa using c) ?_
  repeat tb_rel
  refine ss_nil ?_
  show aSs _ _ _ _ _ (_ :: _) _
  repeat tb_rel
  refine o_mul (small_mul (by (first | lia | omega))) ?_
  repeat tb_rel
  refine o_mul (small_mul (by (first | lia | omega))) ?_
  repeat tb_rel
  refine o_mul (small_mul (by decide)) ?_
  repeat tb_rel
  refine s_sdict (kvs := [("cells", .flist (cells.map .int)), ("spot", .int ((k + 1 : Nat)))]) (by tb_start) (v := .flist (cells.map .int)) (by with_unfolding_all rfl) ?_ (by intro _ _; with_unfolding_all rfl)
  repeat tb_rel
  refine o_len_flist (by simp; (first | lia | omega)) ?_
  repeat tb_rel
  refine o_mul (small_mul (by decide)) ?_
  repeat tb_rel
  refine o_mod (by (first | lia | omega)) ?_
  repeat tb_rel
  refine o_mod (by (first | lia | omega)) ?_
  exact h _ (mod_lt (by (first | lia | omega))).1 (mod_lt (by (first | lia | omega))).2
theorem c_pickF (P : Prog W) {b : Bool} {vs : List V} (hvl : 1 ≤ vs.length) (hvh : vs.length ≤ 1000) (hk : k ≤ 100000) (hcl : cells.length ≤ 1000) (h : ∀ i (hi : i < vs.length), Q vs[i] (tapeS ta cells (k + 1))) : acall W (n + 2) (gv W "_law_pick") [.ref ta, sq b vs] (tapeS ta cells k) Q := by
  refine acall_def (ρ0 := [some (.ref ta), some (sq b vs), none, none]) P.f28.ok rfl ?_
  ktr_rel
  repeat tb_rel
  refine o_len_sq (by (first | lia | omega)) ?_
  repeat tb_rel
  refine c_next P (by (first | lia | omega)) hk hcl fun r h0 h1 => ?_
  repeat tb_rel
  refine s_sq h0 (by (first | lia | omega)) (v := vs[r.toNat]'(by (first | lia | omega))) (by rw [List.getElem?_eq_getElem]) ?_ (by intro _ _; with_unfolding_all rfl)
  exact h _ _
theorem c_pickM (P : Prog W) {pa : Addr} {vs : List V} (hvl : 1 ≤ vs.length) (hvh : vs.length ≤ 1000) (hk : k ≤ 100000) (hcl : cells.length ≤ 1000) (h : ∀ i (hi : i < vs.length), Q vs[i] (tapeS ta cells (k + 1) ++ [(pa, .list vs)])) : acall W (n + 2) (gv W "_law_pick") [.ref ta, .ref pa] (tapeS ta cells k ++ [(pa, .list vs)]) Q := by
  refine acall_def (ρ0 := [some (.ref ta), some (.ref pa), none, none]) P.f28.ok rfl ?_
  ktr_rel
  repeat tb_rel
  refine o_len_list (a := pa) (vs := vs) (by simp [tapeS]) (by (first | lia | omega)) ?_
  repeat tb_rel
  refine acall_mid (F := []) (G := [(pa, .list vs)]) (c_next P (by (first | lia | omega)) hk hcl fun r h0 h1 => ?_)
  repeat tb_rel
  refine s_list (a := pa) (vs := vs) (by simp [tapeS]) h0 (by (first | lia | omega)) (v := vs[r.toNat]'(by (first | lia | omega))) (by rw [List.getElem?_eq_getElem]) ?_ (by intro _ _; with_unfolding_all rfl)
  exact h _ _
/- what a factor may be -/
structure Fac (s : Int) (f : Rat) : Prop where
  top : f.num.natAbs ≤ 5
  bot : f.den ≤ 4
  int : s = 1 → f.den = 1
theorem fac_mk {s t b : Int} (ht : t.natAbs ≤ 5) (h0 : 0 < b) (h4 : b ≤ 4) (hs : s = 1 → b = 1) : Fac s (Rat.divInt t b) := by
  have hg : (0 : Int) < Int.gcd t b := by
    have : Int.gcd t b ≠ 0 := by simp [Int.gcd_eq_zero_iff]; (first | lia | omega)
    (first | lia | omega)
  have en := Rat.num_divInt t b
  rw [Int.sign_eq_one_of_pos h0, Int.one_mul, Int.gcd_comm] at en
  have ed := (low_pos (t := t) h0).2
  rw [Int.fdiv_eq_ediv_of_nonneg _ (by (first | lia | omega))] at ed
  have e1 : (Rat.divInt t b).num * Int.gcd t b = t := by rw [en]; exact Int.ediv_mul_cancel (Int.gcd_dvd_left ..)
  have e2 : ((Rat.divInt t b).den : Int) ≤ b := by rw [← ed]; exact Int.ediv_le_self _ (by (first | lia | omega))
  refine ⟨?_, by (first | lia | omega), fun e => ?_⟩
  · have e3 : (Rat.divInt t b).num.natAbs * Int.gcd t b = t.natAbs := by rw [← Int.natAbs_natCast (Int.gcd t b), ← Int.natAbs_mul, e1]
    have := Nat.le_mul_of_pos_right (Rat.divInt t b).num.natAbs (show 0 < Int.gcd t b by (first | lia | omega))
    (first | lia | omega)
  have := hs e
  have := Rat.den_pos (Rat.divInt t b)
  (first | lia | omega)
theorem c_factor (P : Prog W) {s : Int} (hk : k ≤ 90000) (hcl : cells.length ≤ 1000) (h : ∀ f j, j ≤ 2 → Fac s f → Q (rv f) (tapeS ta cells (k + j))) : acall W (n + 3) (gv W "_law_factor") [.ref ta, .int s] (tapeS ta cells k) Q := by
  refine acall_def (ρ0 := [some (.ref ta), some (.int s), none, none, none, none, none]) P.f33.ok rfl ?_
  ktr_rel
  repeat tb_rel
  refine aE_listF ?_
  repeat tb_rel
  refine c_pickF P (b := false) (vs := [.int 1, .int (-1), .int 2, .int (-2), .int 3, .int (-5), .int 0]) (by decide) (by decide) (by (first | lia | omega)) hcl fun i hi => ?_
  have hx : ∃ t : Int, [V.int 1, V.int (-1), V.int 2, V.int (-2), V.int 3, V.int (-5), V.int 0][i] = .int t ∧ t.natAbs ≤ 5 := by
    have : i < 7 := hi
    obtain rfl | rfl | rfl | rfl | rfl | rfl | rfl : i = 0 ∨ i = 1 ∨ i = 2 ∨ i = 3 ∨ i = 4 ∨ i = 5 ∨ i = 6 := by (first | lia | omega)
    all_goals exact ⟨_, rfl, by decide⟩
  obtain ⟨t, e, ht⟩ := hx
  rw [e]
  repeat tb_rel
  by_cases c : s = 1
  · refine p_t (by simpa using c) ?_
    repeat tb_rel
    exact c_low P (by decide) (by decide) (h _ 1 (by (first | lia | omega)) (fac_mk ht (by decide) (by decide) fun _ => rfl))
  refine p_f (by simpa using c) ?_
  repeat tb_rel
  refine c_next P (by (first | lia | omega)) (by (first | lia | omega)) hcl fun r h0 h1 => ?_
  repeat tb_rel
  exact c_low P (by (first | lia | omega)) (Nat.lt_of_le_of_lt (show (1 + r).natAbs ≤ 5 by (first | lia | omega)) (by decide)) (h _ 2 (by (first | lia | omega)) (fac_mk ht (by (first | lia | omega)) (by (first | lia | omega)) fun e => absurd e c))
end
/- part B14 -/
theorem addP_len (p : Row) (k : Int) (f : Rat) : (addP p k f).length ≤ p.length + 1 := by
  unfold addP
  split
  · exact Nat.le_succ_of_le (List.length_filter_le ..)
  · unfold putR; split <;> simp
section
variable {W : Wd} {n : Nat} {σ : St} {F : St} {Q : V → St → Prop}
inductive IRow (σ : St) (p : Row) (q : Row) (f : Rat) (D : Addr) (ns : List Int) (vs : List V) (ρ : Ro) (τ : St) : Prop
  | mk (l done : List Int) (r : Row) (u4 u5 : Option V) (h1 : vs = l.map .int) (h2 : ns = done ++ l) (h3 : RowOk r) (h4 : (∀ k, lk r k = if k ∈ done then lk p k + f * lk q k else 0)) (h5 : r.length ≤ done.length) (h6 : ρ = [some (fd (rl p)), some (fd (rl q)), some (rv f), some (.ref D), u4, u5, none, none, none, none]) (h7 : τ = (D, .idict (rl r)) :: σ) : IRow σ p q f D ns vs ρ τ
theorem c_rowsum (P : Prog W) {p q : Row} {f : Rat} (hp : RowOk p) (hq : RowOk q) (hl : p.length + q.length ≤ 17) (hsp : ∀ k, Sm (lk p k)) (hsq : ∀ k, Sm (lk q k)) (hf : Sm f)
    (h : ∀ r, RowOk r → (∀ k, lk r k = lk p k + f * lk q k) → Q (fd (rl r)) σ) : acall W (n + 3) (gv W "_law_row_sum") [fd (rl p), fd (rl q), rv f] σ Q := by
  refine acall_re (acall_def (ρ0 := [some (fd (rl p)), some (fd (rl q)), some (rv f), none, none, none, none, none, none, none]) P.f31.ok rfl ?_)
  ktr_rel
  repeat tb_rel
  refine aE_dict0 fun D => ?_
  repeat tb_rel
  refine ss_for (ai_flist ?_) (by intro _ _; rfl)
  repeat tb_rel
  refine of_list_fdict (by rw [rl_len]; (first | lia | omega)) ?_
  repeat tb_rel
  refine of_list_fdict (by rw [rl_len]; (first | lia | omega)) ?_
  repeat tb_rel
  refine of_cat (by simp [rl_len]; (first | lia | omega)) ?_
  rw [show ((rl p).map fun kv => V.int kv.1) ++ ((rl q).map fun kv => V.int kv.1) = (p.map (·.1) ++ q.map (·.1)).map V.int by simp [rl, Function.comp_def]]
  repeat tb_rel
  refine o_set_flist (by simp; (first | lia | omega)) fun S ms hd => ?_
  repeat tb_rel
  have hml := hd.len
  simp only [List.length_append, List.length_map] at hml
  refine of_sorted_set .head (by (first | lia | omega)) fun ns hperm hsort => ?_
  have hnd : ns.Nodup := hperm.nodup_iff.mpr hd.nd
  have hnl := hperm.length_eq
  refine ⟨_, rfl, ?_⟩
  refine loop_inv (IRow σ p q f D ns) ?_ ?_ _ _ _ ⟨ns, [], [], none, none, rfl, rfl, .nil, fun k => rfl, by simp, rfl, rfl⟩
  · rintro v vs ρ τ ⟨l, done, r, u4, u5, he, hns, hok, hlk, hrl, rfl, rfl⟩
    cases l with
    | nil => cases he
    | cons k l =>
      simp only [List.map_cons, List.cons.injEq] at he
      obtain ⟨rfl, rfl⟩ := he
      have hkd : k ∉ done := by
        rw [hns, List.nodup_append] at hnd
        exact fun q => hnd.2.2 k q k (.head _) rfl
      have hlkk : lk r k = 0 := by rw [hlk, if_neg hkd]
      have hdl : done.length + 1 ≤ 17 := by
        have := congrArg List.length hns
        simp at this; (first | lia | omega)
      repeat tb_rel
      refine get_fdict ?_
      rw [show (V.tup [V.int 0, V.int 1]) = rv 0 from rfl, rl_look]
      repeat tb_rel
      refine get_fdict ?_
      rw [show (V.tup [V.int 0, V.int 1]) = rv 0 from rfl, rl_look]
      repeat tb_rel
      refine c_lsum P (hsp k) (hsq k) hf ?_
      repeat tb_rel
      rw [num_ne]
      have fin : (∀ j, lk (addP r k (lk p k + f * lk q k)) j = if j ∈ done ++ [k] then lk p j + f * lk q j else 0) := fun j => by
        rw [lk_addP, hlkk]
        by_cases e : j = k
        · subst e; simp [Rat.zero_add]
        · rw [if_neg e, hlk]
          simp [e]
      by_cases h0 : lk p k + f * lk q k = 0
      · try tb_rel
        refine ss_nil ?_
        refine ss_nil ?_
        refine ⟨l, done ++ [k], r, _, _, rfl, by rw [hns]; simp, hok, fun j => ?_, by simp; (first | lia | omega), rfl, rfl⟩
        rw [← fin j, lk_addP, hlkk, h0, Rat.add_zero]
        split
        · rename_i e; rw [e, hlkk]
        · rfl
      · try tb_rel
        repeat tb_rel
        refine set_idict (kvs := rl r) (by tb_start) (by rw [rl_len]; (first | lia | omega)) ?_
        refine ss_nil ?_
        refine ss_nil ?_
        rw [rl_put]
        have e : putR r k (lk p k + f * lk q k) = addP r k (lk p k + f * lk q k) := by
          unfold addP
          rw [hlkk, Rat.zero_add, if_neg h0]
        rw [e]
        exact ⟨l, done ++ [k], _, _, _, rfl, by rw [hns]; simp, hok.addP _ _, fin, by have := addP_len r k (lk p k + f * lk q k); simp; (first | lia | omega), rfl, rfl⟩
  · rintro ρ τ ⟨l, done, r, u4, u5, he, hns, hok, hlk, hrl, rfl, rfl⟩
    cases l with
    | cons _ _ => cases he
    | nil =>
      rw [List.append_nil] at hns
      subst hns
      repeat tb_rel
      refine ⟨_, _, Re.idict .head, ?_⟩
      refine h r hok fun k => ?_
      rw [hlk]
      split
      · rfl
      · rename_i hk
        have hk' : k ∉ p.map (·.1) ++ q.map (·.1) := fun x => hk (hperm.mem_iff.mpr ((hd.mem k).mpr x))
        rw [List.mem_append, not_or] at hk'
        rw [lk_out hk'.1, lk_out hk'.2]; grind
theorem c_told (P : Prog W) {fa : FAd} {p : Row} {c : Rat} (hp : RowOk p) (h0 : lk p 0 = 0) (hl : p.length ≤ 1000) (h : ∀ r, RowOk r → (∀ k, lk r k = rowSum p c k) → Q (fd (rl r)) (formS W fa p c)) :
    acall W (n + 1) (gv W "_law_told") [.ref fa.self] (formS W fa p c) Q := by
  refine acall_re (acall_def (ρ0 := [some (.ref fa.self), none, none]) P.f32.ok rfl ?_)
  ktr_rel
  repeat tb_rel
  refine o_dict_idict (kvs := rl p) (by tb_start) (by rw [rl_len]; (first | lia | omega)) fun D => ?_
  repeat tb_rel
  rw [num_ne]
  have fin : ∀ k, lk (addP p 0 c) k = rowSum p c k := fun k => by
    rw [lk_addP, h0, Rat.zero_add]; rfl
  by_cases hc : c = 0
  · subst hc
    try tb_rel
    refine ss_nil ?_
    repeat tb_rel
    refine ⟨_, _, Re.idict .head, h p hp fun k => ?_⟩
    unfold rowSum; split
    · rename_i e; rw [e, h0]
    · rfl
  · try tb_rel
    repeat tb_rel
    refine set_idict (kvs := rl p) (by tb_start) (by rw [rl_len]; (first | lia | omega)) ?_
    refine ss_nil ?_
    repeat tb_rel
    rw [rl_put]
    have e : putR p 0 c = addP p 0 c := by
      unfold addP
      rw [h0, Rat.zero_add, if_neg hc]
    rw [e]
    exact ⟨_, _, Re.idict .head, h _ (hp.addP _ _) fin⟩
end
/- part B15 -/
noncomputable abbrev t0 : T := ⟨"", [], 0, .i 0⟩
noncomputable abbrev tTrue : T := ⟨"true", [], 0, .i 0⟩
noncomputable abbrev tFalse : T := ⟨"false", [], 0, .i 0⟩
noncomputable abbrev bk0 : Bk := ⟨[], [], [], [t0, tTrue, tFalse]⟩
theorem tf_ne : tTrue ≠ tFalse := fun e => by
  have := congrArg T.op e
  exact absurd this (by decide +kernel)
theorem bk0_ok : bk0.Ok := ⟨by simp, by simp only [List.tail_cons, List.nodup_cons, List.mem_singleton, tf_ne, not_false_eq_true, List.not_mem_nil, List.nodup_nil, and_self], rfl, rfl, by simp⟩
section
variable {W : Wd} {n : Nat} {σ : St} {F : St} {Q : V → St → Prop}
theorem c_newbank (P : Prog W) (h : ∀ ad, Q (.ref ad.self) (bank W ad bk0 ++ F)) : acall W (n + 3) (.ref (cA W "NumberBank")) [] F Q := by
  refine acall_new P.cN.new fun a dx => acode_re (acode_def (ρ0 := [some (.ref a), none]) P.m23_0.ok rfl ?_)
  ktr_rel
  with_reducible refine' ss_setattr ?_ ?hs
  case hs => rfl
  refine aE_listF ?_
  repeat tb_rel
  refine aE_listF ?_
  repeat tb_rel
  refine aE_list (aEs_nil ⟨by simp, fun fn => ?_⟩)
  repeat tb_rel
  refine aE_list (aEs_nil ⟨by simp, fun fa => ?_⟩)
  repeat tb_rel
  refine aE_list (aEs_nil ⟨by simp, fun fr => ?_⟩)
  repeat tb_rel
  refine aE_list ?_
  repeat tb_rel
  intro ops
  repeat tb_rel
  refine aE_list ?_
  repeat tb_rel
  intro args
  repeat tb_rel
  refine aE_list ?_
  repeat tb_rel
  intro sorts
  repeat tb_rel
  refine aE_list ?_
  repeat tb_rel
  intro datas
  repeat tb_rel
  refine aE_dict0t fun nums => ?_
  repeat tb_rel
  let ad : BAd := ⟨a, dx, fn, fa, fr, ops, args, sorts, datas, nums⟩
  have hp : ∀ (ex : List (Str × V)) (B : Bk), ((ad.nums, MO.tdict (keysOf 1 B.ts.tail)) :: (ad.datas, MO.list (B.ts.map fun t => dv t.data)) :: (ad.sorts, MO.list (B.ts.map fun t => .int t.sort)) :: (ad.args, MO.list (B.ts.map fun t => itup t.args)) ::
      (ad.ops, MO.list (B.ts.map fun t => .str t.op)) :: (ad.fr, MO.list (B.frs.map .int)) :: (ad.fa, MO.list (B.fas.map itup)) :: (ad.fn, MO.list (B.ns.map .str)) :: (ad.self, MO.inst (cA W "NumberBank") ad.dx (battrs ad ex)) :: F).Perm ([] ++ (bankA W ad ex B ++ F)) := fun ex B => by
    show (List.Perm ([_, _, _, _, _, _, _, _, _] ++ F) _)
    exact List.Perm.append_right F (List.reverse_perm [_, _, _, _, _, _, _, _, _]).symm
  refine acall_start (hp [] ⟨[], [], [], [t0]⟩) (acall_mid (F := []) (G := F) (c_make0 (ad := ad) (ex := []) (B := ⟨[], [], [], [t0]⟩) (t := tTrue) P strOk_ops.2.2.2.2.2.2.2.2.1 ⟨by simp, by simp, rfl, rfl, by simp⟩ (by simp) fun r1 B1 m1 => ?_))
  have e1 : r1 = 1 ∧ B1 = ⟨[], [], [], [t0, tTrue]⟩ := by
    obtain ⟨s1, s2, s3⟩ := m1.same
    have hat := m1.at_
    have hpos := m1.pos
    obtain ⟨n1, n2, n3, ts⟩ := B1
    simp only at s1 s2 s3 hat
    subst s1 s2 s3
    rcases m1.ts with e | ⟨_, e⟩
    · simp only at e; subst e
      have := (List.getElem?_eq_some_iff.mp hat).1
      simp at this; (first | lia | omega)
    · simp only [List.cons_append, List.nil_append] at e; subst e
      have := (List.getElem?_eq_some_iff.mp hat).1
      simp at this
      exact ⟨by (first | lia | omega), rfl⟩
  obtain ⟨rfl, rfl⟩ := e1
  repeat tb_rel
  have es : setA "true_number" (.int 1) (battrs ad []) = battrs ad [("true_number", .int 1)] := by with_unfolding_all rfl
  rw [es]
  refine acall_mid (F := []) (G := F) (c_make0 (ad := ad) (ex := [("true_number", .int 1)]) (B := ⟨[], [], [], [t0, tTrue]⟩) (t := tFalse) P strOk_ops.2.2.2.2.2.2.2.2.2 ⟨by simp, by simp, rfl, rfl, by simp⟩ (by simp) fun r2 B2 m2 => ?_)
  have e2 : r2 = 2 ∧ B2 = bk0 := by
    obtain ⟨s1, s2, s3⟩ := m2.same
    have hat := m2.at_
    have hpos := m2.pos
    obtain ⟨n1, n2, n3, ts⟩ := B2
    simp only at s1 s2 s3 hat
    subst s1 s2 s3
    have h1 : r2.toNat ≠ 1 := fun e => by
      rw [e] at hat
      rcases m2.ts with e | ⟨_, e⟩ <;> (simp only [List.cons_append, List.nil_append] at e; subst e; exact tf_ne (by simpa using hat))
    rcases m2.ts with e | ⟨_, e⟩
    · simp only at e; subst e
      have := (List.getElem?_eq_some_iff.mp hat).1
      simp at this; (first | lia | omega)
    · simp only [List.cons_append, List.nil_append] at e; subst e
      have := (List.getElem?_eq_some_iff.mp hat).1
      simp at this
      exact ⟨by (first | lia | omega), rfl⟩
  obtain ⟨rfl, rfl⟩ := e2
  repeat tb_rel
  refine ss_nil ?_
  have es2 : setA "false_number" (.int 2) (battrs ad [("true_number", .int 1)]) = battrs ad bex := by with_unfolding_all rfl
  rw [es2]
  exact ⟨_, _, Re.refl, rfl, h ad⟩
theorem c_declare (P : Prog W) {ad : BAd} {B : Bk} {x : Str} {l : List Int} {s : Int} (hB : B.Ok) (hl : B.ns.length ≤ 40000) (h : Q (.int B.ns.length) (F ++ bank W ad { B with ns := B.ns ++ [x], fas := B.fas ++ [l], frs := B.frs ++ [s] })) :
    acall W (n + 1) (.ref (mf W "NumberBank" "declare_fun")) [.ref ad.self, .str x, itup l, .int s] (F ++ bank W ad B) Q := by
  refine acall_frame (acall_def (ρ0 := [some (.ref ad.self), some (.str x), some (itup l), some (.int s), none, none]) P.m23_6.ok rfl ?_)
  ktr_rel
  repeat tb_rel
  refine o_append (by tb_start) (by simp; (first | lia | omega)) ?_
  repeat tb_rel
  refine o_tuple_tup ?_
  repeat tb_rel
  refine o_append (by tb_start) (by have := hB.l1; simp; (first | lia | omega)) ?_
  repeat tb_rel
  refine o_append (by tb_start) (by have := hB.l2; simp; (first | lia | omega)) ?_
  repeat tb_rel
  refine o_len_list (by tb_start) (by simp; (first | lia | omega)) ?_
  repeat tb_rel
  have e : ((List.map V.str B.ns ++ [V.str x]).length : Int) - 1 = B.ns.length := by simp
  simp only [bank, bankA, List.map_append, List.map_cons, List.map_nil] at h
  rw [e]
  exact h
theorem c_fresh (P : Prog W) {ad : BAd} {B : Bk} {x : Str} {s : Int} (hB : B.Ok) (hl : B.ns.length ≤ 40000) (hbl : B.ts.length ≤ 50000)
    (h : ∀ r B', Mk { B with ns := B.ns ++ [x], fas := B.fas ++ [[]], frs := B.frs ++ [s] } ⟨"app", [], s, .i B.ns.length⟩ r B' → Q (.int r) (F ++ bank W ad B')) :
    acall W (n + 2) (.ref (mf W "NumberBank" "fresh_const")) [.ref ad.self, .str x, .int s] (F ++ bank W ad B) Q := by
  refine acall_frame (acall_def (ρ0 := [some (.ref ad.self), some (.str x), some (.int s)]) P.m23_8.ok rfl ?_)
  ktr_rel
  repeat tb_rel
  refine c_declare (F := []) (l := []) P hB hl ?_
  repeat tb_rel
  refine c_make0 (t := ⟨"app", [], s, .i B.ns.length⟩) P strOk_ops.2.2.2.2.2.2.2.1 ⟨hB.nil, hB.nd, by simp [hB.l1], by simp [hB.l2], by simp; (first | lia | omega)⟩ hbl fun r B' m => ?_
  exact h r B' m
inductive IApp (W : Wd) (ad : BAd) (B : Bk) (f : Nat) (l : List Int) (ss : List Int) (vs : List V) (ρ : Ro) (τ : St) : Prop
  | mk (k : Nat) (u4 u5 : Option V) (h1 : vs = (((l.map V.int).zip (ss.map V.int)).map fun q => V.tup [q.1, q.2]).drop k) (h2 : k ≤ l.length) (h3 : ρ = [some (.ref ad.self), some (.int f), some (itup l), some (itup ss), u4, u5, none, none, none, none]) (h4 : τ = bank W ad B) : IApp W ad B f l ss vs ρ τ
theorem c_app (P : Prog W) {ad : BAd} {B : Bk} {f : Nat} {l ss : List Int} {s : Int} (hB : B.Ok) (hbl : B.ts.length ≤ 50000) (hf : B.fas[f]? = some ss) (hn : (B.ns[f]?).isSome = true) (hr : B.frs[f]? = some s) (hlen : l.length = ss.length) (hl10 : l.length ≤ 1000)
    (ht : ∀ (j : Nat) (x s' : Int), l[j]? = some x → ss[j]? = some s' → ∃ t, At B x t ∧ t.sort = s') (h : ∀ r B', Mk B ⟨"app", l, s, .i f⟩ r B' → Q (.int r) (F ++ bank W ad B')) :
    acall W (n + 3) (.ref (mf W "NumberBank" "app")) [.ref ad.self, .int f, itup l] (F ++ bank W ad B) Q := by
  have hf1 : f < B.fas.length := (List.getElem?_eq_some_iff.mp hf).1
  have hfl : f < 50000 := by have := hB.l1; have := hB.l3; (first | lia | omega)
  obtain ⟨nm, hnm⟩ := Option.isSome_iff_exists.mp hn
  refine acall_frame (acall_def (ρ0 := [some (.ref ad.self), some (.int f), some (itup l), none, none, none, none, none, none, none]) P.m24_9.ok rfl ?_)
  ktr_rel
  repeat tb_rel
  refine s_list (vs := B.fas.map itup) (by tb_start) (by (first | lia | omega)) (by (first | lia | omega)) (v := itup ss) (by rw [List.getElem?_map, Int.toNat_natCast, hf]; rfl) ?_ (by intro _ _; with_unfolding_all rfl)
  repeat tb_rel
  refine o_len_tup (by simp; (first | lia | omega)) ?_
  repeat tb_rel
  refine o_len_tup (by simp; (first | lia | omega)) ?_
  repeat tb_rel
  have e0 : decide (((l.map V.int).length : Int) ≠ ((ss.map V.int).length : Int)) = false := by simp [hlen]
  rw [e0]
  try tb_rel
  refine ss_nil ?_
  refine ss_for (ai_zip ?_) (by intro _ _; rfl)
  refine aE_builtin (v := .type "zip") rfl (P.nb _ (by decide)) PyProof.Rows.Boot.zip ⟨rfl, ?_⟩
  repeat tb_rel
  refine ⟨_, _, rfl, rfl, by simp [hlen], ?_⟩
  refine loop_inv (IApp W ad B f l ss) ?_ ?_ _ _ _ ⟨0, none, none, rfl, Nat.zero_le _, rfl, rfl⟩
  · rintro v vs ρ τ ⟨k, u4, u5, he, hk, rfl, rfl⟩
    have hlz : (((l.map V.int).zip (ss.map V.int)).map fun q => V.tup [q.1, q.2]).length = l.length := by simp [hlen]
    have hkl : k < l.length := by
      rcases Nat.lt_or_ge k l.length with q | q
      · exact q
      · rw [List.drop_eq_nil_of_le (by rw [hlz]; exact q)] at he; cases he
    rw [List.drop_eq_getElem_cons (by rw [hlz]; exact hkl)] at he
    simp only [List.cons.injEq, List.getElem_map, List.getElem_zip] at he
    obtain ⟨rfl, rfl⟩ := he
    have hks : k < ss.length := by (first | lia | omega)
    obtain ⟨t, h1, h2⟩ := ht k l[k] ss[k] (List.getElem?_eq_getElem hkl) (List.getElem?_eq_getElem hks)
    repeat tb_rel
    refine s_list (vs := B.ns.map .str) (by tb_start) (by (first | lia | omega)) (by (first | lia | omega)) (v := .str nm) (by rw [List.getElem?_map, Int.toNat_natCast, hnm]; rfl) ?_ (by intro _ _; with_unfolding_all rfl)
    repeat tb_rel
    refine c_want (F := []) P h1.pos (h1.lt hbl) h1.at_ h2 ?_
    repeat tb_rel
    refine ss_nil ?_
    exact ⟨k + 1, _, _, rfl, by (first | lia | omega), rfl, rfl⟩
  · rintro ρ τ ⟨k, u4, u5, he, hk, rfl, rfl⟩
    repeat tb_rel
    refine o_tuple_tup ?_
    repeat tb_rel
    refine s_list (vs := B.frs.map .int) (by tb_start) (by (first | lia | omega)) (by (first | lia | omega)) (v := .int s) (by rw [List.getElem?_map, Int.toNat_natCast, hr]; rfl) ?_ (by intro _ _; with_unfolding_all rfl)
    repeat tb_rel
    exact c_make0 (t := ⟨"app", l, s, .i f⟩) P strOk_ops.2.2.2.2.2.2.2.1 hB hbl fun r B' m => h r B' m
end
/- part C7 -/
/- ## rows of the pool -/
theorem ab_sum (l : List Int) (f : Int → Rat) : ab ((l.map f).sum) ≤ (l.map fun a => ab (f a)).sum := by
  induction l with
  | nil => simp [ab_zero]
  | cons a l ih =>
    simp only [List.map_cons, List.sum_cons]
    have := ab_add (f a) ((l.map f).sum)
    grind
theorem sum_le_sum {l : List Int} {f : Int → Rat} {h : Int → Nat} (hh : ∀ a ∈ l, f a ≤ (h a : Rat)) : (l.map f).sum ≤ (((l.map h).sum : Nat) : Rat) := by
  induction l with
  | nil => simp
  | cons a l ih =>
    have h1 := hh a (.head _)
    have h2 := ih fun b hb => hh b (.tail _ hb)
    simp only [List.map_cons, List.sum_cons, Rat.natCast_add]
    grind
theorem Dv.sum {l : List Int} {f : Int → Rat} {N : Nat} (h : ∀ a ∈ l, Dv (f a) N) : Dv ((l.map f).sum) N := by
  induction l with
  | nil => exact Dv.zero N
  | cons a l ih => exact (h a (.head _)).add (ih fun b hb => h b (.tail _ hb))
theorem row_bd {ts : List T} {g : Int → Inf} (hg : Good ts g) : ∀ (n : Nat) (i : Int), i.toNat ≤ n → 1 ≤ i → i.toNat < ts.length → ∀ k, ab ((g i).row k) ≤ ((g i).w : Rat) ∧ Dv ((g i).row k) (g i).N := by
  intro n
  induction n with
  | zero => intro i h1 h2; (first | lia | omega)
  | succ n ih =>
    intro i hn hi hl k
    have hu : ts[i.toNat]? = some ts[i.toNat] := by simp [hl]
    have hp := hg.pos i
    have h0 : (0 : Rat) ≤ ((g i).w : Rat) := by exact_mod_cast Nat.zero_le _
    cases hg.at_ i _ hi hu with
    | num d ho hd hr hw hn' hs =>
      rw [hr]; split
      · exact ⟨hw, hn'⟩
      · exact ⟨by rw [ab_zero]; exact h0, Dv.zero _⟩
    | plus ho ha hr hw =>
      rw [hr]
      have hb : ∀ a ∈ ts[i.toNat].args, ab ((g a).row k) ≤ ((g a).w : Rat) ∧ Dv ((g a).row k) (g a).N := fun a h => by
        obtain ⟨a1, a2, _⟩ := ha a h
        exact ih a (by (first | lia | omega)) a1 (by (first | lia | omega)) k
      refine ⟨Rat.le_trans (ab_sum _ _) (Rat.le_trans (sum_le_sum fun a h => (hb a h).1) (by exact_mod_cast hw)), Dv.sum fun a h => (hb a h).2.dvd (ha a h).2.2⟩
    | mul c x u d m D ho ha hc hu' hd hx hr hm hw hD hN =>
      have hb := ih x (by (first | lia | omega)) hx.1 (by (first | lia | omega)) k
      rw [hr, ab_mul]
      refine ⟨?_, (hD.mul hb.2).dvd hN⟩
      have h1 : ab d * ab ((g x).row k) ≤ (m : Rat) * ((g x).w : Rat) := Rat.le_trans (Rat.mul_le_mul_of_nonneg_right hm (ab_nonneg _)) (Rat.mul_le_mul_of_nonneg_left hb.1 (by exact_mod_cast Nat.zero_le _))
      refine Rat.le_trans h1 ?_
      have : ((m * (g x).w : Nat) : Rat) ≤ ((g i).w : Rat) := by exact_mod_cast hw
      rwa [Rat.natCast_mul] at this
    | leaf ho hr h1 =>
      rw [hr, h1.1, h1.2]; split
      · exact ⟨by rw [ab_one]; exact Rat.le_refl, ⟨1, by simp⟩⟩
      · exact ⟨by rw [ab_zero]; exact_mod_cast Nat.zero_le _, Dv.zero _⟩
/- a factor of the law's -/
structure Fc (s : Int) (v : Rat) : Prop where
  a : ab v ≤ 5
  d : Dv v 12
  i : s = 1 → v.den = 1
theorem ab_num (q : Rat) : ab q ≤ (q.num.natAbs : Rat) := by
  have h := den_num q
  have hd : (1 : Rat) ≤ (q.den : Rat) := by exact_mod_cast q.den_pos
  have h1 : ab q * (q.den : Rat) = ab (q.num : Rat) := by
    rw [← h, ab_mul]
    congr 1
    unfold ab; rw [if_neg (by grind)]
  have h2 : ab ((q.num : Int) : Rat) = (q.num.natAbs : Rat) := by
    unfold ab
    split
    · rename_i hlt
      have : q.num < 0 := by exact_mod_cast hlt
      have e : ((q.num.natAbs : Int) : Rat) = ((-q.num : Int) : Rat) := by congr 1; (first | lia | omega)
      rw [← Rat.intCast_natCast, e, Rat.intCast_neg]
    · rename_i hlt
      have : ¬ q.num < 0 := fun x => hlt (by exact_mod_cast x)
      have e : ((q.num.natAbs : Int) : Rat) = ((q.num : Int) : Rat) := by congr 1; (first | lia | omega)
      rw [← Rat.intCast_natCast, e]
  have h3 := ab_nonneg q
  have h4 : ab q * 1 ≤ ab q * (q.den : Rat) := Rat.mul_le_mul_of_nonneg_left hd h3
  rw [Rat.mul_one, h1, h2] at h4
  exact h4
theorem Fac.fc {s : Int} {f : Rat} (h : Fac s f) : Fc s f where
  a := Rat.le_trans (ab_num f) (by exact_mod_cast h.top)
  d := (Dv.self f).dvd (by
    have h1 := h.bot
    have h2 := f.den_pos
    have : f.den = 1 ∨ f.den = 2 ∨ f.den = 3 ∨ f.den = 4 := by (first | lia | omega)
    rcases this with e | e | e | e <;> rw [e] <;> decide)
  i := h.int
theorem Fc.neg (s : Int) : Fc s (-1) where
  a := by rw [ab_neg, ab_one]; decide
  d := by simpa using Dv.int (-1) 12
  i := fun _ => rfl
theorem Fc.one (s : Int) : Fc s 1 where
  a := by rw [ab_one]; decide
  d := by simpa using Dv.int 1 12
  i := fun _ => rfl
theorem Fc.sm {s : Int} {v : Rat} (h : Fc s v) : Sm v := sm_of (w := 5) (N := 12) (by exact_mod_cast h.a) h.d (by decide) (by unfold big; exact Nat.lt_of_lt_of_le (show 5 * 12 < 2 ^ 6 by decide) (Nat.pow_le_pow_right (by decide) (by decide))) (by unfold big; exact Nat.lt_of_lt_of_le (show 12 < 2 ^ 6 by decide) (Nat.pow_le_pow_right (by decide) (by decide)))
section
variable {B B' : Bk} {g g' : Int → Inf} {PW GN : Nat} {r s : Int}
theorem Go.refl (h : Bd B g PW GN) : Go B B g g PW GN := ⟨fun _ _ _ => rfl, h⟩
theorem Go.le {PW' GN' : Nat} (h : Go B B' g g' PW GN) (h1 : PW ≤ PW') (h2 : GN ∣ GN') : Go B B' g g' PW' GN' := ⟨h.old, h.bd.le h1 h2⟩
theorem num_facts (h : Bd B g PW GN) (hbig : PW * GN < big) (hbig2 : GN < big) (hG0 : 0 < GN) {x : Int} {t : T} (hx : At B x t) (h1 : 1 ≤ x) (ho : t.op = "num") : ∃ d, t.data = .q d ∧ Sm d ∧ (t.sort = 1 → d.den = 1) := by
  cases h.good.at_ x t h1 hx.at_ with
  | num d ho' hd hr hw hn hs =>
    have := h.dat x t d hx.pos hx.at_ hd
    exact ⟨d, hd, sm_of this.1 this.2 hG0 hbig hbig2, hs⟩
  | plus ho' => exact absurd (ho.symm.trans ho') opNe.1
  | mul c x' u d m D ho' => exact absurd (ho.symm.trans ho') opNe.2.1
  | leaf ho' => exact absurd ho ho'.1
theorem tmul_gen (h : Bd B g PW GN) {t : T} {x : Int} {v : Rat} (hxt : At B x t) (hx1 : 1 ≤ x) (hm : TMul B t x v r B') (hl : B.ts.length + 2 < 40000) (hG0 : 0 < GN) (hP0 : 1 ≤ PW) (hv : Fc t.sort v) :
    ∃ g', Go B B' g g' (5 * PW) (12 * GN) ∧ (∀ k, (g' r).row k = v * (g x).row k) ∧ 1 ≤ r ∧ r.toNat < B'.ts.length := by
  have hxl : x.toNat < B.ts.length := (List.getElem?_eq_some_iff.mp hxt.at_).1
  obtain ⟨hw, hN⟩ := h.lim x hx1 hxl
  have hPP : PW ≤ 5 * PW := by (first | lia | omega)
  have hGG : GN ∣ 12 * GN := Nat.dvd_mul_left _ _
  have hv5 : ab v ≤ ((5 * PW : Nat) : Rat) := Rat.le_trans hv.a (by exact_mod_cast (show 5 ≤ 5 * PW by (first | lia | omega)))
  have hv12 : Dv v (12 * GN) := hv.d.dvd (Nat.dvd_mul_right _ _)
  rcases hm with ⟨ho, d, hd, m⟩ | ⟨_, hv1, rfl, rfl⟩ | ⟨_, hv1, c, B1, hb1, m1, m2⟩
  · cases h.good.at_ x t hx1 hxt.at_ with
    | num d' ho' hd' hr hw' hn' hs' =>
      have e : d = d' := by rw [hd] at hd'; injection hd'
      subst e
      have hdd := h.dat x t d hxt.pos hxt.at_ hd
      obtain ⟨g', go, row⟩ := num_sem h m (by (first | lia | omega)) hPP hGG (by (first | lia | omega)) (by (first | lia | omega)) (q := v * d) (by
        rw [ab_mul, Rat.natCast_mul]
        exact Rat.le_trans (Rat.mul_le_mul_of_nonneg_right hv.a (ab_nonneg _)) (Rat.mul_le_mul_of_nonneg_left hdd.1 (by decide))) (hv.d.mul hdd.2) (fun e => whole_mul (hv.i e) (hs' e))
      refine ⟨g', go, fun k => ?_, m.lt.1, m.lt.2⟩
      rw [row, hr]; split
      · rfl
      · exact (Rat.mul_zero v).symm
    | plus ho' => exact absurd (ho.symm.trans ho') opNe.1
    | mul c x' u d m D ho' => exact absurd (ho.symm.trans ho') opNe.2.1
    | leaf ho' => exact absurd ho ho'.1
  · subst hv1
    exact ⟨g, (Go.refl h).le hPP hGG, fun k => (Rat.one_mul _).symm, hx1, hxl⟩
  · obtain ⟨g1, go1, r1⟩ := num_sem h m1 (by (first | lia | omega)) hPP hGG (by (first | lia | omega)) (by (first | lia | omega)) hv5 hv12 hv.i
    have hl1 := hb1.len
    have hkk : g1 x = g x := go1.old x hx1 hxl
    obtain ⟨g2, go2, r2⟩ := mul_sem go1.bd m2 (by (first | lia | omega)) m1.at' rfl rfl ⟨hx1, by (first | lia | omega)⟩ (Nat.le_refl _) (Nat.dvd_refl _) (by (first | lia | omega)) (m := 5) (D := 12) (by decide) (by exact_mod_cast hv.a) (by rw [hkk]; exact Nat.mul_le_mul_left 5 hw) hv.d (by rw [hkk]; exact Nat.mul_dvd_mul_left 12 hN)
    exact ⟨g2, go1.trans hb1 go2, fun k => by rw [r2, hkk], m2.lt.1, m2.lt.2⟩
/- what the law holds of an item of its pool -/
structure PI (B : Bk) (g : Int → Inf) (L : List Int) (s t : Int) (p : Row) : Prop where
  ok : RowOk p
  pos : 1 ≤ t
  at_ : ∃ u, At B t u ∧ u.sort = s
  row : ∀ k, (g t).row k = lk p k
  sup : ∀ k, lk p k ≠ 0 → k ∈ 0 :: L
  int : s = 1 → ∀ k, (lk p k).den = 1
variable {L : List Int} {t : Int} {p : Row}
theorem PI.lt (h : PI B g L s t p) : t.toNat < B.ts.length := by
  obtain ⟨u, hu, _⟩ := h.at_
  exact (List.getElem?_eq_some_iff.mp hu.at_).1
theorem PI.ble {n PW' GN' : Nat} (h : PI B g L s t p) (hb : BLe B B' n) (hg : Go B B' g g' PW' GN') : PI B' g' L s t p where
  ok := h.ok
  pos := h.pos
  at_ := let ⟨u, h1, h2⟩ := h.at_; ⟨u, h1.ble hb, h2⟩
  row := fun k => by rw [hg.old t h.pos h.lt]; exact h.row k
  sup := h.sup
  int := h.int
theorem PI.len (h : PI B g L s t p) : p.length ≤ L.length + 1 := by
  have := h.ok.len (S := 0 :: L) h.sup
  simpa using this
theorem PI.bd (h : PI B g L s t p) (hB : Bd B g PW GN) (k : Int) : ab (lk p k) ≤ (PW : Rat) ∧ Dv (lk p k) GN := by
  have h1 := row_bd hB.good _ t (Nat.le_refl _) h.pos h.lt k
  rw [h.row] at h1
  obtain ⟨a, b⟩ := hB.lim t h.pos h.lt
  exact ⟨Rat.le_trans h1.1 (by exact_mod_cast a), h1.2.dvd b⟩
theorem PI.sm (h : PI B g L s t p) (hB : Bd B g PW GN) (hG0 : 0 < GN) (hbig : PW * GN < big) (hbig2 : GN < big) (k : Int) : Sm (lk p k) := sm_of (h.bd hB k).1 (h.bd hB k).2 hG0 hbig hbig2
theorem whole_add {a b : Rat} (ha : a.den = 1) (hb : b.den = 1) : (a + b).den = 1 := (add_one ha hb).2
/- what the law holds of a row -/
structure RI (L : List Int) (s : Int) (p : Row) : Prop where
  ok : RowOk p
  sup : ∀ k, lk p k ≠ 0 → k ∈ 0 :: L
  int : s = 1 → ∀ k, (lk p k).den = 1
theorem PI.ri (h : PI B g L s t p) : RI L s p := ⟨h.ok, h.sup, h.int⟩
theorem RI.pi (h : RI L s p) (hr : 1 ≤ t) (hat : ∃ u, At B t u ∧ u.sort = s) (hrow : ∀ k, (g t).row k = lk p k) : PI B g L s t p := ⟨h.ok, hr, hat, hrow, h.sup, h.int⟩
theorem RI.nil : RI L s [] := ⟨.nil, fun k hk => absurd rfl hk, fun _ k => rfl⟩
theorem RI.len (h : RI L s p) : p.length ≤ L.length + 1 := by
  have := h.ok.len (S := 0 :: L) h.sup
  simpa using this
theorem RI.sum {p q rr : Row} {f : Rat} (h1 : RI L s p) (h2 : RI L s q) (hf : s = 1 → f.den = 1) (hok : RowOk rr) (hl : ∀ k, lk rr k = lk p k + f * lk q k) : RI L s rr where
  ok := hok
  sup := fun k hk => by
    by_cases e1 : lk p k = 0
    · by_cases e2 : lk q k = 0
      · rw [hl, e1, e2] at hk; exact absurd (by grind) hk
      · exact h2.sup k e2
    · exact h1.sup k e1
  int := fun e k => by rw [hl]; exact whole_add (h1.int e k) (whole_mul (hf e) (h2.int e k))
end
/- part B16 -/
noncomputable abbrev tp (cells : List Int) (k : Nat) : MO := .sdict [("cells", .flist (cells.map .int)), ("spot", .int k)]
section
variable {W : Wd} {n : Nat} {σ : St} {G : St} {Q : V → St → Prop} {ta : Addr} {cells : List Int} {k : Nat}
theorem k_next (P : Prog W) {m : Int} (hm : 1 ≤ m) (hk : k ≤ 100000) (hcl : cells.length ≤ 1000) (h : ∀ r, 0 ≤ r → r < m → Q (.int r) ((ta, tp cells (k + 1)) :: G)) : acall W (n + 1) (gv W "_law_next") [.ref ta, .int m] ((ta, tp cells k) :: G) Q :=
  acall_mid (F := []) (G := G) (σ := tapeS ta cells k) (c_next P hm hk hcl h)
theorem k_pick (P : Prog W) {pa : Addr} {vs : List V} (hvl : 1 ≤ vs.length) (hvh : vs.length ≤ 1000) (hk : k ≤ 100000) (hcl : cells.length ≤ 1000) (h : ∀ v ∈ vs, Q v ((ta, tp cells (k + 1)) :: (pa, .list vs) :: G)) :
    acall W (n + 2) (gv W "_law_pick") [.ref ta, .ref pa] ((ta, tp cells k) :: (pa, .list vs) :: G) Q :=
  acall_mid (F := []) (G := G) (σ := tapeS ta cells k ++ [(pa, .list vs)]) (c_pickM P hvl hvh hk hcl fun i hi => h _ (List.getElem_mem hi))
theorem k_pickF (P : Prog W) {b : Bool} {vs : List V} (hvl : 1 ≤ vs.length) (hvh : vs.length ≤ 1000) (hk : k ≤ 100000) (hcl : cells.length ≤ 1000) (h : ∀ v ∈ vs, Q v ((ta, tp cells (k + 1)) :: G)) :
    acall W (n + 2) (gv W "_law_pick") [.ref ta, sq b vs] ((ta, tp cells k) :: G) Q :=
  acall_mid (F := []) (G := G) (σ := tapeS ta cells k) (c_pickF P hvl hvh hk hcl fun i hi => h _ (List.getElem_mem hi))
theorem k_factor (P : Prog W) {s : Int} (hk : k ≤ 90000) (hcl : cells.length ≤ 1000) (h : ∀ f j, j ≤ 2 → Fac s f → Q (rv f) ((ta, tp cells (k + j)) :: G)) : acall W (n + 3) (gv W "_law_factor") [.ref ta, .int s] ((ta, tp cells k) :: G) Q :=
  acall_mid (F := []) (G := G) (σ := tapeS ta cells k) (c_factor P hk hcl h)
noncomputable abbrev pit (q : Int × Row) : V := .tup [.int q.1, fd (rl q.2)]
noncomputable abbrev pv (pl : List (Int × Row)) : List V := pl.map pit
variable {ad : BAd} {B : Bk} {g : Int → Inf} {PW GN : Nat} {s : Int} {L : List Int} {pl : List (Int × Row)} {pa : Addr}
inductive ILap (W : Wd) (ta : Addr) (cells : List Int) (k : Nat) (pa : Addr) (pl : List (Int × Row)) (ad : BAd) (B : Bk) (g : Int → Inf) (PW : Nat) (GN : Nat) (L : List Int) (s : Int) (kind : Int) (b : Int) (other : Row) (m : Nat) (vs : List V) (ρ : Ro) (τ : St) : Prop
  | mk (i : Nat) (a1 : Int) (p1 : Row) (B1 : Bk) (g1 : Int → Inf) (u9 u10 u11 u12 : Option V) (h1 : vs = ((List.range m).map fun i : Nat => V.int i).drop i) (h2 : i ≤ m) (h3 : BLe B B1 i) (h4 : Go B B1 g g1 (2 ^ i * PW) GN) (h5 : PI B1 g1 L s a1 p1) (h6 : ρ = [some (.ref ta), some (.ref ad.self), some (.int s), some (.ref pa), some (.int kind), some (.int a1), some (fd (rl p1)), some (.int b), some (fd (rl other)), u9, u10, u11, u12, none, none, none, none, none]) (h7 : τ = (ta, tp cells (k + 4)) :: (pa, .list (pv pl)) :: bank W ad B1) : ILap W ta cells k pa pl ad B g PW GN L s kind b other m vs ρ τ
set_option maxHeartbeats 4000000 in
theorem c_term (P : Prog W) (hB : Bd B g PW GN) (hG0 : 0 < GN) (hP0 : 1 ≤ PW) (hbig : 8192 * PW * (12 * GN) < big) (hbig2 : 12 * GN < big) (hs : s = 1 ∨ s = 2) (hl : B.ts.length ≤ 20000) (hL : L.length ≤ 7) (hp1 : 1 ≤ pl.length) (hp2 : pl.length ≤ 900)
    (hpi : ∀ q ∈ pl, PI B g L s q.1 q.2) (hk : k ≤ 80000) (hcl : cells.length ≤ 1000)
    (h : ∀ j t p B' g', j ≤ 8 → BLe B B' 40 → Go B B' g g' (8192 * PW) (12 * GN) → PI B' g' L s t p → Q (pit (t, p)) ((ta, tp cells (k + j)) :: (pa, .list (pv pl)) :: bank W ad B')) :
    acall W (n + 8) (gv W "_law_term") [.ref ta, .ref ad.self, .int s, .ref pa] ((ta, tp cells k) :: (pa, .list (pv pl)) :: bank W ad B) Q := by
  refine acall_def (ρ0 := [some (.ref ta), some (.ref ad.self), some (.int s), some (.ref pa), none, none, none, none, none, none, none, none, none, none, none, none, none, none]) P.f34.ok rfl ?_
  ktr_rel
  repeat tb_rel
  have q1 : 1 ≤ (pv pl).length := by simpa using hp1
  have q2 : (pv pl).length ≤ 1000 := by simp; (first | lia | omega)
  refine k_next P (by decide) (by (first | lia | omega)) hcl fun kind h0 h1 => ?_
  repeat tb_rel
  refine k_pick P q1 q2 (by (first | lia | omega)) hcl fun v1 hv1 => ?_
  obtain ⟨⟨a, one⟩, ha, rfl⟩ := List.mem_map.mp hv1
  repeat tb_rel
  refine k_pick P q1 q2 (by (first | lia | omega)) hcl fun v2 hv2 => ?_
  obtain ⟨⟨b, other⟩, hb, rfl⟩ := List.mem_map.mp hv2
  repeat tb_rel
  have hpa := hpi _ ha
  have hpb := hpi _ hb
  simp only at hpa hpb
  have hbg : PW * GN < big := Nat.lt_of_le_of_lt (Nat.mul_le_mul (by (first | lia | omega)) (by (first | lia | omega))) hbig
  have hbg2 : GN < big := by (first | lia | omega)
  have la := hpa.len
  have lb := hpb.len
  have sa := hpa.sm hB hG0 hbg hbg2
  have sb := hpb.sm hB hG0 hbg hbg2
  obtain ⟨ua, hua, hus⟩ := hpa.at_
  obtain ⟨ub, hub, hvs⟩ := hpb.at_
  have s1 : Sm 1 := (Fc.one s).sm
  have sm1 : Sm (-1) := (Fc.neg s).sm
  have hPP : ∀ c : Nat, c ≤ 8192 → c * PW ≤ 8192 * PW := fun c hc => Nat.mul_le_mul_right _ hc
  have hGG : GN ∣ 12 * GN := Nat.dvd_mul_left _ _
  by_cases k0 : kind = 0
  · try tb_rel
    repeat tb_rel
    refine c_plus (F := [(ta, tp cells (k + 3)), (pa, .list (pv pl))]) (b := true) (l := [a, b]) (s := s) P hs (List.cons_ne_nil _ _) (Nat.le_of_ble_eq_true rfl) (fa2 ⟨ua, hua, hus⟩ ⟨ub, hub, hvs⟩) hB.ok (by (first | lia | omega)) fun r B' hb1 hr => ?_
    have m := (hr.resolve_left fun e => by have e := e.1; simp at e).2
    repeat tb_rel
    refine c_rowsum (p := one) (q := other) (f := 1) P hpa.ok hpb.ok (by (first | lia | omega)) sa sb s1 fun rr hok hlk => ?_
    repeat tb_rel
    obtain ⟨g', go, row⟩ := plus_sem hB m (by (first | lia | omega)) (PW' := 2 * PW) (Nat.le_refl _) (by simp) hG0 (fa2 ⟨hpa.pos, hpa.lt⟩ ⟨hpb.pos, hpb.lt⟩)
    exact h 3 r rr B' g' (by (first | lia | omega)) (hb1.le (by (first | lia | omega))) (go.le (hPP 2 (by decide)) hGG) ((hpa.ri.sum hpb.ri (fun _ => rfl) hok hlk).pi m.pos ⟨_, m.at', rfl⟩ fun k => by
      rw [row, hlk]; simp only [List.map_cons, List.map_nil, List.sum_cons, List.sum_nil, hpa.row, hpb.row]; grind)
  try tb_rel
  refine ss_nil ?_
  repeat tb_rel
  by_cases k1 : kind = 1
  · try tb_rel
    repeat tb_rel
    refine c_minus (F := [(ta, tp cells (k + 3)), (pa, .list (pv pl))]) P hua hub (by rw [hus, hvs]) (by rw [hvs]; exact hs) (num_facts hB hbg hbg2 hG0 hub hpb.pos) hB.ok (by (first | lia | omega)) fun r B' hb1 hm => ?_
    repeat tb_rel
    refine c_rowsum (p := one) (q := other) (f := -1) P hpa.ok hpb.ok (by (first | lia | omega)) sa sb sm1 fun rr hok hlk => ?_
    repeat tb_rel
    obtain ⟨z, B1, hb2, hz, m⟩ := hm
    obtain ⟨g1, go1, row1, hz1, hz2⟩ := tmul_gen hB hub hpb.pos hz (by (first | lia | omega)) hG0 hP0 (Fc.neg _)
    have hl2 := hb2.len
    obtain ⟨g', go, row⟩ := plus_sem go1.bd m (by (first | lia | omega)) (PW' := 2 * (5 * PW)) (Nat.le_refl _) (by simp) (by (first | lia | omega)) (fa2 ⟨hpa.pos, by have := hpa.lt; (first | lia | omega)⟩ ⟨hz1, hz2⟩)
    exact h 3 r rr B' g' (by (first | lia | omega)) (hb1.le (by (first | lia | omega))) ((go1.trans hb2 go).le (by (first | lia | omega)) (Nat.dvd_refl _)) ((hpa.ri.sum hpb.ri (fun _ => rfl) hok hlk).pi m.pos ⟨_, m.at', hvs⟩ fun k => by
      rw [row, hlk]; simp only [List.map_cons, List.map_nil, List.sum_cons, List.sum_nil, row1, go1.old a hpa.pos hpa.lt, hpa.row, hpb.row]; grind)
  try tb_rel
  refine ss_nil ?_
  repeat tb_rel
  by_cases k2 : kind = 2
  · try tb_rel
    repeat tb_rel
    refine k_factor P (by (first | lia | omega)) hcl fun f j hj hf => ?_
    repeat tb_rel
    have hfc : Fc ua.sort f := by rw [hus]; exact hf.fc
    refine c_times (F := [(ta, tp cells (k + 3 + j)), (pa, .list (pv pl))]) P hua (by rw [hus]; exact hs) hfc.i (num_facts hB hbg hbg2 hG0 hua hpa.pos) hfc.sm hB.ok (by (first | lia | omega)) fun r B' hb1 hm => ?_
    repeat tb_rel
    refine aE_re (aE_dict0 fun D => ⟨_, _, Re.idict .head, ?_⟩)
    repeat tb_rel
    refine c_rowsum (p := []) (f := f) P .nil hpa.ok (by simp; (first | lia | omega)) (fun k => by show Sm 0; exact sm_of (w := 0) (by rw [ab_zero]; exact Rat.le_refl) (Dv.zero 1) (by decide) (by unfold big; exact Nat.two_pow_pos _) (by unfold big; exact Nat.one_lt_two_pow (by decide))) sa hfc.sm fun rr hok hlk => ?_
    repeat tb_rel
    obtain ⟨g1, go1, row1, hz1, hz2⟩ := tmul_gen hB hua hpa.pos hm (by (first | lia | omega)) hG0 hP0 hfc
    obtain ⟨t', ht', hts'⟩ := hm.sort hua
    have hh := h (3 + j) r rr B' g1 (by (first | lia | omega)) (hb1.le (by (first | lia | omega))) (go1.le (hPP 5 (by decide)) (Nat.dvd_refl _)) ((RI.nil.sum hpa.ri (by rw [← hus]; exact hfc.i) hok hlk).pi hz1 ⟨t', ht', by rw [hts', hus]⟩ fun k => by
      rw [row1, hlk, hpa.row]; show _ = 0 + _; grind)
    rw [show k + (3 + j) = k + 3 + j by (first | lia | omega)] at hh
    exact hh
  try tb_rel
  refine ss_nil ?_
  repeat tb_rel
  by_cases k3 : kind = 3
  · try tb_rel
    repeat tb_rel
    refine k_pick P q1 q2 (by (first | lia | omega)) hcl fun v3 hv3 => ?_
    obtain ⟨⟨c, third⟩, hc, rfl⟩ := List.mem_map.mp hv3
    have hpc := hpi _ hc
    simp only at hpc
    have lc := hpc.len
    have sc' := hpc.sm hB hG0 hbg hbg2
    obtain ⟨uc, huc, hws⟩ := hpc.at_
    repeat tb_rel
    refine aE_listF ?_
    repeat tb_rel
    refine c_plus (F := [(ta, tp cells (k + 4)), (pa, .list (pv pl))]) (b := false) (l := [a, b, c]) (s := s) P hs (List.cons_ne_nil _ _) (Nat.le_of_ble_eq_true rfl) (fa3 ⟨ua, hua, hus⟩ ⟨ub, hub, hvs⟩ ⟨uc, huc, hws⟩) hB.ok (by (first | lia | omega)) fun r B' hb1 hr => ?_
    have m := (hr.resolve_left fun e => by have e := e.1; simp at e).2
    repeat tb_rel
    refine c_rowsum (p := one) (q := other) (f := 1) P hpa.ok hpb.ok (by (first | lia | omega)) sa sb s1 fun r1 hok1 hlk1 => ?_
    have hri := hpa.ri.sum hpb.ri (fun _ => rfl) hok1 hlk1
    have lr := hri.len
    repeat tb_rel
    refine c_rowsum (q := third) (f := 1) P hok1 hpc.ok (by (first | lia | omega)) (fun k => ?_) sc' s1 fun rr hok hlk => ?_
    · rw [hlk1, Rat.one_mul]
      obtain ⟨a1, a2⟩ := hpa.bd hB k
      obtain ⟨b1, b2⟩ := hpb.bd hB k
      refine sm_of (w := 2 * PW) (N := GN) ?_ (a2.add b2) hG0 (Nat.lt_of_le_of_lt (Nat.mul_le_mul (by (first | lia | omega)) (by (first | lia | omega))) hbig) hbg2
      have := ab_add (lk one k) (lk other k)
      rw [Rat.natCast_mul]
      have e2 : ((2 : Nat) : Rat) = 2 := rfl
      rw [e2]; grind
    repeat tb_rel
    obtain ⟨g', go, row⟩ := plus_sem hB m (by (first | lia | omega)) (PW' := 3 * PW) (Nat.le_refl _) (by simp) hG0 (fa3 ⟨hpa.pos, hpa.lt⟩ ⟨hpb.pos, hpb.lt⟩ ⟨hpc.pos, hpc.lt⟩)
    exact h 4 r rr B' g' (by (first | lia | omega)) (hb1.le (by (first | lia | omega))) (go.le (hPP 3 (by decide)) hGG) ((hri.sum hpc.ri (fun _ => rfl) hok hlk).pi m.pos ⟨_, m.at', rfl⟩ fun k => by
      rw [row, hlk, hlk1]; simp only [List.map_cons, List.map_nil, List.sum_cons, List.sum_nil, hpa.row, hpb.row, hpc.row]; grind)
  try tb_rel
  refine ss_nil ?_
  refine ss_for (ai_range ?_) (by intro _ _; rfl)
  refine aE_builtin (v := .type "range") rfl (P.nb _ (by decide)) PyProof.Rows.Boot.range ⟨rfl, ?_⟩
  repeat tb_rel
  refine k_next P (by decide) (by (first | lia | omega)) hcl fun q hq0 hq1 => ?_
  repeat tb_rel
  refine ⟨(1 + q).toNat, by rw [Int.toNat_of_nonneg (by (first | lia | omega))], by (first | lia | omega), ?_⟩
  generalize hm : (1 + q).toNat = m
  have hm12 : m ≤ 12 := by (first | lia | omega)
  refine loop_inv (ILap W ta cells k pa pl ad B g PW GN L s kind b other m) ?_ ?_ _ _ _ ⟨0, a, one, B, g, none, none, none, none, rfl, Nat.zero_le _, .refl hB.ok, by rw [Nat.pow_zero, Nat.one_mul]; exact Go.refl hB, hpa, rfl, rfl⟩
  · rintro v vs ρ τ ⟨i, a1, p1, B1, g1, u9, u10, u11, u12, he, hi, hb1, hg1, hp1', rfl, rfl⟩
    have hlm : ((List.range m).map fun i : Nat => V.int i).length = m := by simp
    have him : i < m := by
      rcases Nat.lt_or_ge i m with z | z
      · exact z
      · rw [List.drop_eq_nil_of_le (by rw [hlm]; exact z)] at he; cases he
    rw [List.drop_eq_getElem_cons (by rw [hlm]; exact him)] at he
    simp only [List.cons.injEq] at he
    obtain ⟨rfl, rfl⟩ := he
    have hpow : 2 ^ i * PW ≤ 8192 * PW := Nat.mul_le_mul_right _ (Nat.le_trans (Nat.pow_le_pow_right (by decide) (show i ≤ 13 by (first | lia | omega))) (by decide))
    have hbg3 : 2 ^ i * PW * GN < big := Nat.lt_of_le_of_lt (Nat.mul_le_mul hpow (by (first | lia | omega))) hbig
    have l1 := hp1'.len
    have s3 := hp1'.sm hg1.bd hG0 hbg3 hbg2
    have hb1l := hb1.len
    obtain ⟨u1, hu1, hus1⟩ := hp1'.at_
    repeat tb_rel
    refine ss_swap2 (x := "a") (y := "one") (i := 5) (j := 6) rfl rfl ?_
    repeat tb_rel
    refine aE_listF ?_
    repeat tb_rel
    refine c_plus (F := [(ta, tp cells (k + 4)), (pa, .list (pv pl))]) (b := false) (l := [a1, a1]) (s := s) P hs (List.cons_ne_nil _ _) (Nat.le_of_ble_eq_true rfl) (fa2 ⟨u1, hu1, hus1⟩ ⟨u1, hu1, hus1⟩) hb1.ok (by (first | lia | omega)) fun r B' hb2 hr => ?_
    have mm := (hr.resolve_left fun e => by have e := e.1; simp at e).2
    repeat tb_rel
    refine c_rowsum (f := 1) P hp1'.ok hp1'.ok (by (first | lia | omega)) s3 s3 s1 fun rr hok hlk => ?_
    repeat tb_rel
    obtain ⟨g', go, row⟩ := plus_sem hg1.bd mm (by (first | lia | omega)) (PW' := 2 ^ (i + 1) * PW) (by rw [Nat.pow_succ, Nat.mul_comm (2 ^ i) 2, Nat.mul_assoc]; exact Nat.le_refl _) (by simp) hG0 (fa2 ⟨hp1'.pos, hp1'.lt⟩ ⟨hp1'.pos, hp1'.lt⟩)
    refine ⟨_, _, rfl, ?_⟩
    refine ss_nil ?_
    exact ⟨i + 1, r, rr, B', g', _, _, _, _, rfl, him, hb1.trans hb2, hg1.trans hb1 go, (hp1'.ri.sum hp1'.ri (fun _ => rfl) hok hlk).pi mm.pos ⟨_, mm.at', rfl⟩ fun j => by
      rw [row, hlk]; simp only [List.map_cons, List.map_nil, List.sum_cons, List.sum_nil, hp1'.row]; grind, rfl, rfl⟩
  · rintro ρ τ ⟨i, a1, p1, B1, g1, u9, u10, u11, u12, he, hi, hb1, hg1, hp1', rfl, rfl⟩
    have hpow : 2 ^ i * PW ≤ 4096 * PW := Nat.mul_le_mul_right _ (Nat.le_trans (Nat.pow_le_pow_right (by decide) (show i ≤ 12 by (first | lia | omega))) (by decide))
    have hbg3 : 2 ^ i * PW * GN < big := Nat.lt_of_le_of_lt (Nat.mul_le_mul (Nat.le_trans hpow (Nat.mul_le_mul_right _ (by decide))) (by (first | lia | omega))) hbig
    have l1 := hp1'.len
    have s3 := hp1'.sm hg1.bd hG0 hbg3 hbg2
    have hb1l := hb1.len
    obtain ⟨u1, hu1, hus1⟩ := hp1'.at_
    have hpb1 := hpb.ble hb1 hg1
    repeat tb_rel
    refine aE_listF ?_
    repeat tb_rel
    refine c_plus (F := [(ta, tp cells (k + 4)), (pa, .list (pv pl))]) (b := false) (l := [a1, b]) (s := s) P hs (List.cons_ne_nil _ _) (Nat.le_of_ble_eq_true rfl) (fa2 ⟨u1, hu1, hus1⟩ (hpb1.at_)) hb1.ok (by (first | lia | omega)) fun r B' hb2 hr => ?_
    have mm := (hr.resolve_left fun e => by have e := e.1; simp at e).2
    repeat tb_rel
    refine c_rowsum (f := 1) P hp1'.ok hpb.ok (by (first | lia | omega)) s3 sb s1 fun rr hok hlk => ?_
    repeat tb_rel
    obtain ⟨g', go, row⟩ := plus_sem hg1.bd mm (by (first | lia | omega)) (PW' := 8192 * PW) (by
      show 2 * (2 ^ i * PW) ≤ 8192 * PW
      (first | lia | omega)) (by simp) hG0 (fa2 ⟨hp1'.pos, hp1'.lt⟩ ⟨hpb1.pos, hpb1.lt⟩)
    exact h 4 r rr B' g' (by (first | lia | omega)) ((hb1.trans hb2).le (by (first | lia | omega))) ((hg1.trans hb1 go).le (Nat.le_refl _) hGG) ((hp1'.ri.sum hpb.ri (fun _ => rfl) hok hlk).pi mm.pos ⟨_, mm.at', rfl⟩ fun j => by
      rw [row, hlk]; simp only [List.map_cons, List.map_nil, List.sum_cons, List.sum_nil, hp1'.row, hpb1.row]; grind)
end
/- part B17 -/
theorem sorted_eq : ∀ (l m : List Int), l.Pairwise (· < ·) → m.Pairwise (· < ·) → (∀ x, x ∈ l ↔ x ∈ m) → l = m
  | [], m, _, _, h => by
    cases m with
    | nil => rfl
    | cons a m => exact absurd ((h a).mpr (.head _)) (by simp)
  | a :: l, m, hl, hm, h => by
    cases m with
    | nil => exact absurd ((h a).mp (.head _)) (by simp)
    | cons b m =>
      rw [List.pairwise_cons] at hl hm
      have hab : a = b := by
        have h1 : a ∈ b :: m := (h a).mp (.head _)
        have h2 : b ∈ a :: l := (h b).mpr (.head _)
        rw [List.mem_cons] at h1 h2
        rcases h1 with e | e
        · exact e
        · rcases h2 with e' | e'
          · exact e'.symm
          · have := hm.1 a e
            have := hl.1 b e'
            (first | lia | omega)
      subst hab
      congr 1
      refine sorted_eq l m hl.2 hm.2 fun x => ⟨fun hx => ?_, fun hx => ?_⟩
      · have := (h x).mp (.tail _ hx)
        rw [List.mem_cons] at this
        rcases this with e | e
        · subst e; exact absurd (hl.1 x hx) (Int.lt_irrefl _)
        · exact e
      · have := (h x).mpr (.tail _ hx)
        rw [List.mem_cons] at this
        rcases this with e | e
        · subst e; exact absurd (hm.1 x hx) (Int.lt_irrefl _)
        · exact e
theorem strict_of {l : List Int} (h : l.Pairwise (· ≤ ·)) (hn : l.Nodup) : l.Pairwise (· < ·) := (List.pairwise_and_iff.mpr ⟨h, hn⟩).imp fun ⟨h1, h2⟩ => by (first | lia | omega)
noncomputable def ent (p : Row) (k : Int) : V := if lk p k = 1 then .tup [.str "", rv 1, .int k] else .tup [.str "*", rv (lk p k), .int k]
noncomputable abbrev numE (c : Rat) : V := .tup [.str "num", rv c, .int 0]
noncomputable def dueL (p : Row) (c : Rat) (ns : List Int) : List V := ns.map (ent p) ++ (if c ≠ 0 ∨ ns = [] then [numE c] else [])
/- what the law reads off a part -/
noncomputable def Ent (B : Bk) (s a : Int) (e : V) : Prop := (∃ q, At B a (tNum q s) ∧ e = numE q) ∨ (∃ t, At B a t ∧ t.op ≠ "num" ∧ t.op ≠ "*" ∧ e = .tup [.str "", rv 1, .int a]) ∨ (∃ cc k v, At B a (tMul cc k s) ∧ At B cc (tNum v s) ∧ e = .tup [.str "*", rv v, .int k])
noncomputable def Ents (B : Bk) (s : Int) : List Int → List V → Prop
  | [], es => es = []
  | a :: l, es => ∃ e es', es = e :: es' ∧ Ent B s a e ∧ Ents B s l es'
theorem Ents.append {B : Bk} {s : Int} : ∀ {l l' : List Int} {es es' : List V}, Ents B s l es → Ents B s l' es' → Ents B s (l ++ l') (es ++ es')
  | [], _, _, _, h, h' => by simp only [Ents] at h; subst h; simpa using h'
  | a :: l, _, _, _, h, h' => by
    simp only [Ents] at h
    obtain ⟨e, es1, rfl, h1, h2⟩ := h
    simp only [List.cons_append, Ents]
    exact ⟨e, _, rfl, h1, Ents.append h2 h'⟩
theorem WrL.ents {B : Bk} {g : Int → Inf} {s : Int} {p : Row} {ks ids : List Int} (h : WrL B s p ks ids) (hk : ∀ k ∈ ks, LeafKey B g s k) : Ents B s ids (ks.map (ent p)) := by
  induction h with
  | nil => exact rfl
  | snoc _ hp ih =>
    rename_i ks ids k r _
    rw [List.map_append]
    refine (ih fun k hk' => hk k (by simp [hk'])).append ⟨_, [], rfl, ?_, rfl⟩
    cases hp with
    | one h1 e =>
      subst e
      obtain ⟨t, ht, _, ho⟩ := (hk r (by simp)).ex
      refine .inr (.inl ⟨t, ht, ho.1, ho.2.2, ?_⟩)
      unfold ent; rw [if_pos h1]
    | mul h1 cc hc hr h2 =>
      refine .inr (.inr ⟨cc, k, _, hr, hc, ?_⟩)
      unfold ent; rw [if_neg h1]
theorem Ents.len {B : Bk} {s : Int} : ∀ {l : List Int} {es : List V}, Ents B s l es → es.length = l.length
  | [], _, h => by simp only [Ents] at h; subst h; rfl
  | a :: l, _, h => by
    simp only [Ents] at h
    obtain ⟨e, es1, rfl, h1, h2⟩ := h
    simp [Ents.len h2]
theorem strE : PyData.strOk "" = true := by decide +kernel
theorem ent_ok (p : Row) (c : Rat) (ns : List Int) : eqOks (dueL p c ns) = true ∧ vdeps (dueL p c ns) ≤ 2 := by
  have h1 : ∀ k, eqOk (ent p k) = true ∧ vdep (ent p k) ≤ 2 := fun k => by
    unfold ent; split <;> simp [eqOk, eqOks, vdep, vdeps, strE, strOk_ops.2.2.1]
  have h2 : ∀ l : List Int, eqOks (l.map (ent p)) = true ∧ vdeps (l.map (ent p)) ≤ 2 := fun l => by
    induction l with
    | nil => simp [eqOks, vdeps]
    | cons a l ih =>
      simp only [List.map_cons, eqOks, vdeps, (h1 a).1, ih.1, Bool.and_self, true_and]
      have := (h1 a).2
      have := ih.2
      (first | lia | omega)
  have h3 : ∀ (l l' : List V), eqOks l = true ∧ vdeps l ≤ 2 → eqOks l' = true ∧ vdeps l' ≤ 2 → eqOks (l ++ l') = true ∧ vdeps (l ++ l') ≤ 2 := fun l l' => by
    induction l with
    | nil => intro _ h; exact h
    | cons a l ih =>
      intro h h'
      simp only [eqOks, vdeps, Bool.and_eq_true] at h
      have := ih ⟨h.1.2, by (first | lia | omega)⟩ h'
      simp only [List.cons_append, eqOks, vdeps, h.1.1, this.1, Bool.and_self, true_and]
      (first | lia | omega)
  refine h3 _ _ (h2 ns) ?_
  split
  · simp [eqOks, eqOk, vdeps, vdep, strOk_ops.1]
  · simp [eqOks, vdeps]
section
variable {W : Wd} {n : Nat} {σ : St} {F : St} {Q : V → St → Prop} {ad : BAd} {B : Bk} {g : Int → Inf} {s r : Int} {p rr : Row} {c : Rat} {ns : List Int}
inductive IWrA (W : Wd) (ad : BAd) (B : Bk) (s : Int) (r : Int) (p : Row) (rr : Row) (ms : List Int) (D : Addr) (vs : List V) (ρ : Ro) (τ : St) : Prop
  | mk (l done : List Int) (u5 : Option V) (h1 : vs = l.map .int) (h2 : ms = done ++ l) (h3 : ρ = [some (.ref ad.self), some (.int r), some (fd (rl rr)), some (.int s), some (.ref D), u5, none, none, none, none, none, none]) (h4 : τ = (D, .list ((done.filter fun k => decide (0 < k)).map (ent p))) :: bank W ad B) : IWrA W ad B s r p rr ms D vs ρ τ
inductive IWrB (W : Wd) (ad : BAd) (B : Bk) (s : Int) (r : Int) (p : Row) (rr : Row) (c : Rat) (ms' : List Int) (all : List Int) (D : Addr) (D2 : Addr) (u5 : Option V) (vs : List V) (ρ : Ro) (τ : St) : Prop
  | mk (l : List Int) (es fnd : List V) (u8 : Option V) (h1 : vs = l.map .int) (h2 : Ents B s l es) (h3 : fnd ++ es = dueL p c ms') (h4 : ρ = [some (.ref ad.self), some (.int r), some (fd (rl rr)), some (.int s), some (.ref D), u5, some (.flist (all.map .int)), some (.ref D2), u8, none, none, none]) (h5 : τ = (D2, .list fnd) :: (D, .list (dueL p c ms')) :: bank W ad B) : IWrB W ad B s r p rr c ms' all D D2 u5 vs ρ τ
set_option maxHeartbeats 4000000 in
theorem c_written (P : Prog W) (hl : B.ts.length ≤ 50000) (hp : RowOk p) (hrr : RowOk rr) (hlk : ∀ k, lk rr k = rowSum p c k) (hp0 : lk p 0 = 0) (hperm : ns.Perm (p.map (·.1))) (hsort : ns.Pairwise (· ≤ ·)) (hk : ∀ k ∈ ns, LeafKey B g s k)
    (hpl : p.length ≤ 7) (hrl : rr.length ≤ 20) (hw : Wr B s p c ns r) (hat : ∃ t, At B r t ∧ t.sort = s) (h : Q (.bool true) (F ++ bank W ad B)) :
    acall W (n + 2) (gv W "_law_is_written") [.ref ad.self, .int r, fd (rl rr), .int s] (F ++ bank W ad B) Q := by
  refine acall_frame (acall_def (ρ0 := [some (.ref ad.self), some (.int r), some (fd (rl rr)), some (.int s), none, none, none, none, none, none, none, none]) P.f35.ok rfl ?_)
  ktr_rel
  repeat tb_rel
  refine aE_list (aEs_nil ⟨by simp, fun D => ?_⟩)
  repeat tb_rel
  refine ss_for (ai_flist ?_) (by intro _ _; rfl)
  repeat tb_rel
  refine of_sorted_fdict (by rw [rl_len]; (first | lia | omega)) fun ms hmperm hmsort => ?_
  rw [rl_keys] at hmperm
  have hmnd : ms.Nodup := hmperm.nodup_iff.mpr hrr.nd
  have hnd : ns.Nodup := hperm.nodup_iff.mpr hp.nd
  have hml := hmperm.length_eq
  have hnl := hperm.length_eq
  simp only [List.length_map] at hml hnl
  have hmem : ∀ k, k ∈ ms ↔ rowSum p c k ≠ 0 := fun k => by rw [hmperm.mem_iff, hrr.key, hlk]
  have hnmem : ∀ k, k ∈ ns ↔ lk p k ≠ 0 := fun k => by rw [hperm.mem_iff, hp.key]
  have hpos : ∀ k ∈ ns, 1 ≤ k := fun k hk' => (hk k hk').pos
  have hms : ms.filter (fun k => decide (0 < k)) = ns := sorted_eq _ _ ((strict_of hmsort hmnd).sublist List.filter_sublist) (strict_of hsort hnd) fun k => by
    rw [List.mem_filter, hmem, hnmem]
    unfold rowSum
    constructor
    · rintro ⟨h1, h2⟩
      have h3 : 0 < k := by simpa using h2
      rw [if_neg (by (first | lia | omega))] at h1; exact h1
    · intro h1
      have h3 := hpos k ((hnmem k).mpr h1)
      rw [if_neg (by (first | lia | omega))]
      exact ⟨h1, by simp; (first | lia | omega)⟩
  refine ⟨_, rfl, ?_⟩
  refine loop_inv (IWrA W ad B s r p rr ms D) ?_ ?_ _ _ _ ⟨ms, [], none, rfl, rfl, rfl, rfl⟩
  · rintro v vs ρ τ ⟨l, done, u5, he, hns, rfl, rfl⟩
    cases l with
    | nil => cases he
    | cons k l =>
      simp only [List.map_cons, List.cons.injEq] at he
      obtain ⟨rfl, rfl⟩ := he
      have hkm : k ∈ ms := by rw [hns]; simp
      have hdl : done.length ≤ 20 := by
        have := congrArg List.length hns
        simp at this; (first | lia | omega)
      have hdf : (done.filter fun k => decide (0 < k)).length ≤ 20 := Nat.le_trans (List.length_filter_le ..) hdl
      repeat tb_rel
      by_cases k0 : 0 < k
      · try tb_rel
        have hlp : lk rr k = lk p k := by rw [hlk]; unfold rowSum; rw [if_neg (by (first | lia | omega))]
        have hfk := rl_lookI' (hmperm.mem_iff.mp hkm)
        rw [hlp] at hfk
        have hfil : (done ++ [k]).filter (fun k => decide (0 < k)) = (done.filter fun k => decide (0 < k)) ++ [k] := by rw [List.filter_append]; simp [k0]
        repeat tb_rel
        refine s_fdict hfk ?_ (by intro _ _; with_unfolding_all rfl)
        repeat tb_rel
        refine c_ne (rv_ok _).1 (by simp [eqOk, eqOks]) (rv_ok _).2 (by simp [vdep, vdeps]) ?_
        rw [veq_one]
        by_cases h1 : lk p k = 1
        · try tb_rel
          repeat tb_rel
          refine o_append (by tb_start) (by rw [List.length_map]; (first | lia | omega)) ?_
          repeat tb_rel
          refine ss_nil ?_
          refine ss_nil ?_
          refine ⟨l, done ++ [k], _, rfl, by rw [hns]; simp, rfl, ?_⟩
          rw [hfil, List.map_append]
          try simp only [List.map_cons, List.map_nil, ent, h1, if_true]
          rfl
        · try tb_rel
          repeat tb_rel
          refine s_fdict hfk ?_ (by intro _ _; with_unfolding_all rfl)
          repeat tb_rel
          refine o_append (by tb_start) (by rw [List.length_map]; (first | lia | omega)) ?_
          repeat tb_rel
          refine ss_nil ?_
          refine ss_nil ?_
          refine ⟨l, done ++ [k], _, rfl, by rw [hns]; simp, rfl, ?_⟩
          rw [hfil, List.map_append]
          try simp only [List.map_cons, List.map_nil, ent, h1, if_false]
      · try tb_rel
        refine ss_nil ?_
        refine ss_nil ?_
        refine ⟨l, done ++ [k], _, rfl, by rw [hns]; simp, rfl, ?_⟩
        rw [List.filter_append]
        simp [k0]
  · rintro ρ τ ⟨l, done, u5, he, hns, rfl, rfl⟩
    cases l with
    | cons _ _ => cases he
    | nil =>
      rw [List.append_nil] at hns
      subst hns
      rw [hms]
      obtain ⟨ms', rfl⟩ : ∃ z, z = ns := ⟨ns, rfl⟩
      have hr0 : lk rr 0 = c := by rw [hlk]; rfl
      obtain ⟨ids, all, hwl, hall, hone⟩ := hw.ex
      have hents : Ents B s all (dueL p c ms') := by
        unfold dueL
        rcases hall with ⟨rfl, h1, h2⟩ | ⟨z, rfl, hz, hz1, h1⟩
        · have hl0 := hwl.len
          have hne : ms' ≠ [] := fun e => by rw [e] at hl0; exact h2 (List.length_eq_zero_iff.mp hl0)
          rw [if_neg (by simp [h1, hne]), List.append_nil]
          exact hwl.ents hk
        · have hl0 := hwl.len
          have hor : c ≠ 0 ∨ ms' = [] := h1.imp id fun e => by rw [e] at hl0; exact List.length_eq_zero_iff.mp hl0.symm
          rw [if_pos hor]
          exact (hwl.ents hk).append ⟨_, [], rfl, .inl ⟨c, hz, rfl⟩, rfl⟩
      have hdlen := hents.len
      have hdle : (dueL p c ms').length ≤ 10 := by
        unfold dueL
        rw [List.length_append, List.length_map]
        have : (if c ≠ 0 ∨ ms' = [] then [numE c] else []).length ≤ 1 := by split <;> simp
        (first | lia | omega)
      have stage2 : ∀ D2, aSs W (n + 1) (scopeS (top 35)) [some (.ref ad.self), some (.int r), some (fd (rl rr)), some (.int s), some (.ref D), u5, some (.flist (all.map .int)), some (.ref D2), none, none, none, none] ((D2, .list []) :: (D, .list (dueL p c ms')) :: bank W ad B)
          ((bodyS (top 35)).drop 4) (fun fl _ σ' => Q (flv fl) (F ++ σ')) := by
        intro D2
        ktr_rel
        refine ss_for (ai_flist ?_) (by intro _ _; rfl)
        repeat tb_rel
        refine ⟨_, rfl, ?_⟩
        refine loop_inv (IWrB W ad B s r p rr c ms' all D D2 u5) ?_ ?_ _ _ _
          ⟨all, dueL p c ms', [], none, rfl, hents, rfl, rfl, rfl⟩
        · rintro v vs ρ τ ⟨l, es, fnd, u8, he, hE, hfe, rfl, rfl⟩
          cases l with
          | nil => cases he
          | cons a l =>
            simp only [List.map_cons, List.cons.injEq] at he
            obtain ⟨rfl, rfl⟩ := he
            simp only [Ents] at hE
            obtain ⟨e, es, rfl, hE1, hE2⟩ := hE
            have hfl : fnd.length ≤ 10 := by
              have := congrArg List.length hfe
              simp at this; (first | lia | omega)
            have hfe2 : (fnd ++ [e]) ++ es = dueL p c ms' := by rw [← hfe]; simp
            repeat tb_rel
            rcases hE1 with ⟨q, hq, rfl⟩ | ⟨t, ht, ho1, ho2, rfl⟩ | ⟨cc, k, v, hm1, hm2, rfl⟩
            · refine c_op (F := [(D2, .list fnd), (D, .list (dueL p c ms'))]) P hq.pos (hq.lt hl) hq.at_ ?_
              repeat tb_rel
              try tb_rel
              repeat tb_rel
              refine c_data (F := [(D2, .list fnd), (D, .list (dueL p c ms'))]) P hq.pos (hq.lt hl) hq.at_ ?_
              repeat tb_rel
              refine o_append (by tb_start) (by (first | lia | omega)) ?_
              repeat tb_rel
              refine ss_nil ?_
              refine ss_nil ?_
              exact ⟨l, es, fnd ++ [numE q], _, rfl, hE2, hfe2, rfl, rfl⟩
            · refine c_op (F := [(D2, .list fnd), (D, .list (dueL p c ms'))]) P ht.pos (ht.lt hl) ht.at_ ?_
              repeat tb_rel
              try tb_rel
              repeat tb_rel
              refine c_op (F := [(D2, .list fnd), (D, .list (dueL p c ms'))]) P ht.pos (ht.lt hl) ht.at_ ?_
              repeat tb_rel
              try tb_rel
              repeat tb_rel
              refine o_append (by tb_start) (by (first | lia | omega)) ?_
              repeat tb_rel
              refine ss_nil ?_
              refine ss_nil ?_
              refine ss_nil ?_
              exact ⟨l, es, fnd ++ [.tup [.str "", rv 1, .int a]], _, rfl, hE2, hfe2, rfl, rfl⟩
            · refine c_op (F := [(D2, .list fnd), (D, .list (dueL p c ms'))]) P hm1.pos (hm1.lt hl) hm1.at_ ?_
              repeat tb_rel
              try tb_rel
              repeat tb_rel
              refine c_op (F := [(D2, .list fnd), (D, .list (dueL p c ms'))]) P hm1.pos (hm1.lt hl) hm1.at_ ?_
              repeat tb_rel
              try tb_rel
              repeat tb_rel
              refine c_args (F := [(D2, .list fnd), (D, .list (dueL p c ms'))]) P hm1.pos (hm1.lt hl) hm1.at_ ?_
              repeat tb_rel
              refine o_len_tup (by simp) ?_
              repeat tb_rel
              try tb_rel
              repeat tb_rel
              try tb_rel
              repeat tb_rel
              refine c_args (F := [(D2, .list fnd), (D, .list (dueL p c ms'))]) P hm1.pos (hm1.lt hl) hm1.at_ ?_
              repeat tb_rel
              refine c_data (F := [(D2, .list fnd), (D, .list (dueL p c ms'))]) P hm2.pos (hm2.lt hl) hm2.at_ ?_
              repeat tb_rel
              refine c_args (F := [(D2, .list fnd), (D, .list (dueL p c ms'))]) P hm1.pos (hm1.lt hl) hm1.at_ ?_
              repeat tb_rel
              refine o_append (by tb_start) (by (first | lia | omega)) ?_
              repeat tb_rel
              refine ss_nil ?_
              refine ss_nil ?_
              refine ss_nil ?_
              exact ⟨l, es, fnd ++ [.tup [.str "*", rv v, .int k]], _, rfl, hE2, hfe2, rfl, rfl⟩
        · rintro ρ τ ⟨l, es, fnd, u8, he, hE, hfe, rfl, rfl⟩
          cases l with
          | cons _ _ => cases he
          | nil =>
            simp only [Ents] at hE
            subst hE
            rw [List.append_nil] at hfe
            subst hfe
            refine ss_re (FRe.list .head (i := 7) rfl) ?_
            refine ss_re (FRe.list .head (i := 4) rfl) ?_
            repeat tb_rel
            have hok : eqOk (.flist (dueL p c ms')) = true := (ent_ok p c ms').1
            have hdp : vdep (.flist (dueL p c ms')) ≤ 64 := by have := (ent_ok p c ms').2; simp only [vdep]; (first | lia | omega)
            refine c_eq hok hok hdp hdp ?_
            rw [(veq_iff _ _ hok hok).mpr rfl]
            repeat tb_rel
            try tb_rel
            repeat tb_rel
            obtain ⟨t, ht, hts⟩ := hat
            refine c_sort (F := []) P ht.pos (ht.lt hl) ht.at_ ?_
            repeat tb_rel
            exact (q_t hts h : Q (.bool (decide (t.sort = s))) (F ++ bank W ad B))
      have rest : aSs W (n + 1) (scopeS (top 35)) [some (.ref ad.self), some (.int r), some (fd (rl rr)), some (.int s), some (.ref D), u5, none, none, none, none, none, none] ((D, .list (dueL p c ms')) :: bank W ad B)
          ((bodyS (top 35)).drop 3) (fun fl _ σ' => Q (flv fl) (F ++ σ')) := by
        ktr_rel
        refine ss_swap2 (x := "some") (y := "found") (i := 6) (j := 7) rfl rfl ?_
        repeat tb_rel
        refine o_len_list (by tb_start) (by (first | lia | omega)) ?_
        repeat tb_rel
        by_cases h2 : 2 ≤ all.length
        · obtain ⟨hat2, hr1⟩ : At B r (tPlus all s) ∧ 1 ≤ r := by
            rcases hone with e | ⟨_, e⟩
            · rw [e] at h2; simp at h2
            · exact e
          have hlt : (1 : Int) < ((dueL p c ms').length : Int) := by (first | lia | omega)
          try tb_rel
          repeat tb_rel
          refine c_op (F := [(D, .list (dueL p c ms'))]) P hat2.pos (hat2.lt hl) hat2.at_ ?_
          repeat tb_rel
          try tb_rel
          repeat tb_rel
          try tb_rel
          repeat tb_rel
          refine c_args (F := [(D, .list (dueL p c ms'))]) P hat2.pos (hat2.lt hl) hat2.at_ ?_
          repeat tb_rel
          refine of_list_tup (by rw [List.length_map]; show all.length ≤ 100000; (first | lia | omega)) ?_
          repeat tb_rel
          refine aE_list (aEs_nil ⟨by simp, fun D2 => ?_⟩)
          repeat tb_rel
          refine ⟨_, _, rfl, ?_⟩
          exact stage2 D2
        · have hone' : all = [r] := hone.resolve_right fun e => h2 e.1
          have hlt : ¬ (1 : Int) < ((dueL p c ms').length : Int) := by (first | lia | omega)
          try tb_rel
          repeat tb_rel
          refine aE_listF ?_
          repeat tb_rel
          refine aE_list (aEs_nil ⟨by simp, fun D2 => ?_⟩)
          repeat tb_rel
          refine ⟨_, _, rfl, ?_⟩
          have := stage2 D2
          rw [hone'] at this
          exact this
      repeat tb_rel
      refine in_fdict ?_
      rw [rl_isSome]
      have hkey0 : (rr.any fun kv => decide (kv.1 = 0)) = true ↔ c ≠ 0 := by rw [any_iff, hrr.key, hr0]
      by_cases hc0 : c = 0
      · have hany : (rr.any fun kv => decide (kv.1 = 0)) = false := by
          cases q : rr.any fun kv => decide (kv.1 = 0) with
          | false => rfl
          | true => exact absurd hc0 (hkey0.mp q)
        rw [hany]
        try tb_rel
        repeat tb_rel
        refine aE_re (aE_dict0 fun D3 => ⟨_, _, Re.idict .head, ?_⟩)
        repeat tb_rel
        refine c_eqd (a := rl rr) (b := rl []) (vals_rl _) (vals_rl _) ?_
        by_cases hne : ms' = []
        · have hd : deq (rl rr) (rl []) = true := (deq_rl hrr .nil).mpr fun k => by
            rw [hlk]; unfold rowSum
            split
            · exact hc0
            · have := mt (hnmem k).mpr (by rw [hne]; simp)
              simpa [lk] using this
          rw [hd]
          try tb_rel
          repeat tb_rel
          refine get_fdict ?_
          rw [show (V.tup [V.int 0, V.int 1]) = rv 0 from rfl, rl_look, hr0]
          repeat tb_rel
          refine o_append (by tb_start) (by rw [List.length_map]; (first | lia | omega)) ?_
          repeat tb_rel
          refine ss_nil ?_
          have e : dueL p c ms' = ms'.map (ent p) ++ [numE c] := by unfold dueL; rw [if_pos (.inr hne)]
          rw [e] at rest
          exact rest
        · have hd : deq (rl rr) (rl []) = false := (deq_rl' hrr .nil).mpr fun hall' => by
            obtain ⟨k, hk'⟩ := List.exists_mem_of_ne_nil _ hne
            have h1 := (hnmem k).mp hk'
            have h3 := hall' k
            have h4 := hpos k hk'
            rw [hlk] at h3; unfold rowSum at h3; rw [if_neg (by (first | lia | omega))] at h3
            exact h1 h3
          rw [hd]
          try tb_rel
          repeat tb_rel
          try tb_rel
          refine ss_nil ?_
          have e : dueL p c ms' = ms'.map (ent p) := by unfold dueL; rw [if_neg (by simp [hc0, hne]), List.append_nil]
          rw [e] at rest
          exact rest
      · have hany : (rr.any fun kv => decide (kv.1 = 0)) = true := hkey0.mpr hc0
        rw [hany]
        try tb_rel
        repeat tb_rel
        refine get_fdict ?_
        rw [show (V.tup [V.int 0, V.int 1]) = rv 0 from rfl, rl_look, hr0]
        repeat tb_rel
        refine o_append (by tb_start) (by rw [List.length_map]; (first | lia | omega)) ?_
        repeat tb_rel
        refine ss_nil ?_
        have e : dueL p c ms' = ms'.map (ent p) ++ [numE c] := by unfold dueL; rw [if_pos (.inl hc0)]
        rw [e] at rest
        exact rest
end
/- part B18 -/
/- the positive keys of a told row are those of its form -/
theorem keys_filter {p rr : Row} {c : Rat} {ms ns : List Int} (hp : RowOk p) (hrr : RowOk rr) (hlk : ∀ k, lk rr k = rowSum p c k) (hpos : ∀ k, lk p k ≠ 0 → 1 ≤ k) (hmperm : ms.Perm (rr.map (·.1))) (hmsort : ms.Pairwise (· ≤ ·)) (hperm : ns.Perm (p.map (·.1))) (hsort : ns.Pairwise (· ≤ ·)) :
    ms.filter (fun k => decide (0 < k)) = ns := by
  have hmnd : ms.Nodup := hmperm.nodup_iff.mpr hrr.nd
  have hnd : ns.Nodup := hperm.nodup_iff.mpr hp.nd
  refine sorted_eq _ _ ((strict_of hmsort hmnd).sublist List.filter_sublist) (strict_of hsort hnd) fun k => ?_
  rw [List.mem_filter, hmperm.mem_iff, hrr.key, hperm.mem_iff, hp.key, hlk]
  unfold rowSum
  constructor
  · rintro ⟨h1, h2⟩
    have h3 : 0 < k := by simpa using h2
    rw [if_neg (by (first | lia | omega))] at h1; exact h1
  · intro h1
    have h3 := hpos k h1
    rw [if_neg (by (first | lia | omega))]
    exact ⟨h1, by simp; (first | lia | omega)⟩
theorem perm_sum {f : Int → Rat} {l m : List Int} (h : l.Perm m) : (l.map f).sum = (m.map f).sum := by
  induction h with
  | nil => rfl
  | cons x _ ih => simp only [List.map_cons, List.sum_cons, ih]
  | swap x y l => simp only [List.map_cons, List.sum_cons]; grind
  | trans _ _ h1 h2 => exact h1.trans h2
theorem sum_divR (a f : Rat) {bt bb : Int} (hb : 0 < bb) : Rat.divInt (a.num * (f.den * bb) + f.num * bt * a.den) (a.den * (f.den * bb)) = a + f * Rat.divInt bt bb := by
  have h1 := a.den_pos
  have h2 := f.den_pos
  have e1 : f * Rat.divInt bt bb = Rat.divInt (f.num * bt) (f.den * bb) := by
    conv => lhs; rw [← Rat.num_divInt_den f]
    rw [Rat.divInt_mul_divInt]
  conv => rhs; rw [e1, ← Rat.num_divInt_den a]
  rw [Rat.divInt_add_divInt _ _ (by (first | lia | omega)) (Int.ne_of_gt (Int.mul_pos (by (first | lia | omega)) hb))]
section
variable {W : Wd} {n : Nat} {σ : St} {F : St} {Q : V → St → Prop}
theorem c_lsumR (P : Prog W) {a f : Rat} {bt bb : Int} (ha : Sm a) (hb0 : 0 < bb) (hbt : bt.natAbs < big) (hbb : bb.natAbs < big) (hf : Sm f) (h : Q (rv (a + f * Rat.divInt bt bb)) σ) : acall W (n + 2) (gv W "_law_sum") [rv a, .tup [.int bt, .int bb], rv f] σ Q := by
  have da : ((a.den : Int)).natAbs < big := by simpa using ha.2
  have df : ((f.den : Int)).natAbs < big := by simpa using hf.2
  refine acall_def (ρ0 := [some (rv a), some (.tup [.int bt, .int bb]), some (rv f), none, none, none]) P.f30.ok rfl ?_
  refine ss_swap2 (x := "top") (y := "bottom") (i := 3) (j := 4) rfl rfl ?_
  repeat tb_rel
  refine o_mul (mul_sm hf.1 hbt) ?_
  repeat tb_rel
  refine o_mul (mul_sm df hbb) ?_
  repeat tb_rel
  refine ⟨_, _, rfl, ?_⟩
  have h1 := prod_big hf.1 hbt
  have h2 := prod_big df hbb
  repeat tb_rel
  refine o_mul (mul_sm2 (k := 5800) (j := 2900) ha.1 h2 (by decide) (by decide)) ?_
  repeat tb_rel
  refine o_mul (mul_sm2 (j := 5800) (k := 2900) h1 da (by decide) (by decide)) ?_
  repeat tb_rel
  refine o_mul (mul_sm2 (k := 5800) (j := 2900) da h2 (by decide) (by decide)) ?_
  repeat tb_rel
  have hpos : (0 : Int) < a.den * (f.den * bb) := by
    have h3 := a.den_pos
    have h5 := f.den_pos
    exact Int.mul_pos (by (first | lia | omega)) (Int.mul_pos (by (first | lia | omega)) hb0)
  refine c_low P hpos ?_ ?_
  · rw [Int.natAbs_mul]
    have h6 : (2 : Nat) ^ 2900 * 2 ^ 5800 = 2 ^ 8700 := by rw [← Nat.pow_add]
    have h7 : (2 : Nat) ^ 8700 < 2 ^ 8999 := Nat.pow_lt_pow_right (by decide) (by decide)
    have h8 := Nat.mul_lt_mul'' (a := (a.den : Int).natAbs) (b := ((f.den : Int) * bb).natAbs) (c := 2 ^ 2900) (d := 2 ^ 5800) da h2
    (first | lia | omega)
  · rw [sum_divR a f hb0]; exact h
inductive IWorth (σ : St) (rr : Row) (kvs : List (Int × V)) (tb : Int → Int × Int) (N : Nat → Rat → Prop) (vs : List V) (ρ : Ro) (τ : St) : Prop
  | mk (l done : List Int) (u : Option V) (x : Rat) (h1 : vs = l.map .int) (h2 : rr.map (·.1) = done ++ l) (h3 : N done.length x) (h4 : x = lk rr 0 + ((done.filter fun k => decide (0 < k)).map fun k => lk rr k * Rat.divInt (tb k).1 (tb k).2).sum) (h5 : ρ = [some (fd (rl rr)), some (fd kvs), some (rv x), u, none]) (h6 : τ = σ) : IWorth σ rr kvs tb N vs ρ τ
/- the row's worth at a point -/
theorem c_worth (P : Prog W) {rr : Row} {kvs : List (Int × V)} {tb : Int → Int × Int} {N : Nat → Rat → Prop} (hrr : RowOk rr) (hrl : rr.length ≤ 1000) (hsm : ∀ k, Sm (lk rr k))
    (hv : ∀ k, lk rr k ≠ 0 → 0 < k → lookI kvs k = some (.tup [.int (tb k).1, .int (tb k).2]) ∧ 0 < (tb k).2 ∧ (tb k).1.natAbs < big ∧ (tb k).2.natAbs < big) (hc : N 0 (lk rr 0)) (hN : ∀ i x, i ≤ rr.length → N i x → Sm x)
    (hstep : ∀ i x, N i x → ∀ k, lk rr k ≠ 0 → 0 < k → N (i + 1) (x + lk rr k * Rat.divInt (tb k).1 (tb k).2)) (hmono : ∀ i x, N i x → N (i + 1) x)
    (h : Q (rv (lk rr 0 + (((rr.map (·.1)).filter fun k => decide (0 < k)).map fun k => lk rr k * Rat.divInt (tb k).1 (tb k).2).sum)) σ) :
    acall W (n + 3) (gv W "_law_worth") [fd (rl rr), fd kvs] σ Q := by
  refine acall_def (ρ0 := [some (fd (rl rr)), some (fd kvs), none, none, none]) P.f36.ok rfl ?_
  ktr_rel
  repeat tb_rel
  refine get_fdict ?_
  rw [show (V.tup [V.int 0, V.int 1]) = rv 0 from rfl, rl_look]
  repeat tb_rel
  refine ss_for (ai_fdict ?_) (by intro _ _; rfl)
  repeat tb_rel
  refine ⟨rl rr, rfl, ?_⟩
  refine loop_inv (IWorth σ rr kvs tb N) ?_ ?_ _ _ _ ⟨rr.map (·.1), [], none, lk rr 0, by simp [rl, Function.comp_def], rfl, hc, by simp [Rat.add_zero], rfl, rfl⟩
  · rintro v vs ρ τ ⟨l, done, u, x, he, hns, hx, hxe, rfl, rfl⟩
    cases l with
    | nil => cases he
    | cons k l =>
      simp only [List.map_cons, List.cons.injEq] at he
      obtain ⟨rfl, rfl⟩ := he
      have hkm : k ∈ rr.map (·.1) := by rw [hns]; simp
      have hkn : lk rr k ≠ 0 := hrr.key.mp hkm
      have hdl : done.length ≤ rr.length := by
        have := congrArg List.length hns
        simp at this; (first | lia | omega)
      repeat tb_rel
      by_cases k0 : 0 < k
      · try tb_rel
        obtain ⟨h1, h2, h3, h4⟩ := hv k hkn k0
        repeat tb_rel
        refine s_fdict h1 ?_ (by intro _ _; with_unfolding_all rfl)
        repeat tb_rel
        refine s_fdict (rl_lookI' hkm) ?_ (by intro _ _; with_unfolding_all rfl)
        repeat tb_rel
        refine c_lsumR P (hN _ _ hdl hx) h2 h3 h4 (hsm k) ?_
        repeat tb_rel
        refine ss_nil ?_
        refine ss_nil ?_
        refine ⟨l, done ++ [k], _, _, rfl, by rw [hns]; simp, by rw [List.length_append]; exact hstep _ x hx k hkn k0, ?_, rfl, rfl⟩
        rw [List.filter_append, hxe]
        try simp only [List.filter_cons, k0, decide_true, if_true, List.filter_nil, List.map_append, List.map_cons, List.map_nil, List.sum_append, List.sum_cons, List.sum_nil]
        grind
      · try tb_rel
        refine ss_nil ?_
        refine ss_nil ?_
        refine ⟨l, done ++ [k], _, x, rfl, by rw [hns]; simp, by rw [List.length_append]; exact hmono _ x hx, ?_, rfl, rfl⟩
        rw [List.filter_append, hxe]
        simp [k0]
  · rintro ρ τ ⟨l, done, u, x, he, hns, hx, hxe, rfl, rfl⟩
    cases l with
    | cons _ _ => cases he
    | nil =>
      rw [List.append_nil] at hns
      repeat tb_rel
      rw [hns, ← hxe] at h
      exact h
variable {fa : FAd} {p : Row} {c : Rat}
inductive IEval (W : Wd) (fa : FAd) (p : Row) (c : Rat) (kvs : List (Int × V)) (g : Int → Rat) (N : Nat → Rat → Prop) (ns : List Int) (vs : List V) (ρ : Ro) (τ : St) : Prop
  | mk (l done : List Int) (u : Option V) (x : Rat) (h1 : vs = l.map .int) (h2 : ns = done ++ l) (h3 : N done.length x) (h4 : x = c + (done.map fun k => lk p k * g k).sum) (h5 : ρ = [some (.ref fa.self), some (fd kvs), some (rv x), u, none, none, none]) (h6 : τ = formS W fa p c) : IEval W fa p c kvs g N ns vs ρ τ
theorem c_evalN (P : Prog W) {kvs : List (Int × V)} {g : Int → Rat} {N : Nat → Rat → Prop} (hp : RowOk p) (hl : p.length < 64) (hv : ∀ k ∈ p.map (·.1), lookI kvs k = some (rv (g k)) ∧ Sm (lk p k) ∧ Sm (g k) ∧ Sm (lk p k * g k)) (hc : N 0 c) (hN : ∀ i x, i ≤ p.length → N i x → Sm x)
    (hstep : ∀ i x, N i x → ∀ k ∈ p.map (·.1), N (i + 1) (x + lk p k * g k))
    (h : Q (rv (c + ((p.map (·.1)).map fun k => lk p k * g k).sum)) (formS W fa p c)) :
    acall W (n + 4) (.ref (mf W "LinearForm" "evaluate")) [.ref fa.self, fd kvs] (formS W fa p c) Q := by
  refine acall_def (ρ0 := [some (.ref fa.self), some (fd kvs), none, none, none, none, none]) P.m14_5.ok rfl ?_
  ktr_rel
  repeat tb_rel
  refine ss_for (ai_flist ?_) (by intro _ _; rfl)
  repeat tb_rel
  refine of_sorted_idict (kvs := rl p) (by tb_start) (by rw [rl_len]; exact hl) fun ns hperm hsort => ?_
  rw [rl_keys] at hperm
  have hnl := hperm.length_eq
  simp only [List.length_map] at hnl
  refine ⟨_, rfl, ?_⟩
  refine loop_inv (IEval W fa p c kvs g N ns) ?_ ?_ _ _ _ ⟨ns, [], none, c, rfl, rfl, hc, by simp [Rat.add_zero], rfl, rfl⟩
  · rintro v vs ρ τ ⟨l, done, u, x, he, hns, hx, hxe, rfl, rfl⟩
    cases l with
    | nil => cases he
    | cons k l =>
      simp only [List.map_cons, List.cons.injEq] at he
      obtain ⟨rfl, rfl⟩ := he
      have hkm : k ∈ p.map (·.1) := hperm.mem_iff.mp (by rw [hns]; simp)
      have hdl : done.length ≤ p.length := by
        have := congrArg List.length hns
        simp at this; (first | lia | omega)
      obtain ⟨h1, h2, h3, h4⟩ := hv k hkm
      repeat tb_rel
      refine s_idict (kvs := rl p) (by tb_start) (rl_some hp hkm) ?_ (by intro _ _; with_unfolding_all rfl)
      repeat tb_rel
      refine s_fdict h1 ?_ (by intro _ _; with_unfolding_all rfl)
      repeat tb_rel
      refine c_mul P h2 h3 ?_
      repeat tb_rel
      refine c_add P (hN _ _ hdl hx) h4 ?_
      repeat tb_rel
      refine ss_nil ?_
      refine ⟨l, done ++ [k], _, _, rfl, by rw [hns]; simp, by rw [List.length_append]; exact hstep _ x hx k hkm, ?_, rfl, rfl⟩
      rw [hxe, List.map_append, List.sum_append]
      simp only [List.map_cons, List.map_nil, List.sum_cons, List.sum_nil]
      grind
  · rintro ρ τ ⟨l, done, u, x, he, hns, hx, hxe, rfl, rfl⟩
    cases l with
    | cons _ _ => cases he
    | nil =>
      rw [List.append_nil] at hns
      subst hns
      repeat tb_rel
      rw [← perm_sum hperm, ← hxe] at h
      exact h
end
/- part B19 -/
noncomputable def forBody : Stmt → List Stmt
  | .For _ _ b _ _ => b
  | _ => []
/- ## forms of the law's own, led by steps -/
structure FI (L : List Int) (M D : Nat) (p : Row) (c : Rat) : Prop where
  ok : RowOk p
  p0 : lk p 0 = 0
  sup : ∀ k, lk p k ≠ 0 → k ∈ L
  bd : ∀ k, ab (rowSum p c k) ≤ (M : Rat) ∧ Dv (rowSum p c k) D
theorem FI.nil {L : List Int} {M D : Nat} : FI L M D [] 0 := ⟨.nil, rfl, fun k hk => absurd rfl hk, fun k => by
  have : rowSum [] 0 k = 0 := by unfold rowSum; split <;> rfl
  rw [this]; exact ⟨by rw [ab_zero]; exact_mod_cast Nat.zero_le _, Dv.zero _⟩⟩
theorem sm_zero : Sm 0 := sm_of (w := 0) (by rw [ab_zero]; exact Rat.le_refl) (Dv.zero 1) (by decide) (by unfold big; exact Nat.two_pow_pos _) (by unfold big; exact Nat.one_lt_two_pow (by decide))
section
variable {L : List Int} {M D : Nat} {p q r : Row} {c d e : Rat}
theorem FI.len (h : FI L M D p c) : p.length ≤ L.length := h.ok.len h.sup
theorem FI.sum_sm (h : FI L M D p c) (hD : 0 < D) (h1 : M * D < big) (h2 : D < big) (k : Int) : Sm (rowSum p c k) := sm_of (h.bd k).1 (h.bd k).2 hD h1 h2
theorem FI.sm (h : FI L M D p c) (hD : 0 < D) (h1 : M * D < big) (h2 : D < big) : (∀ k, Sm (lk p k)) ∧ Sm c := by
  refine ⟨fun k => ?_, ?_⟩
  · by_cases h0 : k = 0
    · rw [h0, h.p0]; exact sm_zero
    · have := h.sum_sm hD h1 h2 k
      unfold rowSum at this; rwa [if_neg h0] at this
  · have := h.sum_sm hD h1 h2 0
    unfold rowSum at this; rwa [if_pos rfl] at this
theorem FI.comb {M' D' DD : Nat} {f : Rat} {s : Int} (h : FI L M D p c) (h' : FI L M' D' q d) (hf : Fc s f) (hr : RowOk r) (hl : ∀ k, lk r k = lk p k + lk q k * f) (he : e = c + d * f) (h1 : D ∣ DD) (h2 : 12 * D' ∣ DD) : FI L (M + 5 * M') DD r e where
  ok := hr
  p0 := by rw [hl, h.p0, h'.p0]; grind
  sup := fun k hk => by
    by_cases e1 : lk p k = 0
    · by_cases e2 : lk q k = 0
      · rw [hl, e1, e2] at hk; exact absurd (by grind) hk
      · exact h'.sup k e2
    · exact h.sup k e1
  bd := fun k => by
    have hs : rowSum r e k = rowSum p c k + f * rowSum q d k := by
      unfold rowSum; split
      · rw [he]; grind
      · rw [hl]; grind
    obtain ⟨a1, a2⟩ := h.bd k
    obtain ⟨b1, b2⟩ := h'.bd k
    rw [hs]
    refine ⟨?_, (a2.dvd h1).add ((hf.d.mul b2).dvd h2)⟩
    have h3 := ab_add (rowSum p c k) (f * rowSum q d k)
    rw [ab_mul] at h3
    have h4 : ab f * ab (rowSum q d k) ≤ 5 * (M' : Rat) := Rat.le_trans (Rat.mul_le_mul_of_nonneg_right hf.a (ab_nonneg _)) (Rat.mul_le_mul_of_nonneg_left b1 (by decide))
    rw [Rat.natCast_add, Rat.natCast_mul]
    have e5 : ((5 : Nat) : Rat) = 5 := rfl
    rw [e5]
    grind
theorem FI.le {M' D' : Nat} (h : FI L M D p c) (h1 : M ≤ M') (h2 : D ∣ D') : FI L M' D' p c := ⟨h.ok, h.p0, h.sup, fun k => ⟨Rat.le_trans (h.bd k).1 (by exact_mod_cast h1), (h.bd k).2.dvd h2⟩⟩
theorem one_row (t : Int) : RowOk [(t, (1 : Rat))] := ⟨by simp, by simp⟩
theorem lk_one (t k : Int) : lk [(t, (1 : Rat))] k = if t = k then 1 else 0 := rfl
theorem FI.part {t : Int} {f : Rat} {s : Int} (h : FI L M D p c) (hM : 1 ≤ M) (hf : Fc s f) (ht : t ∈ L) (ht1 : 1 ≤ t) : FI L (36 * M) (144 * D) (addP p t f) c := by
  have h1 : FI L 1 1 [(t, (1 : Rat))] 0 := ⟨one_row t, by rw [lk_one, if_neg (by (first | lia | omega))], fun k hk => by
    rw [lk_one] at hk
    by_cases e : t = k
    · exact e ▸ ht
    · rw [if_neg e] at hk; exact absurd rfl hk, fun k => by
    unfold rowSum; rw [lk_one]
    split
    · exact ⟨by rw [ab_zero]; decide, Dv.zero _⟩
    · split
      · exact ⟨by rw [ab_one]; decide, ⟨1, by simp⟩⟩
      · exact ⟨by rw [ab_zero]; decide, Dv.zero _⟩⟩
  refine (h.comb h1 hf (h.ok.addP t f) (fun k => ?_) (by grind) (DD := 144 * D) (Nat.dvd_mul_left _ _) ⟨12 * D, by (first | lia | omega)⟩).le (by (first | lia | omega)) (Nat.dvd_refl _)
  rw [lk_addP, lk_one]
  by_cases e : k = t
  · subst e; simp
  · rw [if_neg e, if_neg (Ne.symm e)]; grind
theorem FI.con {f : Rat} {s : Int} (h : FI L M D p c) (hM : 1 ≤ M) (hf : Fc s f) : FI L (36 * M) (144 * D) p (c + f) := by
  have h1 : FI L 1 1 [] 1 := ⟨.nil, rfl, fun k hk => absurd rfl hk, fun k => by
    unfold rowSum
    split
    · exact ⟨by rw [ab_one]; decide, ⟨1, by simp⟩⟩
    · exact ⟨by show ab 0 ≤ _; rw [ab_zero]; decide, Dv.zero _⟩⟩
  refine (h.comb h1 hf h.ok (fun k => ?_) (by grind) (DD := 144 * D) (Nat.dvd_mul_left _ _) ⟨12 * D, by (first | lia | omega)⟩).le (by (first | lia | omega)) (Nat.dvd_refl _)
  show _ = _ + 0 * f; grind
theorem FI.told (h : FI L M D p c) : ∀ k, rowSum p c k ≠ 0 → k ∈ 0 :: L := fun k hk => by
  unfold rowSum at hk
  by_cases e : k = 0
  · rw [e]; exact .head _
  · rw [if_neg e] at hk; exact .tail _ (h.sup k hk)
end
section
variable {W : Wd} {n : Nat} {σ : St} {F : St} {Q : V → St → Prop} {ta : Addr} {cells : List Int} {k : Nat} {L : List Int} {s : Int}
noncomputable abbrev ro19 (ta : Addr) (s : Int) (L : List Int) (fa fb : FAd) (rr : Row) (u6 u7 u8 u9 u10 u11 u12 : Option V) : Ro :=
  [some (.ref ta), some (.int s), some (.flist (L.map .int)), some (.ref fa.self), some (fd (rl rr)), some (.ref fb.self), u6, u7, u8, u9, u10, u11, u12, none, none, none, none, none, none, none, none, none, none, none, none]
noncomputable abbrev st19 (W : Wd) (ta : Addr) (cells : List Int) (k : Nat) (fa fb : FAd) (p q : Row) (c d : Rat) : St := ((ta, tp cells k) :: formS W fb q d) ++ formS W fa p c
inductive IChk (W : Wd) (ta : Addr) (cells : List Int) (k : Nat) (fa : FAd) (fb : FAd) (p : Row) (q : Row) (rr : Row) (c : Rat) (d : Rat) (ms : List Int) (vs : List V) (acc : List V) (ρ : Ro) (τ : St) : Prop
  | mk (l done : List Int) (u : Option V) (h1 : vs = l.map .int) (h2 : ms = done ++ l) (h3 : acc = (done.filter fun k => decide (0 < k)).map (fun k => .tup [.int k, rv (lk rr k)])) (h4 : ρ = [none, u, some (fd (rl rr))]) (h5 : τ = st19 W ta cells k fa fb p q c d) : IChk W ta cells k fa fb p q rr c d ms vs acc ρ τ
/- the two checks of a lap -/
theorem led_chk (P : Prog W) {fa fb : FAd} {p q rr : Row} {c d : Rat} {u6 u7 u8 u9 u10 u11 u12 : Option V} {M D : Nat} (hL : L.length ≤ 6) (hL1 : ∀ k ∈ L, 1 ≤ k) (hp : FI L M D p c) (hok : RowOk rr) (hlk : ∀ k, lk rr k = rowSum p c k) :
    aSs W (n + 6) (scopeS (top 37)) (ro19 ta s L fa fb rr u6 u7 u8 u9 u10 u11 u12) (st19 W ta cells k fa fb p q c d) ((forBody (nthS (bodyS (top 37)) 1)).drop 2)
      (fun fl ρ2 σ2 => fl = .next ∧ ρ2 = ro19 ta s L fa fb rr u6 u7 u8 u9 u10 u11 u12 ∧ σ2 = st19 W ta cells k fa fb p q c d) := by
  have hpl := hp.len
  have hrl : rr.length ≤ L.length + 1 := by
    have := hok.len (S := 0 :: L) fun k hk => hp.told k (by rw [← hlk]; exact hk)
    simpa using this
  ktr_rel
  repeat tb_rel
  refine acall_frame (F := (ta, tp cells k) :: formS W fb q d) (c_told P hp.ok hp.p0 (by (first | lia | omega)) fun r hr hrk => ?_)
  repeat tb_rel
  refine c_ned (a := rl r) (b := rl rr) (vals_rl _) (vals_rl _) ?_
  rw [show deq (rl r) (rl rr) = true from (deq_rl hr hok).mpr fun k => by rw [hrk, hlk]]
  try tb_rel
  repeat tb_rel
  refine acall_frame (F := (ta, tp cells k) :: formS W fb q d) (c_sortedparts P hp.ok (by (first | lia | omega)) fun ns hperm hsort => ?_)
  repeat tb_rel
  refine aE_re (aE_listcomp (ρ' := [none, none, some (fd (rl rr))]) (.of (by decide +kernel)) rfl (ai_flist ?_) (by intro _ _; rfl))
  repeat tb_rel
  refine of_sorted_fdict (by rw [rl_len]; (first | lia | omega)) fun ms hmperm hmsort => ?_
  rw [rl_keys] at hmperm
  have hml := hmperm.length_eq
  simp only [List.length_map] at hml
  have hkf := keys_filter hp.ok hok hlk (fun k hk => hL1 k (hp.sup k hk)) hmperm hmsort hperm hsort
  refine ⟨_, rfl, by simp; (first | lia | omega), ?_⟩
  refine comp_inv (IChk W ta cells k fa fb p q rr c d ms) ?_ ?_ _ _ _ _ ⟨ms, [], none, rfl, rfl, rfl, rfl, rfl⟩
  · rintro v vs acc ρ τ ⟨l, done, u, he, hns, rfl, rfl, rfl⟩
    cases l with
    | nil => cases he
    | cons x l =>
      simp only [List.map_cons, List.cons.injEq] at he
      obtain ⟨rfl, rfl⟩ := he
      refine aAL_local (i := 1) rfl ?_
      show aT _ _ _ _ _ _ _
      repeat tb_rel
      by_cases k0 : 0 < x
      · try tb_rel
        repeat tb_rel
        refine s_fdict (rl_lookI' (hmperm.mem_iff.mp (by rw [hns]; simp))) ?_ (by intro _ _; with_unfolding_all rfl)
        repeat tb_rel
        refine ⟨l, done ++ [x], some (.int x), rfl, by rw [hns]; simp, ?_, rfl, rfl⟩
        rw [List.filter_append]; simp [k0]
      · try tb_rel
        refine ⟨l, done ++ [x], some (.int x), rfl, by rw [hns]; simp, ?_, rfl, rfl⟩
        rw [List.filter_append]; simp [k0]
  · rintro acc ρ τ ⟨l, done, u, he, hns, rfl, rfl, rfl⟩ D'
    cases l with
    | cons _ _ => cases he
    | nil =>
      rw [List.append_nil] at hns
      subst hns
      rw [hkf]
      have hnl := hperm.length_eq
      simp only [List.length_map] at hnl
      refine ⟨_, _, Re.list .head, ?_⟩
      repeat tb_rel
      refine o_tuple_flist (by simp; (first | lia | omega)) ?_
      repeat tb_rel
      have e : (ns.map fun k => V.tup [.int k, rv (lk rr k)]) = ns.map fun k => V.tup [.int k, rv (lk p k)] := List.map_congr_left fun k hk => by
        have h1 := hL1 k (hp.sup k (hp.ok.key.mp (hperm.mem_iff.mp hk)))
        rw [hlk]; unfold rowSum; rw [if_neg (by (first | lia | omega))]
      rw [e]
      have hpk : eqOks (ns.map fun k => V.tup [.int k, rv (lk p k)]) = true ∧ vdeps (ns.map fun k => V.tup [.int k, rv (lk p k)]) ≤ 2 := by
        clear hnl hkf hperm hsort e
        induction ns with
        | nil => simp [eqOks, vdeps]
        | cons a l ih =>
          simp only [List.map_cons, eqOks, vdeps, Bool.and_eq_true]
          refine ⟨⟨by simp [eqOk, eqOks], ih.1⟩, ?_⟩
          have h1 := ih.2
          have h2 : vdep (.tup [.int a, rv (lk p a)]) ≤ 2 := by simp [vdep, vdeps]
          (first | lia | omega)
      have hok' : eqOk (pairs p ns) = true := hpk.1
      have hdp : vdep (pairs p ns) ≤ 64 := by have := hpk.2; unfold pairs; simp only [vdep]; (first | lia | omega)
      refine c_ne hok' hok' hdp hdp ?_
      rw [show veq (pairs p ns) (.tup (ns.map fun k => V.tup [.int k, rv (lk p k)])) = true from (veq_iff _ _ hok' hok').mpr rfl]
      try tb_rel
      repeat tb_rel
      try tb_rel
      refine ss_nil ?_
      refine ss_nil ?_
      exact ⟨rfl, rfl, rfl⟩
end
/- part B20 -/
theorem lookI_map {f : Int → V} : ∀ {L : List Int} {k : Int}, k ∈ L → lookI (L.map fun k => (k, f k)) k = some (f k)
  | [], _, h => by cases h
  | a :: L, k, h => by
    unfold lookI
    simp only [List.map_cons, List.find?_cons]
    by_cases e : a = k
    · subst e; simp
    · simp only [e, decide_false]
      have := lookI_map (f := f) (L := L) (k := k) ((List.mem_cons.mp h).resolve_left (Ne.symm e))
      unfold lookI at this; exact this
noncomputable abbrev tb (b : Int) (L : List Int) (k : Int) : Int × Int := (b + 5 * (L.idxOf k : Nat), 1 + (L.idxOf k : Nat))
noncomputable abbrev pr (kv : Int × V) : V := .tup [.int kv.1, kv.2]
noncomputable abbrev ptK (b : Int) (L : List Int) : List (Int × V) := L.map fun k => (k, .tup [.int (tb b L k).1, .int (tb b L k).2])
noncomputable abbrev vlK (b : Int) (L : List Int) : List (Int × V) := L.map fun k => (k, rv (Rat.divInt (tb b L k).1 (tb b L k).2))
theorem idx_of {L : List Int} (hn : L.Nodup) {i : Nat} (hi : i < L.length) : L.idxOf L[i] = i := by
  have h1 : L.idxOf L[i] < L.length := List.idxOf_lt_length_of_mem (List.getElem_mem hi)
  have h2 : L[L.idxOf L[i]] = L[i] := List.getElem_idxOf h1
  exact (List.getElem_inj hn).mp h2
theorem divInt_ab {t b : Int} (hb : 0 < b) : ab (Rat.divInt t b) ≤ (t.natAbs : Rat) ∧ Dv (Rat.divInt t b) b.natAbs := by
  have e : Rat.divInt t b * (b : Rat) = (t : Rat) := by
    rw [Rat.divInt_eq_div, Rat.div_mul_cancel (by exact_mod_cast Int.ne_of_gt hb)]
  have hbn : ((b.natAbs : Nat) : Rat) = (b : Rat) := by
    rw [← Rat.intCast_natCast]; congr 1; (first | lia | omega)
  refine ⟨?_, ⟨t, by rw [hbn]; exact e⟩⟩
  have h1 : ab (Rat.divInt t b) * ab (b : Rat) = ab (t : Rat) := by rw [← ab_mul, e]
  have h2 : (1 : Rat) ≤ ab (b : Rat) := by
    have : (1 : Rat) ≤ (b : Rat) := by exact_mod_cast hb
    have := (ab_le (b : Rat)).1
    grind
  have h3 : ab (Rat.divInt t b) * 1 ≤ ab (Rat.divInt t b) * ab (b : Rat) := Rat.mul_le_mul_of_nonneg_left h2 (ab_nonneg _)
  rw [Rat.mul_one, h1] at h3
  refine Rat.le_trans h3 ?_
  have := ab_num ((t : Int) : Rat)
  simpa using this
section
variable {W : Wd} {n : Nat} {σ : St} {F : St} {Q : V → St → Prop} {ta : Addr} {cells : List Int} {k : Nat} {L : List Int} {s : Int}
inductive IRest (W : Wd) (ta : Addr) (cells : List Int) (k : Nat) (s : Int) (L : List Int) (fa : FAd) (fb : FAd) (p : Row) (q : Row) (rr : Row) (c : Rat) (d : Rat) (u6 : Option V) (u7 : Option V) (u8 : Option V) (u9 : Option V) (u10 : Option V) (vs : List V) (ρ : Ro) (τ : St) : Prop
  | mk (l : List Int) (v11 v12 : Option V) (h1 : vs = l.map .int) (h2 : (∀ b ∈ l, b = 2 ∨ b = -3)) (h3 : ρ = ro19 ta s L fa fb rr u6 u7 u8 u9 u10 v11 v12) (h4 : τ = st19 W ta cells k fa fb p q c d) : IRest W ta cells k s L fa fb p q rr c d u6 u7 u8 u9 u10 vs ρ τ
inductive IRestP (W : Wd) (ta : Addr) (cells : List Int) (k : Nat) (L : List Int) (fa : FAd) (fb : FAd) (p : Row) (q : Row) (c : Rat) (d : Rat) (b : Int) (vs : List V) (acc : List V) (ρ : Ro) (τ : St) : Prop
  | mk (i : Nat) (u1 u2 : Option V) (h1 : vs = ((L.map V.int).zipIdx.map fun q => V.tup [.int q.2, q.1]).drop i) (h2 : i ≤ L.length) (h3 : acc = ((ptK b L).map pr).take i) (h4 : ρ = [none, u1, u2, some (.int b)]) (h5 : τ = st19 W ta cells k fa fb p q c d) : IRestP W ta cells k L fa fb p q c d b vs acc ρ τ
inductive IRestE (W : Wd) (ta : Addr) (cells : List Int) (k : Nat) (L : List Int) (fa : FAd) (fb : FAd) (p : Row) (q : Row) (c : Rat) (d : Rat) (b : Int) (vs : List V) (acc : List V) (ρ : Ro) (τ : St) : Prop
  | mk (l done : List Int) (u1 : Option V) (h1 : vs = l.map .int) (h2 : L = done ++ l) (h3 : acc = done.map (fun k => pr (k, rv (Rat.divInt (tb b L k).1 (tb b L k).2)))) (h4 : ρ = [none, u1, none, some (fd (ptK b L))]) (h5 : τ = st19 W ta cells k fa fb p q c d) : IRestE W ta cells k L fa fb p q c d b vs acc ρ τ
set_option maxHeartbeats 4000000 in
theorem led_rest (P : Prog W) {fa fb : FAd} {p q rr : Row} {c d : Rat} {u6 u7 u8 u9 u10 u11 u12 : Option V} {M D : Nat} (hL : L.length ≤ 6) (hLn : L.Nodup) (hL1 : ∀ k ∈ L, 1 ≤ k) (hp : FI L M D p c) (hD : 0 < D) (hM : 1 ≤ M) (hbig : 1000 * M * (420 * D) < big) (hok : RowOk rr) (hlk : ∀ k, lk rr k = rowSum p c k)
    (h : Q (.bool true) (st19 W ta cells k fa fb p q c d)) :
    aSs W (n + 6) (scopeS (top 37)) (ro19 ta s L fa fb rr u6 u7 u8 u9 u10 u11 u12) (st19 W ta cells k fa fb p q c d) ((bodyS (top 37)).drop 2) (fun fl _ σ' => Q (flv fl) σ') := by
  have hpl := hp.len
  have hrl : rr.length ≤ L.length + 1 := by
    have := hok.len (S := 0 :: L) fun k hk => hp.told k (by rw [← hlk]; exact hk)
    simpa using this
  ktr_rel
  refine ss_for (ai_tup ?_) (by intro _ _; rfl)
  repeat tb_rel
  refine ⟨_, rfl, ?_⟩
  refine loop_inv (IRest W ta cells k s L fa fb p q rr c d u6 u7 u8 u9 u10) ?_ ?_ _ _ _ ⟨[2, -3], u11, u12, rfl, by simp, rfl, rfl⟩
  · rintro v vs ρ τ ⟨l, v11, v12, he, hl, rfl, rfl⟩
    cases l with
    | nil => cases he
    | cons b l =>
      simp only [List.map_cons, List.cons.injEq] at he
      obtain ⟨rfl, rfl⟩ := he
      have hb := hl b (.head _)
      have hbn : b.natAbs ≤ 3 := by rcases hb with e | e <;> subst e <;> decide
      repeat tb_rel
      refine aE_re (aE_listcomp (ρ' := [none, none, none, some (.int b)]) (.of (by decide +kernel)) rfl (ai_enum ?_) (by intro _ _; rfl))
      refine aE_builtin (v := .type "enumerate") rfl (P.nb _ (by decide)) PyProof.Rows.Boot.enumerate ⟨rfl, ?_⟩
      repeat tb_rel
      refine ⟨_, rfl, by simp; (first | lia | omega), ?_⟩
      refine comp_inv (IRestP W ta cells k L fa fb p q c d b) ?_ ?_ _ _ _ _ ⟨0, none, none, rfl, Nat.zero_le _, rfl, rfl, rfl⟩
      · rintro v vs acc ρ τ ⟨i, u1, u2, he, hi, rfl, rfl, rfl⟩
        have hlz : ((L.map V.int).zipIdx.map fun q => V.tup [.int q.2, q.1]).length = L.length := by simp
        have hil : i < L.length := by
          rcases Nat.lt_or_ge i L.length with z | z
          · exact z
          · rw [List.drop_eq_nil_of_le (by rw [hlz]; exact z)] at he; cases he
        rw [List.drop_eq_getElem_cons (by rw [hlz]; exact hil)] at he
        simp only [List.cons.injEq, List.getElem_map, List.getElem_zipIdx, Nat.zero_add] at he
        obtain ⟨rfl, rfl⟩ := he
        refine aAL_pair (i := 1) (j := 2) rfl rfl ?_
        show aE _ _ _ _ _ _ _
        repeat tb_rel
        refine o_mul (small_mul (by decide)) ?_
        repeat tb_rel
        refine ⟨i + 1, _, _, rfl, hil, ?_, rfl, rfl⟩
        have hpl' : i < ((ptK b L).map pr).length := by simpa using hil
        rw [List.take_add_one, List.getElem?_eq_getElem hpl']
        simp only [List.getElem_map, idx_of hLn hil, Option.toList_some]
      · rintro acc ρ τ ⟨i, u1, u2, he, hi, rfl, rfl, rfl⟩ D'
        have hlz : ((L.map V.int).zipIdx.map fun q => V.tup [.int q.2, q.1]).length = L.length := by simp
        have hil : i = L.length := by
          have := congrArg List.length he
          rw [List.length_drop, hlz] at this
          simp at this; (first | lia | omega)
        rw [hil, show ((ptK b L).map pr).take L.length = (ptK b L).map pr from List.take_of_length_le (by simp)]
        refine ⟨_, _, Re.list .head, ?_⟩
        repeat tb_rel
        refine of_dict_sq (b := false) (kvs := ptK b L) (by simp; (first | lia | omega)) (by simpa [Function.comp_def] using hLn) ?_
        repeat tb_rel
        refine aE_re (aE_listcomp (ρ' := [none, none, none, some (fd (ptK b L))]) (.of (by decide +kernel)) rfl (ai_fdict ?_) (by intro _ _; rfl))
        repeat tb_rel
        refine ⟨ptK b L, rfl, by simp; (first | lia | omega), ?_⟩
        refine comp_inv (IRestE W ta cells k L fa fb p q c d b) ?_ ?_ _ _ _ _ ⟨L, [], none, by simp [Function.comp_def], rfl, rfl, rfl, rfl⟩
        · rintro v vs acc ρ τ ⟨l', done, u1, he, hns, rfl, rfl, rfl⟩
          cases l' with
          | nil => cases he
          | cons x l' =>
            simp only [List.map_cons, List.cons.injEq] at he
            obtain ⟨rfl, rfl⟩ := he
            have hx : x ∈ L := by rw [hns]; simp
            refine aAL_local (i := 1) rfl ?_
            show aE _ _ _ _ _ _ _
            repeat tb_rel
            refine s_fdict (lookI_map hx) ?_ (by intro _ _; with_unfolding_all rfl)
            repeat tb_rel
            refine s_fdict (lookI_map hx) ?_ (by intro _ _; with_unfolding_all rfl)
            repeat tb_rel
            refine c_low P (by show 0 < 1 + ((L.idxOf x : Nat) : Int); (first | lia | omega)) ?_ ?_
            · have h1 : L.idxOf x < L.length := List.idxOf_lt_length_of_mem hx
              have h2 : (1 + ((L.idxOf x : Nat) : Int)).natAbs ≤ 8 := by (first | lia | omega)
              exact Nat.lt_of_le_of_lt h2 (by decide)
            repeat tb_rel
            exact ⟨l', done ++ [x], some (.int x), rfl, by rw [hns]; simp, by simp, rfl, rfl⟩
        · rintro acc ρ τ ⟨l', done, u1, he, hns, rfl, rfl, rfl⟩ D2
          cases l' with
          | cons _ _ => cases he
          | nil =>
            rw [List.append_nil] at hns
            subst hns
            refine ⟨_, _, Re.list .head, ?_⟩
            repeat tb_rel
            rw [show (List.map (fun k => pr (k, rv (Rat.divInt (tb b L k).1 (tb b L k).2))) L) = (vlK b L).map pr from by rw [List.map_map]; rfl]
            refine of_dict_sq (b := false) (kvs := vlK b L) (by simp; (first | lia | omega)) (by simpa [Function.comp_def] using hLn) ?_
            repeat tb_rel
            have hix : ∀ k ∈ L, (tb b L k).1.natAbs ≤ 32 ∧ 0 < (tb b L k).2 ∧ (tb b L k).2 ≤ 6 := fun k hk => by
              have h1 : L.idxOf k < L.length := List.idxOf_lt_length_of_mem hk
              simp only
              (first | lia | omega)
            have hval : ∀ k ∈ L, ab (Rat.divInt (tb b L k).1 (tb b L k).2) ≤ ((32 : Nat) : Rat) ∧ Dv (Rat.divInt (tb b L k).1 (tb b L k).2) 420 := fun k hk => by
              obtain ⟨h1, h2, h3⟩ := hix k hk
              obtain ⟨h4, h5⟩ := divInt_ab (t := (tb b L k).1) h2
              refine ⟨Rat.le_trans h4 (by exact_mod_cast h1), h5.dvd ?_⟩
              have : (tb b L k).2.natAbs = 1 ∨ (tb b L k).2.natAbs = 2 ∨ (tb b L k).2.natAbs = 3 ∨ (tb b L k).2.natAbs = 4 ∨ (tb b L k).2.natAbs = 5 ∨ (tb b L k).2.natAbs = 6 := by (first | lia | omega)
              rcases this with e | e | e | e | e | e <;> rw [e] <;> decide
            have hd420 : D ∣ 420 * D := Nat.dvd_mul_left _ _
            have hbd : 420 * D < big := Nat.lt_of_le_of_lt (Nat.le_mul_of_pos_left _ (by (first | lia | omega))) hbig
            have hMD : M * D < big := Nat.lt_of_le_of_lt (Nat.mul_le_mul (by (first | lia | omega)) (by (first | lia | omega))) hbig
            have hDb : D < big := by (first | lia | omega)
            obtain ⟨smp, smc⟩ := hp.sm hD hMD hDb
            have hlb : ∀ k, ab (lk p k) ≤ (M : Rat) ∧ Dv (lk p k) D := fun k => by
              by_cases h0 : k = 0
              · rw [h0, hp.p0, ab_zero]; exact ⟨by exact_mod_cast Nat.zero_le _, Dv.zero _⟩
              · have := hp.bd k
                unfold rowSum at this; rwa [if_neg h0] at this
            have hmul : ∀ k ∈ L, ab (lk p k * Rat.divInt (tb b L k).1 (tb b L k).2) ≤ ((32 * M : Nat) : Rat) ∧ Dv (lk p k * Rat.divInt (tb b L k).1 (tb b L k).2) (420 * D) := fun k hk => by
              obtain ⟨h1, h2⟩ := hval k hk
              obtain ⟨h3, h4⟩ := hlb k
              refine ⟨?_, by rw [Nat.mul_comm 420 D]; exact h4.mul h2⟩
              rw [ab_mul, Rat.natCast_mul, Rat.mul_comm]
              exact Rat.le_trans (Rat.mul_le_mul_of_nonneg_right h1 (ab_nonneg _)) (Rat.mul_le_mul_of_nonneg_left h3 (by exact_mod_cast Nat.zero_le _))
            have hcb : ab c ≤ (M : Rat) ∧ Dv c D := by
              have := hp.bd 0
              unfold rowSum at this; rwa [if_pos rfl] at this
            let N : Nat → Rat → Prop := fun i x => ab x ≤ (((1 + 32 * i) * M : Nat) : Rat) ∧ Dv x (420 * D)
            have hN0 : N 0 c := ⟨by simpa using hcb.1, hcb.2.dvd hd420⟩
            have hNS : ∀ i x, i ≤ 7 → N i x → Sm x := fun i x hi hx => sm_of hx.1 hx.2 (by (first | lia | omega)) (Nat.lt_of_le_of_lt (Nat.mul_le_mul_right _ (Nat.mul_le_mul_right _ (by (first | lia | omega)))) hbig) hbd
            have hNstep : ∀ i x, N i x → ∀ k ∈ L, N (i + 1) (x + lk p k * Rat.divInt (tb b L k).1 (tb b L k).2) := fun i x hx k hk => by
              obtain ⟨h1, h2⟩ := hmul k hk
              refine ⟨?_, hx.2.add h2⟩
              have h3 := ab_add x (lk p k * Rat.divInt (tb b L k).1 (tb b L k).2)
              have h4 : (((1 + 32 * (i + 1)) * M : Nat) : Rat) = (((1 + 32 * i) * M : Nat) : Rat) + ((32 * M : Nat) : Rat) := by
                rw [← Rat.natCast_add]; congr 1
                rw [← Nat.add_mul, show 1 + 32 * (i + 1) = 1 + 32 * i + 32 by (first | lia | omega)]
              rw [h4]
              have h5 := hx.1
              grind
            have hNmono : ∀ i x, N i x → N (i + 1) x := fun i x hx => ⟨Rat.le_trans hx.1 (by exact_mod_cast Nat.mul_le_mul_right _ (by (first | lia | omega))), hx.2⟩
            have hkL : ∀ k ∈ p.map (·.1), k ∈ L := fun k hk => hp.sup k (hp.ok.key.mp hk)
            refine acall_frame (F := (ta, tp cells k) :: formS W fb q d) (c_evalN (g := fun k => Rat.divInt (tb b L k).1 (tb b L k).2) (N := N) P hp.ok (by (first | lia | omega)) (fun k hk => ?_) hN0 (fun i x hi => hNS i x (by (first | lia | omega))) (fun i x hx k hk => hNstep i x hx k (hkL k hk)) ?_)
            · refine ⟨lookI_map (f := fun k => rv (Rat.divInt (tb b L k).1 (tb b L k).2)) (hkL k hk), smp k, ?_, ?_⟩
              · obtain ⟨h1, h2⟩ := hval k (hkL k hk)
                exact sm_of h1 h2 (by decide) (by unfold big; exact Nat.lt_of_lt_of_le (show 32 * 420 < 2 ^ 20 by decide) (Nat.pow_le_pow_right (by decide) (by decide))) (by unfold big; exact Nat.lt_of_lt_of_le (show 420 < 2 ^ 20 by decide) (Nat.pow_le_pow_right (by decide) (by decide)))
              · obtain ⟨h1, h2⟩ := hmul k (hkL k hk)
                exact sm_of h1 h2 (by (first | lia | omega)) (Nat.lt_of_le_of_lt (Nat.mul_le_mul_right _ (Nat.mul_le_mul_right _ (by decide))) hbig) hbd
            repeat tb_rel
            have hr0 : lk rr 0 = c := by rw [hlk]; rfl
            have hrk : ∀ k, 0 < k → lk rr k = lk p k := fun k hk => by rw [hlk]; unfold rowSum; rw [if_neg (by (first | lia | omega))]
            refine c_worth (kvs := ptK b L) (tb := tb b L) (N := N) P hok (by (first | lia | omega)) (fun k => ?_) (fun k hk hk0 => ?_) (by rw [hr0]; exact hN0) (fun i x hi => hNS i x (by (first | lia | omega))) (fun i x hx k hk hk0 => ?_) hNmono ?_
            · rw [hlk]; exact hp.sum_sm hD hMD hDb k
            · rw [hrk k hk0] at hk
              obtain ⟨h1, h2, h3⟩ := hix k (hp.sup k hk)
              have h100 : 100 < big := by unfold big; exact Nat.lt_of_lt_of_le (show 100 < 2 ^ 7 by decide) (Nat.pow_le_pow_right (by decide) (by decide))
              exact ⟨lookI_map (f := fun k => V.tup [.int (tb b L k).1, .int (tb b L k).2]) (hp.sup k hk), h2, by (first | lia | omega), by (first | lia | omega)⟩
            · rw [hrk k hk0] at hk ⊢
              exact hNstep i x hx k (hp.sup k hk)
            repeat tb_rel
            have heq : lk rr 0 + (((rr.map (·.1)).filter fun k => decide (0 < k)).map fun k => lk rr k * Rat.divInt (tb b L k).1 (tb b L k).2).sum = c + ((p.map (·.1)).map fun k => lk p k * Rat.divInt (tb b L k).1 (tb b L k).2).sum := by
              rw [hr0]
              congr 1
              have h1 : (((rr.map (·.1)).filter fun k => decide (0 < k)).map fun k => lk rr k * Rat.divInt (tb b L k).1 (tb b L k).2) = ((rr.map (·.1)).filter fun k => decide (0 < k)).map fun k => lk p k * Rat.divInt (tb b L k).1 (tb b L k).2 :=
                List.map_congr_left fun k hk => by
                  have := (List.mem_filter.mp hk).2
                  rw [hrk k (by simpa using this)]
              rw [h1]
              refine perm_sum ((List.perm_ext_iff_of_nodup (hok.nd.sublist List.filter_sublist) hp.ok.nd).mpr fun k => ?_)
              rw [List.mem_filter, hok.key, hp.ok.key]
              constructor
              · rintro ⟨h2, h3⟩
                rwa [hrk k (by simpa using h3)] at h2
              · intro h2
                have h3 := hL1 k (hp.sup k h2)
                exact ⟨by rwa [hrk k (by (first | lia | omega))], by simp; (first | lia | omega)⟩
            rw [heq]
            refine c_ne (rv_ok _).1 (rv_ok _).1 (rv_ok _).2 (rv_ok _).2 ?_
            rw [veq_rv, decide_eq_true rfl]
            try tb_rel
            refine ss_nil ?_
            refine ss_nil ?_
            exact ⟨l, _, _, rfl, fun b hb => hl b (.tail _ hb), rfl, rfl⟩
  · rintro ρ τ ⟨l, v11, v12, he, hl, rfl, rfl⟩
    repeat tb_rel
    exact h
end
/- part B21 -/
theorem led_big : 1000 * 36 ^ 9 * (420 * 144 ^ 9) < big := by
  unfold big
  exact Nat.lt_of_lt_of_le (show 1000 * 36 ^ 9 * (420 * 144 ^ 9) < 2 ^ 200 by decide) (Nat.pow_le_pow_right (by decide) (by decide))
theorem led_bigs {M D : Nat} (hM : M ≤ 36 ^ 8) (hD : D ≤ 144 ^ 8) : 1000 * M * (420 * D) < big ∧ M * D < big ∧ D < big ∧ 6 * M * (12 * D) < big ∧ 12 * D < big ∧ 36 * M * (144 * D) < big ∧ 144 * D < big := by
  have h := led_big
  have e36 : 36 ^ 9 = 36 * 36 ^ 8 := by decide
  have e144 : 144 ^ 9 = 144 * 144 ^ 8 := by decide
  have b : ∀ x y : Nat, x ≤ 1000 * 36 ^ 9 → y ≤ 420 * 144 ^ 9 → x * y < big := fun x y hx hy => Nat.lt_of_le_of_lt (Nat.mul_le_mul hx hy) h
  rw [e36, e144] at b
  have b1 : ∀ y : Nat, y ≤ 420 * (144 * 144 ^ 8) → y < big := fun y hy => by have := b 1 y (by decide) hy; (first | lia | omega)
  exact ⟨b _ _ (by (first | lia | omega)) (by (first | lia | omega)), b _ _ (by (first | lia | omega)) (by (first | lia | omega)), b1 _ (by (first | lia | omega)), b _ _ (by (first | lia | omega)) (by (first | lia | omega)), b1 _ (by (first | lia | omega)), b _ _ (by (first | lia | omega)) (by (first | lia | omega)), b1 _ (by (first | lia | omega))⟩
theorem FI.mul_sm {L : List Int} {M D : Nat} {p : Row} {c f : Rat} {s : Int} (h : FI L M D p c) (hf : Fc s f) (hD : 0 < D) (h1 : 5 * M * (12 * D) < big) (h2 : 12 * D < big) : (∀ k, Sm (lk p k * f)) ∧ Sm (c * f) := by
  have hh : ∀ k, Sm (rowSum p c k * f) := fun k => by
    obtain ⟨a, b⟩ := h.bd k
    refine sm_of (w := 5 * M) (N := 12 * D) ?_ (by rw [Nat.mul_comm 12 D]; exact b.mul hf.d) (by (first | lia | omega)) h1 h2
    rw [ab_mul, Rat.natCast_mul, Rat.mul_comm]
    exact Rat.le_trans (Rat.mul_le_mul_of_nonneg_right (show ab f ≤ ((5 : Nat) : Rat) from hf.a) (ab_nonneg _)) (Rat.mul_le_mul_of_nonneg_left a (by exact_mod_cast Nat.zero_le _))
  refine ⟨fun k => ?_, ?_⟩
  · by_cases h0 : k = 0
    · rw [h0, h.p0, Rat.zero_mul]; exact sm_zero
    · have := hh k
      unfold rowSum at this; rwa [if_neg h0] at this
  · have := hh 0
    unfold rowSum at this; rwa [if_pos rfl] at this
section
variable {W : Wd} {n : Nat} {σ : St} {G : St} {Q : V → St → Prop} {ta : Addr} {cells : List Int} {k : Nat} {L : List Int} {s : Int}
inductive ILed (W : Wd) (ta : Addr) (cells : List Int) (L : List Int) (s : Int) (fa : FAd) (fb : FAd) (m : Nat) (vs : List V) (ρ : Ro) (τ : St) : Prop
  | mk (i k' : Nat) (p q rr : Row) (c d : Rat) (u6 u7 u8 u9 u10 u11 u12 : Option V) (h1 : vs = ((List.range m).map fun i : Nat => V.int i).drop i) (h2 : i ≤ m) (h3 : k' ≤ 80001 + 4 * i) (h4 : FI L (36 ^ i) (144 ^ i) p c) (h5 : FI L (36 ^ i) (144 ^ i) q d) (h6 : RowOk rr) (h7 : (∀ k, lk rr k = rowSum p c k)) (h8 : ρ = ro19 ta s L fa fb rr u6 u7 u8 u9 u10 u11 u12) (h9 : τ = st19 W ta cells k' fa fb p q c d) : ILed W ta cells L s fa fb m vs ρ τ
set_option maxHeartbeats 4000000 in
theorem c_led (P : Prog W) (hL0 : 1 ≤ L.length) (hL : L.length ≤ 6) (hLn : L.Nodup) (hL1 : ∀ k ∈ L, 1 ≤ k) (hk : k ≤ 80000) (hcl : cells.length ≤ 1000) (h : ∀ k', Q (.bool true) ((ta, tp cells k') :: G)) :
    acall W (n + 7) (gv W "_law_is_form_led") [.ref ta, .int s, .flist (L.map .int)] ((ta, tp cells k) :: G) Q := by
  refine acall_mid (F := []) (G := G) (σ := [(ta, tp cells k)]) (acall_re (acall_opaque fun Q2 hq2 => acall_def (ρ0 := [some (.ref ta), some (.int s), some (.flist (L.map .int)), none, none, none, none, none, none, none, none, none, none, none, none, none, none, none, none, none, none, none, none, none, none]) P.f37.ok rfl ?_))
  ktr_rel
  repeat tb_rel
  refine c_newform P fun fa => ?_
  repeat tb_rel
  refine aE_re (aE_dict0 fun D0 => ⟨_, _, Re.idict .head, ?_⟩)
  repeat tb_rel
  refine c_newform P fun fb => ?_
  repeat tb_rel
  have hperm0 : (formS W fb [] 0 ++ (formS W fa [] 0 ++ [(ta, tp cells k)])).Perm (st19 W ta cells k fa fb [] [] 0 0) := by
    rw [← List.append_assoc]
    exact List.perm_append_comm
  refine ss_re (FRe.perm hperm0) ?_
  refine ss_for (ai_range ?_) (by intro _ _; rfl)
  refine aE_builtin (v := .type "range") rfl (P.nb _ (by decide)) PyProof.Rows.Boot.range ⟨rfl, ?_⟩
  repeat tb_rel
  refine k_next P (by decide) (by (first | lia | omega)) hcl fun z hz0 hz1 => ?_
  repeat tb_rel
  refine ⟨z.toNat, by rw [Int.toNat_of_nonneg hz0], by (first | lia | omega), ?_⟩
  generalize hm : z.toNat = m
  have hm6 : m ≤ 6 := by (first | lia | omega)
  refine loop_inv (ILed W ta cells L s fa fb m) ?_ ?_ _ _ _ ⟨0, k + 1, [], [], [], 0, 0, none, none, none, none, none, none, none, rfl, Nat.zero_le _, by (first | lia | omega), FI.nil, FI.nil, .nil, fun k => by unfold rowSum; split <;> rfl, rfl, rfl⟩
  · rintro v vs ρ τ ⟨i, k', p, q, rr, c, d, u6, u7, u8, u9, u10, u11, u12, he, hi, hk', hp, hq, hok, hlk, rfl, rfl⟩
    have hlm : ((List.range m).map fun i : Nat => V.int i).length = m := by simp
    have him : i < m := by
      rcases Nat.lt_or_ge i m with y | y
      · exact y
      · rw [List.drop_eq_nil_of_le (by rw [hlm]; exact y)] at he; cases he
    rw [List.drop_eq_getElem_cons (by rw [hlm]; exact him)] at he
    simp only [List.cons.injEq] at he
    obtain ⟨rfl, rfl⟩ := he
    have hM : (36 : Nat) ^ i ≤ 36 ^ 8 := Nat.pow_le_pow_right (by decide) (by (first | lia | omega))
    have hD : (144 : Nat) ^ i ≤ 144 ^ 8 := Nat.pow_le_pow_right (by decide) (by (first | lia | omega))
    have hM1 : 1 ≤ (36 : Nat) ^ i := Nat.pow_pos (by decide)
    have hD1 : 0 < (144 : Nat) ^ i := Nat.pow_pos (by decide)
    obtain ⟨b1, b2, b3, b4, b5, b6, b7⟩ := led_bigs hM hD
    have eM : (36 : Nat) ^ (i + 1) = 36 * 36 ^ i := by rw [Nat.pow_succ, Nat.mul_comm]
    have eD : (144 : Nat) ^ (i + 1) = 144 * 144 ^ i := by rw [Nat.pow_succ, Nat.mul_comm]
    generalize hMe : (36 : Nat) ^ i = M at *
    generalize hDe : (144 : Nat) ^ i = D at *
    obtain ⟨smp, smc⟩ := hp.sm hD1 b2 b3
    obtain ⟨smq, smd⟩ := hq.sm hD1 b2 b3
    have hpl := hp.len
    have hql := hq.len
    have hrl : rr.length ≤ L.length + 1 := by
      have := hok.len (S := 0 :: L) fun k hk => hp.told k (by rw [← hlk]; exact hk)
      simpa using this
    have smr : ∀ k, Sm (lk rr k) := fun k => by rw [hlk]; exact hp.sum_sm hD1 b2 b3 k
    have sone : ∀ t k, Sm (lk [(t, (1 : Rat))] k) := fun t k => by
      rw [lk_one]; split
      · exact (Fc.one s).sm
      · exact sm_zero
    repeat tb_rel
    refine ss_opaque fun Qb hqb => ?_
    refine ss_swap3 (x := "kind") (y := "factor") (z := "t") (i := 7) (j := 8) (l := 9) rfl rfl rfl ?_
    repeat tb_rel
    refine k_next P (by decide) (by (first | lia | omega)) hcl fun kind h0 h1 => ?_
    repeat tb_rel
    refine k_factor P (by (first | lia | omega)) hcl fun f j hj hf => ?_
    have hfc := hf.fc
    repeat tb_rel
    refine k_pickF (b := false) (vs := L.map .int) P (by simpa using hL0) (by simp; (first | lia | omega)) (by (first | lia | omega)) hcl fun v1 hv1 => ?_
    obtain ⟨t, ht, rfl⟩ := List.mem_map.mp hv1
    have ht1 := hL1 t ht
    repeat tb_rel
    refine ⟨_, _, _, rfl, ?_⟩
    repeat tb_rel
    by_cases k0 : kind = 0
    · try tb_rel
      repeat tb_rel
      refine acall_frame (F := (ta, tp cells (k' + 1 + j + 1)) :: formS W fb q d) (c_addpart P (smp t) hfc.sm (by (first | lia | omega)) ?_)
      repeat tb_rel
      refine aE_re (aE_dict1 ?_)
      repeat tb_rel
      refine ⟨_, rfl, fun D1 => ⟨_, _, Re.idict .head, ?_⟩⟩
      repeat tb_rel
      refine c_rowsum (q := [(t, 1)]) (f := f) P hok (one_row t) (by simp; (first | lia | omega)) smr (sone t) hfc.sm fun r2 hok2 hlk2 => ?_
      repeat tb_rel
      refine ss_nil ?_
      have hp2 := hp.part hM1 hfc ht ht1
      have hlk3 : ∀ k, lk r2 k = rowSum (addP p t f) c k := fun k => by
        rw [hlk2, hlk, lk_one]
        unfold rowSum
        rw [lk_addP]
        by_cases e : k = 0
        · subst e; rw [if_pos rfl, if_neg (by (first | lia | omega))]; simp; grind
        · rw [if_neg e, if_neg e]
          by_cases e2 : k = t
          · subst e2; simp
          · rw [if_neg e2, if_neg (Ne.symm e2)]; grind
      refine ss_mono (led_chk P hL hL1 hp2 hok2 hlk3) ?_
      rintro _ _ _ ⟨rfl, rfl, rfl⟩
      refine hqb _ _ _ ?_
      exact ⟨i + 1, _, _, q, r2, _, d, _, _, _, _, _, _, _, rfl, him, by (first | lia | omega), by rw [eM, eD]; exact hp2, by rw [eM, eD]; exact hq.le (by (first | lia | omega)) (Nat.dvd_mul_left _ _), hok2, hlk3, rfl, rfl⟩
    try tb_rel
    repeat tb_rel
    by_cases k1 : kind = 1
    · try tb_rel
      repeat tb_rel
      refine acall_frame (F := (ta, tp cells (k' + 1 + j + 1)) :: formS W fb q d) (c_addconst P smc hfc.sm ?_)
      repeat tb_rel
      refine aE_re (aE_dict1 ?_)
      repeat tb_rel
      refine ⟨_, rfl, fun D1 => ⟨_, _, Re.idict .head, ?_⟩⟩
      repeat tb_rel
      refine c_rowsum (q := [(0, 1)]) (f := f) P hok (one_row 0) (by simp; (first | lia | omega)) smr (sone 0) hfc.sm fun r2 hok2 hlk2 => ?_
      repeat tb_rel
      refine ss_nil ?_
      refine ss_nil ?_
      have hp2 := hp.con hM1 hfc
      have hlk3 : ∀ k, lk r2 k = rowSum p (c + f) k := fun k => by
        rw [hlk2, hlk, lk_one]
        unfold rowSum
        by_cases e : k = 0
        · subst e; simp
        · rw [if_neg e, if_neg e, if_neg (Ne.symm e)]; grind
      refine ss_mono (led_chk P hL hL1 hp2 hok2 hlk3) ?_
      rintro _ _ _ ⟨rfl, rfl, rfl⟩
      refine hqb _ _ _ ?_
      exact ⟨i + 1, _, _, q, r2, _, d, _, _, _, _, _, _, _, rfl, him, by (first | lia | omega), by rw [eM, eD]; exact hp2, by rw [eM, eD]; exact hq.le (by (first | lia | omega)) (Nat.dvd_mul_left _ _), hok2, hlk3, rfl, rfl⟩
    try tb_rel
    repeat tb_rel
    have hpA : (st19 W ta cells (k' + 1 + j + 1) fa fb p q c d).Perm ([(ta, tp cells (k' + 1 + j + 1))] ++ (formS W fa p c ++ formS W fb q d)) := List.Perm.cons _ (List.perm_append_comm (l₁ := formS W fb q d) (l₂ := formS W fa p c))
    have m1 := hp.mul_sm (Fc.one s) hD1 (Nat.lt_of_le_of_lt (Nat.mul_le_mul_right _ (Nat.mul_le_mul_right _ (by decide))) b4) b5
    refine acall_start hpA (acall_frame (F := [(ta, tp cells (k' + 1 + j + 1))]) (c_addform (f := 1) P hq.ok hp.ok (Fc.one s).sm (by (first | lia | omega)) (by (first | lia | omega)) smp smq m1.1 smd smc m1.2 fun q' hokq hlkq => ?_))
    have hq2 : FI L (M + 5 * M) (12 * D) q' (d + c * 1) := hq.comb hp (Fc.one s) hokq hlkq rfl (Nat.dvd_mul_left _ _) (Nat.dvd_refl _)
    have hM6 : M + 5 * M = 6 * M := by (first | lia | omega)
    rw [hM6] at hq2
    have hql2 := hq2.len
    repeat tb_rel
    refine acall_frame (F := (ta, tp cells (k' + 1 + j + 1)) :: formS W fa p c) (c_told P hokq hq2.p0 (by (first | lia | omega)) fun r1 hokr hlkr => ?_)
    have hrl1 : r1.length ≤ L.length + 1 := by
      have := hokr.len (S := 0 :: L) fun k hk => hq2.told k (by rw [← hlkr]; exact hk)
      simpa using this
    repeat tb_rel
    refine c_rowsum (f := f) P hok hokr (by (first | lia | omega)) smr (fun k => by rw [hlkr]; exact hq2.sum_sm (by (first | lia | omega)) b4 b5 k) hfc.sm fun r2 hok2 hlk2 => ?_
    repeat tb_rel
    have hpB : ((ta, tp cells (k' + 1 + j + 1)) :: formS W fa p c ++ formS W fb q' (d + c * 1)).Perm ([(ta, tp cells (k' + 1 + j + 1))] ++ (formS W fb q' (d + c * 1) ++ formS W fa p c)) := List.Perm.cons _ (List.perm_append_comm (l₁ := formS W fa p c) (l₂ := formS W fb q' (d + c * 1)))
    obtain ⟨smq2, smd2⟩ := hq2.sm (by (first | lia | omega)) b4 b5
    have m2 := hq2.mul_sm hfc (by (first | lia | omega)) (Nat.lt_of_le_of_lt (Nat.mul_le_mul (by (first | lia | omega)) (by (first | lia | omega))) b6) (Nat.lt_of_le_of_lt (by (first | lia | omega)) b7)
    refine acall_start hpB (acall_frame (F := [(ta, tp cells (k' + 1 + j + 1))]) (c_addform (f := f) P hp.ok hokq hfc.sm (by (first | lia | omega)) (by (first | lia | omega)) smq2 smp m2.1 smc smd2 m2.2 fun p' hokp hlkp => ?_))
    have hp2 : FI L (M + 5 * (6 * M)) (144 * D) p' (c + (d + c * 1) * f) := hp.comb hq2 hfc hokp hlkp rfl (Nat.dvd_mul_left _ _) ⟨1, by (first | lia | omega)⟩
    repeat tb_rel
    refine ss_nil ?_
    refine ss_nil ?_
    have hlk3 : ∀ k, lk r2 k = rowSum p' (c + (d + c * 1) * f) k := fun k => by
      rw [hlk2, hlk, hlkr]
      unfold rowSum
      split
      · grind
      · rw [hlkp]; grind
    refine ss_mono (led_chk P hL hL1 hp2 hok2 hlk3) ?_
    rintro _ _ _ ⟨rfl, rfl, rfl⟩
    refine hqb _ _ _ ?_
    exact ⟨i + 1, _, _, q', r2, _, _, _, _, _, _, _, _, _, rfl, him, by (first | lia | omega), by rw [eM, eD]; exact hp2.le (by (first | lia | omega)) (Nat.dvd_refl _), by rw [eM, eD]; exact hq2.le (by (first | lia | omega)) ⟨12, by (first | lia | omega)⟩, hok2, hlk3, rfl, rfl⟩
  · rintro ρ τ ⟨i, k', p, q, rr, c, d, u6, u7, u8, u9, u10, u11, u12, he, hi, hk', hp, hq, hok, hlk, rfl, rfl⟩
    have hM : (36 : Nat) ^ i ≤ 36 ^ 8 := Nat.pow_le_pow_right (by decide) (by (first | lia | omega))
    have hD : (144 : Nat) ^ i ≤ 144 ^ 8 := Nat.pow_le_pow_right (by decide) (by (first | lia | omega))
    obtain ⟨b1, _⟩ := led_bigs hM hD
    refine led_rest (Q := Q2) P hL hLn hL1 hp (Nat.pow_pos (by decide)) (Nat.pow_pos (by decide)) b1 hok hlk ?_
    refine hq2 _ _ ?_
    exact ⟨_, _, ((Re.drop (.tail .head)).trans (Re.drop (.tail .head))).trans ((Re.drop (.tail .head)).trans (Re.drop (.tail .head))), h k'⟩
end
/- part B22 -/
/- a row cut to some of its keys -/
noncomputable def cut (rr : Row) (ns : List Int) : Row := ns.map fun k => (k, lk rr k)
theorem lk_cut (rr : Row) : ∀ (ns : List Int) (k : Int), lk (cut rr ns) k = if k ∈ ns then lk rr k else 0
  | [], k => rfl
  | a :: ns, k => by
    have := lk_cut rr ns k
    unfold cut at this ⊢
    simp only [List.map_cons, lk_cons, this, List.mem_cons]
    by_cases e : a = k
    · subst e; simp
    · rw [if_neg e]; simp [Ne.symm e]
theorem cut_ok {rr : Row} {ns : List Int} (hn : ns.Nodup) (h : ∀ k ∈ ns, lk rr k ≠ 0) : RowOk (cut rr ns) := by
  refine ⟨?_, ?_⟩
  · unfold cut; simpa [Function.comp_def] using hn
  · intro kv hkv
    obtain ⟨k, hk, rfl⟩ := List.mem_map.mp hkv
    exact h k hk
theorem At.uniq {B : Bk} {i j : Int} {t : T} (hB : B.Ok) (h1 : At B i t) (h2 : At B j t) (hi : 1 ≤ i) (hj : 1 ≤ j) : i = j := by
  have a1 := h1.at_
  have a2 := h2.at_
  have e1 : B.ts.tail[i.toNat - 1]? = some t := by rw [List.getElem?_tail, show i.toNat - 1 + 1 = i.toNat by (first | lia | omega)]; exact a1
  have e2 : B.ts.tail[j.toNat - 1]? = some t := by rw [List.getElem?_tail, show j.toNat - 1 + 1 = j.toNat by (first | lia | omega)]; exact a2
  have hlt := (List.getElem?_eq_some_iff.mp e1).1
  have := (List.getElem?_inj hlt hB.nd).mp (e1.trans e2.symm)
  (first | lia | omega)
theorem rel_ok {rel : Str} (h : rel = "=" ∨ rel = "<=" ∨ rel = "<") : PyData.strOk rel = true := by
  rcases h with rfl | rfl | rfl
  · exact strOk_ops.2.2.2.2.2.1
  · exact strOk_ops.2.2.2.1
  · exact strOk_ops.2.2.2.2.1
section
variable {W : Wd} {n : Nat} {σ : St} {F : St} {Q : V → St → Prop} {ad : BAd} {B : Bk} {g : Int → Inf} {PW GN : Nat} {s : Int} {L : List Int} {rr : Row} {bd : Rat} {rel : Str}
inductive IRight (W : Wd) (ad : BAd) (B : Bk) (rr : Row) (ms : List Int) (vs : List V) (acc : List V) (ρ : Ro) (τ : St) : Prop
  | mk (l done : List Int) (u : Option V) (h1 : vs = l.map .int) (h2 : ms = done ++ l) (h3 : acc = (done.filter fun k => decide (0 < k)).map (fun k => .tup [.int k, rv (lk rr k)])) (h4 : ρ = [none, u, some (fd (rl rr))]) (h5 : τ = bank W ad B) : IRight W ad B rr ms vs acc ρ τ
set_option maxHeartbeats 4000000 in
theorem c_right (P : Prog W) (hB : Bd B g PW GN) (hG0 : 0 < GN) (hP0 : 1 ≤ PW) (hbig : 8 * PW * GN < big) (hbig2 : GN < big) (hs : s = 1 ∨ s = 2) (hl : B.ts.length ≤ 28000) (hL : L.length ≤ 6) (hLk : ∀ k ∈ L, LeafKey B g s k) (hrel : rel = "=" ∨ rel = "<=" ∨ rel = "<")
    (hri : RI L s rr) (hv : ∀ k, ab (lk rr k) ≤ PW ∧ Dv (lk rr k) GN) (hb : ab bd ≤ PW ∧ Dv bd GN ∧ (s = 1 → bd.den = 1)) (h : ∀ B', BLe B B' 22 → Q (.bool true) (F ++ bank W ad B')) :
    acall W (n + 8) (gv W "_law_is_atom_right") [.ref ad.self, .int s, fd (rl rr), .str rel, rv bd] (F ++ bank W ad B) Q := by
  have hrl := hri.len
  refine acall_frame (acall_re (acall_def (ρ0 := [some (.ref ad.self), some (.int s), some (fd (rl rr)), some (.str rel), some (rv bd), none, none, none, none, none, none, none, none, none, none, none, none]) P.f38.ok rfl ?_))
  ktr_rel
  repeat tb_rel
  refine aE_re (aE_listcomp (ρ' := [none, none, some (fd (rl rr))]) (.of (by decide +kernel)) rfl (ai_flist ?_) (by intro _ _; rfl))
  repeat tb_rel
  refine of_sorted_fdict (by rw [rl_len]; (first | lia | omega)) fun ms hmperm hmsort => ?_
  rw [rl_keys] at hmperm
  have hml := hmperm.length_eq
  simp only [List.length_map] at hml
  have hmnd : ms.Nodup := hmperm.nodup_iff.mpr hri.ok.nd
  refine ⟨_, rfl, by simp; (first | lia | omega), ?_⟩
  refine comp_inv (IRight W ad B rr ms) ?_ ?_ _ _ _ _ ⟨ms, [], none, rfl, rfl, rfl, rfl, rfl⟩
  · rintro v vs acc ρ τ ⟨l, done, u, he, hns, rfl, rfl, rfl⟩
    cases l with
    | nil => cases he
    | cons x l =>
      simp only [List.map_cons, List.cons.injEq] at he
      obtain ⟨rfl, rfl⟩ := he
      refine aAL_local (i := 1) rfl ?_
      show aT _ _ _ _ _ _ _
      repeat tb_rel
      by_cases k0 : 0 < x
      · try tb_rel
        repeat tb_rel
        refine s_fdict (rl_lookI' (hmperm.mem_iff.mp (by rw [hns]; simp))) ?_ (by intro _ _; with_unfolding_all rfl)
        repeat tb_rel
        refine ⟨l, done ++ [x], some (.int x), rfl, by rw [hns]; simp, ?_, rfl, rfl⟩
        rw [List.filter_append]; simp [k0]
      · try tb_rel
        refine ⟨l, done ++ [x], some (.int x), rfl, by rw [hns]; simp, ?_, rfl, rfl⟩
        rw [List.filter_append]; simp [k0]
  · rintro acc ρ τ ⟨l, done, u, he, hns, rfl, rfl, rfl⟩ D'
    cases l with
    | cons _ _ => cases he
    | nil =>
      rw [List.append_nil] at hns
      subst hns
      generalize hnse : (ms.filter fun k => decide (0 < k)) = ns
      have hnd : ns.Nodup := by rw [← hnse]; exact hmnd.sublist List.filter_sublist
      have hnmem : ∀ k, k ∈ ns ↔ lk rr k ≠ 0 ∧ 0 < k := fun k => by rw [← hnse, List.mem_filter, hmperm.mem_iff, hri.ok.key]; simp
      have hn0 : 0 ∉ ns := fun q => by have := (hnmem 0).mp q; (first | lia | omega)
      have hnl : ns.length ≤ 7 := by
        have : ns.length ≤ ms.length := by rw [← hnse]; exact List.length_filter_le ..
        (first | lia | omega)
      have hnL : ∀ k ∈ ns, k ∈ L := fun k hk => by
        obtain ⟨h1, h2⟩ := (hnmem k).mp hk
        have := hri.sup k h1
        rw [List.mem_cons] at this
        exact this.resolve_left (by (first | lia | omega))
      refine ⟨_, _, Re.list .head, ?_⟩
      repeat tb_rel
      refine o_tuple_flist (by simp; (first | lia | omega)) ?_
      repeat tb_rel
      have hbg : PW * GN < big := Nat.lt_of_le_of_lt (Nat.mul_le_mul_right _ (by (first | lia | omega))) hbig
      refine c_atom (F := []) (rr := rr) (ns := ns) P hB hG0 hP0 hbg hbig2 hs (by (first | lia | omega)) hrel hnd hn0 hnl (fun k hk => hLk k (hnL k hk)) (fun k => ⟨(hv k).1, (hv k).2, fun e => hri.int e k⟩) hb fun r l1 rt B' g' hb1 go1 hrow1 hrow2 hl1 hl2 hr1 hr2 hat hnum1 hnum2 => ?_
      repeat tb_rel
      have hcut : RowOk (cut rr ns) := cut_ok hnd fun k hk => ((hnmem k).mp hk).1
      have hcl : (cut rr ns).length = ns.length := by unfold cut; simp
      have hrb := go1.bd
      have hB' := hrb.ok
      have hl' := hrb.len
      rw [show (V.tup (ns.map fun k => V.tup [.int k, rv (lk rr k)])) = sq true ((rl (cut rr ns)).map fun kv => V.tup [.int kv.1, kv.2]) from by unfold rl cut; rw [List.map_map, List.map_map]; rfl]
      refine of_dict_sq (b := true) (kvs := rl (cut rr ns)) (by rw [rl_len]; (first | lia | omega)) (by rw [rl_keys]; exact hcut.nd) ?_
      repeat tb_rel
      refine aE_re (aE_dict1 ?_)
      repeat tb_rel
      refine ⟨_, rfl, fun D1 => ⟨_, _, Re.idict .head, ?_⟩⟩
      repeat tb_rel
      rw [show (V.tup [V.int (0 - bd.num), V.int bd.den]) = rv (-bd) from by rw [rv, Rat.neg_num, Rat.neg_den, Int.zero_sub]]
      have sme : ∀ k, Sm (lk rr k) := fun k => sm_of (hv k).1 (hv k).2 hG0 hbg hbig2
      have smb : Sm bd := sm_of hb.1 hb.2.1 hG0 hbg hbig2
      have smb' : Sm (-bd) := by have := smb.neg; rwa [show bd * -1 = -bd by grind] at this
      refine c_rowsum (p := cut rr ns) (q := [(0, 1)]) (f := -bd) P hcut (one_row 0) (by simp; (first | lia | omega)) (fun k => ?_) (fun k => ?_) smb' fun due hdok hdk => ?_
      · rw [lk_cut]; split
        · exact sme k
        · exact sm_zero
      · rw [lk_one]; split
        · exact (Fc.one s).sm
        · exact sm_zero
      have hrows : ∀ j, (g' l1).row j - (g' rt).row j = lk due j := fun j => by
        rw [hrow1, hrow2, hdk, lk_cut, lk_one]
        by_cases e : j = 0
        · subst e; rw [if_neg hn0, if_pos rfl, if_pos rfl]; grind
        · rw [if_neg e, if_neg (Ne.symm e)]; grind
      have hdue0 : ∀ k, lk due k ≠ 0 → k ∈ 0 :: ns := fun k hk => by
        rw [hdk, lk_cut, lk_one] at hk
        by_cases e : k = 0
        · rw [e]; exact .head _
        · rw [if_neg (Ne.symm e)] at hk
          by_cases e2 : k ∈ ns
          · exact .tail _ e2
          · rw [if_neg e2] at hk; exact absurd (by grind) hk
      have hdl : due.length ≤ 8 := by have := hdok.len (S := 0 :: ns) hdue0; simp at this; (first | lia | omega)
      have smd : ∀ k, Sm (lk due k) := fun k => by
        rw [hdk, lk_cut, lk_one]
        have hz : (0 : Rat) ≤ ((PW : Nat) : Rat) := by exact_mod_cast Nat.zero_le _
        have h1 : ab (if k ∈ ns then lk rr k else 0) ≤ PW ∧ Dv (if k ∈ ns then lk rr k else 0) GN := by
          split
          · exact hv k
          · exact ⟨by rw [ab_zero]; exact hz, Dv.zero _⟩
        have h2 : ab (-bd * (if 0 = k then 1 else 0)) ≤ PW ∧ Dv (-bd * (if 0 = k then 1 else 0)) GN := by
          split
          · rw [Rat.mul_one, ab_neg]; exact ⟨hb.1, by obtain ⟨z, hz⟩ := hb.2.1; exact ⟨-z, by rw [Rat.intCast_neg, ← hz]; grind⟩⟩
          · rw [Rat.mul_zero, ab_zero]; exact ⟨hz, Dv.zero _⟩
        refine sm_of (w := 2 * PW) (N := GN) ?_ (h1.2.add h2.2) hG0 (Nat.lt_of_le_of_lt (Nat.mul_le_mul_right _ (Nat.mul_le_mul_right _ (by decide))) hbig) hbig2
        have h3 := ab_add (if k ∈ ns then lk rr k else 0) (-bd * (if 0 = k then 1 else 0))
        rw [Rat.natCast_mul]
        have e2 : ((2 : Nat) : Rat) = 2 := rfl
        rw [e2]
        have h4 := h1.1
        have h5 := h2.1
        grind
      have stage2 : ∀ v5 : Option V, (∃ x y : Int, At B' r (tRel rel x y) ∧ ((x = l1 ∧ y = rt) ∨ (rel = "=" ∧ x = rt ∧ y = l1))) →
          aSs W (n + 7) (scopeS (top 38)) [some (.ref ad.self), some (.int s), some (fd (rl rr)), some (.str rel), some (rv bd), v5, some (.int r), some (fd (rl due)), none, none, none, none, none, none, none, none, none] (bank W ad B')
          ((bodyS (top 38)).drop 4) (fun fl _ σ' => ReX W (fun b τ => Q b (F ++ τ)) (flv fl) σ') := by
        rintro v5 ⟨x, y, hat2, hxy⟩
        have hxb : 1 ≤ x ∧ x.toNat < B'.ts.length ∧ 1 ≤ y ∧ y.toNat < B'.ts.length ∧ (∀ k, k ≠ 0 → (g' x).row k ≠ 0 → k ∈ ns) ∧ (∀ k, k ≠ 0 → (g' y).row k ≠ 0 → k ∈ ns) := by
          have s1 : ∀ k, k ≠ 0 → (g' l1).row k ≠ 0 → k ∈ ns := fun k _ hk => by
            rw [hrow1] at hk
            by_cases e : k ∈ ns
            · exact e
            · rw [if_neg e] at hk; exact absurd rfl hk
          have s2 : ∀ k, k ≠ 0 → (g' rt).row k ≠ 0 → k ∈ ns := fun k h0 hk => by
            rw [hrow2, if_neg h0] at hk; exact absurd rfl hk
          rcases hxy with ⟨rfl, rfl⟩ | ⟨_, rfl, rfl⟩
          · exact ⟨hl1, hl2, hr1, hr2, s1, s2⟩
          · exact ⟨hr1, hr2, hl1, hl2, s2, s1⟩
        obtain ⟨hx1, hx2, hy1, hy2, hsx, hsy⟩ := hxb
        have hsok : eqOk (.str rel) = true := rel_ok hrel
        ktr_rel
        repeat tb_rel
        refine c_op (F := []) P hat2.pos (hat2.lt (by (first | lia | omega))) hat2.at_ ?_
        repeat tb_rel
        refine c_ne hsok hsok (by simp [vdep]) (by simp [vdep]) ?_
        rw [(veq_iff _ _ hsok hsok).mpr rfl]
        try tb_rel
        repeat tb_rel
        refine c_sort (F := []) P hat2.pos (hat2.lt (by (first | lia | omega))) hat2.at_ ?_
        repeat tb_rel
        try tb_rel
        repeat tb_rel
        try tb_rel
        refine ss_nil ?_
        repeat tb_rel
        refine c_args (F := []) P hat2.pos (hat2.lt (by (first | lia | omega))) hat2.at_ ?_
        repeat tb_rel
        refine c_args (F := []) P hat2.pos (hat2.lt (by (first | lia | omega))) hat2.at_ ?_
        repeat tb_rel
        refine c_diff (F := []) P (hrb.bnd hbig hbig2 hG0) hx1 hx2 hy1 hy2 hsx hsy ⟨by (first | lia | omega), by (first | lia | omega)⟩ fun fa p c hpok hp0 hplk hpc => ?_
        have hpl : p.length ≤ ns.length := hpok.len fun k hk => by
          by_cases e : k = 0
          · rw [e, hp0] at hk; exact absurd rfl hk
          · rw [hplk k e] at hk
            by_cases e1 : (g' x).row k = 0
            · by_cases e2 : (g' y).row k = 0
              · rw [e1, e2] at hk; exact absurd (by grind) hk
              · exact hsy k e e2
            · exact hsx k e e1
        repeat tb_rel
        refine acall_mid (F := []) (G := bank W ad B') (c_told P hpok hp0 (by (first | lia | omega)) fun fo hfok hfk => ?_)
        have hfo : ∀ k, lk fo k = (g' x).row k - (g' y).row k := fun k => by
          rw [hfk]; unfold rowSum
          by_cases e : k = 0
          · rw [if_pos e, e]; exact hpc
          · rw [if_neg e]; exact hplk k e
        have fin : ReX W (fun b τ => Q b (F ++ τ)) (.bool true) (formS W fa p c ++ bank W ad B') := ⟨_, _, (Re.drop .head).trans (Re.drop .head), h B' hb1⟩
        repeat tb_rel
        refine c_eqd (a := rl fo) (b := rl due) (vals_rl _) (vals_rl _) ?_
        by_cases hd : ∀ k, lk fo k = lk due k
        · rw [(deq_rl hfok hdok).mpr hd]
          repeat tb_rel
          try tb_rel
          exact fin
        · rw [(deq_rl' hfok hdok).mpr hd]
          have hsw : rel = "=" ∧ x = rt ∧ y = l1 := by
            rcases hxy with ⟨e1, e2⟩ | e
            · exact absurd (fun k => by rw [hfo, e1, e2]; exact hrows k) hd
            · exact e
          obtain ⟨rfl, rfl, rfl⟩ := hsw
          repeat tb_rel
          try tb_rel
          repeat tb_rel
          try tb_rel
          repeat tb_rel
          refine aE_re (aE_dict0 fun D2 => ⟨_, _, Re.idict .head, ?_⟩)
          repeat tb_rel
          refine c_rowsum (p := []) (q := due) (f := -1) P .nil hdok (by simp; (first | lia | omega)) (fun k => sm_zero) smd (Fc.neg s).sm fun nd hnok hnk => ?_
          repeat tb_rel
          refine c_eqd (a := rl fo) (b := rl nd) (vals_rl _) (vals_rl _) ?_
          rw [(deq_rl hfok hnok).mpr fun k => by rw [hfo, hnk, ← hrows]; show _ = 0 + _; grind]
          exact fin
      repeat tb_rel
      rcases hrel with rfl | rfl | rfl
      · try tb_rel
        repeat tb_rel
        refine aE_re (aE_dict0 fun D2 => ⟨_, _, Re.idict .head, ?_⟩)
        repeat tb_rel
        refine c_eqd (a := rl due) (b := rl []) (vals_rl _) (vals_rl _) ?_
        by_cases hz : ∀ k, lk due k = lk [] k
        · rw [(deq_rl hdok .nil).mpr hz]
          have hr1' : r = 1 := by
            have hb0 : bd = 0 := by
              have h1 := hz 0
              rw [hdk, lk_cut, if_neg hn0, lk_one, if_pos rfl] at h1
              have h2 : (0 : Rat) + -bd * 1 = 0 := h1
              grind
            have hns0 : ns = [] := by
              rcases ns with _ | ⟨a, l⟩
              · rfl
              · exfalso
                have h1 := hz a
                rw [hdk, lk_cut, if_pos (.head _), lk_one, hb0] at h1
                have h2 : lk rr a + -0 * (if 0 = a then 1 else 0) = 0 := h1
                exact ((hnmem a).mp (.head _)).1 (by grind)
            have h3 := hnum1 hns0
            rw [hb0] at hnum2
            have h4 := At.uniq hB' h3 hnum2 hl1 hr1
            rcases hat with ⟨_, _, e⟩ | ⟨_, e, _⟩ | ⟨e, _⟩
            · exact e
            · exact absurd h4 e
            · exact absurd rfl e
          try tb_rel
          repeat tb_rel
          try simp only [if_true]
          repeat tb_rel
          refine c_true (F := []) P ?_
          repeat tb_rel
          try rw [decide_eq_true hr1']
          exact ⟨_, _, Re.refl, h B' hb1⟩
        · rw [(deq_rl' hdok .nil).mpr hz]
          try tb_rel
          repeat tb_rel
          try simp only [Bool.false_eq_true, if_false]
          refine ss_nil ?_
          refine stage2 _ ?_
          rcases hat with ⟨_, e, _⟩ | ⟨_, _, e, _⟩ | ⟨e, _⟩
          · exact absurd (fun k => by rw [← hrows, e]; show _ = (0 : Rat); grind) hz
          · by_cases hle : l1 ≤ rt
            · rw [show min l1 rt = l1 by (first | lia | omega), show max l1 rt = rt by (first | lia | omega)] at e
              exact ⟨l1, rt, e, .inl ⟨rfl, rfl⟩⟩
            · rw [show min l1 rt = rt by (first | lia | omega), show max l1 rt = l1 by (first | lia | omega)] at e
              exact ⟨rt, l1, e, .inr ⟨rfl, rfl, rfl⟩⟩
          · exact absurd rfl e
      · try rw [relNe.1]
        try tb_rel
        refine ss_nil ?_
        refine stage2 _ ⟨l1, rt, ?_, .inl ⟨rfl, rfl⟩⟩
        rcases hat with ⟨e, _⟩ | ⟨e, _⟩ | ⟨_, e, _⟩
        · exact absurd e relNe'.1
        · exact absurd e relNe'.1
        · exact e
      · try rw [relNe.2.1]
        try tb_rel
        refine ss_nil ?_
        refine stage2 _ ⟨l1, rt, ?_, .inl ⟨rfl, rfl⟩⟩
        rcases hat with ⟨e, _⟩ | ⟨e, _⟩ | ⟨_, e, _⟩
        · exact absurd e relNe'.2
        · exact absurd e relNe'.2
        · exact e
end
/- part B23 -/
noncomputable abbrev roL (v0 v1 : Option V) (ta : Addr) (s : Int) (ad : BAd) (v5 v6 v7 v8 v9 v10 v11 v12 v13 v14 v15 v16 v17 : Option V) : Ro :=
  [v0, v1, some (.ref ta), some (.int s), some (.ref ad.self), v5, v6, v7, v8, v9, v10, v11, v12, v13, v14, v15, v16, v17, none, none, none, none, none, none, none, none, none, none, none, none, none, none]
section
variable {W : Wd} {n : Nat} {Q : V → St → Prop} {ta : Addr} {cells : List Int} {k : Nat} {L : List Int} {s : Int} {ad : BAd} {B : Bk} {g : Int → Inf} {PW GN : Nat} {pl nl : List (Int × Row)}
set_option maxHeartbeats 4000000 in
theorem law_end (P : Prog W) {v0 v1 v6 v8 v9 v10 v11 v12 v13 v14 v15 v16 v17 : Option V} (hB : Bd B g PW GN) (hG0 : 0 < GN) (hP0 : 1 ≤ PW) (hbig : 8 * (5 * PW) * (12 * GN) < big) (hbig2 : 12 * GN < big) (hs : s = 1 ∨ s = 2) (hl : B.ts.length ≤ 20000)
    (hL0 : 1 ≤ L.length) (hL : L.length ≤ 6) (hLn : L.Nodup) (hLk : ∀ k ∈ L, LeafKey B g s k) (hp1 : 1 ≤ pl.length) (hp2 : pl.length ≤ 900) (hpi : ∀ q ∈ pl, PI B g L s q.1 q.2) (hk : k ≤ 70000) (hcl : cells.length ≤ 1000) (h : ∀ σ', Q (.bool true) σ') :
    aSs W (n + 8) (scopeS (top 39)) (roL v0 v1 ta s ad (some (.flist (L.map .int))) v6 (some (.flist (pv pl))) v8 v9 v10 v11 v12 v13 v14 v15 v16 v17) ((ta, tp cells k) :: bank W ad B) ((bodyS (top 39)).drop 13) (fun fl _ σ' => Q (flv fl) σ') := by
  ktr_rel
  repeat tb_rel
  refine k_factor P (by (first | lia | omega)) hcl fun bd j hj hf => ?_
  repeat tb_rel
  refine aE_listF ?_
  repeat tb_rel
  refine k_next P (by decide) (by (first | lia | omega)) hcl fun z hz0 hz1 => ?_
  repeat tb_rel
  have hrel : ∃ rel : Str, [V.str "<=", V.str "<", V.str "="][z.toNat]? = some (.str rel) ∧ (rel = "=" ∨ rel = "<=" ∨ rel = "<") := by
    have : z = 0 ∨ z = 1 ∨ z = 2 := by (first | lia | omega)
    rcases this with rfl | rfl | rfl
    · exact ⟨"<=", rfl, .inr (.inl rfl)⟩
    · exact ⟨"<", rfl, .inr (.inr rfl)⟩
    · exact ⟨"=", rfl, .inl rfl⟩
  obtain ⟨rel, hz, hrel⟩ := hrel
  refine s_flist hz0 (by (first | lia | omega)) hz ?_ (by intro _ _; with_unfolding_all rfl)
  repeat tb_rel
  obtain ⟨⟨t, p⟩, hlast⟩ : ∃ q, pl[pl.length - 1]? = some q := ⟨pl[pl.length - 1], List.getElem?_eq_getElem (by (first | lia | omega))⟩
  have hpp := hpi _ (List.mem_of_getElem? hlast)
  simp only at hpp
  refine s_flist_last (v := pit (t, p)) (by simp; (first | lia | omega)) (by rw [List.length_map, List.getElem?_map, hlast]; rfl) ?_ (by intro _ _; with_unfolding_all rfl)
  repeat tb_rel
  have hB5 : Bd B g (5 * PW) (12 * GN) := hB.le (by (first | lia | omega)) (Nat.dvd_mul_left _ _)
  have hfc := hf.fc
  refine c_right (F := [(ta, tp cells (k + j + 1))]) P hB5 (by (first | lia | omega)) (by (first | lia | omega)) hbig hbig2 hs (by (first | lia | omega)) hL hLk hrel hpp.ri (fun k => hpp.bd hB5 k) ⟨Rat.le_trans hfc.a (by exact_mod_cast (show 5 ≤ 5 * PW by (first | lia | omega))), hfc.d.dvd (Nat.dvd_mul_right _ _), hfc.i⟩ fun B' hb1 => ?_
  repeat tb_rel
  try tb_rel
  repeat tb_rel
  exact c_led P hL0 hL hLn (fun k hk => (hLk k hk).pos) (by (first | lia | omega)) hcl fun k' => h _
inductive INA (W : Wd) (ta : Addr) (cells : List Int) (k : Nat) (s : Int) (ad : BAd) (L : List Int) (B : Bk) (pl : List (Int × Row)) (nl : List (Int × Row)) (v0 : Option V) (v1 : Option V) (v6 : Option V) (v8 : Option V) (v9 : Option V) (v12 : Option V) (v16 : Option V) (v17 : Option V) (vs : List V) (ρ : Ro) (τ : St) : Prop
  | mk (l : List (Int × Row)) (v11 v13 v14 v15 : Option V) (h1 : vs = pv l) (h2 : (∀ q ∈ l, q ∈ nl)) (h3 : ρ = roL v0 v1 ta s ad (some (.flist (L.map .int))) v6 (some (.flist (pv pl))) v8 v9 (some (.flist (pv nl))) v11 v12 v13 v14 v15 v16 v17) (h4 : τ = (ta, tp cells k) :: bank W ad B) : INA W ta cells k s ad L B pl nl v0 v1 v6 v8 v9 v12 v16 v17 vs ρ τ
inductive INB (W : Wd) (ta : Addr) (cells : List Int) (k : Nat) (s : Int) (ad : BAd) (L : List Int) (B : Bk) (pl : List (Int × Row)) (nl : List (Int × Row)) (row : Row) (w : Int) (v0 : Option V) (v1 : Option V) (v6 : Option V) (v8 : Option V) (v9 : Option V) (v12 : Option V) (v16 : Option V) (v17 : Option V) (vs : List V) (ρ : Ro) (τ : St) : Prop
  | mk (l' : List (Int × Row)) (v14 v15 : Option V) (h1 : vs = pv l') (h2 : (∀ q ∈ l', q ∈ nl)) (h3 : ρ = roL v0 v1 ta s ad (some (.flist (L.map .int))) v6 (some (.flist (pv pl))) v8 v9 (some (.flist (pv nl))) (some (fd (rl row))) v12 (some (.int w)) v14 v15 v16 v17) (h4 : τ = (ta, tp cells k) :: bank W ad B) : INB W ta cells k s ad L B pl nl row w v0 v1 v6 v8 v9 v12 v16 v17 vs ρ τ
set_option maxHeartbeats 4000000 in
/- every two of the normal terms -/
theorem law_norm2 (P : Prog W) {v0 v1 v6 v8 v9 v11 v12 v13 v14 v15 v16 v17 : Option V} (hB : Bd B g PW GN) (hG0 : 0 < GN) (hP0 : 1 ≤ PW) (hbig : 8 * (5 * PW) * (12 * GN) < big) (hbig2 : 12 * GN < big) (hs : s = 1 ∨ s = 2) (hl : B.ts.length ≤ 20000)
    (hL0 : 1 ≤ L.length) (hL : L.length ≤ 6) (hLn : L.Nodup) (hLk : ∀ k ∈ L, LeafKey B g s k) (hp1 : 1 ≤ pl.length) (hp2 : pl.length ≤ 900) (hpi : ∀ q ∈ pl, PI B g L s q.1 q.2) (hk : k ≤ 70000) (hcl : cells.length ≤ 1000)
    (hnok : ∀ q ∈ nl, RowOk q.2) (hnn : ∀ q ∈ nl, ∀ q' ∈ nl, (q.1 = q'.1 ↔ ∀ k, lk q.2 k = lk q'.2 k)) (h : ∀ σ', Q (.bool true) σ') :
    aSs W (n + 8) (scopeS (top 39)) (roL v0 v1 ta s ad (some (.flist (L.map .int))) v6 (some (.flist (pv pl))) v8 v9 (some (.flist (pv nl))) v11 v12 v13 v14 v15 v16 v17) ((ta, tp cells k) :: bank W ad B) ((bodyS (top 39)).drop 12) (fun fl _ σ' => Q (flv fl) σ') := by
  ktr_rel
  refine ss_for (ai_flist ?_) (by intro _ _; rfl)
  repeat tb_rel
  refine ⟨_, rfl, ?_⟩
  refine loop_inv (INA W ta cells k s ad L B pl nl v0 v1 v6 v8 v9 v12 v16 v17) ?_ ?_ _ _ _
    ⟨nl, v11, v13, v14, v15, rfl, fun q hq => hq, rfl, rfl⟩
  · rintro v vs ρ τ ⟨l, v11, v13, v14, v15, he, hin, rfl, rfl⟩
    cases l with
    | nil => cases he
    | cons q l =>
      obtain ⟨w, row⟩ := q
      simp only [pv, List.map_cons, List.cons.injEq] at he
      obtain ⟨rfl, rfl⟩ := he
      have hq := hin _ (.head _)
      repeat tb_rel
      refine ss_for (ai_flist ?_) (by intro _ _; rfl)
      repeat tb_rel
      refine ⟨_, rfl, ?_⟩
      refine loop_inv (INB W ta cells k s ad L B pl nl row w v0 v1 v6 v8 v9 v12 v16 v17) ?_ ?_ _ _ _
        ⟨nl, v14, v15, rfl, fun q hq => hq, rfl, rfl⟩
      · rintro v vs ρ τ ⟨l', v14, v15, he, hin', rfl, rfl⟩
        cases l' with
        | nil => cases he
        | cons q' l' =>
          obtain ⟨w', row'⟩ := q'
          simp only [pv, List.map_cons, List.cons.injEq] at he
          obtain ⟨rfl, rfl⟩ := he
          have hq' := hin' _ (.head _)
          have hiff := hnn _ hq _ hq'
          simp only at hiff
          repeat tb_rel
          refine c_eqd (a := rl row) (b := rl row') (vals_rl _) (vals_rl _) ?_
          refine c_ne_bool ?_
          have e : (decide (w = w') != deq (rl row) (rl row')) = false := by
            by_cases e : w = w'
            · rw [decide_eq_true e, (deq_rl (hnok _ hq) (hnok _ hq')).mpr (hiff.mp e)]; rfl
            · rw [decide_eq_false e, (deq_rl' (hnok _ hq) (hnok _ hq')).mpr (mt hiff.mpr e)]; rfl
          rw [e]
          try tb_rel
          refine ss_nil ?_
          refine ss_nil ?_
          exact ⟨l', _, _, rfl, fun q hq => hin' q (.tail _ hq), rfl, rfl⟩
      · rintro ρ τ ⟨l', v14, v15, he, hin', rfl, rfl⟩
        refine ss_nil ?_
        exact ⟨l, _, _, _, _, rfl, fun q hq => hin q (.tail _ hq), rfl, rfl⟩
  · rintro ρ τ ⟨l, v11, v13, v14, v15, he, hin, rfl, rfl⟩
    exact law_end P hB hG0 hP0 hbig hbig2 hs hl hL0 hL hLn hLk hp1 hp2 hpi hk hcl h
end
/- part B24 -/
/- ## one written term a row -/
section
variable {B B' : Bk} {s : Int}
theorem WrP.uniq {k r r' : Int} {v : Rat} (hB : B.Ok) (h : WrP B s k v r) (h' : WrP B s k v r') : r = r' := by
  cases h with
  | one h1 e =>
    cases h' with
    | one _ e' => rw [e, e']
    | mul h2 => exact absurd h1 h2
  | mul h1 c hc hr hp =>
    cases h' with
    | one h2 _ => exact absurd h2 h1
    | mul _ c' hc' hr' hp' =>
      have e := At.uniq hB hc hc' hp.1 hp'.1
      subst e
      exact At.uniq hB hr hr' hp.2 hp'.2
theorem WrL.uniq {p p' : Row} (hB : B.Ok) (he : ∀ k, lk p k = lk p' k) {ks ids : List Int} (h : WrL B s p ks ids) : ∀ {ids' : List Int}, WrL B s p' ks ids' → ids = ids' := by
  induction h with
  | nil =>
    intro ids' h'
    have := h'.len
    exact (List.length_eq_zero_iff.mp (by simpa using this)).symm
  | snoc h1 hp ih =>
    rename_i ks ids k r
    intro ids' h'
    generalize hks : ks ++ [k] = kk at h'
    cases h' with
    | nil => simp at hks
    | snoc h2 hp' =>
      rename_i ks' ids2 k' r'
      have e := List.append_inj' hks rfl
      obtain ⟨e1, e2⟩ := e
      injection e2 with e2 _
      subst e1 e2
      rw [ih h2]
      rw [← he] at hp'
      rw [WrP.uniq hB hp hp']
theorem Wr.uniq {p p' : Row} {c : Rat} {ns : List Int} {r r' : Int} (hB : B.Ok) (he : ∀ k, lk p k = lk p' k) (h : Wr B s p c ns r) (h' : Wr B s p' c ns r') : r = r' := by
  obtain ⟨ids, all, h1, h2, h3⟩ := h.ex
  obtain ⟨ids', all', h1', h2', h3'⟩ := h'.ex
  have e := WrL.uniq hB he h1 h1'
  subst e
  have eall : all = all' := by
    rcases h2 with ⟨rfl, hc, hn⟩ | ⟨z, rfl, hz, hz1, hc⟩
    · rcases h2' with ⟨rfl, _, _⟩ | ⟨z', rfl, hz', hz1', hc'⟩
      · rfl
      · exact absurd hc' (by simp [hc, hn])
    · rcases h2' with ⟨rfl, hc', hn'⟩ | ⟨z', rfl, hz', hz1', hc'⟩
      · exact absurd hc (by simp [hc', hn'])
      · rw [At.uniq hB hz hz' hz1 hz1']
  subst eall
  rcases h3 with e1 | ⟨l1, a1, r1⟩
  · rcases h3' with e2 | ⟨l2, _, _⟩
    · rw [e1] at e2; injection e2
    · rw [e1] at l2; simp at l2
  · rcases h3' with e2 | ⟨_, a2, r2⟩
    · rw [e2] at l1; simp at l1
    · exact At.uniq hB a1 a2 r1 r2
theorem Wr.ble {p : Row} {c : Rat} {ns : List Int} {r : Int} {n : Nat} (h : Wr B s p c ns r) (hb : BLe B B' n) : Wr B' s p c ns r := by
  obtain ⟨ids, all, h1, h2, h3⟩ := h.ex
  refine ⟨ids, all, h1.ble hb, ?_, ?_⟩
  · rcases h2 with q | ⟨z, e, hz, hz1, hc⟩
    · exact .inl q
    · exact .inr ⟨z, e, hz.ble hb, hz1, hc⟩
  · rcases h3 with q | ⟨l, a, r1⟩
    · exact .inl q
    · exact .inr ⟨l, a.ble hb, r1⟩
/- an entry of the normal terms -/
structure NI (B : Bk) (g : Int → Inf) (s w : Int) (row : Row) : Prop where
  ok : RowOk row
  pos : 1 ≤ w
  lt : w.toNat < B.ts.length
  mean : ∀ j, (g w).row j = lk row j
  wr : ∃ p c ns, RowOk p ∧ lk p 0 = 0 ∧ (∀ k, lk row k = rowSum p c k) ∧ ns.Perm (p.map (·.1)) ∧ ns.Pairwise (· ≤ ·) ∧ Wr B s p c ns w
theorem NI.ble {g g' : Int → Inf} {w : Int} {row : Row} {n PW GN : Nat} (h : NI B g s w row) (hb : BLe B B' n) (hg : Go B B' g g' PW GN) : NI B' g' s w row := by
  obtain ⟨p, c, ns, a1, a2, a3, a4, a5, a6⟩ := h.wr
  exact ⟨h.ok, h.pos, by have := hb.len; have := h.lt; (first | lia | omega), fun j => by rw [hg.old w h.pos h.lt]; exact h.mean j, p, c, ns, a1, a2, a3, a4, a5, a6.ble hb⟩
theorem same_keys {p p' : Row} {ns ns' : List Int} (hp : RowOk p) (hp' : RowOk p') (he : ∀ k, lk p k = lk p' k) (h1 : ns.Perm (p.map (·.1))) (h2 : ns.Pairwise (· ≤ ·)) (h1' : ns'.Perm (p'.map (·.1))) (h2' : ns'.Pairwise (· ≤ ·)) : ns = ns' :=
  sorted_eq _ _ (strict_of h2 (h1.nodup_iff.mpr hp.nd)) (strict_of h2' (h1'.nodup_iff.mpr hp'.nd)) fun k => by rw [h1.mem_iff, h1'.mem_iff, hp.key, hp'.key, he]
theorem rowSum_inj {p p' : Row} {c c' : Rat} (h0 : lk p 0 = 0) (h0' : lk p' 0 = 0) (h : ∀ k, rowSum p c k = rowSum p' c' k) : (∀ k, lk p k = lk p' k) ∧ c = c' := by
  refine ⟨fun k => ?_, ?_⟩
  · by_cases e : k = 0
    · rw [e, h0, h0']
    · have := h k
      unfold rowSum at this; rwa [if_neg e, if_neg e] at this
  · have := h 0
    unfold rowSum at this; rwa [if_pos rfl, if_pos rfl] at this
theorem NI.iff {g : Int → Inf} {w w' : Int} {row row' : Row} (hB : B.Ok) (h : NI B g s w row) (h' : NI B g s w' row') : w = w' ↔ ∀ k, lk row k = lk row' k := by
  constructor
  · rintro rfl k
    rw [← h.mean, ← h'.mean]
  · intro he
    obtain ⟨p, c, ns, a1, a2, a3, a4, a5, a6⟩ := h.wr
    obtain ⟨p', c', ns', b1, b2, b3, b4, b5, b6⟩ := h'.wr
    obtain ⟨e1, e2⟩ := rowSum_inj a2 b2 fun k => by rw [← a3, ← b3]; exact he k
    subst e2
    have e3 := same_keys a1 b1 e1 a4 a5 b4 b5
    subst e3
    exact Wr.uniq hB e1 a6 b6
end
section
variable {W : Wd} {n : Nat} {Q : V → St → Prop} {ta : Addr} {cells : List Int} {k : Nat} {L : List Int} {s : Int} {ad : BAd} {B : Bk} {g : Int → Inf} {PW GN : Nat} {pl nl : List (Int × Row)}
/- what form_of tells, told as a row -/
theorem FRes.row_of {g : Int → Inf} {t : Int} {p : Row} {c : Rat} (h : FRes g t p c) (k : Int) : rowSum p c k = (g t).row k := by
  unfold rowSum
  split
  · rename_i e; rw [e]; exact h.con
  · rename_i e; exact h.row k e
inductive INorm (W : Wd) (ta : Addr) (cells : List Int) (k : Nat) (s : Int) (ad : BAd) (L : List Int) (B : Bk) (g : Int → Inf) (PW : Nat) (GN : Nat) (pl : List (Int × Row)) (na : Addr) (v0 : Option V) (v1 : Option V) (v8 : Option V) (v9 : Option V) (v14 : Option V) (v15 : Option V) (v16 : Option V) (v17 : Option V) (vs : List V) (ρ : Ro) (τ : St) : Prop
  | mk (l : List (Int × Row)) (nl : List (Int × Row)) (Bi : Bk) (gi : Int → Inf) (v6 v11 v12 v13 : Option V) (h1 : vs = pv l) (h2 : l.length + nl.length = pl.length) (h3 : (∀ q ∈ l, q ∈ pl)) (h4 : BLe B Bi (40 * nl.length)) (h5 : Go B Bi g gi (64 ^ nl.length * PW) GN) (h6 : (∀ q ∈ nl, NI Bi gi s q.1 q.2)) (h7 : ρ = roL v0 v1 ta s ad (some (.flist (L.map .int))) v6 (some (.flist (pv pl))) v8 v9 (some (.ref na)) v11 v12 v13 v14 v15 v16 v17) (h8 : τ = (na, .list (pv nl)) :: (ta, tp cells k) :: bank W ad Bi) : INorm W ta cells k s ad L B g PW GN pl na v0 v1 v8 v9 v14 v15 v16 v17 vs ρ τ
set_option maxHeartbeats 8000000 in
theorem law_norm (P : Prog W) {v0 v1 v6 v8 v9 v10 v11 v12 v13 v14 v15 v16 v17 : Option V} (hB : Bd B g PW GN) (hG0 : 0 < GN) (hP0 : 1 ≤ PW) (hbig : 8 * (5 * (64 ^ pl.length * PW)) * (12 * GN) < big) (hbig2 : 12 * GN < big) (hs : s = 1 ∨ s = 2) (hl : B.ts.length ≤ 10000)
    (hL0 : 1 ≤ L.length) (hL : L.length ≤ 6) (hLn : L.Nodup) (hLk : ∀ k ∈ L, LeafKey B g s k) (hp1 : 1 ≤ pl.length) (hp2 : pl.length ≤ 100) (hpi : ∀ q ∈ pl, PI B g L s q.1 q.2) (hk : k ≤ 70000) (hcl : cells.length ≤ 1000) (h : ∀ σ', Q (.bool true) σ') :
    aSs W (n + 8) (scopeS (top 39)) (roL v0 v1 ta s ad (some (.flist (L.map .int))) v6 (some (.flist (pv pl))) v8 v9 v10 v11 v12 v13 v14 v15 v16 v17) ((ta, tp cells k) :: bank W ad B) ((bodyS (top 39)).drop 10) (fun fl _ σ' => Q (flv fl) σ') := by
  ktr_rel
  repeat tb_rel
  refine aE_list (aEs_nil ⟨by simp, fun na => ?_⟩)
  repeat tb_rel
  refine ss_for (ai_flist ?_) (by intro _ _; rfl)
  repeat tb_rel
  refine ⟨_, rfl, ?_⟩
  refine loop_inv (INorm W ta cells k s ad L B g PW GN pl na v0 v1 v8 v9 v14 v15 v16 v17) ?_ ?_ _ _ _
    ⟨pl, [], B, g, v6, v11, v12, v13, rfl, by simp, fun q hq => hq, .refl hB.ok, by rw [List.length_nil, Nat.pow_zero, Nat.one_mul]; exact Go.refl hB, by simp, rfl, rfl⟩
  · rintro v vs ρ τ ⟨l, nl, Bi, gi, v6, v11, v12, v13, he, hlen, hin, hbi, hgi, hni, rfl, rfl⟩
    cases l with
    | nil => cases he
    | cons q l =>
      obtain ⟨t, row⟩ := q
      simp only [pv, List.map_cons, List.cons.injEq] at he
      obtain ⟨rfl, rfl⟩ := he
      have hq := (hpi _ (hin _ (.head _))).ble hbi hgi
      simp only at hq
      simp only [List.length_cons] at hlen
      have hbil := hbi.len
      have hP1 : 1 ≤ 64 ^ nl.length * PW := Nat.mul_pos (Nat.pow_pos (by decide)) hP0
      have hpow : 64 * (64 ^ nl.length * PW) ≤ 64 ^ pl.length * PW := by
        have e : 64 * 64 ^ nl.length = 64 ^ (nl.length + 1) := by rw [Nat.pow_succ, Nat.mul_comm]
        rw [← Nat.mul_assoc, e]
        exact Nat.mul_le_mul_right _ (Nat.pow_le_pow_right (by decide) (by (first | lia | omega)))
      have eP : 64 ^ (nl.length + 1) * PW = 64 * (64 ^ nl.length * PW) := by rw [Nat.pow_succ, Nat.mul_comm (64 ^ nl.length) 64, Nat.mul_assoc]
      generalize hPe : 64 ^ nl.length * PW = P1 at *
      generalize hP2e : 64 ^ pl.length * PW = P2 at *
      have hg2 : GN < big := by (first | lia | omega)
      have bb : ∀ x, x ≤ 64 * P1 → x * GN < big := fun x hx => Nat.lt_of_le_of_lt (Nat.mul_le_mul (by (first | lia | omega)) (by (first | lia | omega))) hbig
      have hLk' : ∀ k ∈ L, LeafKey Bi gi s k := fun k hk => (hLk k hk).ble hbi
      have hrl := hq.len
      repeat tb_rel
      refine c_formof (F := [(na, .list (pv nl)), (ta, tp cells k)]) P (hgi.bd.bnd (bb _ (by (first | lia | omega))) hg2 hG0) hq.pos hq.lt fun fa p c R1 => ?_
      have hlkr : ∀ k, lk row k = rowSum p c k := fun k => by rw [R1.row_of, hq.row]
      have hsupL : ∀ k, k ≠ 0 → lk row k ≠ 0 → k ∈ L := fun k h0 hk => by
        have := hq.sup k hk
        rw [List.mem_cons] at this
        exact this.resolve_left h0
      have hpl := R1.len (S := L) fun k h0 hk => hsupL k h0 (by rw [← hq.row]; exact hk)
      have hlp : ∀ k, lk p k ≠ 0 → k ≠ 0 ∧ lk row k ≠ 0 := fun k hk => by
        have h0 : k ≠ 0 := fun e => by rw [e, R1.p0] at hk; exact hk rfl
        rw [R1.row k h0, hq.row] at hk
        exact ⟨h0, hk⟩
      have hpk : ∀ k, lk p k ≠ 0 → k ∈ L := fun k hk => hsupL k (hlp k hk).1 (hlp k hk).2
      have hz0 : (0 : Rat) ≤ ((P1 : Nat) : Rat) := by exact_mod_cast Nat.zero_le _
      have hpb : ∀ k, ab (lk p k) ≤ (P1 : Rat) ∧ Dv (lk p k) GN ∧ (s = 1 → (lk p k).den = 1) := fun k => by
        by_cases h0 : k = 0
        · rw [h0, R1.p0, ab_zero]; exact ⟨hz0, Dv.zero _, fun _ => rfl⟩
        · rw [R1.row k h0, hq.row]; exact ⟨(hq.bd hgi.bd k).1, (hq.bd hgi.bd k).2, fun e => hq.int e k⟩
      have hcb : ab c ≤ (P1 : Rat) ∧ Dv c GN ∧ (s = 1 → c.den = 1) := by
        rw [R1.con, hq.row]; exact ⟨(hq.bd hgi.bd 0).1, (hq.bd hgi.bd 0).2, fun e => hq.int e 0⟩
      repeat tb_rel
      refine c_tof (F := [(na, .list (pv nl)), (ta, tp cells k)]) P hgi.bd hG0 hP1 (bb _ (by (first | lia | omega))) hg2 hs (by (first | lia | omega)) R1.ok R1.p0 (by (first | lia | omega)) (fun k hk => hLk' k (hpk k hk)) hpb hcb fun w B1 g1 ns1 hpm hst hb1 go1 hw hrow hw1 hw2 hwt => ?_
      have hb1l := hb1.len
      have hLk1 : ∀ k ∈ L, LeafKey B1 g1 s k := fun k hk => (hLk' k hk).ble hb1
      repeat tb_rel
      refine acall_mid (F := [(na, .list (pv nl)), (ta, tp cells k)]) (G := bank W ad B1) (c_told P R1.ok R1.p0 (by (first | lia | omega)) fun r1 hr1 hr1k => ?_)
      repeat tb_rel
      refine c_ned (a := rl r1) (b := rl row) (vals_rl _) (vals_rl _) ?_
      rw [show deq (rl r1) (rl row) = true from (deq_rl hr1 hq.ok).mpr fun k => by rw [hr1k, hlkr]]
      try tb_rel
      repeat tb_rel
      refine c_written (F := (na, .list (pv nl)) :: (ta, tp cells k) :: formS W fa p c) (g := g1) (rr := row) P (by (first | lia | omega)) R1.ok hq.ok hlkr R1.p0 hpm hst (fun k hk => hLk1 k (hpk k (R1.ok.key.mp (hpm.mem_iff.mp hk)))) (by (first | lia | omega)) (by (first | lia | omega)) hw hwt ?_
      repeat tb_rel
      try tb_rel
      repeat tb_rel
      try tb_rel
      refine ss_nil ?_
      repeat tb_rel
      refine c_formof (F := (na, .list (pv nl)) :: (ta, tp cells k) :: formS W fa p c) P (go1.bd.bnd (bb _ (by (first | lia | omega))) hg2 hG0) hw1 hw2 fun fb p2 c2 R2 => ?_
      have hr2 : ∀ k, rowSum p2 c2 k = rowSum p c k := fun k => by rw [R2.row_of, hrow]
      have hw0 : ∀ k, k ≠ 0 → (g1 w).row k ≠ 0 → k ∈ L := fun k h0 hk => by
        rw [hrow, ← hlkr] at hk; exact hsupL k h0 hk
      have hp2l := R2.len (S := L) hw0
      repeat tb_rel
      refine acall_mid (F := (na, .list (pv nl)) :: (ta, tp cells k) :: formS W fa p c) (G := bank W ad B1) (c_told P R2.ok R2.p0 (by (first | lia | omega)) fun r2 hr2' hr2k => ?_)
      repeat tb_rel
      refine c_ned (a := rl r2) (b := rl row) (vals_rl _) (vals_rl _) ?_
      rw [show deq (rl r2) (rl row) = true from (deq_rl hr2' hq.ok).mpr fun k => by rw [hr2k, hr2, hlkr]]
      try tb_rel
      repeat tb_rel
      refine c_formof (F := (na, .list (pv nl)) :: (ta, tp cells k) :: (formS W fa p c ++ formS W fb p2 c2)) P (go1.bd.bnd (bb _ (by (first | lia | omega))) hg2 hG0) hw1 hw2 fun fc p3 c3 R3 => ?_
      obtain ⟨e3, e3c⟩ := rowSum_inj (c := c3) (c' := c) R3.p0 R1.p0 fun k => by rw [R3.row_of, hrow]
      have hp3l := R3.len (S := L) hw0
      have hPP : ((P1 : Nat) : Rat) ≤ ((8 * P1 : Nat) : Rat) := by exact_mod_cast (show P1 ≤ 8 * P1 by (first | lia | omega))
      repeat tb_rel
      refine c_tof (F := (na, .list (pv nl)) :: (ta, tp cells k) :: (formS W fa p c ++ formS W fb p2 c2)) P go1.bd hG0 (by (first | lia | omega)) (bb _ (by (first | lia | omega))) hg2 hs (by (first | lia | omega)) R3.ok R3.p0 (by (first | lia | omega)) (fun k hk => hLk1 k (hpk k (by rw [← e3]; exact hk))) (fun k => by rw [e3]; exact ⟨Rat.le_trans (hpb k).1 hPP, (hpb k).2⟩)
        (by rw [e3c]; exact ⟨Rat.le_trans hcb.1 hPP, hcb.2⟩) fun w2 B2 g2 ns2 hpm2 hst2 hb2 go2 hwr2 hrow2 hw21 hw22 hwt2 => ?_
      have hns : ns2 = ns1 := same_keys R3.ok R1.ok e3 hpm2 hst2 hpm hst
      subst hns
      subst e3c
      have hww : w2 = w := Wr.uniq hb2.ok e3 hwr2 (hw.ble hb2)
      have hb2l := hb2.len
      repeat tb_rel
      try rw [show decide (w2 ≠ w) = false from decide_eq_false (by simpa using hww)]
      try tb_rel
      repeat tb_rel
      try tb_rel
      refine ss_nil ?_
      repeat tb_rel
      refine o_append (vs := pv nl) (by tb_start) (by simp; (first | lia | omega)) ?_
      repeat tb_rel
      refine ss_re (FRe.drop (.tail (.tail .head))) ?_
      refine ss_re (FRe.drop (.tail (.tail .head))) ?_
      refine ss_re (FRe.drop (.tail (.tail .head))) ?_
      refine ss_re (FRe.drop (.tail (.tail .head))) ?_
      refine ss_re (FRe.drop (.tail (.tail .head))) ?_
      refine ss_re (FRe.drop (.tail (.tail .head))) ?_
      refine ss_nil ?_
      have hb12 := hb1.trans hb2
      have go12 := go1.trans hb1 go2
      refine ⟨l, nl ++ [(w, row)], B2, g2, _, _, _, _, rfl, by simp; (first | lia | omega), fun q hq => hin q (.tail _ hq), (hbi.trans hb12).le (by simp; (first | lia | omega)), ?_, fun q hq' => ?_, rfl, ?_⟩
      · rw [List.length_append, List.length_cons, List.length_nil, Nat.zero_add, eP]
        exact (hgi.trans hbi go12).le (by (first | lia | omega)) (Nat.dvd_refl _)
      · rcases List.mem_append.mp hq' with h1 | h1
        · exact (hni q h1).ble hb12 go12
        · simp only [List.mem_singleton] at h1
          subst h1
          exact NI.ble (B := B1) (g := g1) ⟨hq.ok, hw1, hw2, fun j => by rw [hrow, hlkr], p, _, ns2, R1.ok, R1.p0, hlkr, hpm, hst, hw⟩ hb2 go2
      · rw [show pv nl ++ [pit (w, row)] = pv (nl ++ [(w, row)]) by simp]
        rfl
  · rintro ρ τ ⟨l, nl, Bi, gi, v6, v11, v12, v13, he, hlen, hin, hbi, hgi, hni, rfl, rfl⟩
    cases l with
    | cons _ _ => cases he
    | nil =>
      simp only [List.length_nil, Nat.zero_add] at hlen
      have hbil := hbi.len
      rw [hlen] at hgi hbi hbil
      refine ss_re (FRe.list .head (i := 10) rfl) ?_
      have hP1 : 1 ≤ 64 ^ pl.length * PW := Nat.mul_pos (Nat.pow_pos (by decide)) hP0
      exact law_norm2 P hgi.bd hG0 hP1 hbig hbig2 hs (by (first | lia | omega)) hL0 hL hLn (fun k hk => (hLk k hk).ble hbi) hp1 (by (first | lia | omega)) (fun q hq => (hpi q hq).ble hbi hgi) hk hcl (fun q hq => (hni q hq).ok) (fun q hq q' hq' => (hni q hq).iff hgi.bd.ok (hni q' hq')) h
end
/- part B25 -/
section
variable {W : Wd} {n : Nat} {Q : V → St → Prop} {ta pa : Addr} {cells : List Int} {k : Nat} {L : List Int} {s : Int} {ad : BAd} {B : Bk} {g : Int → Inf} {PW GN : Nat} {pl nl : List (Int × Row)}
inductive ILaps (W : Wd) (ta : Addr) (pa : Addr) (cells : List Int) (s : Int) (ad : BAd) (L : List Int) (B : Bk) (g : Int → Inf) (PW : Nat) (GN : Nat) (pl : List (Int × Row)) (m : Nat) (v0 : Option V) (v1 : Option V) (v6 : Option V) (v8 : Option V) (v10 : Option V) (v11 : Option V) (v12 : Option V) (v13 : Option V) (v14 : Option V) (v15 : Option V) (v16 : Option V) (v17 : Option V) (vs : List V) (ρ : Ro) (τ : St) : Prop
  | mk (i k' : Nat) (pl' : List (Int × Row)) (Bi : Bk) (gi : Int → Inf) (v9 : Option V) (h1 : vs = ((List.range m).map fun i : Nat => V.int i).drop i) (h2 : i ≤ m) (h3 : pl'.length = pl.length + i) (h4 : k' ≤ 50001 + 8 * i) (h5 : BLe B Bi (40 * i)) (h6 : Go B Bi g gi (8192 ^ i * PW) (12 ^ i * GN)) (h7 : (∀ q ∈ pl', PI Bi gi L s q.1 q.2)) (h8 : ρ = roL v0 v1 ta s ad (some (.flist (L.map .int))) v6 (some (.ref pa)) v8 v9 v10 v11 v12 v13 v14 v15 v16 v17) (h9 : τ = (ta, tp cells k') :: (pa, .list (pv pl')) :: bank W ad Bi) : ILaps W ta pa cells s ad L B g PW GN pl m v0 v1 v6 v8 v10 v11 v12 v13 v14 v15 v16 v17 vs ρ τ
set_option maxHeartbeats 8000000 in
theorem law_laps (P : Prog W) {v0 v1 v6 v8 v9 v10 v11 v12 v13 v14 v15 v16 v17 : Option V} (hB : Bd B g PW GN) (hG0 : 0 < GN) (hP0 : 1 ≤ PW) (hbig : 8 * (5 * (64 ^ 13 * (8192 ^ 6 * PW))) * (12 * (12 ^ 6 * GN)) < big) (hs : s = 1 ∨ s = 2) (hl : B.ts.length ≤ 5000)
    (hL0 : 1 ≤ L.length) (hL : L.length ≤ 6) (hLn : L.Nodup) (hLk : ∀ k ∈ L, LeafKey B g s k) (hp1 : 1 ≤ pl.length) (hp2 : pl.length ≤ 7) (hpi : ∀ q ∈ pl, PI B g L s q.1 q.2) (hk : k ≤ 50000) (hcl : cells.length ≤ 1000) (h : ∀ σ', Q (.bool true) σ') :
    aSs W (n + 9) (scopeS (top 39)) (roL v0 v1 ta s ad (some (.flist (L.map .int))) v6 (some (.ref pa)) v8 v9 v10 v11 v12 v13 v14 v15 v16 v17) ((ta, tp cells k) :: (pa, .list (pv pl)) :: bank W ad B) ((bodyS (top 39)).drop 9) (fun fl _ σ' => Q (flv fl) σ') := by
  ktr_rel
  refine ss_for (ai_range ?_) (by intro _ _; rfl)
  refine aE_builtin (v := .type "range") rfl (P.nb _ (by decide)) PyProof.Rows.Boot.range ⟨rfl, ?_⟩
  repeat tb_rel
  refine k_next P (by decide) (by (first | lia | omega)) hcl fun z hz0 hz1 => ?_
  repeat tb_rel
  refine ⟨(1 + z).toNat, by rw [Int.toNat_of_nonneg (by (first | lia | omega))], by (first | lia | omega), ?_⟩
  generalize hm : (1 + z).toNat = m
  have hm6 : m ≤ 6 := by (first | lia | omega)
  have h12 : ∀ i, i ≤ 6 → (12 : Nat) ^ i * GN ≤ 12 ^ 6 * GN := fun i hi => Nat.mul_le_mul_right _ (Nat.pow_le_pow_right (by decide) hi)
  have h81 : ∀ i, i ≤ 6 → (8192 : Nat) ^ i * PW ≤ 8192 ^ 6 * PW := fun i hi => Nat.mul_le_mul_right _ (Nat.pow_le_pow_right (by decide) hi)
  generalize hX : (12 : Nat) ^ 6 * GN = X12 at *
  generalize hY : (8192 : Nat) ^ 6 * PW = Y81 at *
  have hY1 : 1 ≤ Y81 := by rw [← hY]; exact Nat.mul_pos (Nat.pow_pos (by decide)) hP0
  have bX : 12 * X12 < big := Nat.lt_of_le_of_lt (Nat.le_mul_of_pos_left _ (Nat.mul_pos (by decide) (Nat.mul_pos (by decide) (Nat.mul_pos (Nat.pow_pos (by decide)) hY1)))) hbig
  refine loop_inv (ILaps W ta pa cells s ad L B g PW GN pl m v0 v1 v6 v8 v10 v11 v12 v13 v14 v15 v16 v17) ?_ ?_ _ _ _
    ⟨0, k + 1, pl, B, g, v9, rfl, Nat.zero_le _, rfl, by (first | lia | omega), .refl hB.ok, by simpa using Go.refl hB, hpi, rfl, rfl⟩
  · rintro v vs ρ τ ⟨i, k', pl', Bi, gi, v9, he, hi, hpl, hk', hbi, hgi, hpi', rfl, rfl⟩
    have hlm : ((List.range m).map fun i : Nat => V.int i).length = m := by simp
    have him : i < m := by
      rcases Nat.lt_or_ge i m with y | y
      · exact y
      · rw [List.drop_eq_nil_of_le (by rw [hlm]; exact y)] at he; cases he
    rw [List.drop_eq_getElem_cons (by rw [hlm]; exact him)] at he
    simp only [List.cons.injEq] at he
    obtain ⟨rfl, rfl⟩ := he
    have hbil := hbi.len
    have e1 : 8192 ^ (i + 1) * PW = 8192 * (8192 ^ i * PW) := by rw [Nat.pow_succ, Nat.mul_comm (8192 ^ i) 8192, Nat.mul_assoc]
    have e2 : 12 ^ (i + 1) * GN = 12 * (12 ^ i * GN) := by rw [Nat.pow_succ, Nat.mul_comm (12 ^ i) 12, Nat.mul_assoc]
    have h1 := h81 (i + 1) (by (first | lia | omega))
    have h2 := h12 (i + 1) (by (first | lia | omega))
    rw [e1] at h1
    rw [e2] at h2
    have hbigi : 8192 * (8192 ^ i * PW) * (12 * (12 ^ i * GN)) < big := Nat.lt_of_le_of_lt (Nat.mul_le_mul (show _ ≤ 8 * (5 * (64 ^ 13 * Y81)) by
      have : Y81 ≤ 8 * (5 * (64 ^ 13 * Y81)) := by
        have : 1 * Y81 ≤ 64 ^ 13 * Y81 := Nat.mul_le_mul_right _ (by decide)
        (first | lia | omega)
      (first | lia | omega)) (show _ ≤ 12 * X12 by (first | lia | omega))) hbig
    repeat tb_rel
    refine c_term P hgi.bd (Nat.mul_pos (Nat.pow_pos (by decide)) hG0) (Nat.mul_pos (Nat.pow_pos (by decide)) hP0) hbigi (by (first | lia | omega)) hs (by (first | lia | omega)) (by (first | lia | omega)) (by (first | lia | omega)) (by (first | lia | omega)) hpi' (by (first | lia | omega)) hcl fun j t p B' g' hj hb1 go1 hpn => ?_
    repeat tb_rel
    refine o_append (vs := pv pl') (by tb_start) (by simp; (first | lia | omega)) ?_
    repeat tb_rel
    refine ss_nil ?_
    refine ⟨i + 1, k' + j, pl' ++ [(t, p)], B', g', _, rfl, him, by simp; (first | lia | omega), by (first | lia | omega), (hbi.trans hb1).le (by (first | lia | omega)), by rw [e1, e2]; exact hgi.trans hbi go1, fun q hq => ?_, rfl, ?_⟩
    · rcases List.mem_append.mp hq with h3 | h3
      · exact (hpi' q h3).ble hb1 go1
      · simp only [List.mem_singleton] at h3
        subst h3; exact hpn
    · rw [show pv pl' ++ [pit (t, p)] = pv (pl' ++ [(t, p)]) by simp]
  · rintro ρ τ ⟨i, k', pl', Bi, gi, v9, he, hi, hpl, hk', hbi, hgi, hpi', rfl, rfl⟩
    have hbil := hbi.len
    refine ss_re (FRe.list (.tail .head) (i := 7) rfl) ?_
    have h1 := h81 i (by (first | lia | omega))
    have h2 := h12 i (by (first | lia | omega))
    have hpw : 64 ^ pl'.length * (8192 ^ i * PW) ≤ 64 ^ 13 * Y81 := Nat.mul_le_mul (Nat.pow_le_pow_right (by decide) (by (first | lia | omega))) h1
    exact law_norm P hgi.bd (Nat.mul_pos (Nat.pow_pos (by decide)) hG0) (Nat.mul_pos (Nat.pow_pos (by decide)) hP0) (Nat.lt_of_le_of_lt (Nat.mul_le_mul (Nat.mul_le_mul_left _ (Nat.mul_le_mul_left _ hpw)) (Nat.mul_le_mul_left _ h2)) hbig) (by (first | lia | omega)) hs (by (first | lia | omega)) hL0 hL hLn (fun k hk => (hLk k hk).ble hbi) (by (first | lia | omega)) (by (first | lia | omega)) hpi' (by (first | lia | omega)) hcl h
end
/- part B26 -/
theorem Bd.decl {B : Bk} {g : Int → Inf} {PW GN : Nat} {x : Str} {l : List Int} {s : Int} (h : Bd B g PW GN) (hl : B.ns.length ≤ 40000) : Bd { B with ns := B.ns ++ [x], fas := B.fas ++ [l], frs := B.frs ++ [s] } g PW GN where
  good := h.good
  lim := h.lim
  dat := h.dat
  len := h.len
  ok := ⟨h.ok.nil, h.ok.nd, by simp [h.ok.l1], by simp [h.ok.l2], by simp; (first | lia | omega)⟩
theorem appNe : ¬ Str.ofString "app" = Str.ofString "num" ∧ ¬ Str.ofString "app" = Str.ofString "+" ∧ ¬ Str.ofString "app" = Str.ofString "*" ∧ ¬ Str.ofString "app" = Str.ofString "ite" := by decide +kernel
theorem iteNe : ¬ Str.ofString "ite" = Str.ofString "num" ∧ ¬ Str.ofString "ite" = Str.ofString "+" ∧ ¬ Str.ofString "ite" = Str.ofString "*" := by decide +kernel
noncomputable abbrev g0 : Int → Inf := fun i => ⟨fun k => if k = i then 1 else 0, 1, 1⟩
theorem bd0 : Bd bk0 g0 1 1 where
  good := ⟨fun i => ⟨Nat.one_pos, Nat.le_refl _⟩, fun i t hi ht => by
    have hlt := (List.getElem?_eq_some_iff.mp ht).1
    simp only [List.length_cons, List.length_nil] at hlt
    have : i = 1 ∨ i = 2 := by (first | lia | omega)
    rcases this with rfl | rfl
    · have e : tTrue = t := by simpa using ht
      subst e
      exact .leaf (by decide +kernel) (fun k => rfl) ⟨rfl, rfl⟩
    · have e : tFalse = t := by simpa using ht
      subst e
      exact .leaf (by decide +kernel) (fun k => rfl) ⟨rfl, rfl⟩⟩
  lim := fun i _ _ => ⟨Nat.le_refl _, Nat.dvd_refl _⟩
  dat := fun i u d hi hu hd => by
    have hlt := (List.getElem?_eq_some_iff.mp hu).1
    simp only [List.length_cons, List.length_nil] at hlt
    have : i.toNat = 0 ∨ i.toNat = 1 ∨ i.toNat = 2 := by (first | lia | omega)
    rcases this with e | e | e <;> rw [e] at hu <;> simp at hu <;> subst hu <;> cases hd
  len := by simp
  ok := bk0_ok
section
variable {W : Wd} {n : Nat} {Q : V → St → Prop}
noncomputable def absI (i : Int) : Int := if i < 0 then -i else i
inductive IPool (W : Wd) (ta : Addr) (cells : List Int) (k : Nat) (ad : BAd) (B : Bk) (L : List Int) (vs : List V) (acc : List V) (ρ : Ro) (τ : St) : Prop
  | mk (l done : List Int) (u : Option V) (h1 : vs = l.map .int) (h2 : L = done ++ l) (h3 : acc = pv (done.map fun t => (t, [(t, (1 : Rat))]))) (h4 : ρ = [none, u]) (h5 : τ = (ta, tp cells k) :: bank W ad B) : IPool W ta cells k ad B L vs acc ρ τ
set_option maxHeartbeats 8000000 in
theorem law4 (P : Prog W) {v0 v1 : Option V} {ta : Addr} {cells : List Int} {k : Nat} {s : Int} {ad : BAd} {L : List Int} {B : Bk} {g : Int → Inf} (hB : Bd B g 1 1) (hs : s = 1 ∨ s = 2) (hl : B.ts.length ≤ 1000) (hL0 : 1 ≤ L.length) (hL : L.length ≤ 6) (hLn : L.Nodup) (hLk : ∀ k ∈ L, LeafKey B g s k) (hk : k ≤ 10) (hcl : cells.length ≤ 1000) (h : ∀ σ', Q (.bool true) σ') :
    aSs W (n + 9) (scopeS (top 39)) (roL v0 v1 ta s ad (some (.flist (L.map .int))) none none none none none none none none none none none none) ((ta, tp cells k) :: bank W ad B) ((bodyS (top 39)).drop 6) (fun fl _ σ' => Q (flv fl) σ') := by
  ktr_rel
  refine ss_listcomp (y := "pool") (j := 7) (ρ' := [none, none]) (.of (by decide +kernel)) rfl rfl (ai_flist ?_) (by intro env h; unfold swapsWith Env.blockKind Env.kindOf; rw [h]; rfl) (by intro _ _; rfl)
  repeat tb_rel
  refine ⟨_, rfl, by simp; (first | lia | omega), ?_⟩
  refine comp_inv (IPool W ta cells k ad B L) ?_ ?_ _ _ _ _ ⟨L, [], none, rfl, rfl, rfl, rfl, rfl⟩
  · rintro v vs acc ρ τ ⟨l, done, u, he, hn, rfl, rfl, rfl⟩
    cases l with
    | nil => cases he
    | cons x l =>
      simp only [List.map_cons, List.cons.injEq] at he
      obtain ⟨rfl, rfl⟩ := he
      refine aAL_local (i := 1) rfl ?_
      show aE _ _ _ _ _ _ _
      repeat tb_rel
      refine aE_re (aE_dict1 ?_)
      repeat tb_rel
      refine ⟨_, rfl, fun D1 => ⟨_, _, Re.idict .head, ?_⟩⟩
      repeat tb_rel
      exact ⟨l, done ++ [x], some (.int x), rfl, by rw [hn]; simp, by simp [pv, pit, fd, rl], rfl, rfl⟩
  rintro acc ρ τ ⟨l, done, u, he, hn, rfl, rfl, rfl⟩ pa
  cases l with
  | cons _ _ => cases he
  | nil =>
  rw [List.append_nil] at hn
  subst hn
  refine ss_re (FRe.perm (List.Perm.swap _ _ _)) ?_
  repeat tb_rel
  refine k_next P (by decide) (by (first | lia | omega)) hcl fun z hz0 hz1 => ?_
  repeat tb_rel
  generalize hnum : z - 4 = num
  have hn4 : num.natAbs ≤ 4 := by (first | lia | omega)
  have hqa : ab ((num : Int) : Rat) ≤ ((4 : Nat) : Rat) := Rat.le_trans (ab_num _) (by
    have : ((num : Int) : Rat).num.natAbs = num.natAbs := by simp
    rw [this]; exact_mod_cast hn4)
  generalize hpl : L.map (fun t => (t, [(t, (1 : Rat))])) = pl0
  have hpl0 : pl0.length = L.length := by rw [← hpl]; simp
  refine c_num (q := ((num : Int) : Rat)) (F := [(ta, tp cells (k + 1)), (pa, .list (pv pl0))]) P (by rcases hs with e | e; exact .inr ⟨e, rfl⟩; exact .inl e) hB.ok (by (first | lia | omega)) fun r B1 hb1 m => ?_
  obtain ⟨g1, go1, hrow⟩ := num_sem hB m (by (first | lia | omega)) (PW' := 4) (GN' := 1) (by decide) (Nat.dvd_refl _) (by decide) (by decide) hqa (Dv.int _ _) (fun _ => rfl)
  have hb1l := hb1.len
  have hnbig : 8 * (5 * (64 ^ 13 * (8192 ^ 6 * 4))) * (12 * (12 ^ 6 * 1)) < big := by
    unfold big
    exact Nat.lt_of_lt_of_le (show 8 * (5 * (64 ^ 13 * (8192 ^ 6 * 4))) * (12 * (12 ^ 6 * 1)) < 2 ^ 220 by decide) (Nat.pow_le_pow_right (by decide) (by decide))
  have hfin : ∀ row : Row, RowOk row → (∀ k, lk row k = if k = 0 then ((num : Int) : Rat) else 0) → ∀ q ∈ pl0 ++ [(r, row)], PI B1 g1 L s q.1 q.2 := fun row hok hlk q hq => by
    rcases List.mem_append.mp hq with h1 | h1
    · rw [← hpl] at h1
      obtain ⟨t, ht, rfl⟩ := List.mem_map.mp h1
      have hk1 := hLk t ht
      obtain ⟨u, hu, hus, hop⟩ := hk1.ex
      have hr := (hk1.row hB.good).1
      refine RI.pi ⟨one_row t, fun k hk => ?_, fun _ k => ?_⟩ hk1.pos ⟨u, hu.ble hb1, hus⟩ fun k => ?_
      · rw [lk_one] at hk
        by_cases e : t = k
        · subst e; exact .tail _ ht
        · rw [if_neg e] at hk; exact absurd rfl hk
      · rw [lk_one]; split <;> rfl
      · rw [go1.old t hk1.pos hk1.lt, hr, lk_one]
        by_cases e : k = t
        · rw [if_pos e, if_pos e.symm]
        · rw [if_neg e, if_neg (Ne.symm e)]
    · simp only [List.mem_singleton] at h1
      subst h1
      refine RI.pi ⟨hok, fun k hk => ?_, fun _ k => ?_⟩ m.pos ⟨_, m.at', rfl⟩ fun k => by rw [hrow, hlk]
      · rw [hlk] at hk
        by_cases e : k = 0
        · rw [e]; exact .head _
        · rw [if_neg e] at hk; exact absurd rfl hk
      · rw [hlk]; split <;> rfl
  repeat tb_rel
  by_cases hz : num = 0
  · try tb_rel
    refine aE_re (aE_dict0 fun D2 => ⟨_, _, Re.idict .head, ?_⟩)
    repeat tb_rel
    refine o_append (vs := pv pl0) (by tb_start) (by simp; (first | lia | omega)) ?_
    repeat tb_rel
    rw [show pv pl0 ++ [V.tup [.int r, fd []]] = pv (pl0 ++ [(r, [])]) by simp [pv, pit, fd, rl]]
    exact law_laps P go1.bd (by decide) (by decide) hnbig hs (by (first | lia | omega)) hL0 hL hLn (fun k hk => (hLk k hk).ble hb1) (by simp) (by simp; (first | lia | omega)) (hfin [] .nil fun k => by rw [hz]; split <;> rfl) (by (first | lia | omega)) hcl h
  · try tb_rel
    refine aE_re (aE_dict1 ?_)
    repeat tb_rel
    refine ⟨_, rfl, fun D1 => ⟨_, _, Re.idict .head, ?_⟩⟩
    repeat tb_rel
    refine o_append (vs := pv pl0) (by tb_start) (by simp; (first | lia | omega)) ?_
    repeat tb_rel
    rw [show pv pl0 ++ [V.tup [.int r, fd [(0, V.tup [.int num, .int 1])]]] = pv (pl0 ++ [(r, [(0, ((num : Int) : Rat))])]) by simp [pv, pit, fd, rl]]
    exact law_laps P go1.bd (by decide) (by decide) hnbig hs (by (first | lia | omega)) hL0 hL hLn (fun k hk => (hLk k hk).ble hb1) (by simp) (by simp; (first | lia | omega)) (hfin [(0, ((num : Int) : Rat))] ⟨by simp, by simpa using hz⟩ fun k => by
      show (if 0 = k then _ else _) = _
      by_cases e : k = 0
      · rw [if_pos e, if_pos e.symm]
      · rw [if_neg e, if_neg (Ne.symm e)]; rfl) (by (first | lia | omega)) hcl h
inductive ILeaf (W : Wd) (ta : Addr) (cells : List Int) (k : Nat) (ad : BAd) (s : Int) (vs : List V) (acc : List V) (ρ : Ro) (τ : St) : Prop
  | mk (l : List Str) (ids : List Int) (Bi : Bk) (gi : Int → Inf) (u : Option V) (h1 : vs = l.map .str) (h2 : ids.length + l.length = 3) (h3 : acc = ids.map .int) (h4 : Bd Bi gi 1 1) (h5 : Bi.ns.length = ids.length) (h6 : Bi.ts.length ≤ 3 + ids.length) (h7 : (∀ (j : Nat) (x : Int), ids[j]? = some x → At Bi x ⟨"app", [], s, .i j⟩ ∧ 1 ≤ x)) (h8 : ρ = [none, u, some (.ref ad.self), some (.int s)]) (h9 : τ = (ta, tp cells k) :: bank W ad Bi) : ILeaf W ta cells k ad s vs acc ρ τ
set_option maxHeartbeats 8000000 in
theorem law3 (P : Prog W) {v0 v1 : Option V} {ta : Addr} {cells : List Int} {k : Nat} {s : Int} {ad : BAd} (hs : s = 1 ∨ s = 2) (hk : k ≤ 10) (hcl : cells.length ≤ 1000) (h : ∀ σ', Q (.bool true) σ') :
    aSs W (n + 9) (scopeS (top 39)) [v0, v1, some (.ref ta), some (.int s), some (.ref ad.self), none, none, none, none, none, none, none, none, none, none, none, none, none, none, none, none, none, none, none, none, none, none, none, none, none, none, none] ((ta, tp cells k) :: bank W ad bk0)
      ((bodyS (top 39)).drop 3) (fun fl _ σ' => Q (flv fl) σ') := by
  ktr_rel
  refine ss_listcomp (y := "leaves") (j := 5) (ρ' := [none, none, some (.ref ad.self), some (.int s)]) (.of (by decide +kernel)) rfl rfl (ai_tup ?_) (by intro env h; unfold swapsWith Env.blockKind Env.kindOf; rw [h]; rfl) (by intro _ _; rfl)
  repeat tb_rel
  refine ⟨_, rfl, by simp, ?_⟩
  refine comp_inv (ILeaf W ta cells k ad s) ?_ ?_ _ _ _ _
    ⟨["x", "y", "z"], [], bk0, g0, none, rfl, rfl, rfl, bd0, rfl, by simp, by simp, rfl, rfl⟩
  · rintro v vs acc ρ τ ⟨l, ids, Bi, gi, u, he, hlen, rfl, hBd, hns, hts, hids, rfl, rfl⟩
    cases l with
    | nil => cases he
    | cons x l =>
      simp only [List.map_cons, List.cons.injEq] at he
      obtain ⟨rfl, rfl⟩ := he
      simp only [List.length_cons] at hlen
      have hdec := hBd.decl (x := x) (l := []) (s := s) (by (first | lia | omega))
      have hfl := hBd.ok.l1
      have hrl := hBd.ok.l2
      refine aAL_local (i := 1) rfl ?_
      show aE _ _ _ _ _ _ _
      repeat tb_rel
      refine c_declare (F := [(ta, tp cells k)]) (l := []) P hBd.ok (by (first | lia | omega)) ?_
      repeat tb_rel
      refine c_app (F := [(ta, tp cells k)]) (f := Bi.ns.length) (l := []) (ss := []) (s := s) P hdec.ok (by show Bi.ts.length ≤ 50000; (first | lia | omega)) (by rw [← hfl]; simp) (by simp) (by rw [← hrl]; simp) rfl (by simp) (by simp) fun r B' m => ?_
      obtain ⟨g', go, hrow⟩ := leaf_sem hdec m (by show Bi.ts.length < 40000; (first | lia | omega)) ⟨appNe.1, appNe.2.1, appNe.2.2.1⟩ (fun d e => by cases e) (Nat.le_refl _)
      have hbl := (m.ble hdec.ok).len
      refine ⟨l, ids ++ [r], B', g', _, rfl, by simp; (first | lia | omega), by simp, go.bd, by rw [m.same.1]; simp [hns], by rw [List.length_append]; simp only [List.length_cons, List.length_nil]; show _ ≤ _; have : B'.ts.length ≤ Bi.ts.length + 1 := hbl.2; (first | lia | omega), fun j y hj => ?_, rfl, rfl⟩
      rcases Nat.lt_or_ge j ids.length with q | q
      · rw [List.getElem?_append_left q] at hj
        obtain ⟨a1, a2⟩ := hids j y hj
        exact ⟨At.ble (B := { Bi with ns := Bi.ns ++ [x], fas := Bi.fas ++ [[]], frs := Bi.frs ++ [s] }) ⟨a1.pos, a1.at_⟩ (m.ble hdec.ok), a2⟩
      · rw [List.getElem?_append_right q] at hj
        have hj0 : j - ids.length = 0 := by
          have := (List.getElem?_eq_some_iff.mp hj).1
          simp at this; (first | lia | omega)
        rw [hj0] at hj
        simp only [List.getElem?_cons_zero, Option.some.injEq] at hj
        subst hj
        have e : j = Bi.ns.length := by (first | lia | omega)
        rw [e]
        exact ⟨m.at', m.pos⟩
  rintro acc ρ τ ⟨l, ids, Bi, gi, u, he, hlen, rfl, hBd, hns, hts, hids, rfl, rfl⟩ la
  have hl0 : l = [] := by cases l with
    | nil => rfl
    | cons _ _ => cases he
  subst hl0
  simp only [List.length_nil, Nat.add_zero] at hlen
  obtain ⟨x0, y0, z0, rfl⟩ : ∃ a b c, ids = [a, b, c] := by
    rcases ids with _ | ⟨a, _ | ⟨b, _ | ⟨c, _ | ⟨d, r⟩⟩⟩⟩ <;> simp at hlen
    exact ⟨a, b, c, rfl⟩
  obtain ⟨ax, px⟩ := hids 0 x0 rfl
  obtain ⟨ay, py⟩ := hids 1 y0 rfl
  obtain ⟨az, pz⟩ := hids 2 z0 rfl
  simp only [List.length_cons, List.length_nil] at hns hts
  have hfl := hBd.ok.l1
  have hrl := hBd.ok.l2
  repeat tb_rel
  refine c_declare (F := [(la, .list ([x0, y0, z0].map .int)), (ta, tp cells k)]) (l := [s]) P hBd.ok (by (first | lia | omega)) ?_
  have hdec := hBd.decl (x := "f") (l := [s]) (s := s) (by (first | lia | omega))
  repeat tb_rel
  refine s_list (vs := [x0, y0, z0].map .int) (by tb_start) (by decide) (by decide) (v := .int x0) rfl ?_ (by intro _ _; with_unfolding_all rfl)
  repeat tb_rel
  refine c_app (F := [(la, .list ([x0, y0, z0].map .int)), (ta, tp cells k)]) (f := Bi.ns.length) (l := [x0]) (ss := [s]) (s := s) P hdec.ok (by show Bi.ts.length ≤ 50000; (first | lia | omega)) (by rw [← hfl]; simp) (by simp) (by rw [← hrl]; simp) rfl (by simp) (fun j x s' hj hj' => ?_) fun fx B1 m1 => ?_
  · have hj0 : j = 0 := by
      have := (List.getElem?_eq_some_iff.mp hj).1
      simp at this; (first | lia | omega)
    subst hj0
    simp only [List.getElem?_cons_zero, Option.some.injEq] at hj hj'
    subst hj hj'
    exact ⟨_, ⟨ax.pos, ax.at_⟩, rfl⟩
  obtain ⟨g1, go1, hrow1⟩ := leaf_sem hdec m1 (by show Bi.ts.length < 40000; (first | lia | omega)) ⟨appNe.1, appNe.2.1, appNe.2.2.1⟩ (fun d e => by cases e) (Nat.le_refl _)
  have hb1 := m1.ble hdec.ok
  have hb1l : B1.ts.length ≤ Bi.ts.length + 1 := hb1.len.2
  have ax1 : At B1 x0 ⟨"app", [], s, .i (0 : Nat)⟩ := At.ble (B := { Bi with ns := Bi.ns ++ [Str.ofString "f"], fas := Bi.fas ++ [[s]], frs := Bi.frs ++ [s] }) ⟨ax.pos, ax.at_⟩ hb1
  have ay1 : At B1 y0 ⟨"app", [], s, .i (1 : Nat)⟩ := At.ble (B := { Bi with ns := Bi.ns ++ [Str.ofString "f"], fas := Bi.fas ++ [[s]], frs := Bi.frs ++ [s] }) ⟨ay.pos, ay.at_⟩ hb1
  have az1 : At B1 z0 ⟨"app", [], s, .i (2 : Nat)⟩ := At.ble (B := { Bi with ns := Bi.ns ++ [Str.ofString "f"], fas := Bi.fas ++ [[s]], frs := Bi.frs ++ [s] }) ⟨az.pos, az.at_⟩ hb1
  have hn1 : B1.ns.length ≤ 10 := by rw [m1.same.1]; simp; (first | lia | omega)
  repeat tb_rel
  refine o_append (vs := [x0, y0, z0].map .int) (by tb_start) (by simp) ?_
  repeat tb_rel
  refine c_fresh (F := [(la, .list ([x0, y0, z0].map .int ++ [.int fx])), (ta, tp cells k)]) P go1.bd.ok (by (first | lia | omega)) (by (first | lia | omega)) fun pp B2 m2 => ?_
  have hdec2 := go1.bd.decl (x := "p") (l := []) (s := 0) (by (first | lia | omega))
  obtain ⟨g2, go2, hrow2⟩ := leaf_sem hdec2 m2 (by show B1.ts.length < 40000; (first | lia | omega)) ⟨appNe.1, appNe.2.1, appNe.2.2.1⟩ (fun d e => by cases e) (Nat.le_refl _)
  have hb2 := m2.ble hdec2.ok
  have hb2l : B2.ts.length ≤ B1.ts.length + 1 := hb2.len.2
  have up2 : ∀ {i : Int} {t : T}, At B1 i t → At B2 i t := fun a => At.ble (B := { B1 with ns := B1.ns ++ [Str.ofString "p"], fas := B1.fas ++ [[]], frs := B1.frs ++ [0] }) ⟨a.pos, a.at_⟩ hb2
  repeat tb_rel
  refine s_list (vs := [x0, y0, z0].map .int ++ [.int fx]) (by tb_start) (by decide) (by decide) (v := .int x0) rfl ?_ (by intro _ _; with_unfolding_all rfl)
  repeat tb_rel
  refine s_list (vs := [x0, y0, z0].map .int ++ [.int fx]) (by tb_start) (by decide) (by decide) (v := .int y0) rfl ?_ (by intro _ _; with_unfolding_all rfl)
  repeat tb_rel
  refine c_ite (F := [(la, .list ([x0, y0, z0].map .int ++ [.int fx])), (ta, tp cells k)]) P m2.at' rfl (up2 ax1) (up2 ay1) rfl go2.bd.ok (by (first | lia | omega)) fun it B3 hb3 m3 => ?_
  obtain ⟨g3, go3, hrow3⟩ := leaf_sem go2.bd m3 (by (first | lia | omega)) ⟨iteNe.1, iteNe.2.1, iteNe.2.2⟩ (fun d e => by cases e) (Nat.le_refl _)
  have hb3l := hb3.len
  repeat tb_rel
  refine o_append (vs := [x0, y0, z0].map .int ++ [.int fx]) (by tb_start) (by simp) ?_
  repeat tb_rel
  refine ss_re (FRe.list .head (i := 5) rfl) ?_
  have qx := (up2 ax1).ble hb3
  have qy := (up2 ay1).ble hb3
  have qz := (up2 az1).ble hb3
  have qf := (up2 m1.at').ble hb3
  have qi := m3.at'
  have neq : ∀ {i j : Int} {t u : T}, At B3 i t → At B3 j u → t ≠ u → i ≠ j := fun a b h e => by
    subst e
    exact h (Option.some.inj (a.at_.symm.trans b.at_))
  refine law4 (L := [x0, y0, z0, fx, it]) (g := g3) P go3.bd hs (by (first | lia | omega)) (by simp) (by simp) ?_ (fun q hq => ?_) hk hcl h
  · have n1 : x0 ≠ y0 := neq qx qy (by simp)
    have n2 : x0 ≠ z0 := neq qx qz (by simp)
    have n3 : x0 ≠ fx := neq qx qf (by simp)
    have n4 : x0 ≠ it := neq qx qi (by simp)
    have n5 : y0 ≠ z0 := neq qy qz (by simp)
    have n6 : y0 ≠ fx := neq qy qf (by simp)
    have n7 : y0 ≠ it := neq qy qi (by simp)
    have n8 : z0 ≠ fx := neq qz qf (by simp)
    have n9 : z0 ≠ it := neq qz qi (by simp)
    have n10 : fx ≠ it := neq qf qi (by simp)
    simp [n1, n2, n3, n4, n5, n6, n7, n8, n9, n10]
  · simp only [List.mem_cons, List.not_mem_nil, or_false] at hq
    rcases hq with rfl | rfl | rfl | rfl | rfl
    · exact ⟨px, _, qx, rfl, appNe.1, appNe.2.1, appNe.2.2.1⟩
    · exact ⟨py, _, qy, rfl, appNe.1, appNe.2.1, appNe.2.2.1⟩
    · exact ⟨pz, _, qz, rfl, appNe.1, appNe.2.1, appNe.2.2.1⟩
    · exact ⟨m1.pos, _, qf, rfl, appNe.1, appNe.2.1, appNe.2.2.1⟩
    · exact ⟨m3.pos, _, qi, rfl, iteNe.1, iteNe.2.1, iteNe.2.2⟩
set_option maxHeartbeats 8000000 in
theorem law2 (P : Prog W) {v0 v1 : Option V} {ta : Addr} {cells : List Int} (hcl : cells.length ≤ 1000) (h : ∀ σ', Q (.bool true) σ') :
    aSs W (n + 9) (scopeS (top 39)) [v0, v1, some (.ref ta), none, none, none, none, none, none, none, none, none, none, none, none, none, none, none, none, none, none, none, none, none, none, none, none, none, none, none, none, none] [(ta, tp cells 0)]
      ((bodyS (top 39)).drop 2) (fun fl _ σ' => Q (flv fl) σ') := by
  ktr_rel
  repeat tb_rel
  refine aE_listF ?_
  repeat tb_rel
  refine k_next P (by decide) (by (first | lia | omega)) hcl fun z hz0 hz1 => ?_
  repeat tb_rel
  have hz : ∃ s : Int, [V.int 1, V.int 2][z.toNat]? = some (.int s) ∧ (s = 1 ∨ s = 2) := by
    have : z = 0 ∨ z = 1 := by (first | lia | omega)
    rcases this with rfl | rfl
    · exact ⟨1, rfl, .inl rfl⟩
    · exact ⟨2, rfl, .inr rfl⟩
  obtain ⟨s, hz, hs⟩ := hz
  refine s_flist hz0 (by (first | lia | omega)) hz ?_ (by intro _ _; with_unfolding_all rfl)
  repeat tb_rel
  refine c_newbank P fun ad => ?_
  repeat tb_rel
  refine ss_re (FRe.perm (τ := (ta, tp cells (0 + 1)) :: bank W ad bk0) List.perm_append_comm) ?_
  exact law3 P hs (by (first | lia | omega)) hcl h
inductive ICells (ns : List Int) (vs : List V) (acc : List V) (ρ : Ro) (τ : St) : Prop
  | mk (l done : List Int) (u : Option V) (h1 : vs = l.map .int) (h2 : ns.take 60 = done ++ l) (h3 : acc = (done.map absI).map .int) (h4 : ρ = [none, u, none]) (h5 : τ = []) : ICells ns vs acc ρ τ
set_option maxHeartbeats 8000000 in
theorem law_all (P : Prog W) {a : Addr} {xs : List Value} {ns : List Int} (hL : W.h0.IsList a (List.toArray xs)) (hI : IntsAre xs ns) (hns : ns.length ≤ 1000) (h : ∀ σ', Q (.bool true) σ') :
    acode W (n + 10) (gv W "law") [.con (.ref a)] [] Q := by
  refine acode_def (ρ0 := [some (.con (.ref a)), none, none, none, none, none, none, none, none, none, none, none, none, none, none, none, none, none, none, none, none, none, none, none, none, none, none, none, none, none, none, none]) P.f39.ok rfl ?_
  ktr_rel
  refine ss_listcomp (y := "cells") (j := 1) (ρ' := [none, none, none]) (.of (by decide +kernel)) rfl rfl (ai_flist ?_) (by intro env h; unfold swapsWith Env.blockKind Env.kindOf; rw [h]; rfl) (by intro _ _; rfl)
  refine aE_slice60B ?_
  repeat tb_rel
  refine ⟨a, xs, ns, rfl, hL, hI, by (first | lia | omega), ?_⟩
  refine ⟨_, rfl, by simp; (first | lia | omega), ?_⟩
  refine comp_inv (ICells ns) ?_ ?_ _ _ _ _ ⟨ns.take 60, [], none, rfl, rfl, rfl, rfl, rfl⟩
  · rintro v vs acc ρ τ ⟨l, done, u, he, hn, rfl, rfl, rfl⟩
    cases l with
    | nil => cases he
    | cons x l =>
      simp only [List.map_cons, List.cons.injEq] at he
      obtain ⟨rfl, rfl⟩ := he
      refine aAL_local (i := 1) rfl ?_
      show aE _ _ _ _ _ _ _
      repeat tb_rel
      exact ⟨l, done ++ [x], some (.int x), rfl, by rw [hn]; simp, by simp [absI], rfl, rfl⟩
  rintro acc ρ τ ⟨l, done, u, he, hn, rfl, rfl, rfl⟩ D0
  cases l with
  | cons _ _ => cases he
  | nil =>
  rw [List.append_nil] at hn
  subst hn
  refine ss_re (FRe.list .head (i := 1) rfl) ?_
  repeat tb_rel
  refine aE_dict2s ?_
  repeat tb_rel
  generalize hcs : (ns.take 60).map absI = cs
  have hcl : cs.length ≤ 60 := by rw [← hcs]; simp; (first | lia | omega)
  have hints : ∀ l : List Int, eqOks (l.map V.int) = true ∧ vdeps (l.map V.int) = 0 := fun l => by
    induction l with
    | nil => exact ⟨rfl, rfl⟩
    | cons a l ih => simp [eqOks, eqOk, vdeps, vdep, ih.1, ih.2]
  refine aE_listF (aEs_nil ⟨by simp, ?_⟩)
  have hok : eqOk (.flist (cs.map .int)) = true := (hints cs).1
  have hok0 : eqOk (.flist []) = true := rfl
  refine c_ne hok hok0 (by simp only [vdep, (hints cs).2]; decide) (by decide) ?_
  have hnil : ((cs.map V.int) = []) ↔ cs = [] := by cases cs <;> simp
  by_cases hc0 : cs = []
  · subst hc0
    rw [show veq (.flist ([].map V.int)) (.flist []) = true from (veq_iff _ _ hok hok0).mpr rfl]
    try tb_rel
    refine aE_listF ?_
    repeat tb_rel
    refine ⟨_, _, rfl, rfl, by decide +kernel, fun ta => ?_⟩
    refine aA_local (i := 2) rfl ?_
    exact law2 (cells := [0, 0, 2, 0, 0, 0]) P (by decide) h
  · rw [show veq (.flist (cs.map V.int)) (.flist []) = false from by
      cases q : veq (.flist (cs.map V.int)) (.flist []) with
      | false => rfl
      | true =>
        have := (veq_iff _ _ hok hok0).mp q
        injection this with this
        exact absurd (hnil.mp this) hc0]
    try tb_rel
    repeat tb_rel
    refine ⟨_, _, rfl, rfl, by decide +kernel, fun ta => ?_⟩
    refine aA_local (i := 2) rfl ?_
    exact law2 (cells := cs) P (by (first | lia | omega)) h
end
/- part P1 -/
/- ## what the program's heap tells of its defs -/
theorem zip_look {β : Type} : ∀ {ps : List Str} {xs : List β}, xs.length = ps.length → ∀ p ∈ ps, ((ps.zip xs).lookup p).isSome = true
  | [], _, _, _, h => by cases h
  | q :: ps, [], h, _, _ => by simp at h
  | q :: ps, x :: xs, h, p, hp => by
    simp only [List.zip_cons_cons, List.lookup_cons]
    cases e : p == q with
    | true => rfl
    | false =>
      cases hp with
      | head => simp at e
      | tail _ hp => exact zip_look (by simpa using h) p hp
theorem fm_cg {α β : Type} {f g : α → Option β} : ∀ {l : List α}, (∀ p ∈ l, f p = g p) → l.filterMap f = l.filterMap g
  | [], _ => rfl
  | a :: l, h => by
    simp only [List.filterMap_cons, h a (.head _), fm_cg fun p hp => h p (.tail _ hp)]
theorem zip_fm {β : Type} : ∀ {ps : List Str} {xs : List β}, xs.length = ps.length → ps.Nodup → ps.filterMap (fun n => ((ps.zip xs).lookup n).map (n, ·)) = ps.zip xs
  | [], _, _, _ => by simp
  | q :: ps, [], h, _ => by simp at h
  | q :: ps, x :: xs, h, hn => by
    simp only [List.nodup_cons] at hn
    simp only [List.zip_cons_cons, List.filterMap_cons, List.lookup_cons, BEq.rfl, Option.map_some]
    refine congrArg _ ?_
    refine (fm_cg fun p hp => ?_).trans (zip_fm (ps := ps) (xs := xs) (by simpa using h) hn.2)
    have e : (p == q) = false := by
      cases e : p == q with
      | false => rfl
      | true => rw [beq_iff_eq] at e; subst e; exact absurd hp hn.1
    rw [e]
noncomputable def bindS (A B : Sem (List (Str × Value))) (p : List Str) (xs : List Value) : Sem (List (Str × Value)) :=
  if (decide (xs.length > p.length) && true) = true then A else
    if (!((p.take (p.length - (List.drop (0 - p.length) ([] : List Value)).length)).filter (fun n => ((p.zip xs).lookup n).isNone)).isEmpty) = true then B else
      ((forIn ((p.drop (p.length - (List.drop (0 - p.length) ([] : List Value)).length)).zip (List.drop (0 - p.length) ([] : List Value))) (p.zip xs) fun (x : Str × Value) (r : List (Str × Value)) =>
        if ((r.lookup x.1).isNone) = true then pure (ForInStep.yield (r ++ [(x.1, x.2)])) else pure (ForInStep.yield r)) >>= fun r => pure ((p ++ []).filterMap fun n => (r.lookup n).map (n, ·)))
theorem bind_S {fd : FuncData} {ps : List Str} (h1 : fd.params.posonlyargs = []) (h2 : fd.params.args.map (·.arg) = ps) (h3 : fd.params.vararg = none) (h4 : fd.params.kwonlyargs = []) (h5 : fd.params.kwarg = none)
    (h6 : fd.defaults = .none) (xs : List Value) : ∃ A B, bindArgs fd ⟨xs, []⟩ = bindS A B ps xs := by
  obtain ⟨nm, q, ⟨po, ar, va, ko, kd, ka, ds⟩, bd, sc, gl, cl, df, kwd, doc, pm, an, cd, ct, bi⟩ := fd
  dsimp only at h1 h2 h3 h4 h5 h6
  subst h1 h2 h3 h4 h5 h6
  exact ⟨_, _, rfl⟩
theorem bindS_eq {A B : Sem (List (Str × Value))} {p : List Str} {xs : List Value} (hl : xs.length = p.length) (hm : p.filter (fun n => ((p.zip xs).lookup n).isNone) = []) (hf : p.filterMap (fun n => ((p.zip xs).lookup n).map (n, ·)) = p.zip xs) : bindS A B p xs = pure (p.zip xs) := by
  have e : List.drop (0 - p.length) ([] : List Value) = [] := List.drop_nil
  have e1 : (decide (xs.length > p.length) && true) = false := by rw [Bool.and_true, hl]; exact decide_eq_false (Nat.lt_irrefl _)
  unfold bindS
  rw [e1, e, if_neg Bool.false_ne_true, List.length_nil, Nat.sub_zero, List.take_length, hm, List.zip_nil_right, List.append_nil]
  exact congrArg (Pure.pure (f := Sem)) hf
theorem bind_plain {fd : FuncData} {ps : List Str} (h1 : fd.params.posonlyargs = []) (h2 : fd.params.args.map (·.arg) = ps) (h3 : fd.params.vararg = none) (h4 : fd.params.kwonlyargs = []) (h5 : fd.params.kwarg = none)
    (h6 : fd.defaults = .none) (hn : ps.Nodup) (xs : List Value) (hl : xs.length = ps.length) : bindArgs fd ⟨xs, []⟩ = pure (ps.zip xs) := by
  obtain ⟨A, B, e⟩ := bind_S h1 h2 h3 h4 h5 h6 xs
  refine e.trans (bindS_eq hl ?_ (zip_fm hl hn))
  rw [List.filter_eq_nil_iff]
  intro p hp
  rw [Option.isNone_eq_false_iff.mpr (zip_look hl p hp)]
  exact Bool.false_ne_true
theorem refV_ok {v : Value} {a : Addr} (h : refV v = some a) : v = .ref a := by
  cases v with
  | ref b => exact congrArg Value.ref (Option.some.inj h)
  | _ => exact nn h
theorem intV_ok {v : Value} {i : Int} (h : intV v = some i) : ∃ t, v = .int i t := by
  cases v with
  | int j t => exact ⟨t, congrArg (Value.int · t) (Option.some.inj h)⟩
  | _ => exact nn h
theorem funD_ok {d : Data} {fd : FuncData} (h : funD d = some fd) : d = .func fd := by
  induction d using Data.casesOn with
  | func b => exact congrArg Data.func (Option.some.inj h)
  | _ => exact nn h
theorem seqD_ok {d : Data} {l : List Value} (h : seqD d = some l) : ∃ n, d = .seq l.toArray n := by
  induction d using Data.casesOn with
  | seq xs n => exact ⟨n, congrArg (Data.seq · n) (congrArg List.toArray (Option.some.inj h))⟩
  | _ => exact nn h
theorem noneV_ok {v : Value} (h : isNoneV v = true) : v = .none := by
  cases v with
  | none => rfl
  | _ => exact ft h
theorem any_of {α : Type} {o : Option α} {p : α → Bool} (h : anyO o p = true) : ∃ x, o = some x ∧ p x = true := by
  cases o with
  | none => exact ft h
  | some x => exact ⟨x, rfl, h⟩
theorem join_of {α : Type} {o : Option (Option α)} {x : α} (h : o.join = some x) : o = some (some x) := by
  cases o with
  | none => exact nn h
  | some y => exact congrArg some h
theorem b1 {a b : Bool} (h : (a && b) = true) : a = true := (Bool.and_eq_true_iff.mp h).1
theorem b2 {a b : Bool} (h : (a && b) = true) : b = true := (Bool.and_eq_true_iff.mp h).2
theorem bn {a : Bool} (h : (!a) = true) : a = false := by cases a with
  | false => rfl
  | true => exact ft h
theorem defOf_ok {K : Frag} {f : Value} {fd : FuncData} (h : defOf K f = some fd) : ∃ a o, f = .ref a ∧ K.lookup a = some o ∧ o.data = .func fd := by
  obtain ⟨a, h1, h⟩ := Option.bind_eq_some_iff.mp h
  obtain ⟨o, h2, h⟩ := Option.bind_eq_some_iff.mp h
  exact ⟨a, o, refV_ok h1, h2, funD_ok h⟩
theorem defOk {W : Wd} {f : Value} {ps : List Str} {st : Stmt} (hn : ps.Nodup) (e : defB W.K f ps = true) (hb : bodyAt W.K f = bodyOf st) : FnOk W f ps (bodyS st) (scopeS st) := by
  obtain ⟨fd, hd, e⟩ := any_of e
  unfold bodyAt bodyOf at hb
  rw [hd] at hb
  have hb := Prod.mk.inj (Option.some.inj hb)
  obtain ⟨a, o, hf, ho, hdat⟩ := defOf_ok hd
  have e13 := b1 e
  have e12 := b1 e13
  have e11 := b1 e12
  have e10 := b1 e11
  have e9 := b1 e10
  have e8 := b1 e9
  have e7 := b1 e8
  have e6 := b1 e7
  have e5 := b1 e6
  have e4 := b1 e5
  have e3 := b1 e4
  have e2 := b1 e3
  exact ⟨⟨a, o, fd, hf, W.KIn _ _ ho, hdat, codeRec_of W.KIn (b1 e2), hb.1, hb.2, List.isEmpty_iff.mp (b2 e2), eq_of_beq (b2 e3), eq_of_beq (b2 e4),
      fun xs hl => bind_plain (List.isEmpty_iff.mp (b2 e5)) (eq_of_beq (b2 e6)) (Option.isNone_iff_eq_none.mp (b2 e7)) (List.isEmpty_iff.mp (b2 e8)) (Option.isNone_iff_eq_none.mp (b2 e9)) (noneV_ok (b2 e10)) hn xs hl⟩,
    hb.2 ▸ bn (b2 e11), hb.2 ▸ bn (b2 e12), hb.2 ▸ of_decide_eq_true (b2 e13), Kp.fn (b2 e)⟩
theorem glOf {W : Wd} {x : Str} {v : Value} (e : glO W.K x = some v) : W.mg x = some v ∧ glIn W.K x = v ∧ gv W x = v := by
  have h := mg_of W.KIn W.g (join_of e)
  exact ⟨h, congrArg (·.getD .none) e, congrArg (·.getD .none) h⟩
theorem glSome {W : Wd} {x : Str} (e : glB W.K x = true) : ∃ v, glO W.K x = some v := Option.isSome_iff_exists.mp e
theorem fnG {W : Wd} {x : Str} {ps : List Str} {st : Stmt} (hn : ps.Nodup) (e : (glB W.K x && defB W.K (glIn W.K x) ps) = true) (hb : bodyAt W.K (glIn W.K x) = bodyOf st) : FnG W x ps st := by
  obtain ⟨v, hv⟩ := glSome (b1 e)
  obtain ⟨g1, g2, g3⟩ := glOf hv
  have h := defOk hn (b2 e) hb
  rw [g2, ← g3] at h
  exact ⟨g1.trans (congrArg some g3.symm), h.kp, h⟩
theorem clOf {W : Wd} {c : Str} (e : clB W.K c = true) : W.mg c = some (.ref (cA W c)) ∧ glIn W.K c = .ref (cA W c) ∧ Kp W (.ref (cA W c)) ∧ ClsOk W (cA W c) ∧ makesIn W.K (cA W c) = true := by
  obtain ⟨v, hv⟩ := glSome (b1 e)
  obtain ⟨g1, g2, g3⟩ := glOf hv
  obtain ⟨C, hC, e⟩ := any_of (b2 e)
  rw [g2] at hC
  have hC := refV_ok hC
  subst hC
  have hA : cA W c = C := by unfold cA; rw [g1]
  rw [hA]
  have e5 := b1 e
  have e4 := b1 e5
  have e3 := b1 e4
  have e2 := b1 e3
  exact ⟨g1, g2, Kp.fn (b1 e2), ⟨b2 e2, b2 e3, eq_of_beq (b2 e4), b2 e5⟩, b2 e⟩
theorem mtG {W : Wd} {c x : Str} {ps : List Str} {st : Stmt} (hc : glIn W.K c = .ref (cA W c)) (hn : ps.Nodup) (e : mtB W.K c x ps = true) (hb : bodyAt W.K (mtF W.K c x) = bodyOf st) : MtG W c x ps st := by
  obtain ⟨v, hv, e⟩ := any_of e
  have e2 := b1 e
  obtain ⟨f, hf⟩ := Option.isSome_iff_exists.mp (b1 e2)
  have hf := refV_ok hf
  subst hf
  have hF2 : mtF W.K c x = .ref f := congrArg (·.getD .none) hv
  have hv := join_of hv
  rw [hc] at hv
  have hF : mf W c x = f := by unfold mf; rw [hv]
  rw [hF2] at hb
  have h := defOk hn (b2 e) hb
  rw [← hF] at h hv e2
  exact ⟨⟨hv, eq_of_beq (b2 e2), h.kp⟩, h⟩
theorem clG {W : Wd} {c : Str} (e : clB W.K c = true) {ps : List Str} {st : Stmt} (m : MtG W c "__init__" ps st) : ClG W c := by
  obtain ⟨h1, h2, h3, h4, h5⟩ := clOf e
  exact ⟨h1, h3, h4, ⟨h5, m.m.fn, m.m.ty⟩⟩
theorem intV_rel {W : Wd} {Z : Addr → Obj → Prop} {v : Value} {i : Int} (h : intV v = some i) : VRel W Z (.int i) v := by
  simp only [VRel]; exact intV_ok h
theorem intG {W : Wd} {x : Str} {i : Int} (e : intB W.K x i = true) : GV W x (.int i) := by
  obtain ⟨v, h1, h2⟩ := Option.bind_eq_some_iff.mp (eq_of_beq (show ((glO W.K x).bind intV == some i) = true from e))
  exact ⟨v, mg_of W.KIn W.g (join_of h1), intV_rel h2⟩
theorem pairG {W : Wd} {x : Str} {i j : Int} (e : pairB W.K x i j = true) : GV W x (.tup [.int i, .int j]) := by
  obtain ⟨a, h1, e⟩ := any_of e
  obtain ⟨v, h1, h2⟩ := Option.bind_eq_some_iff.mp h1
  obtain ⟨o, ho, e⟩ := any_of e
  have e2 := b1 e
  obtain ⟨l, hl, e⟩ := any_of (b2 e)
  obtain ⟨n, hs⟩ := seqD_ok hl
  have e := eq_of_beq e
  refine ⟨v, mg_of W.KIn W.g (join_of h1), ?_⟩
  simp only [VRel]
  refine ⟨a, o, l, n, refV_ok h2, W.KIn _ _ ho, ⟨eq_of_beq (b1 e2), hs, Option.isNone_iff_eq_none.mp (b2 e2)⟩, ?_⟩
  obtain ⟨v1, l1, h1, q1, e⟩ := List.map_eq_cons_iff.mp e
  obtain ⟨v2, l2, h3, q2, e⟩ := List.map_eq_cons_iff.mp e
  rw [h1, h3, List.map_eq_nil_iff.mp e]
  exact .cons (intV_rel q1) (.cons (intV_rel q2) (by simp only [VRels]))
/- part N2 -/
section
variable {W : Wd} (F : Facts W.K)
include F
theorem fnI {x : Str} {ps : List Str} {st : Stmt} (i : Nat) (h : fnTab[i]? = some (x, ps, st)) (hn : ps.Nodup) : FnG W x ps st := fnG hn (F.fn (x, ps, st) (List.mem_of_getElem? h)) (F.fb (x, ps, st) (List.mem_of_getElem? h))
theorem clI {c : Str} (i : Nat) (h : clTab[i]? = some c) : clB W.K c = true := F.cl _ (List.mem_of_getElem? h)
theorem mtI {c x : Str} {ps : List Str} {st : Stmt} (k i : Nat) (hc : clTab[k]? = some c) (h : mtTab[i]? = some (c, x, ps, st)) (hn : ps.Nodup) : MtG W c x ps st :=
  mtG (clOf (clI F k hc)).2.1 hn (F.mt (c, x, ps, st) (List.mem_of_getElem? h)) (F.mb (c, x, ps, st) (List.mem_of_getElem? h))
theorem naI {c : Str} {xs : List Str} (k i : Nat) (hc : clTab[k]? = some c) (h : naTab[i]? = some (c, xs)) : ∀ x ∈ xs, findIn W.K (.ref (cA W c)) x = some none := fun x hx => by
  have e := List.all_eq_true.mp (F.na _ (List.mem_of_getElem? h)) x hx
  rw [beq_iff_eq] at e
  dsimp only at e
  rw [(clOf (clI F k hc)).2.1] at e
  exact e
theorem progOf : Prog W where
  nb := fun x hx => by
    have e := F.nb x hx
    rw [beq_iff_eq] at e
    exact mg_none_of W.KIn W.g e
  zero := pairG (F.pair _ (List.mem_of_getElem? (i := 0) rfl))
  one := pairG (F.pair _ (List.mem_of_getElem? (i := 1) rfl))
  mone := pairG (F.pair _ (List.mem_of_getElem? (i := 2) rfl))
  bool := intG (F.int _ (List.mem_of_getElem? (i := 0) rfl))
  int := intG (F.int _ (List.mem_of_getElem? (i := 1) rfl))
  real := intG (F.int _ (List.mem_of_getElem? (i := 2) rfl))
  f8 := fnI F 0 rfl (by decide)
  f9 := fnI F 1 rfl (by decide)
  f10 := fnI F 2 rfl (by decide)
  f11 := fnI F 3 rfl (by decide)
  f12 := fnI F 4 rfl (by decide)
  f15 := fnI F 5 rfl (by decide)
  f16 := fnI F 6 rfl (by decide)
  f17 := fnI F 7 rfl (by decide)
  f18 := fnI F 8 rfl (by decide)
  f27 := fnI F 9 rfl (by decide)
  f28 := fnI F 10 rfl (by decide)
  f29 := fnI F 11 rfl (by decide)
  f30 := fnI F 12 rfl (by decide)
  f31 := fnI F 13 rfl (by decide)
  f32 := fnI F 14 rfl (by decide)
  f33 := fnI F 15 rfl (by decide)
  f34 := fnI F 16 rfl (by decide)
  f35 := fnI F 17 rfl (by decide)
  f36 := fnI F 18 rfl (by decide)
  f37 := fnI F 19 rfl (by decide)
  f38 := fnI F 20 rfl (by decide)
  f39 := fnI F 21 rfl (by decide)
  cL := clG (clI F 0 rfl) (mtI F 0 0 rfl rfl (by decide))
  cN := clG (clI F 1 rfl) (mtI F 1 6 rfl rfl (by decide))
  m14_0 := mtI F 0 0 rfl rfl (by decide)
  m14_1 := mtI F 0 1 rfl rfl (by decide)
  m14_2 := mtI F 0 2 rfl rfl (by decide)
  m14_3 := mtI F 0 3 rfl rfl (by decide)
  m14_4 := mtI F 0 4 rfl rfl (by decide)
  m14_5 := mtI F 0 5 rfl rfl (by decide)
  m23_0 := mtI F 1 6 rfl rfl (by decide)
  m23_4 := mtI F 1 7 rfl rfl (by decide)
  m23_6 := mtI F 1 8 rfl rfl (by decide)
  m23_8 := mtI F 1 9 rfl rfl (by decide)
  m23_13 := mtI F 1 10 rfl rfl (by decide)
  m23_14 := mtI F 1 11 rfl rfl (by decide)
  m23_15 := mtI F 1 12 rfl rfl (by decide)
  m23_16 := mtI F 1 13 rfl rfl (by decide)
  m23_19 := mtI F 1 14 rfl rfl (by decide)
  m23_22 := mtI F 1 15 rfl rfl (by decide)
  m23_23 := mtI F 1 16 rfl rfl (by decide)
  m23_24 := mtI F 1 17 rfl rfl (by decide)
  m24_6 := mtI F 1 18 rfl rfl (by decide)
  m24_8 := mtI F 1 19 rfl rfl (by decide)
  m24_9 := mtI F 1 20 rfl rfl (by decide)
  m25_0 := mtI F 1 21 rfl rfl (by decide)
  m25_1 := mtI F 1 22 rfl rfl (by decide)
  m25_2 := mtI F 1 23 rfl rfl (by decide)
  m25_3 := mtI F 1 24 rfl rfl (by decide)
  m25_6 := mtI F 1 25 rfl rfl (by decide)
  m25_7 := mtI F 1 26 rfl rfl (by decide)
  m25_8 := mtI F 1 27 rfl rfl (by decide)
  m25_9 := mtI F 1 28 rfl rfl (by decide)
  naL := naI F 0 0 rfl rfl
  naN := naI F 1 1 rfl rfl
end
/- part H5 -/
section
set_option maxHeartbeats 8000000
theorem wd_room (n : Nat) (h : n ≤ 50) : Room n callerA := by
  refine ⟨rfl, ?_, ?_⟩
  · show 1 + 300 + 3 * n + 3 < recursionLimit
    have : recursionLimit = 1000 := rfl
    (first | lia | omega)
  · show 4 + 20 * n + 100 < cLine
    have : 2000 ≤ cLine := by decide +kernel
    (first | lia | omega)
end
/- part H6 -/
section
set_option maxHeartbeats 8000000
theorem Goal : PySem.Challenge.rw_nz0150_01.Holds := headL (by w_on; w_witness2) (fun d kwd hdef => by
  w_on
  w_strict (
    intro w s₀ s₁ mg mb G Y fa o pm cd doc dV kV ho hd hcd hD hmg hg args vals as hpre hlay hrd hwl hlo
    obtain ⟨K, KX, F⟩ := Y
    have X := (Ground.X G).1
    have V := (Ground.X G).2
    refine Ground.open G ?_
    intro T B D TE TW
    try (refine guard_noD D (by decide +kernel) ?_; clear D)
    wrow_args hpre hlay hrd hwl hlo
    all_goals (first | refine callC_kw (enter_call ?_) | refine enter_call ?_)
    refine codeAny_mono ?_ (fun _ _ g => GoodW.toG g)
    rename_i ns hs hlay0 hl1 hr1 hl2 u4 u3 a xs u0 hL ra w1 r0 hI hr2 hc hc2
    have hsys : ∃ o, s₁.heap.get? sysModules = some o := by
      obtain ⟨mm, ⟨o, es, ep, e, _⟩, _⟩ := (T.seer (by decide +kernel)).mods
      exact ⟨o, e⟩
    have hns : ns.length ≤ 1000 := by (first | lia | omega)
    have P : Prog (Wd.mk PySem.Challenge.rw_nz0150_01.row.prog w s₁.heap K mg mb KX T.g T.b T.nolimit T.builtins hsys) := progOf F
    have hlaw : gv (Wd.mk PySem.Challenge.rw_nz0150_01.row.prog w s₁.heap K mg mb KX T.g T.b T.nolimit T.builtins hsys) "law" = .ref fa := by
      show (mg "law").getD .none = _
      rw [show mg "law" = some (.ref fa) from (congrArg mg (defOf_name hdef).symm).trans hmg]
      rfl
    have main := law_all (n := 20) (Q := fun v _ => v = .bool true) P hL hI hns (fun _ => rfl)
    rw [hlaw] at main
    refine main (fun _ => False) callerA s₁ [.ref a] (wd_room _ (by decide)) ⟨by simp, by simp, by simp, fun _ q => q.elim, fun b o e => ⟨e, by simp, id⟩⟩ (.one (by simp only [VRel])) _ ?_
    intro b r σ' s' nx rv hq
    subst hq
    simp only [VRel] at rv
    subst rv
    obtain ⟨⟨h', tk, rfl⟩, _, e⟩ := nx
    refine ⟨.inl ⟨_, .bool true, [], rfl, fun cls => ?_, .bool true, ?_, fun _ => ⟨List.nodup_nil, fun _ q => by cases q⟩⟩, fun b o q => (e b o q id (by simp)).1, rfl, hg⟩
    · rfl
    · wrow_post))
end
end Mine
theorem PySem.Challenge.cw_nz0150_01_holds : PySem.Challenge.rw_nz0150_01.Holds :=
  Mine.Goal
