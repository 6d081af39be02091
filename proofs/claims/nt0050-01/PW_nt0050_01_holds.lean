import PyProof.Rows.All
import Wide.All
import OpenK.AllK
import Wide.FinOn
import Lean
import PySem.Challenge.RW_nt0050_01
open PySem PySem.W PyProof.Rows
set_option Elab.async false
set_option maxRecDepth 100000
set_option maxHeartbeats 8000000
set_option linter.unusedVariables false
set_option genInjectivity false
set_option genSizeOf false
set_option genSizeOfSpec false
namespace Mine
noncomputable def topRunT (tb : String → Option Builtin) (p : Program) (w : World) (n₀ : Nat) (ann : Option Value) : Nat → SharedT → Thread → Option SharedT
  | 0, _, _ => none
  | n + 1, s, t => match through t with
    | true => some s
    | false => match stepOk n₀ ann t with
      | false => none
      | true => match stepT (denote tb) p w s t with
        | some (s', t') => topRunT tb p w n₀ ann n s' t'
        | none => none
theorem topRun_of {tb : String → Option Builtin} {p : Program} {w : World} {n₀ : Nat} {ann : Option Value} : ∀ {n : Nat} {s s' : SharedT} {t : Thread}, topRunT tb p w n₀ ann n s t = some s' → topRun tb p w n₀ ann n s.abs t = some s'.abs
  | 0, _, _, _, h => by cases h
  | n + 1, s, s', t, h => by
    unfold topRunT at h
    unfold topRun
    cases ht : through t with
    | true => rw [ht] at h; cases h; rfl
    | false =>
      rw [ht] at h
      cases hk : stepOk n₀ ann t with
      | false => rw [hk] at h; cases h
      | true =>
        rw [hk] at h
        cases hs : stepT (denote tb) p w s t with
        | none => rw [hs] at h; cases h
        | some r => obtain ⟨s₂, t₂⟩ := r; rw [hs] at h; rw [stepT_spec hs]; exact topRun_of h
/-- a list as a tree -/
noncomputable def btOf (l : List Obj) : Nat → Nat → Nat → BT
  | 0, _, _ => .nil
  | n + 1, a, b => match l[b]? with
    | some o => .node o (btOf l n (2 * a) (a + b)) (btOf l n (2 * a) (2 * a + b))
    | none => .nil
noncomputable def lookB : Frag → Nat → Option Obj
  | [], _ => none
  | p :: K, a => match Nat.beq p.1 a with
    | true => some p.2
    | false => lookB K a
noncomputable def tmplO (f : FuncData) : Obj := { cls := .none, data := .func { name := f.name, qualname := f.qualname, params := f.params, body := f.body, scope := f.scope, globals := 0, closure := [], defaults := .none, kwdefaults := .none } }
/-- the end's tree: the written objects as they are written, the others as the run leaves them -/
noncomputable def finT (K : Frag) (z : BT) (m : Nat) : Nat → Nat → Nat → BT
  | 0, _, _ => .nil
  | n + 1, a, b => match Nat.blt b m with
    | true => .node (match lookB K b with | some o => o | none => match lookB K (b + 2) with | some ⟨_, _, .func f, _⟩ => tmplO f | _ => (z.get b).getD default) (finT K z m n (2 * a) (a + b)) (finT K z m n (2 * a) (2 * a + b))
    | false => .nil
theorem left_tree {p q : Program} {loose : List Str} {Xt : Shared → Bool} {α : Type} {Yf : Shared → α} {Ya : World → α} {N : Nat} {g0 : Bool} {H₀ : Params → Heap} {T₀ : Params → BT} {n₀ : Nat} {life : Life} {gs₀ : Array GenState} {d₀ : Drawn} {k₀ : Nat} {ann : Option Value}
    (S₁ : World → OsState → SharedT)
    (open_ : ∀ w : World, (fencedOpening treeTable p w N).map (fun s => (s.heap, s.gens, s.drawn, s.toks)) = some (H₀ w.params, gs₀, d₀, k₀))
    (hT : ∀ P, absHeap (T₀ P) n₀ life = H₀ P)
    (size : ∀ w : World, ((H₀ w.params).isNs mainGlobals && gs₀.size == 0, (H₀ w.params).objs.size, (H₀ w.params).nsMap mainGlobals "__annotations__") = (true, n₀, ann))
    (run : ∀ w os, topRunT treeTable p w n₀ ann N ⟨T₀ w.params, n₀, life, gs₀, d₀, k₀, os⟩ (topStub p) = some (S₁ w os))
    (look1 : ∀ w os, (staticsOk (importedModules p.main.body) (H₀ w.params) (S₁ w os).abs.heap && namesBound p (S₁ w os).abs.heap && gensDone (S₁ w os).abs && laidKept (H₀ w.params) (S₁ w os).abs.heap) = true)
    (look2 : ∀ w os, openSeen q loose (importedModules p.main.body) Xt g0 (S₁ w os).abs = openGood q loose)
    (look3 : ∀ w os, Yf (S₁ w os).abs = Ya w) : LeftO p q loose Xt Yf Ya N g0 := fun w => by
  obtain ⟨⟨h, gs, d, k, os⟩, e, e'⟩ := Option.map_eq_some_iff.mp (open_ w)
  obtain ⟨rfl, rfl, rfl, rfl⟩ : h = H₀ w.params ∧ gs = gs₀ ∧ d = d₀ ∧ k = k₀ := by simpa using e'
  obtain ⟨z1, z2, z3⟩ : _ ∧ _ ∧ _ := by simpa only [Prod.mk.injEq] using size w
  have r := topRun_of (run w os)
  have hA : SharedT.abs ⟨T₀ w.params, n₀, life, gs, d, k, os⟩ = ⟨H₀ w.params, gs, d, k, os⟩ := by rw [← hT]; rfl
  rw [hA] at r
  have t : topFrom treeTable p w N ⟨H₀ w.params, gs, d, k, os⟩ = some (S₁ w os).abs := by
    unfold topFrom
    dsimp only
    rw [z1, z2, z3, r]
    show (match staticsOk (importedModules p.main.body) (H₀ w.params) (S₁ w os).abs.heap && namesBound p (S₁ w os).abs.heap && gensDone (S₁ w os).abs && laidKept (H₀ w.params) (S₁ w os).abs.heap with | true => _ | false => _) = _
    rw [look1 w os]
  unfold openEnds
  rw [e]
  show (topFrom treeTable p w N _).map _ = _
  rw [t]
  exact congrArg some (Prod.ext (look2 w os) (look3 w os))
noncomputable def vw : Program := view PySem.Challenge.pw_nt0050_01 [0, 2, 3, 4, 5, 7, 8, 9, 10, 11, 12, 13, 14, 15, 16, 17, 18, 19, 21, 22, 23, 24, 26, 27, 28, 31, 32, 33, 38, 39, 40, 41, 42, 43, 44, 47, 48, 49, 51, 52, 54, 55, 56, 57, 58, 59, 60, 61, 62, 63, 64, 65, 66]
noncomputable def vl : List Str := ["UniError", "SYLLABLES", "decomposed", "composed", "form_of", "quick_check", "is_form", "are_equivalent", "cluster_places", "_law_codes", "_law_known"]
noncomputable def topS (w : World) (os : OsState) : SharedT := ⟨btOf (boot_heap w.params).objs.toList 12 1 0, 11, {}, #[], boot_drawn, boot_toks, os⟩
noncomputable def topR (w : World) (os : OsState) : Option SharedT := topRunT treeTable PySem.Challenge.pw_nt0050_01 w 11 (some (.ref 6)) 6660 (topS w os) (topStub PySem.Challenge.pw_nt0050_01)
noncomputable def hdTabs : List Addr := [8, 16, 31, 47, 56, 63, 70, 77, 84, 91, 98, 105, 112, 119, 125, 132, 139, 153, 160, 167, 182, 190, 197, 204, 211, 219, 227, 235, 245, 252, 259, 274, 281, 288, 295, 310, 315, 329, 336, 343, 350, 355, 369, 376, 390, 397, 404, 411, 425, 430, 437, 453, 460, 467, 474, 481, 486, 493, 500]
noncomputable def hdTups : List Addr := [7, 11, 25, 46, 145, 148, 265, 268, 321, 324, 382, 385]
noncomputable def fillK (P : Params) (K : Frag) : Frag := (0, boot_o_0 P) :: (1, boot_o_1 P) :: (4, boot_o_4 P) :: (5, boot_o_5 P) :: (6, boot_o_6 P) :: (9, boot_o_9 P) :: (10, boot_o_10 P) :: hdTabs.map (fun a => (a, tabObj #[])) ++ (hdTups.map (fun a => (a, { cls := .type "tuple", data := .seq #[] })) ++ K)
noncomputable def finS (K : Params → Frag) (w : World) (os : OsState) : SharedT := ⟨finT (fillK w.params (K w.params)) (match topR w os with | some s => s.tree | none => .nil) 504 12 1 0, 504, {}, #[], {}, 936, os⟩
theorem stub {r : OpenRow} (hw : r.toRowW.promised) (hc : r.Holds) : r.Holds := hc
theorem said_law : PySem.Challenge.rw_nt0050_01.wellSaid = true := by kernel_rfl
section
local macro_rules | `(tactic| o_law) => `(tactic| refine holds_law said_law fun _ => ?_)
local macro_rules | `(tactic| o_head $_) => `(tactic| refine stub ?hw ?hc)
open_top hd for PySem.Challenge.rw_nt0050_01
end
noncomputable abbrev hdAs : List Addr := [2, 3, 15, 17, 18, 20, 21, 22, 29, 30, 32, 33, 35, 36, 37, 38, 39, 40, 43, 50, 51, 52, 55, 57, 58, 60, 61, 62, 64, 65, 67, 68, 69, 71, 72, 74, 75, 76, 78, 79, 81, 82, 83, 85, 86, 88, 89, 90, 92, 93, 95, 96, 97, 99, 100, 102, 103, 104, 106, 107, 109, 110, 111, 113, 114, 116, 117, 118, 121, 122, 123, 124, 126, 127, 129, 130, 131, 133, 134, 136, 137, 138, 140, 141, 143, 144, 152, 154, 155, 157, 158, 159, 161, 162, 164, 165, 166, 168, 169, 171, 172, 173, 174, 175, 176, 177, 180, 181, 183, 184, 186, 187, 188, 189, 191, 192, 194, 195, 196, 198, 199, 201, 202, 203, 205, 206, 208, 209, 210, 212, 213, 215, 216, 217, 218, 220, 221, 223, 224, 225, 226, 228, 229, 231, 232, 233, 234, 236, 237, 239, 240, 241, 242, 243, 244, 246, 247, 249, 250, 251, 253, 254, 256, 257, 258, 260, 261, 263, 264, 272, 273, 275, 276, 278, 279, 280, 282, 283, 285, 286, 287, 289, 290, 292, 293, 294, 296, 297, 299, 300, 301, 302, 303, 304, 305, 308, 309, 312, 313, 314, 316, 317, 319, 320, 328, 330, 331, 333, 334, 335, 337, 338, 340, 341, 342, 344, 345, 347, 348, 349, 352, 353, 354, 356, 357, 359, 360, 361, 362, 363, 364, 365, 368, 370, 371, 373, 374, 375, 377, 378, 380, 381, 389, 391, 392, 394, 395, 396, 398, 399, 401, 402, 403, 405, 406, 408, 409, 410, 412, 413, 415, 416, 417, 418, 419, 420, 421, 424, 427, 428, 429, 431, 432, 434, 435, 436, 438, 439, 441, 442, 443, 444, 445, 446, 447, 448, 449, 450, 451, 452, 454, 455, 457, 458, 459, 461, 462, 464, 465, 466, 468, 469, 471, 472, 473, 475, 476, 478, 479, 480, 483, 484, 485, 487, 488, 490, 491, 492, 494, 495, 497, 498, 499, 502, 503]
noncomputable abbrev hdLv : List (Str × WData) := [(Str.ofString "SYLLABLES", WData.int 11172)]
noncomputable abbrev hdHook : Hook := kmHook hd.heap_1 hdAs (fun _ => by kernel_rfl) [119]
noncomputable abbrev hdXt (s : Shared) : Bool := xlAt vw hdLv s && recOk PySem.Challenge.rw_nt0050_01.row.records s
theorem hd_run (w : World) (os : OsState) : topRunT treeTable PySem.Challenge.pw_nt0050_01 w 11 (some (.ref 6)) 6660 ⟨btOf (boot_heap w.params).objs.toList 12 1 0, 11, {}, #[], boot_drawn, boot_toks, os⟩ (topStub PySem.Challenge.pw_nt0050_01) = some (finS hd.heap_1 w os) := by kernel_rfl
theorem hd_l1 (w : World) (os : OsState) : (staticsOk (importedModules PySem.Challenge.pw_nt0050_01.main.body) (boot_heap w.params) (finS hd.heap_1 w os).abs.heap && namesBound PySem.Challenge.pw_nt0050_01 (finS hd.heap_1 w os).abs.heap && gensDone (finS hd.heap_1 w os).abs && laidKept (boot_heap w.params) (finS hd.heap_1 w os).abs.heap) = true := by kernel_rfl
theorem hd_l2 (w : World) (os : OsState) : openSeen vw vl (importedModules PySem.Challenge.pw_nt0050_01.main.body) hdXt true (finS hd.heap_1 w os).abs = openGood vw vl := by kernel_rfl
theorem hd_l3 (w : World) (os : OsState) : hdHook.obs (finS hd.heap_1 w os).abs = hdHook.val w := by kernel_rfl
theorem hd_size (w : World) : ((boot_heap w.params).isNs mainGlobals && (#[] : Array GenState).size == 0, (boot_heap w.params).objs.size, (boot_heap w.params).nsMap mainGlobals "__annotations__") = (true, 11, some (.ref 6)) := by kernel_rfl
theorem hd_T (P : Params) : absHeap (btOf (boot_heap P).objs.toList 12 1 0) 11 {} = boot_heap P := by kernel_rfl
theorem hd_left : LeftO PySem.Challenge.pw_nt0050_01 vw vl hdXt hdHook.obs hdHook.val 6660 true :=
  left_tree (T₀ := fun P => btOf (boot_heap P).objs.toList 12 1 0) (finS hd.heap_1) (boot_open rfl (by decide) fun _ => rfl) hd_T hd_size hd_run hd_l1 hd_l2 hd_l3
theorem hdw {d : DefRec} {kwd : List (Str × Expr)} (hdef : defOf vw PySem.Challenge.rw_nt0050_01.row.name = some (d, kwd)) (hp : PySem.Challenge.rw_nt0050_01.row.prog.theDef PySem.Challenge.rw_nt0050_01.row.name = some (d.params, d.body, d.scope)) (hk : kwWritten? d.params.kwonlyargs d.params.kw_defaults = some kwd)
    (walk : WalkO vw vl (XL vw hdLv) hdHook.says PySem.Challenge.rw_nt0050_01.row.toRowW d kwd fun f vs => PySem.call f vs) : PySem.Challenge.rw_nt0050_01.Holds :=
  hd (holds_open (r := PySem.Challenge.rw_nt0050_01.row) (Xt := hdXt) (XP := XL vw hdLv) hd_left hdHook.of hdHook.keeps (fun s e => xl_of s (Bool.and_eq_true_iff.mp e).1) XL.keeps hdef hp hk (fun s e => recFacts_of (Bool.and_eq_true_iff.mp e).2) rfl (row_said said_law)
    (by decide +kernel) ⟨rfl, rfl, rfl, rfl, rfl, by decide +kernel⟩ (by w_witness2) walk)
theorem wt_off : True := by
  w_top off
  trivial
section
variable {w : World}
noncomputable abbrev RetT := Heap → Addr → (Str → Option Value) → List (Addr × Obj) → Shared → (Value → Shared → Prop) → Prop
/-- a value comes back, the ledger stays -/
noncomputable abbrev RetV (R : Tok → Value) : RetT := fun h₀ L m news s Q => ∀ (t : Tok) (h' : Heap) (tk' : Nat), Fr h₀ L h' m → News h₀ L h' news → Q (R t) { s with heap := h', toks := tk' }
noncomputable abbrev tupO (its : List Value) : Obj := { cls := .type "tuple", data := .seq its.toArray }
noncomputable abbrev lstO (its : List Value) (n : Nat) : Obj := { cls := .type "list", data := .seq its.toArray n }
noncomputable abbrev RetT2 (x y : Int) : RetT := fun h₀ L m news s Q => ∀ (a : Addr) (t1 t2 : Tok) (h' : Heap) (tk' : Nat), Fr h₀ L h' m → News h₀ L h' ((a, tupO [.int x t1, .int y t2]) :: news) → (∀ p ∈ news, p.1 < a) → Q (.ref a) { s with heap := h', toks := tk' }
noncomputable abbrev RetT3 (x y z : Int) : RetT := fun h₀ L m news s Q => ∀ (a : Addr) (t1 t2 t3 : Tok) (h' : Heap) (tk' : Nat), Fr h₀ L h' m → News h₀ L h' ((a, tupO [.int x t1, .int y t2, .int z t3]) :: news) → (∀ p ∈ news, p.1 < a) → Q (.ref a) { s with heap := h', toks := tk' }
/-- a new list of ints -/
noncomputable abbrev RetL (cs : List Int) : RetT := fun h₀ L m news s Q => ∀ (a : Addr) (its : List Value) (n : Nat) (h' : Heap) (tk' : Nat), IntsAre its cs → Fr h₀ L h' m → News h₀ L h' ((a, lstO its n) :: news) → (∀ p ∈ news, p.1 < a) → Q (.ref a) { s with heap := h', toks := tk' }
/-- a contract of one def: D the depth it asks -/
noncomputable def Con (w : World) (D : Nat) (f : Addr) (vs : List Value) (news : List (Addr × Obj)) (R : RetT) : Prop :=
  ∀ (p : Program) (loose : List Str) (mean : ExcName → Option Value) (mg mb : Str → Option Value)
    (dp un : Nat) (gd : Option (List Code)) (cn : Str) (cs : Scope) (a : Addr) (ccd : Value) (cl : List (Str × Addr)) (outer : List Env) (A₀ : Around) (base h₀ : Heap) (L : Addr) (m : Str → Option Value) (s : Shared) (Q E : Value → Shared → Prop),
    Below A₀ base outer h₀ → Fr h₀ L s.heap m → (hd.heap_1 w.params).In h₀ → News h₀ L s.heap news → Top p loose mean mg mb h₀ → cs.kind = .function →
    dp + D < recursionLimit → un + 100 * D + 200 < cLine → R h₀ L m news s Q →
      wpAny (model PySem.Challenge.pw_nt0050_01 w) (ktrTop dp un gd cn cs L a ccd cl outer) (call (.ref f) vs) Q E s
theorem Con.use {w : World} {D : Nat} {f : Addr} {vs : List Value} {news : List (Addr × Obj)} {R : RetT} (C : Con w D f vs news R) {p : Program} {loose : List Str} {mean : ExcName → Option Value} {mg mb : Str → Option Value}
    {dp un : Nat} {gd : Option (List Code)} {cn : Str} {cs : Scope} {a : Addr} {ccd : Value} {cl : List (Str × Addr)} {outer : List Env} {A₀ : Around} {base h₀ : Heap} {L : Addr} {m : Str → Option Value} {s : Shared} {Q E : Value → Shared → Prop}
    (B : Below A₀ base outer h₀) (F : Fr h₀ L s.heap m) (X : (hd.heap_1 w.params).In h₀) (N : News h₀ L s.heap news) (T : Top p loose mean mg mb h₀) (hk : cs.kind = .function)
    (hd : dp + D < recursionLimit) (hu : un + 100 * D + 200 < cLine) (hR : R h₀ L m news s Q) :
      wpAny (model PySem.Challenge.pw_nt0050_01 w) (ktrTop dp un gd cn cs L a ccd cl outer) (call (.ref f) vs) Q E s :=
  C p loose mean mg mb dp un gd cn cs a ccd cl outer A₀ base h₀ L m s Q E B F X N T hk hd hu hR
theorem Con.use3 {w : World} {D : Nat} {f : Addr} {vs : List Value} {news : List (Addr × Obj)} {R : RetT} {p : Program} {loose : List Str} {mean : ExcName → Option Value} {mg mb : Str → Option Value}
    {dp un : Nat} {gd : Option (List Code)} {cn : Str} {cs : Scope} {a : Addr} {ccd : Value} {cl : List (Str × Addr)} {outer : List Env} {A₀ : Around} {base h₀ : Heap} {L : Addr} {m : Str → Option Value} {s : Shared} {Q E : Value → Shared → Prop}
    (F : Fr h₀ L s.heap m) (N : News h₀ L s.heap news) (B : Below A₀ base outer h₀) (X : (hd.heap_1 w.params).In h₀) (T : Top p loose mean mg mb h₀) (hk : cs.kind = .function) (C : Con w D f vs news R)
    (hd : dp + D < recursionLimit) (hu : un + 100 * D + 200 < cLine) (hR : R h₀ L m news s Q) :
      wpAny (model PySem.Challenge.pw_nt0050_01 w) (ktrTop dp un gd cn cs L a ccd cl outer) (call (.ref f) vs) Q E s :=
  C p loose mean mg mb dp un gd cn cs a ccd cl outer A₀ base h₀ L m s Q E B F X N T hk hd hu hR
section
variable {h₀ : Heap} {L : Addr} {m : Str → Option Value} {news news' : List (Addr × Obj)} {s : Shared} {Q : Value → Shared → Prop} {h' : Heap} {tk' : Nat} {a : Addr}
end
structure JP (P : Prop) (b : Bool) (s s' : Shared) : Prop where
  iff : b = true ↔ P
  st : ∃ tk, s' = { s with toks := tk }
noncomputable def nameLocal (cs : Scope) (x : Str) : Bool := cs.kind == .function && (cs.names.lookup x == some .local && !(x == ("__debug__" : Str)))
theorem ldq {M : Model} {A : Around} {E : Value → Shared → Prop} {s : Shared} {name : Str} {scope : Scope} {L a : Addr} {cd : Value} {h₀ : Heap} {m : Str → Option Value} {x : Str} {pos : Pos} {v : Value} {cl : List (Str × Addr)} {Q : Value → Shared → Prop} (hc : nameLocal scope x = true) (F : Fr h₀ L s.heap m) (hv : m x = some v) (h : Q v s) :
    wpAny M A (eval (.Name x pos) (envX name scope L a cd cl)) Q E s := by
  simp only [nameLocal, Bool.and_eq_true, beq_iff_eq, Bool.not_eq_true'] at hc
  exact nameX_L F hv h hc.1 hc.2.1 hc.2.2
theorem frTo {h₀ h : Heap} {L : Addr} {m m' : Str → Option Value} (F : Fr h₀ L h m) (e : ∀ y, m y = m' y) : Fr h₀ L h m' := by
  have : m = m' := funext e
  subst this; exact F
theorem lt_of_allLt {d : Addr} {l : List (Addr × Obj)} (h : AllLt d l) : ∀ p ∈ l, p.1 < d := by
  induction l with
  | nil => exact fun _ h => nomatch h
  | cons a r ih => exact fun p hp => (List.mem_cons.mp hp).elim (fun e => e ▸ h.1) fun hp => ih h.2 p hp
local macro_rules | `(tactic| walk_at "kwL") => `(tactic| (try ((with_reducible rename (∀ p ∈ _, _ < _) => l1); k_lt l1)))
local macro_rules | `(tactic| walk_at "kwN") => `(tactic| (try ((with_reducible rename News _ _ _ _ => N9); dsimp only at N9)))
local macro_rules | `(tactic| walk_at $s:str) => do `(tactic| k_extra $(Lean.Syntax.mkStrLit ("m:" ++ s.getString)))
local macro_rules | `(tactic| k_mem) => `(tactic| walk_at "k_mem")
theorem kw1 : True := by
  (k_with "m:k_mem" => (assumption))
  trivial
local macro_rules | `(tactic| k_all) => `(tactic| walk_at "k_all")
theorem kw2 : True := by
  (k_with "m:k_all" => (assumption))
  trivial
theorem lookup_mem {α β : Type} [BEq α] [LawfulBEq α] {x : α} {v : β} : ∀ {l : List (α × β)}, l.lookup x = some v → (x, v) ∈ l
  | [], h => nomatch h
  | (y, u) :: l, h => by
    rw [List.lookup_cons] at h
    split at h
    · rename_i e; cases h; rw [eq_of_beq e]; exact .head _
    · exact .tail _ (lookup_mem h)
/-! simple expressions and tests, all at once: names of the frame, constants, sums and differences of ints, comparisons -/
noncomputable def opB {β : Type} : Option (Value × Nat) → (Value → Nat → Option β) → Option β
  | some (a, t), k => k a t
  | none, _ => none
theorem opB_some {β : Type} {o : Option (Value × Nat)} {k : Value → Nat → Option β} {r : β} (h : opB o k = some r) : ∃ a t, o = some (a, t) ∧ k a t = some r := by
  cases o with
  | none => exact nomatch (show (none : Option β) = some _ from h)
  | some q => exact ⟨q.1, q.2, rfl, h⟩
noncomputable def opV : Option Value → Nat → Option (Value × Nat)
  | some v, t => some (v, t)
  | none, _ => none
theorem opV_some {o : Option Value} {t : Nat} {v : Value} {t' : Nat} (h : opV o t = some (v, t')) : o = some v ∧ t = t' := by
  cases o with
  | none => exact nomatch (show (none : Option (Value × Nat)) = some _ from h)
  | some q => cases (show some (q, t) = some (v, t') from h); exact ⟨rfl, rfl⟩
theorem cond_some {β : Type} {b : Bool} {x : Option β} {r : β} (h : cond b x none = some r) : b = true ∧ x = some r := by
  cases b with
  | true => exact ⟨rfl, h⟩
  | false => exact nomatch (show (none : Option β) = some _ from h)
theorem cond_none {β : Type} {b : Bool} {x : Option β} {r : β} (h : cond b none x = some r) : b = false ∧ x = some r := by
  cases b with
  | false => exact ⟨rfl, h⟩
  | true => exact nomatch (show (none : Option β) = some _ from h)
noncomputable def intOf : Value → Option Int
  | .int x _ => some x
  | _ => none
theorem intOf_some {v : Value} {x : Int} (h : intOf v = some x) : ∃ t, v = .int x t := by
  cases v with
  | int y t => cases (show some y = some x from h); exact ⟨t, rfl⟩
  | _ => exact nomatch (show (none : Option Int) = some _ from h)
noncomputable def strOf : Value → Option Str
  | .str x _ => some x
  | _ => none
theorem strOf_some {v : Value} {x : Str} (h : strOf v = some x) : ∃ t, v = .str x t := by
  cases v with
  | str y t => cases (show some y = some x from h); exact ⟨t, rfl⟩
  | _ => exact nomatch (show (none : Option Str) = some _ from h)
/-- two values by one reading -/
noncomputable def two {α β : Type} : Option α → Option α → (α → α → Option β) → Option β
  | some x, some y, k => k x y
  | some _, none, _ => none
  | none, _, _ => none
theorem two_some {α β : Type} {o o' : Option α} {k : α → α → Option β} {r : β} (h : two o o' k = some r) : ∃ x y, o = some x ∧ o' = some y ∧ k x y = some r := by
  cases o with
  | none => exact nomatch (show (none : Option β) = some _ from h)
  | some x => cases o' with
    | none => exact nomatch (show (none : Option β) = some _ from h)
    | some y => exact ⟨x, y, rfl, rfl, h⟩
/-- a comparison of ints, as a test -/
inductive CP where
  | lt (x y : Int) | le (x y : Int) | eq (x y : Int) | ne (x y : Int)
@[reducible] noncomputable def CP.P : CP → Prop
  | .lt x y => x < y
  | .le x y => x ≤ y
  | .eq x y => x = y
  | .ne x y => ¬ x = y
noncomputable def CP.b : CP → Bool
  | .lt x y => decide (x < y)
  | .le x y => decide (x ≤ y)
  | .eq x y => x == y
  | .ne x y => x != y
theorem CP.bP (c : CP) : c.b = true ↔ c.P := by
  cases c with
  | lt => exact decide_eq_true_iff
  | le => exact decide_eq_true_iff
  | eq => exact beq_iff_eq
  | ne => exact bne_iff_ne
noncomputable def cpOf (op : CmpOp) (x y : Int) : Option CP :=
  match op with
  | .Eq => some (.eq x y)
  | .NotEq => some (.ne x y)
  | .Lt => some (.lt x y)
  | .LtE => some (.le x y)
  | .Gt => some (.lt y x)
  | .GtE => some (.le y x)
  | .Is => none
  | .IsNot => none
  | .In => none
  | .NotIn => none
noncomputable def evCP (op : CmpOp) (v v' : Value) : Option CP := two (intOf v) (intOf v') (cpOf op)
noncomputable def evC (c : Const) (t : Nat) : Option (Value × Nat) :=
  match c with
  | .int i => some (.int i t, t + 1)
  | .str x => some (.str x t, t + 1)
  | .none => some (.none, t)
  | .bool b => some (.bool b, t)
  | _ => none
noncomputable def evI (op : Operator) (t : Nat) (x y : Int) : Option (Value × Nat) :=
  match op with
  | .Add => some (.int (x + y) t, t + 1)
  | .Sub => some (.int (x - y) t, t + 1)
  | .Mod => cond (decide (y = 0)) none (some (.int (x.fmod y) t, t + 1))
  | .FloorDiv => cond (decide (y = 0)) none (cond (decide (y.natAbs.log2 < 9000)) (some (.int (x.fdiv y) t, t + 1)) none)
  | .Mult => cond (decide (Builtin.Int.intBits y ≤ 64)) (some (.int (x * y) t, t + 1)) none
  | _ => none
noncomputable def evOp (op : Operator) (v v' : Value) (t : Nat) : Option (Value × Nat) := two (intOf v) (intOf v') (evI op t)
noncomputable def isNone : Value → Option Bool
  | .none => some true
  | .int _ _ => some false
  | .str _ _ => some false
  | .bool _ => some false
  | .ref _ => some false
  | _ => none
noncomputable def notNone : Value → Option Bool
  | .none => some false
  | .int _ _ => some true
  | .str _ _ => some true
  | .bool _ => some true
  | .ref _ => some true
  | _ => none
noncomputable def nonB : Value → Bool
  | .none => true
  | _ => false
theorem nonB_some {v : Value} (h : nonB v = true) : v = .none := by
  cases v with
  | none => rfl
  | _ => exact nomatch (show false = true from h)
noncomputable def evIs (op : CmpOp) (v v' : Value) : Option Bool :=
  match op with
  | .Is => cond (nonB v') (isNone v) none
  | .IsNot => cond (nonB v') (notNone v) none
  | .Eq => two (strOf v) (strOf v') fun x y => some (x == y)
  | .NotEq => two (strOf v) (strOf v') fun x y => some (x != y)
  | _ => none
noncomputable def opO : Option CP → Option Bool → Option Bool
  | some c, _ => some c.b
  | none, o => o
noncomputable def evCmp (op : CmpOp) (v v' : Value) : Option Bool := opO (evCP op v v') (evIs op v v')
/-- the names of ints that the text binds at its top -/
noncomputable def gtab : List (Str × Value) := [("MAX_CODE", .int 1114111 196), ("SYLLABLE_FIRST", .int 44032 256), ("LEAD_FIRST", .int 4352 258), ("VOWEL_FIRST", .int 4449 260), ("TAIL_NONE", .int 4519 262), ("LEADS", .int 19 264), ("VOWELS", .int 21 266), ("TAILS", .int 28 268), ("SYLLABLES", .int 11172 271)]
theorem gtab_all (P : Params) : gtab.map (fun q => nsIn (hd.heap_1 P) mainGlobals q.1) = gtab.map (fun q => some (some q.2)) := by kernel_rfl
theorem gtab_at {P : Params} {x : Str} {v : Value} (h : gtab.lookup x = some v) : nsIn (hd.heap_1 P) mainGlobals x = some (some v) :=
  List.map_inj_left.mp (gtab_all P) (x, v) (lookup_mem h)
noncomputable def nameGlobal (cs : Scope) (x : Str) : Bool := cs.kind == .function && (cs.names.lookup x == some .globalImplicit && !(x == ("__debug__" : Str)))
noncomputable def ev (sc : Scope) (m : Str → Option Value) : Nat → Expr → Nat → Option (Value × Nat)
  | 0, _, _ => none
  | n + 1, e, t => match e with
    | .Name x _ => cond (nameLocal sc x) (opV (m x) t) (cond (nameGlobal sc x) (opV (gtab.lookup x) t) none)
    | .Constant c _ _ => evC c t
    | .BinOp l op r _ => opB (ev sc m n l t) fun a t1 => opB (ev sc m n r t1) fun b t2 => evOp op a b t2
    | _ => none
noncomputable def evs (sc : Scope) (m : Str → Option Value) : List Expr → Nat → Option (List Value × Nat)
  | [], t => some ([], t)
  | e :: r, t => opB (ev sc m 6 e t) fun v t1 => match evs sc m r t1 with
    | some (vs, t2) => some (v :: vs, t2)
    | none => none
section
variable {A : Around} {E : Value → Shared → Prop} {name : Str} {scope : Scope} {L a : Addr} {cd : Value} {cl : List (Str × Addr)} {h₀ : Heap} {m mg mb : Str → Option Value} {p : Program} {loose : List Str}
theorem evC_ok {c : Const} {k : Nat} {pos : Pos} {env : Env} {s : Shared} {v : Value} {t' : Nat} {Q : Value → Shared → Prop} (h : evC c s.toks = some (v, t')) (q : Q v { s with toks := t' }) : wpAny (model PySem.Challenge.pw_nt0050_01 w) A (eval (.Constant c k pos) env) Q E s := by
  cases c with
  | none => cases h; exact wpAny_Constant_none q
  | bool => cases h; exact wpAny_Constant_bool q
  | int => cases h; exact wpAny_Constant_int q
  | str => cases h; exact wpAny_Constant_str q
  | _ => exact nomatch (show (none : Option (Value × Nat)) = some _ from h)
theorem evOp_ok {op : Operator} {x y : Value} {s : Shared} {v : Value} {t' : Nat} {Q : Value → Shared → Prop} (h : evOp op x y s.toks = some (v, t')) (q : Q v { s with toks := t' }) : wpAny (model PySem.Challenge.pw_nt0050_01 w) A (binaryOp op x y) Q E s := by
  obtain ⟨i, j, hi, hj, h⟩ := two_some h
  obtain ⟨_, rfl⟩ := intOf_some hi
  obtain ⟨_, rfl⟩ := intOf_some hj
  cases op with
  | Add => cases h; exact add_int q
  | Sub => cases h; exact sub_int q
  | Mult => obtain ⟨hy, h⟩ := cond_some h; cases h; exact mul_int q (IntMulOk.of_right (of_decide_eq_true hy))
  | Mod => obtain ⟨hy, h⟩ := cond_none h; cases h; exact mod_int' (of_decide_eq_false hy) q
  | FloorDiv => obtain ⟨hy, h⟩ := cond_none h; obtain ⟨hz, h⟩ := cond_some h; cases h; exact floordiv_int (of_decide_eq_false hy) q (Or.inl (PyProof.noPylong_of_log2 (of_decide_eq_true hz)))
  | _ => exact nomatch (show (none : Option (Value × Nat)) = some _ from h)
theorem ev_ok : ∀ (n : Nat) (e : Expr) (s : Shared) (v : Value) (t' : Nat) (Q : Value → Shared → Prop), Fr h₀ L s.heap m → (hd.heap_1 w.params).In h₀ → TopRead p loose mg mb h₀ → ev scope m n e s.toks = some (v, t') → Q v { s with toks := t' } → wpAny (model PySem.Challenge.pw_nt0050_01 w) A (eval e (envX name scope L a cd cl)) Q E s
  | 0, _, _, _, _, _, _, _, _, h, _ => nomatch h
  | n + 1, e, s, v, t', Q, F, X, T, h, q => by
    cases e with
    | Name x pos =>
      replace h : cond (nameLocal scope x) (opV (m x) s.toks) (cond (nameGlobal scope x) (opV (gtab.lookup x) s.toks) none) = some (v, t') := h
      cases hc : nameLocal scope x with
      | true =>
        rw [hc] at h
        obtain ⟨hv, rfl⟩ := opV_some (show opV (m x) s.toks = _ from h)
        exact ldq hc F hv q
      | false =>
        rw [hc] at h
        obtain ⟨hg, h⟩ := cond_some (show cond (nameGlobal scope x) (opV (gtab.lookup x) s.toks) none = _ from h)
        obtain ⟨hv, rfl⟩ := opV_some h
        simp only [nameGlobal, Bool.and_eq_true, beq_iff_eq, Bool.not_eq_true'] at hg
        exact nameX_K F X T (gtab_at hv) q hg.1 hg.2.1 hg.2.2
    | Constant c k pos => exact evC_ok h q
    | BinOp l op r pos =>
      obtain ⟨x, t1, h1, h⟩ := opB_some (show opB (ev scope m n l s.toks) (fun a t1 => opB (ev scope m n r t1) fun b t2 => evOp op a b t2) = _ from h)
      obtain ⟨y, t2, h2, h⟩ := opB_some h
      exact wpAny_BinOp (ev_ok n l s x t1 _ F X T h1 (ev_ok n r { s with toks := t1 } y t2 _ F X T h2 (evOp_ok (s := { s with toks := t2 }) h q)))
    | _ => exact nomatch (show (none : Option (Value × Nat)) = some _ from h)
theorem evs_ok {pos : Pos} : ∀ (l : List Expr) (s : Shared) (vs : List Value) (t' : Nat) (Q : List Value → Shared → Prop), Fr h₀ L s.heap m → (hd.heap_1 w.params).In h₀ → TopRead p loose mg mb h₀ → evs scope m l s.toks = some (vs, t') → Q vs { s with toks := t' } → wpAny (model PySem.Challenge.pw_nt0050_01 w) A (spliced (backTo pos (starEach l (envX name scope L a cd cl)))) Q E s
  | [], s, vs, t', Q, F, X, T, h, q => by cases h; exact args_nil q
  | e :: r, s, vs, t', Q, F, X, T, h, q => by
    obtain ⟨v, t1, h1, h⟩ := opB_some (show opB (ev scope m 6 e s.toks) (fun v t1 => match evs scope m r t1 with
      | some (vs, t2) => some (v :: vs, t2)
      | none => none) = _ from h)
    cases h2 : evs scope m r t1 with
    | none => rw [h2] at h; cases h
    | some u =>
      rw [h2] at h
      cases h
      refine args_cons (ev_ok 6 e s v t1 _ F X T h1 (evs_ok r { s with toks := t1 } u.1 u.2 _ F X T h2 q)) ?_
      cases e with
      | Starred => exact nomatch (show (none : Option (Value × Nat)) = some _ from h1)
      | _ => rfl
theorem cpOf_ok {op : CmpOp} {x y : Int} {t t' : Nat} {c : CP} {s : Shared} {Q : Bool → Shared → Prop} (h : cpOf op x y = some c) (q : Q c.b s) : wpAny (model PySem.Challenge.pw_nt0050_01 w) A (compareOp op (.int x t) (.int y t')) (fun c s₂ => wpAny (model PySem.Challenge.pw_nt0050_01 w) A (truthy c) Q E s₂) E s := by
  cases op with
  | Eq => cases h; exact eq_int (wpAny_truthy_bool q)
  | NotEq => cases h; exact ne_int (wpAny_truthy_bool q)
  | Lt => cases h; exact lt_int (wpAny_truthy_bool q)
  | LtE => cases h; exact le_int (wpAny_truthy_bool q)
  | Gt => cases h; exact gt_int (wpAny_truthy_bool q)
  | GtE => cases h; exact ge_int (wpAny_truthy_bool q)
  | _ => exact nomatch (show (none : Option CP) = some _ from h)
theorem evIs_ok {op : CmpOp} {x y : Value} {b : Bool} {s : Shared} {Q : Bool → Shared → Prop} (h : evIs op x y = some b) (q : Q b s) : wpAny (model PySem.Challenge.pw_nt0050_01 w) A (compareOp op x y) (fun c s₂ => wpAny (model PySem.Challenge.pw_nt0050_01 w) A (truthy c) Q E s₂) E s := by
  cases op with
  | Is =>
    obtain ⟨hn, h⟩ := cond_some h
    cases nonB_some hn
    cases x with
    | none => cases h; exact is_none_none (wpAny_truthy_bool q)
    | int => cases h; exact is_int_none (wpAny_truthy_bool q)
    | str => cases h; exact is_str_none (wpAny_truthy_bool q)
    | bool => cases h; exact is_bool_none (wpAny_truthy_bool q)
    | ref => cases h; exact is_ref_none (wpAny_truthy_bool q)
    | _ => exact nomatch (show (none : Option Bool) = some _ from h)
  | IsNot =>
    obtain ⟨hn, h⟩ := cond_some h
    cases nonB_some hn
    cases x with
    | none => cases h; exact isnot_none_none (wpAny_truthy_bool q)
    | int => cases h; exact isnot_int_none (wpAny_truthy_bool q)
    | str => cases h; exact isnot_str_none (wpAny_truthy_bool q)
    | bool => cases h; exact isnot_bool_none (wpAny_truthy_bool q)
    | ref => cases h; exact isnot_ref_none (wpAny_truthy_bool q)
    | _ => exact nomatch (show (none : Option Bool) = some _ from h)
  | Eq =>
    obtain ⟨i, j, hi, hj, h⟩ := two_some h
    obtain ⟨_, rfl⟩ := strOf_some hi
    obtain ⟨_, rfl⟩ := strOf_some hj
    cases h
    exact eq_str (wpAny_truthy_bool q)
  | NotEq =>
    obtain ⟨i, j, hi, hj, h⟩ := two_some h
    obtain ⟨_, rfl⟩ := strOf_some hi
    obtain ⟨_, rfl⟩ := strOf_some hj
    cases h
    exact ne_str (wpAny_truthy_bool q)
  | _ => exact nomatch (show (none : Option Bool) = some _ from h)
theorem evCmp_ok {op : CmpOp} {x y : Value} {b : Bool} {s : Shared} {Q : Bool → Shared → Prop} (h3 : evCmp op x y = some b) (q : Q b s) : wpAny (model PySem.Challenge.pw_nt0050_01 w) A (compareOp op x y) (fun c s₂ => wpAny (model PySem.Challenge.pw_nt0050_01 w) A (truthy c) Q E s₂) E s := by
  cases hc : evCP op x y with
  | none =>
    replace h3 : opO (evCP op x y) (evIs op x y) = some b := h3
    rw [hc] at h3
    exact evIs_ok h3 q
  | some c =>
    replace h3 : opO (evCP op x y) (evIs op x y) = some b := h3
    rw [hc] at h3
    cases (show some c.b = some b from h3)
    obtain ⟨i, j, hi, hj, h⟩ := two_some hc
    obtain ⟨_, rfl⟩ := intOf_some hi
    obtain ⟨_, rfl⟩ := intOf_some hj
    exact cpOf_ok h q
theorem evT_ok {l r : Expr} {op : CmpOp} {pos : Pos} {whole : Sem Value} {s : Shared} {x y : Value} {t1 t2 : Nat} {b : Bool} {Q : Bool → Shared → Prop} (F : Fr h₀ L s.heap m) (X : (hd.heap_1 w.params).In h₀) (T : TopRead p loose mg mb h₀) (h1 : ev scope m 6 l s.toks = some (x, t1)) (h2 : ev scope m 6 r t1 = some (y, t2)) (h3 : evCmp op x y = some b) (hm : behindInMarks op r = false)
    (q : Q b { s with toks := t2 }) : wpAny (model PySem.Challenge.pw_nt0050_01 w) A (isTrue (.Compare l [op] [r] pos) (envX name scope L a cd cl) whole) Q E s :=
  wpAny_isTrue_Compare1 (ev_ok 6 l s x t1 _ F X T h1 (ev_ok 6 r { s with toks := t1 } y t2 _ F X T h2 (evCmp_ok (s := { s with toks := t2 }) h3 q))) hm
theorem evT2_ok {l r r' : Expr} {op op' : CmpOp} {pos : Pos} {whole : Sem Value} {s : Shared} {x y z : Value} {t1 t2 t3 : Nat} {b b' : Bool} {Q : Bool → Shared → Prop} (F : Fr h₀ L s.heap m) (X : (hd.heap_1 w.params).In h₀) (T : TopRead p loose mg mb h₀) (h1 : ev scope m 6 l s.toks = some (x, t1)) (h2 : ev scope m 6 r t1 = some (y, t2)) (h3 : evCmp op x y = some b)
    (h4 : ev scope m 6 r' t2 = some (z, t3)) (h5 : evCmp op' y z = some b') (hm : lastMarks [op, op'] [r, r'] = false)
    (q : if b = true then Q b' { s with toks := t3 } else Q false { s with toks := t2 }) : wpAny (model PySem.Challenge.pw_nt0050_01 w) A (isTrue (.Compare l [op, op'] [r, r'] pos) (envX name scope L a cd cl) whole) Q E s := by
  refine isTrue_chain (ev_ok 6 l s x t1 _ F X T h1 (test_link (ev_ok 6 r { s with toks := t1 } y t2 _ F X T h2 (evCmp_ok (s := { s with toks := t2 }) h3 ?_)))) hm
  cases b with
  | true => exact test_last (ev_ok 6 r' { s with toks := t2 } z t3 _ F X T h4 (evCmp_ok (s := { s with toks := t3 }) h5 q))
  | false => exact q
@[reducible] noncomputable def conjC : List CP → Prop
  | [] => True
  | [c] => c.P
  | c :: r => c.P ∧ conjC r
@[reducible] noncomputable def allC : List CP → Prop → Prop
  | [], G => G
  | c :: r, G => c.P → allC r G
theorem conjC_cons {c : CP} {r : List CP} : conjC (c :: r) ↔ c.P ∧ conjC r := by
  cases r with
  | nil => exact ⟨fun h => ⟨h, trivial⟩, fun h => h.1⟩
  | cons => exact Iff.rfl
theorem allC_of : ∀ {l : List CP} {G : Prop}, allC l G → conjC l → G
  | [], _, h, _ => h
  | _ :: _, _, h, k => allC_of (h (conjC_cons.mp k).1) (conjC_cons.mp k).2
theorem evCP_ok {op : CmpOp} {x y : Value} {c : CP} (h : evCP op x y = some c) : evCmp op x y = some c.b := by
  show opO (evCP op x y) (evIs op x y) = _
  rw [h]; rfl
noncomputable def opC {β : Type} : Option CP → (CP → Option β) → Option β
  | some c, k => k c
  | none, _ => none
theorem opC_some {β : Type} {o : Option CP} {k : CP → Option β} {r : β} (h : opC o k = some r) : ∃ c, o = some c ∧ k c = some r := by
  cases o with
  | none => exact nomatch (show (none : Option β) = some _ from h)
  | some c => exact ⟨c, rfl, h⟩
/-- the second test of a chain, if there is one -/
noncomputable def evL2 (sc : Scope) (m : Str → Option Value) (c : CP) (y : Value) (t2 : Nat) : List CmpOp → List Expr → Option (List CP × Nat)
  | [], [] => some ([c], t2)
  | [], _ :: _ => none
  | _ :: _, [] => none
  | op' :: ops, r' :: rs => cond (ops.isEmpty && rs.isEmpty) (opB (ev sc m 6 r' t2) fun z t3 => opC (evCP op' y z) fun c' => some ([c, c'], t3)) none
noncomputable def evL1 (sc : Scope) (m : Str → Option Value) (l : Expr) (t : Nat) : List CmpOp → List Expr → Option (List CP × Nat)
  | [], _ => none
  | _ :: _, [] => none
  | op :: ops, r :: rs => opB (ev sc m 6 l t) fun x t1 => opB (ev sc m 6 r t1) fun y t2 => opC (evCP op x y) fun c => evL2 sc m c y t2 ops rs
noncomputable def evL (sc : Scope) (m : Str → Option Value) (e : Expr) (t : Nat) : Option (List CP × Nat) :=
  match e with
  | .Compare l ops rs _ => evL1 sc m l t ops rs
  | _ => none
theorem ev_marks {op : CmpOp} {r : Expr} {n t : Nat} {q : Value × Nat} (h : ev scope m n r t = some q) : behindInMarks op r = false := by
  cases n with
  | zero => exact nomatch (show (none : Option (Value × Nat)) = some _ from h)
  | succ n => cases r <;> first | rfl | exact nomatch (show (none : Option (Value × Nat)) = some _ from h)
theorem evL_ok {e : Expr} {s : Shared} {cs : List CP} {t' : Nat} {whole : Sem Value} {Q : Bool → Shared → Prop} (F : Fr h₀ L s.heap m) (X : (hd.heap_1 w.params).In h₀) (T : TopRead p loose mg mb h₀) (h : evL scope m e s.toks = some (cs, t'))
    (qT : conjC cs → Q true { s with toks := t' }) (qF : ¬ conjC cs → ∀ tk, Q false { s with toks := tk }) : wpAny (model PySem.Challenge.pw_nt0050_01 w) A (isTrue e (envX name scope L a cd cl) whole) Q E s := by
  cases e with
  | Compare l ops rs pos =>
    replace h : evL1 scope m l s.toks ops rs = some (cs, t') := h
    cases ops with
    | nil => exact nomatch (show (none : Option (List CP × Nat)) = some _ from h)
    | cons op ops =>
    cases rs with
    | nil => exact nomatch (show (none : Option (List CP × Nat)) = some _ from h)
    | cons r rs =>
    obtain ⟨x, t1, h1, h⟩ := opB_some (show opB (ev scope m 6 l s.toks) (fun x t1 => opB (ev scope m 6 r t1) fun y t2 => opC (evCP op x y) fun c => evL2 scope m c y t2 ops rs) = _ from h)
    obtain ⟨y, t2, h2, h⟩ := opB_some h
    obtain ⟨c, h3, h⟩ := opC_some h
    cases ops with
    | nil =>
      cases rs with
      | cons => exact nomatch (show (none : Option (List CP × Nat)) = some _ from h)
      | nil =>
        cases (show some ([c], t2) = some (cs, t') from h)
        refine evT_ok F X T h1 h2 (evCP_ok h3) (ev_marks h2) ?_
        cases hb : c.b with
        | true => exact qT (c.bP.mp hb)
        | false => exact qF (fun q => Bool.false_ne_true (hb.symm.trans (c.bP.mpr q))) _
    | cons op' ops =>
      cases rs with
      | nil => exact nomatch (show (none : Option (List CP × Nat)) = some _ from h)
      | cons r' rs =>
        obtain ⟨he, h⟩ := cond_some (show cond (ops.isEmpty && rs.isEmpty) (opB (ev scope m 6 r' t2) fun z t3 => opC (evCP op' y z) fun c' => some ([c, c'], t3)) none = _ from h)
        rw [Bool.and_eq_true] at he
        cases List.isEmpty_iff.mp he.1
        cases List.isEmpty_iff.mp he.2
        obtain ⟨z, t3, h4, h⟩ := opB_some h
        obtain ⟨c', h5, h⟩ := opC_some h
        cases h
        refine evT2_ok F X T h1 h2 (evCP_ok h3) h4 (evCP_ok h5) (ev_marks h4) ?_
        cases hb : c.b with
        | false => exact qF (fun q => Bool.false_ne_true (hb.symm.trans (c.bP.mpr q.1))) _
        | true =>
          rw [if_pos rfl]
          cases hb' : c'.b with
          | true => exact qT ⟨c.bP.mp hb, c'.bP.mp hb'⟩
          | false => exact qF (fun q => Bool.false_ne_true (hb'.symm.trans (c'.bP.mpr q.2))) _
  | _ => exact nomatch (show (none : Option (List CP × Nat)) = some _ from h)
noncomputable def opL : Option (List CP × Nat) → (List CP → Nat → Option (List CP)) → Option (List CP)
  | some (c, t), k => k c t
  | none, _ => none
@[reducible] noncomputable def appC : List CP → List CP → List CP
  | [], d => d
  | c :: l, d => c :: appC l d
noncomputable def opA (c : List CP) : Option (List CP) → Option (List CP)
  | some d => some (appC c d)
  | none => none
noncomputable def evAll (sc : Scope) (m : Str → Option Value) : List Expr → Nat → Option (List CP)
  | [], _ => some []
  | e :: r, t => opL (evL sc m e t) fun c t1 => opA c (evAll sc m r t1)
theorem conjC_app : ∀ {l k : List CP}, conjC (appC l k) ↔ conjC l ∧ conjC k
  | [], _ => ⟨fun h => ⟨trivial, h⟩, fun h => h.2⟩
  | c :: l, k => by rw [appC, conjC_cons, conjC_cons, conjC_app, and_assoc]
theorem and_go {pos : Pos} {whole : Sem Value} {Q : Bool → Shared → Prop} : ∀ (l : List Expr) (s : Shared) (cs : List CP), Fr h₀ L s.heap m → (hd.heap_1 w.params).In h₀ → TopRead p loose mg mb h₀ → evAll scope m l s.toks = some cs →
    (conjC cs → ∀ tk, Q true { s with toks := tk }) → (¬ conjC cs → ∀ tk, Q false { s with toks := tk }) → wpAny (model PySem.Challenge.pw_nt0050_01 w) A (isTrue (.BoolOp .And l pos) (envX name scope L a cd cl) whole) Q E s
  | [], s, cs, F, X, T, h, qT, qF => by cases h; exact isTrue_and_nil (qT trivial _)
  | e :: r, s, cs, F, X, T, h, qT, qF => by
    replace h : opL (evL scope m e s.toks) (fun c t1 => opA c (evAll scope m r t1)) = some cs := h
    cases h1 : evL scope m e s.toks with
    | none => rw [h1] at h; exact nomatch (show (none : Option (List CP)) = some _ from h)
    | some u =>
    obtain ⟨c, t1⟩ := u
    rw [h1] at h
    replace h : opA c (evAll scope m r t1) = some cs := h
    cases h2 : evAll scope m r t1 with
    | none => rw [h2] at h; exact nomatch (show (none : Option (List CP)) = some _ from h)
    | some d =>
    rw [h2] at h
    cases (show some (appC c d) = some cs from h)
    refine isTrue_and (evL_ok F X T h1 (fun hc => ?_) fun hc tk => ?_)
    · rw [if_pos rfl]
      exact and_go r { s with toks := t1 } d F X T h2 (fun hd tk => qT (conjC_app.mpr ⟨hc, hd⟩) tk) fun hd tk => qF (fun q => hd (conjC_app.mp q).2) tk
    · rw [if_neg Bool.false_ne_true]
      exact qF (fun q => hc (conjC_app.mp q).1) tk
theorem or2_ok {e e' : Expr} {s : Shared} {cs ds : List CP} {t1 : Nat} {f : Nat → Nat} {pos : Pos} {whole : Sem Value} {Q : Bool → Shared → Prop} (F : Fr h₀ L s.heap m) (X : (hd.heap_1 w.params).In h₀) (T : TopRead p loose mg mb h₀) (h1 : evL scope m e s.toks = some (cs, t1)) (h2 : ∀ t, evL scope m e' t = some (ds, f t))
    (qT : conjC cs ∨ conjC ds → ∀ tk, Q true { s with toks := tk }) (qF : ¬ conjC cs → ¬ conjC ds → ∀ tk, Q false { s with toks := tk }) : wpAny (model PySem.Challenge.pw_nt0050_01 w) A (isTrue (.BoolOp .Or [e, e'] pos) (envX name scope L a cd cl) whole) Q E s := by
  refine isTrue_or (evL_ok F X T h1 (fun hc => ?_) fun hc tk => ?_)
  · rw [if_pos rfl]; exact qT (.inl hc) _
  · rw [if_neg Bool.false_ne_true]
    refine isTrue_or (evL_ok (s := { s with toks := tk }) F X T (h2 tk) (fun hd => ?_) fun hd tk' => ?_)
    · rw [if_pos rfl]; exact qT (.inr hd) _
    · rw [if_neg Bool.false_ne_true]; exact isTrue_or_nil (qF hc hd _)
end
/-! a small logic of its own over the library's steps: goals without states, heaps and continuations -/
noncomputable abbrev Led := List (Addr × Obj)
/-- a frame: none is a name that holds nothing yet -/
noncomputable abbrev Fm := List (Str × Option Value)
noncomputable abbrev lk (m : Fm) : Str → Option Value := fun y => (List.lookup y m).join
@[reducible] noncomputable def optF : List (Str × Value) → Fm
  | [] => []
  | (x, v) :: r => (x, some v) :: optF r
theorem lk_optF (y : Str) : ∀ l : List (Str × Value), List.lookup y l = lk (optF l) y
  | [] => rfl
  | (x, v) :: r => by
    show _ = (List.lookup y ((x, some v) :: optF r)).join
    rw [List.lookup_cons, List.lookup_cons, lk_optF y r]
    cases y == x <;> rfl
@[reducible] noncomputable def noneF : List Str → Fm
  | [] => []
  | x :: xs => (x, none) :: noneF xs
@[reducible] noncomputable def padF : Fm → List Str → Fm
  | [], xs => noneF xs
  | q :: r, xs => q :: padF r xs
theorem lk_padF (y : Str) (xs : List Str) : ∀ l : Fm, lk l y = lk (padF l xs) y
  | [] => by
    induction xs with
    | nil => rfl
    | cons x xs ih =>
      show none = (List.lookup y ((x, none) :: noneF xs)).join
      rw [List.lookup_cons]
      cases y == x with
      | true => rfl
      | false => exact ih
  | (x, v) :: r => by
    show (List.lookup y ((x, v) :: r)).join = (List.lookup y ((x, v) :: padF r xs)).join
    rw [List.lookup_cons, List.lookup_cons]
    cases y == x with
    | true => rfl
    | false => exact lk_padF y xs r
/-- a name takes a value -/
noncomputable def setO : Fm → Str → Option Value → Fm
  | [], x, v => [(x, v)]
  | (y, u) :: r, x, v => cond (y == x) ((y, v) :: r) ((y, u) :: setO r x v)
noncomputable abbrev setN (m : Fm) (x : Str) (v : Value) : Fm := setO m x (some v)
/-- the frame that called -/
structure Cl where
  h : Heap
  L : Addr
  m : Str → Option Value
  s : Shared
  Q : Value → Shared → Prop
noncomputable def Cl.ret (k : Cl) (v : Value) (nw : Led) : Prop := ∀ (h' : Heap) (tk' : Nat), Fr k.h k.L h' k.m → News k.h k.L h' nw → k.Q v { k.s with heap := h', toks := tk' }
/-- a def's code -/
structure Fn where
  name : Str
  scope : Scope
  addr : Addr
  code : Value
  cells : Addr → List (Str × Addr) := fun _ => []
/-- a body at work: D the depth that is left -/
structure Cx (w : World) (D : Nat) (i : Fn) where
  k : Cl
  p : Program
  loose : List Str
  mean : ExcName → Option Value
  mg : Str → Option Value
  mb : Str → Option Value
  g : Heap
  L : Addr
  dp : Nat
  un : Nat
  gd : Option (List Code)
  outer : List Env
  A0 : Around
  base : Heap
  E : Value → Shared → Prop
  B : Below A0 base outer g
  X : (hd.heap_1 w.params).In g
  T : Top p loose mean mg mb g
  hk : i.scope.kind = .function
  hd : dp + D < recursionLimit
  hu : un + 100 * D + 200 < cLine
  po : PassesOwn (model PySem.Challenge.pw_nt0050_01 w) (ktrTop dp un gd i.name i.scope L i.addr i.code (i.cells L) outer) (envX i.name i.scope L i.addr i.code (i.cells L)) E
section
variable {D : Nat} {i : Fn}
noncomputable abbrev Fn.env (i : Fn) (L : Addr) : Env := envX i.name i.scope L i.addr i.code (i.cells L)
noncomputable abbrev Cx.env (c : Cx w D i) : Env := i.env c.L
noncomputable abbrev Cx.A (c : Cx w D i) : Around := ktrTop c.dp c.un c.gd i.name i.scope c.L i.addr i.code (i.cells c.L) c.outer
noncomputable abbrev Cx.st (c : Cx w D i) (h : Heap) (tk : Nat) : Shared := { c.k.s with heap := h, toks := tk }
/-- the frame and the ledger -/
structure Cx.I (c : Cx w D i) (m : Fm) (nw : Led) (h : Heap) : Prop where
  F : Fr c.g c.L h (lk m)
  N : News c.g c.L h nw
noncomputable def Cx.fin (c : Cx w D i) (fl : Flow) (_ : Fm) (nw : Led) : Prop := c.k.ret (match fl with | .ret v => v | _ => .none) nw
noncomputable abbrev Mo (w : World) : Model := model PySem.Challenge.pw_nt0050_01 w
/-- an expression -/
structure Ex (c : Cx w D i) (m : Fm) (nw : Led) (e : Expr) (K : Value → Led → Prop) : Prop where
  run : ∀ (h : Heap) (tk : Nat) (Q : Value → Shared → Prop), c.I m nw h → (∀ v nw' h' tk', c.I m nw' h' → K v nw' → Q v (c.st h' tk')) → wpAny (Mo w) c.A (eval e c.env) Q c.E (c.st h tk)
/-- the values of a call's arguments, of a display -/
structure Exs (c : Cx w D i) (m : Fm) (nw : Led) (pos : Pos) (l : List Expr) (K : List Value → Led → Prop) : Prop where
  run : ∀ (h : Heap) (tk : Nat) (Q : List Value → Shared → Prop), c.I m nw h → (∀ v nw' h' tk', c.I m nw' h' → K v nw' → Q v (c.st h' tk')) → wpAny (Mo w) c.A (spliced (backTo pos (starEach l c.env))) Q c.E (c.st h tk)
/-- a test -/
structure Tx (c : Cx w D i) (m : Fm) (nw : Led) (e : Expr) (K : Bool → Led → Prop) : Prop where
  run : ∀ (h : Heap) (tk : Nat) (Q : Bool → Shared → Prop), c.I m nw h → (∀ v nw' h' tk', c.I m nw' h' → K v nw' → Q v (c.st h' tk')) → wpAny (Mo w) c.A (isTrue e c.env (eval e c.env)) Q c.E (c.st h tk)
/-- a block -/
structure St (c : Cx w D i) (m : Fm) (nw : Led) (l : List Stmt) (K : Flow → Fm → Led → Prop) : Prop where
  run : ∀ (h : Heap) (tk : Nat) (Q : Flow → Shared → Prop), c.I m nw h → (∀ f m' nw' h' tk', c.I m' nw' h' → K f m' nw' → Q f (c.st h' tk')) → wpAny (Mo w) c.A (execs l c.env) Q c.E (c.st h tk)
theorem St.nil {c : Cx w D i} {m : Fm} {nw : Led} {K : Flow → Fm → Led → Prop} (h1 : K .next m nw) : St c m nw [] K :=
  ⟨fun _ _ _ I hQ => wpAny_execs_nil (hQ _ _ _ _ _ I h1)⟩
/-- the way into a body, lists of the caller's heap at hand -/
theorem Con.enterG {f : Addr} {vs : List Value} {news : Led} {R : RetT} {name qual : Str} {params : Arguments} {body : List Stmt} {scope : Scope} {dV kV doc pm cdv ct oc : Value} {an od : Option Addr} {osl : Array (Option Value)} (fm : List (Str × Value))
    (ho : List.lookup f (hd.heap_1 w.params) = some { cls := oc, dict := od, data := Data.func (fnOf name qual params body scope dV kV doc pm an cdv ct), slots := osl })
    (hcd : codeIn (hd.heap_1 w.params) cdv qual = true)
    (hb : ∀ s : Shared, (hd.heap_1 w.params).In s.heap → BindsTo s (fnOf name qual params body scope dV kV doc pm an cdv ct) { pos := vs } fm.reverse)
    (hl : (fm.reverse.all fun y => scope.names.lookup y.1 == some .local) = true)
    (hco : scope.isCoroutine = false) (hgen : scope.isGenerator = false) (hk : scope.kind = .function)
    (hc : (scope.names.all fun x => x.2 != .cell) = true)
    (h : ∀ c : Cx w D { name := qual, scope := scope, addr := f, code := cdv }, (∀ a xs, c.k.h.IsList a xs → c.g.IsList a xs) → R c.k.h c.k.L c.k.m news c.k.s c.k.Q → St c (optF fm) news body c.fin) : Con w (D + 1) f vs news R := by
  intro p loose mean mg mb dp un gd cn cs a ccd cl outer A₀ base h₀ L m s Q E B F X N T hkk hd hu hret
  refine wpAny_call ?_
  refine code_def B F X N T rfl rfl hkk ho hcd (show dp < recursionLimit by lia) (hb _ (X.keeps F.keep)) ?_ ?_ hco hgen hk ?_
  · intro y hy
    have := List.all_eq_true.mp hl y hy
    exact eq_of_beq this
  · intro g L' h₁ FG F' N' B' X' T'
    rw [List.reverse_reverse] at F'
    refine (h { k := ⟨h₀, L, m, s, Q⟩, p := p, loose := loose, mean := mean, mg := mg, mb := mb, g := g, L := L', dp := dp + 1, un := un + 3, gd := gd, outer := _, A0 := _, base := base, E := _, B := B', X := X', T := T', hk := hk, hd := by lia, hu := by lia, po := PassesOwn.leaving } (fun a xs e => stays_list FG.keep e) hret).run h₁ _ _ ⟨frTo F' fun y => lk_optF y fm, N'⟩ ?_
    intro f m' nw' h' tk' I hK
    refine leaveK_ I.F I.N ?_
    intro F2 N2
    exact hK h' tk' F2 N2
  · intro x hx
    have := List.all_eq_true.mp hc x hx
    exact bne_iff_ne.mp this
theorem Con.enterB {f : Addr} {vs : List Value} {news : Led} {R : RetT} {name qual : Str} {params : Arguments} {body : List Stmt} {scope : Scope} {dV kV doc pm cdv ct oc : Value} {an od : Option Addr} {osl : Array (Option Value)} (fm : List (Str × Value))
    (ho : List.lookup f (hd.heap_1 w.params) = some { cls := oc, dict := od, data := Data.func (fnOf name qual params body scope dV kV doc pm an cdv ct), slots := osl })
    (hcd : codeIn (hd.heap_1 w.params) cdv qual = true)
    (hb : ∀ s : Shared, (hd.heap_1 w.params).In s.heap → BindsTo s (fnOf name qual params body scope dV kV doc pm an cdv ct) { pos := vs } fm.reverse)
    (hl : (fm.reverse.all fun y => scope.names.lookup y.1 == some .local) = true)
    (hco : scope.isCoroutine = false) (hgen : scope.isGenerator = false) (hk : scope.kind = .function)
    (hc : (scope.names.all fun x => x.2 != .cell) = true)
    (h : ∀ c : Cx w D { name := qual, scope := scope, addr := f, code := cdv }, R c.k.h c.k.L c.k.m news c.k.s c.k.Q → St c (optF fm) news body c.fin) : Con w (D + 1) f vs news R :=
  Con.enterG fm ho hcd hb hl hco hgen hk hc fun c _ hret => h c hret
theorem Con.enter {f : Addr} {vs : List Value} {news : Led} {R : RetT} {name qual : Str} {params : Arguments} {body : List Stmt} {scope : Scope} {dV kV doc pm cdv ct oc : Value} {an od : Option Addr} {osl : Array (Option Value)} (fm : List (Str × Value))
    (ho : List.lookup f (hd.heap_1 w.params) = some { cls := oc, dict := od, data := Data.func (fnOf name qual params body scope dV kV doc pm an cdv ct), slots := osl })
    (hcd : codeIn (hd.heap_1 w.params) cdv qual = true)
    (hb : bindArgs (fnOf name qual params body scope dV kV doc pm an cdv ct) { pos := vs } = pure fm.reverse)
    (hl : (fm.reverse.all fun y => scope.names.lookup y.1 == some .local) = true)
    (hco : scope.isCoroutine = false) (hgen : scope.isGenerator = false) (hk : scope.kind = .function)
    (hc : (scope.names.all fun x => x.2 != .cell) = true)
    (h : ∀ c : Cx w D { name := qual, scope := scope, addr := f, code := cdv }, R c.k.h c.k.L c.k.m news c.k.s c.k.Q → St c (optF fm) news body c.fin) : Con w (D + 1) f vs news R :=
  Con.enterB fm ho hcd (fun _ _ => BindsTo.of_eq hb) hl hco hgen hk hc h
end
section
variable {D : Nat} {i : Fn} {c : Cx w D i} {m : Fm} {nw : Led}
noncomputable def Sp : Bool → Prop → Prop → Prop
  | true, A, _ => A
  | false, _, B => B
theorem Sp.by {b : Bool} {A B : Prop} (h1 : b = true → A) (h2 : b = false → B) : Sp b A B := by
  cases b with
  | true => exact h1 rfl
  | false => exact h2 rfl
theorem Sp.not {b : Bool} {A B : Prop} (h : Sp b B A) : Sp (!b) A B := by
  cases b <;> exact h
theorem Sp.tt {b : Bool} {A B : Prop} (e : b = true) (h : A) : Sp b A B := by subst e; exact h
theorem Sp.ff {b : Bool} {A B : Prop} (e : b = false) (h : B) : Sp b A B := by subst e; exact h
theorem Sp.t {A B : Prop} (h : A) : Sp true A B := h
theorem Sp.f {A B : Prop} (h : B) : Sp false A B := h
noncomputable def Kt (c : Cx w D i) (l : List Stmt) (K : Flow → Fm → Led → Prop) (f : Flow) (m : Fm) (nw : Led) : Prop :=
  match f with
  | .next => St c m nw l K
  | f => K f m nw
theorem Cx.tr (c : Cx w D i) : TopRead c.p c.loose c.mg c.mb c.g := topRead_of c.T
/-! what follows, by names: the terms stay small -/
@[reducible] noncomputable def KCv (K : List Value → Led → Prop) (v : Value) (vs : List Value) (n : Led) : Prop := K (v :: vs) n
@[reducible] noncomputable def KC (c : Cx w D i) (m : Fm) (pos : Pos) (l : List Expr) (K : List Value → Led → Prop) (v : Value) (n : Led) : Prop := Exs c m n pos l (KCv K v)
@[reducible] noncomputable def KTup (K : Value → Led → Prop) (vs : List Value) (n : Led) : Prop := vs.length ≤ 1000 ∧ ∀ a, (∀ p ∈ n, p.1 < a) → K (.ref a) ((a, tupO vs) :: n)
@[reducible] noncomputable def KLst (K : Value → Led → Prop) (vs : List Value) (n : Led) : Prop := vs.length ≤ 1000 ∧ ∀ a, (∀ p ∈ n, p.1 < a) → K (.ref a) ((a, lstO vs 0) :: n)
@[reducible] noncomputable def KIfx (c : Cx w D i) (m : Fm) (e1 e2 : Expr) (K : Value → Led → Prop) (b : Bool) (n : Led) : Prop := Sp b (Ex c m n e1 K) (Ex c m n e2 K)
@[reducible] noncomputable def KAnd (c : Cx w D i) (m : Fm) (l : List Expr) (pos : Pos) (K : Bool → Led → Prop) (b : Bool) (n : Led) : Prop := Sp b (Tx c m n (.BoolOp .And l pos) K) (K false n)
@[reducible] noncomputable def KOr (c : Cx w D i) (m : Fm) (l : List Expr) (pos : Pos) (K : Bool → Led → Prop) (b : Bool) (n : Led) : Prop := Sp b (K true n) (Tx c m n (.BoolOp .Or l pos) K)
@[reducible] noncomputable def KNot (K : Bool → Led → Prop) (b : Bool) (n : Led) : Prop := K (!b) n
@[reducible] noncomputable def KRet (K : Flow → Fm → Led → Prop) (m : Fm) (v : Value) (n : Led) : Prop := K (.ret v) m n
@[reducible] noncomputable def KAsg (c : Cx w D i) (m : Fm) (x : Str) (l : List Stmt) (K : Flow → Fm → Led → Prop) (v : Value) (n : Led) : Prop := St c (setN m x v) n l K
@[reducible] noncomputable def KIf (c : Cx w D i) (m : Fm) (b1 b2 l : List Stmt) (K : Flow → Fm → Led → Prop) (b : Bool) (n : Led) : Prop := Sp b (St c m n b1 (Kt c l K)) (St c m n b2 (Kt c l K))
@[reducible] noncomputable def KExp (c : Cx w D i) (m : Fm) (l : List Stmt) (K : Flow → Fm → Led → Prop) (_v : Value) (n : Led) : Prop := St c m n l K
/-! expressions -/
theorem Ex.ev {e : Expr} {K : Value → Led → Prop} {f : Nat → Value} {ft : Nat → Nat} {n : Nat} (h : ∀ t, ev i.scope (lk m) n e t = some (f t, ft t)) (hK : ∀ t, K (f t) nw) : Ex c m nw e K :=
  ⟨fun h0 tk Q I hQ => ev_ok n e (c.st h0 tk) (f tk) (ft tk) Q I.F c.X c.tr (h tk) (hQ _ _ _ _ I (hK tk))⟩
theorem Ex.nm {x : Str} {px : Pos} {v : Value} {K : Value → Led → Prop} (hc : nameLocal i.scope x = true) (hv : lk m x = some v) (hK : K v nw) : Ex c m nw (.Name x px) K :=
  ⟨fun h0 tk Q I hQ => ldq hc I.F hv (hQ _ _ _ _ I hK)⟩
theorem Exs.ev {l : List Expr} {pos : Pos} {K : List Value → Led → Prop} {f : Nat → List Value} {ft : Nat → Nat} (h : ∀ t, evs i.scope (lk m) l t = some (f t, ft t)) (hK : ∀ t, K (f t) nw) : Exs c m nw pos l K :=
  ⟨fun h0 tk Q I hQ => evs_ok l (c.st h0 tk) (f tk) (ft tk) Q I.F c.X c.tr (h tk) (hQ _ _ _ _ I (hK tk))⟩
theorem Exs.nil {pos : Pos} {K : List Value → Led → Prop} (hK : K [] nw) : Exs c m nw pos [] K :=
  ⟨fun h0 tk Q I hQ => args_nil (hQ _ _ _ _ I hK)⟩
theorem Exs.cons {e : Expr} {l : List Expr} {pos : Pos} {K : List Value → Led → Prop} (hs : ∀ env, starEach (e :: l) env = (false, eval e env) :: starEach l env) (h : Ex c m nw e (KC c m pos l K)) : Exs c m nw pos (e :: l) K :=
  ⟨fun h0 tk Q I hQ => args_cons (h.run h0 tk _ I fun v n1 h1 t1 I1 h2 => h2.run h1 t1 _ I1 fun vs n2 h3 t3 I3 h4 => hQ _ _ _ _ I3 h4) (hs _)⟩
/-- a call -/
structure Ca (c : Cx w D i) (m : Fm) (nw : Led) (f : Value) (vs : List Value) (K : Value → Led → Prop) : Prop where
  run : ∀ (h : Heap) (tk : Nat) (Q : Value → Shared → Prop), c.I m nw h → (∀ v nw' h' tk', c.I m nw' h' → K v nw' → Q v (c.st h' tk')) → wpAny (Mo w) c.A (call f vs) Q c.E (c.st h tk)
theorem Ca.con {f : Addr} {vs : List Value} {K : Value → Led → Prop} {D' : Nat} {R : RetT} (C : Con w D' f vs nw R) (hD : Nat.ble D' D = true)
    (hR : ∀ (h : Heap) (tk : Nat) (Q : Value → Shared → Prop), (∀ v nw' h' tk', Fr c.g c.L h' (lk m) → News c.g c.L h' nw' → K v nw' → Q v (c.st h' tk')) → R c.g c.L (lk m) nw (c.st h tk) Q) : Ca c m nw (.ref f) vs K := by
  refine ⟨fun h0 tk Q I hQ => ?_⟩
  have hD := Nat.le_of_ble_eq_true hD
  have h1 := c.hd
  have h2 := c.hu
  exact Con.use3 I.F I.N c.B c.X c.T c.hk C (by lia) (by lia) (hR h0 tk Q fun v nw' h' tk' F N hK => hQ _ _ _ _ ⟨F, N⟩ hK)
theorem Ca.V {f : Addr} {vs : List Value} {K : Value → Led → Prop} {D' : Nat} {R : Tok → Value} (C : Con w D' f vs nw (RetV R)) (hD : Nat.ble D' D = true) (hK : ∀ t, K (R t) nw) : Ca c m nw (.ref f) vs K :=
  Ca.con C hD fun _ _ _ hQ t h' tk' F N => hQ _ _ _ _ F N (hK t)
theorem Ca.T2 {f : Addr} {vs : List Value} {K : Value → Led → Prop} {D' : Nat} {x y : Int} (C : Con w D' f vs nw (RetT2 x y)) (hD : Nat.ble D' D = true) (hK : ∀ a t1 t2, (∀ p ∈ nw, p.1 < a) → K (.ref a) ((a, tupO [.int x t1, .int y t2]) :: nw)) : Ca c m nw (.ref f) vs K :=
  Ca.con C hD fun _ _ _ hQ a t1 t2 h' tk' F N l => hQ _ _ _ _ F N (hK a t1 t2 l)
theorem Ca.T3 {f : Addr} {vs : List Value} {K : Value → Led → Prop} {D' : Nat} {x y z : Int} (C : Con w D' f vs nw (RetT3 x y z)) (hD : Nat.ble D' D = true) (hK : ∀ a t1 t2 t3, (∀ p ∈ nw, p.1 < a) → K (.ref a) ((a, tupO [.int x t1, .int y t2, .int z t3]) :: nw)) : Ca c m nw (.ref f) vs K :=
  Ca.con C hD fun _ _ _ hQ a t1 t2 t3 h' tk' F N l => hQ _ _ _ _ F N (hK a t1 t2 t3 l)
theorem Ca.L {f : Addr} {vs : List Value} {K : Value → Led → Prop} {D' : Nat} {cs : List Int} (C : Con w D' f vs nw (RetL cs)) (hD : Nat.ble D' D = true) (hK : ∀ a its n, IntsAre its cs → (∀ p ∈ nw, p.1 < a) → K (.ref a) ((a, lstO its n) :: nw)) : Ca c m nw (.ref f) vs K :=
  Ca.con C hD fun _ _ _ hQ a its n h' tk' hi F N l => hQ _ _ _ _ F N (hK a its n hi l)
@[reducible] noncomputable def KCa (c : Cx w D i) (m : Fm) (f : Value) (K : Value → Led → Prop) (vs : List Value) (n : Led) : Prop := Ca c m n f vs K
/-! the text's defs by their names -/
noncomputable def ftab : List (Str × Value) := [(Str.ofString "place_by_half", Value.ref 61), (Str.ofString "is_hangul_syllable", Value.ref 68), (Str.ofString "hangul_numbers", Value.ref 75), (Str.ofString "hangul_parts", Value.ref 82), (Str.ofString "hangul_pair", Value.ref 89), (Str.ofString "hangul_kind", Value.ref 96), (Str.ofString "form_mapping", Value.ref 103), (Str.ofString "form_expanded", Value.ref 110), (Str.ofString "ordered", Value.ref 117), (Str.ofString "form_sorted", Value.ref 122), (Str.ofString "decomposed", Value.ref 130), (Str.ofString "primary_composites", Value.ref 137), (Str.ofString "form_is_primary", Value.ref 144), (Str.ofString "composed", Value.ref 187), (Str.ofString "form_of", Value.ref 195), (Str.ofString "nfd", Value.ref 202), (Str.ofString "nfc", Value.ref 209), (Str.ofString "form_quick", Value.ref 216), (Str.ofString "quick_check", Value.ref 224), (Str.ofString "is_form", Value.ref 232), (Str.ofString "are_equivalent", Value.ref 240), (Str.ofString "cluster_kind", Value.ref 250), (Str.ofString "cluster_hangul_joins", Value.ref 257), (Str.ofString "cluster_pair", Value.ref 264), (Str.ofString "cluster_places", Value.ref 313), (Str.ofString "range_are_like", Value.ref 320), (Str.ofString "range_rows", Value.ref 374), (Str.ofString "data_defaults", Value.ref 381), (Str.ofString "_law_deck", Value.ref 428), (Str.ofString "_law_draw", Value.ref 435), (Str.ofString "_law_pick", Value.ref 442), (Str.ofString "_law_class", Value.ref 458), (Str.ofString "_law_data", Value.ref 465), (Str.ofString "_law_apart", Value.ref 472), (Str.ofString "_law_pair", Value.ref 479), (Str.ofString "_law_together", Value.ref 484), (Str.ofString "_law_kind", Value.ref 491), (Str.ofString "_law_ends", Value.ref 498), (Str.ofString "RangeMap", Value.ref 363), (Str.ofString "Composer", Value.ref 175), (Str.ofString "Data", Value.ref 419), (Str.ofString "ClusterStream", Value.ref 303)]
theorem ftab_all (P : Params) : ftab.map (fun q => (nsIn (hd.heap_1 P) mainGlobals q.1, keepIn (hd.heap_1 P) q.2)) = ftab.map (fun q => (some (some q.2), true)) := by kernel_rfl
theorem ftab_at {P : Params} {x : Str} {v : Value} (h : ftab.lookup x = some v) : nsIn (hd.heap_1 P) mainGlobals x = some (some v) ∧ keepIn (hd.heap_1 P) v = true := by
  have := List.map_inj_left.mp (ftab_all P) (x, v) (lookup_mem h)
  exact ⟨congrArg Prod.fst this, congrArg Prod.snd this⟩
noncomputable def noStar : List Expr → Bool
  | [] => true
  | .Starred .. :: _ => false
  | _ :: r => noStar r
theorem noStar_cons {e : Expr} {l : List Expr} (h : noStar (e :: l) = true) (env : Env) : starEach (e :: l) env = (false, eval e env) :: starEach l env ∧ noStar l = true := by
  cases e with
  | Starred => cases h
  | _ => exact ⟨rfl, h⟩
theorem noStar_any (pos : Pos) (env : Env) : ∀ {l : List Expr}, noStar l = true → ((backTo pos (starEach l env)).any fun x => x.1) = false
  | [], _ => rfl
  | e :: l, h => by
    rw [(noStar_cons h env).1]
    show (false || (backTo pos (starEach l env)).any fun x => x.1) = false
    rw [noStar_any pos env (noStar_cons h env).2]; rfl
theorem Ex.call {x : Str} {px pos : Pos} {e : Expr} {es : List Expr} {f : Value} {K : Value → Led → Prop} (hg : nameGlobal i.scope x = true) (hf : ftab.lookup x = some f) (hs : noStar (e :: es) = true) (h : Exs c m nw pos (e :: es) (KCa c m f K)) : Ex c m nw (.Call (.Name x px) (e :: es) [] pos) K := by
  refine ⟨fun h0 tk Q I hQ => ?_⟩
  obtain ⟨hv, hp⟩ := ftab_at (P := w.params) hf
  simp only [nameGlobal, Bool.and_eq_true, beq_iff_eq, Bool.not_eq_true'] at hg
  refine Call_ (nameX_K I.F c.X c.tr hv (callWith_K (Frag.In.keeps c.X I.F.keep) hp (h.run h0 tk _ I ?_) (noStar_cons hs _).1 (noStar_any _ _ (noStar_cons hs c.env).2)) hg.1 hg.2.1 hg.2.2)
  intro vs n1 h1 t1 I1 hK
  exact ⟨Frag.In.keeps c.X I1.F.keep, hK.run h1 t1 Q I1 hQ⟩
theorem Ex.tup {es : List Expr} {k : Nat} {pos : Pos} {K : Value → Led → Prop} (h : Exs c m nw pos es (KTup K)) : Ex c m nw (.Tuple es k pos) K :=
  ⟨fun h0 tk Q I hQ => Tuple_ (h.run h0 tk _ I fun vs n1 h1 t1 I1 hK => kup_newTuple I1.F I1.N (fun D h2 F2 N2 l => hQ _ _ _ _ ⟨F2, N2⟩ (hK.2 D l)) (Nat.le_trans hK.1 (by decide)))⟩
/-- a tuple or a list whose items are simple -/
theorem Ex.tupE {es : List Expr} {k : Nat} {pos : Pos} {K : Value → Led → Prop} {f : Nat → List Value} {ft : Nat → Nat} (h : ∀ t, evs i.scope (lk m) es t = some (f t, ft t)) (hn : ∀ t, Nat.ble (f t).length 1000 = true) (hK : ∀ t a, (∀ p ∈ nw, p.1 < a) → K (.ref a) ((a, tupO (f t)) :: nw)) : Ex c m nw (.Tuple es k pos) K :=
  Ex.tup (Exs.ev h fun t => ⟨Nat.le_of_ble_eq_true (hn t), hK t⟩)
theorem Ex.lst {es : List Expr} {pos : Pos} {K : Value → Led → Prop} (h : Exs c m nw pos es (KLst K)) : Ex c m nw (.List es pos) K :=
  ⟨fun h0 tk Q I hQ => List_ (h.run h0 tk _ I fun vs n1 h1 t1 I1 hK => newList_K I1.F I1.N (fun D h2 F2 N2 l => hQ _ _ _ _ ⟨F2, N2⟩ (hK.2 D l)) (Nat.le_trans hK.1 (by decide)))⟩
theorem Ex.lstE {es : List Expr} {pos : Pos} {K : Value → Led → Prop} {f : Nat → List Value} {ft : Nat → Nat} (h : ∀ t, evs i.scope (lk m) es t = some (f t, ft t)) (hn : ∀ t, Nat.ble (f t).length 1000 = true) (hK : ∀ t a, (∀ p ∈ nw, p.1 < a) → K (.ref a) ((a, lstO (f t) 0) :: nw)) : Ex c m nw (.List es pos) K :=
  Ex.lst (Exs.ev h fun t => ⟨Nat.le_of_ble_eq_true (hn t), hK t⟩)
theorem Ex.ifx {t e1 e2 : Expr} {pos : Pos} {K : Value → Led → Prop} (h : Tx c m nw t (KIfx c m e1 e2 K)) : Ex c m nw (.IfExp t e1 e2 pos) K := by
  refine ⟨fun h0 tk Q I hQ => wpAny_IfExp (h.run h0 tk _ I fun b n1 h1 t1 I1 hK => ?_)⟩
  cases b with
  | true => rw [if_pos rfl]; exact hK.run h1 t1 Q I1 hQ
  | false => rw [if_neg Bool.false_ne_true]; exact hK.run h1 t1 Q I1 hQ
theorem Ex.lst0 {pos : Pos} {K : Value → Led → Prop} (hK : ∀ a, (∀ p ∈ nw, p.1 < a) → K (.ref a) ((a, lstO [] 0) :: nw)) : Ex c m nw (.List [] pos) K := Ex.lst (Exs.nil ⟨Nat.zero_le _, hK⟩)
/-! tests -/
theorem Tx.cps {e : Expr} {K : Bool → Led → Prop} {cs : List CP} {ft : Nat → Nat} (h : ∀ t, Mine.evL i.scope (lk m) e t = some (cs, ft t)) (hT : allC cs (K true nw)) (hF : ¬ conjC cs → K false nw) : Tx c m nw e K :=
  ⟨fun h0 tk Q I hQ => evL_ok I.F c.X c.tr (h tk) (fun q => hQ _ _ _ _ I (allC_of hT q)) fun q tk' => hQ _ _ _ _ I (hF q)⟩
theorem Tx.cpsT {e : Expr} {K : Bool → Led → Prop} {cs : List CP} {ft : Nat → Nat} (h : ∀ t, Mine.evL i.scope (lk m) e t = some (cs, ft t)) (hc : conjC cs) (hT : K true nw) : Tx c m nw e K :=
  ⟨fun h0 tk Q I hQ => evL_ok I.F c.X c.tr (h tk) (fun _ => hQ _ _ _ _ I hT) fun q _ => (q hc).elim⟩
theorem Tx.cpsF {e : Expr} {K : Bool → Led → Prop} {cs : List CP} {ft : Nat → Nat} (h : ∀ t, Mine.evL i.scope (lk m) e t = some (cs, ft t)) (hc : ¬ conjC cs) (hF : K false nw) : Tx c m nw e K :=
  ⟨fun h0 tk Q I hQ => evL_ok I.F c.X c.tr (h tk) (fun q => (hc q).elim) fun _ tk' => hQ _ _ _ _ I hF⟩
theorem Tx.andE {l : List Expr} {pos : Pos} {K : Bool → Led → Prop} {cs : List CP} (h : ∀ t, Mine.evAll i.scope (lk m) l t = some cs) (hT : allC cs (K true nw)) (hF : ¬ conjC cs → K false nw) : Tx c m nw (.BoolOp .And l pos) K :=
  ⟨fun h0 tk Q I hQ => and_go l (c.st h0 tk) cs I.F c.X c.tr (h tk) (fun q tk' => hQ _ _ _ _ I (allC_of hT q)) fun q tk' => hQ _ _ _ _ I (hF q)⟩
theorem Tx.orE {e e' : Expr} {pos : Pos} {K : Bool → Led → Prop} {cs ds : List CP} {f1 f2 : Nat → Nat} (h1 : ∀ t, Mine.evL i.scope (lk m) e t = some (cs, f1 t)) (h2 : ∀ t, Mine.evL i.scope (lk m) e' t = some (ds, f2 t)) (hT : conjC cs ∨ conjC ds → K true nw) (hF : ¬ conjC cs → ¬ conjC ds → K false nw) : Tx c m nw (.BoolOp .Or [e, e'] pos) K :=
  ⟨fun h0 tk Q I hQ => or2_ok I.F c.X c.tr (h1 tk) h2 (fun q tk' => hQ _ _ _ _ I (hT q)) fun q q' tk' => hQ _ _ _ _ I (hF q q')⟩
/-- one comparison whose outcome is a bool (is None, ==, of strs) -/
theorem Tx.cmpE {l r : Expr} {op : CmpOp} {pos : Pos} {K : Bool → Led → Prop} {f g : Nat → Value} {ft gt : Nat → Nat} {b : Bool} (h1 : ∀ t, ev i.scope (lk m) 6 l t = some (f t, ft t)) (h2 : ∀ t, ev i.scope (lk m) 6 r t = some (g t, gt t)) (h3 : ∀ t t', evCmp op (f t) (g t') = some b) (hK : K b nw) : Tx c m nw (.Compare l [op] [r] pos) K :=
  ⟨fun h0 tk Q I hQ => evT_ok I.F c.X c.tr (h1 tk) (h2 _) (h3 _ _) (ev_marks (h2 tk)) (hQ _ _ _ _ I hK)⟩
theorem Tx.not {e : Expr} {pos : Pos} {K : Bool → Led → Prop} (h : Tx c m nw e (KNot K)) : Tx c m nw (.UnaryOp .Not e pos) K :=
  ⟨fun h0 tk Q I hQ => isTrue_not (h.run h0 tk _ I fun b n1 h1 t1 I1 hK => hQ _ _ _ _ I1 hK)⟩
theorem Tx.and {e : Expr} {l : List Expr} {pos : Pos} {K : Bool → Led → Prop} (h : Tx c m nw e (KAnd c m l pos K)) : Tx c m nw (.BoolOp .And (e :: l) pos) K := by
  refine ⟨fun h0 tk Q I hQ => isTrue_and (h.run h0 tk _ I fun b n1 h1 t1 I1 hK => ?_)⟩
  cases b with
  | true => rw [if_pos rfl]; exact hK.run h1 t1 Q I1 hQ
  | false => rw [if_neg Bool.false_ne_true]; exact hQ _ _ _ _ I1 hK
theorem Tx.andN {pos : Pos} {K : Bool → Led → Prop} (h : K true nw) : Tx c m nw (.BoolOp .And [] pos) K :=
  ⟨fun h0 tk Q I hQ => isTrue_and_nil (hQ _ _ _ _ I h)⟩
theorem Tx.or {e : Expr} {l : List Expr} {pos : Pos} {K : Bool → Led → Prop} (h : Tx c m nw e (KOr c m l pos K)) : Tx c m nw (.BoolOp .Or (e :: l) pos) K := by
  refine ⟨fun h0 tk Q I hQ => isTrue_or (h.run h0 tk _ I fun b n1 h1 t1 I1 hK => ?_)⟩
  cases b with
  | true => rw [if_pos rfl]; exact hQ _ _ _ _ I1 hK
  | false => rw [if_neg Bool.false_ne_true]; exact hK.run h1 t1 Q I1 hQ
theorem Tx.orN {pos : Pos} {K : Bool → Led → Prop} (h : K false nw) : Tx c m nw (.BoolOp .Or [] pos) K :=
  ⟨fun h0 tk Q I hQ => isTrue_or_nil (hQ _ _ _ _ I h)⟩
/-- the truth of a value -/
noncomputable def tru : Value → Option Bool
  | .bool b => some b
  | .none => some false
  | _ => none
@[reducible] noncomputable def KVal (K : Bool → Led → Prop) (v : Value) (n : Led) : Prop := ∃ b, tru v = some b ∧ K b n
theorem tru_ok {v : Value} {b : Bool} {A : Around} {Q : Bool → Shared → Prop} {E : Value → Shared → Prop} {s : Shared} (h : tru v = some b) (q : Q b s) : wpAny (Mo w) A (truthy v) Q E s := by
  cases v with
  | bool b' => cases h; exact wpAny_truthy_bool q
  | none => cases h; exact truthy_none q
  | _ => exact nomatch (show (none : Option Bool) = some _ from h)
theorem tru_i {v : Value} {b : Bool} {P : Bool → Prop} (h : tru v = some b) (q : P b) : ∃ b, tru v = some b ∧ P b := ⟨b, h, q⟩
theorem tup_i {a : Addr} {its : List Value} {n : Led} {xs : List Str} {P : List Value → Prop} (hm : (a, tupO its) ∈ n) (hl : its.length = xs.length) (q : P its) : ∃ a' its, Value.ref a = Value.ref a' ∧ (a', tupO its) ∈ n ∧ its.length = xs.length ∧ P its := ⟨a, its, rfl, hm, hl, q⟩
theorem str_i {x : Str} {u : Tok} {P : Str → Prop} (q : P x) : ∃ s u', Value.str x u = Value.str s u' ∧ P s := ⟨x, u, rfl, q⟩
theorem Tx.val {e : Expr} {K : Bool → Led → Prop} (hp : ∀ env, isTrue e env (eval e env) = (do let v ← eval e env; standAt e.pos; holding [v] (truthy v))) (h : Ex c m nw e (KVal K)) : Tx c m nw e K :=
  ⟨fun h0 tk Q I hQ => isTrue_plain (h.run h0 tk _ I fun v n1 h1 t1 I1 hK => hK.elim fun b hb => tru_ok hb.1 (hQ _ _ _ _ I1 hb.2)) (hp _)⟩
/-! statements -/
variable {l : List Stmt} {K : Flow → Fm → Led → Prop}
theorem St.ret {e : Expr} {pos : Pos} (h : Ex c m nw e (KRet K m)) : St c m nw (.Return (some e) pos :: l) K :=
  ⟨fun h0 tk Q I hQ => wpAny_execs_cons (wpAny_Return_some (h.run h0 tk _ I fun v n1 h1 t1 I1 hK => hQ _ _ _ _ _ I1 hK))⟩
theorem lk_setO {x : Str} {v : Option Value} (y : Str) : ∀ {m : Fm}, (if y = x then v else lk m y) = lk (setO m x v) y
  | [] => by
    show _ = (List.lookup y [(x, v)]).join
    rw [List.lookup_cons]
    by_cases e : y = x
    · rw [if_pos e, e, beq_self_eq_true]; try rfl
    · rw [if_neg e, beq_eq_false_iff_ne.mpr e]; try rfl
  | (z, u) :: r => by
    have ih := lk_setO (x := x) (v := v) y (m := r)
    show (if y = x then v else (List.lookup y ((z, u) :: r)).join) = (List.lookup y (cond (z == x) ((z, v) :: r) ((z, u) :: setO r x v))).join
    by_cases e : z = x
    · subst e
      rw [beq_self_eq_true, cond_true, List.lookup_cons, List.lookup_cons]
      by_cases e : y = z
      · rw [if_pos e, e, beq_self_eq_true]; try rfl
      · rw [if_neg e, beq_eq_false_iff_ne.mpr e]
    · rw [beq_eq_false_iff_ne.mpr e, cond_false, List.lookup_cons, List.lookup_cons]
      by_cases e' : y = z
      · subst e'
        rw [beq_self_eq_true, if_neg e]
      · rw [beq_eq_false_iff_ne.mpr e']
        exact ih
theorem lk_cons {x : Str} {v : Value} (y : Str) {m : Fm} : (if y = x then some v else lk m y) = lk (setN m x v) y := lk_setO y
theorem store_ok {x : Str} {v : Value} {h0 : Heap} {tk : Nat} {Q : Unit → Shared → Prop} (hx : nameLocal i.scope x = true) (I : c.I m nw h0) (h : ∀ h1 t1, c.I (setN m x v) nw h1 → Q () (c.st h1 t1)) : wpAny (Mo w) c.A (storeName c.env x v) Q c.E (c.st h0 tk) := by
  simp only [nameLocal, Bool.and_eq_true, beq_iff_eq] at hx
  exact storeX_L (cl := i.cells c.L) (s := c.st h0 tk) I.F I.N (fun h1 F1 N1 => h h1 _ ⟨frTo F1 fun y => lk_cons y, N1⟩) c.hk hx.2.1
theorem St.asg {x : Str} {px pos : Pos} {e : Expr} (hx : nameLocal i.scope x = true) (hs : ∀ L, swapsWith e (some (.Name x px)) pos.line (i.env L) = pure false) (h : Ex c m nw e (KAsg c m x l K)) : St c m nw (.Assign [.Name x px] e pos :: l) K :=
  ⟨fun h0 tk Q I hQ => wpAny_execs_cons (wpAny_Assign_Name (h.run h0 tk _ I fun v n1 h1 t1 I1 hK => store_ok hx I1 fun h2 t2 I2 => hK.run h2 t2 Q I2 hQ) (hs _))⟩
theorem St.if {t : Expr} {b1 b2 : List Stmt} {pos : Pos} (h : Tx c m nw t (KIf c m b1 b2 l K)) : St c m nw (.If t b1 b2 pos :: l) K := by
  refine ⟨fun h0 tk Q I hQ => ?_⟩
  refine wpAny_execs_cons (wpAny_If (h.run h0 tk _ I fun b n1 h1 t1 I1 hK => ?_))
  have go : ∀ bl, St c m n1 bl (Kt c l K) → wpAny (Mo w) c.A (execs bl c.env) (fun f s' => match f with | .next => wpAny (Mo w) c.A (execs l c.env) Q c.E s' | f => Q f s') c.E (c.st h1 t1) := by
    intro bl hb
    refine hb.run h1 t1 _ I1 fun f m2 n2 h2 t2 I2 hK2 => ?_
    cases f with
    | next => exact hK2.run h2 t2 Q I2 hQ
    | _ => exact hQ _ _ _ _ _ I2 hK2
  cases b with
  | true => rw [if_pos rfl]; exact go _ hK
  | false => rw [if_neg Bool.false_ne_true]; exact go _ hK
theorem St.nilK {l' : List Stmt} (h : St c m nw l' K) : St c m nw [] (Kt c l' K) := St.nil h
theorem St.expr {e : Expr} {pos : Pos} (hs : ∀ L, swapsWith e none pos.line (i.env L) = pure false) (h : Ex c m nw e (KExp c m l K)) : St c m nw (.Expr e pos :: l) K := by
  refine ⟨fun h0 tk Q I hQ => ?_⟩
  refine wpAny_execs_cons (wpAny_Expr_any (h.run h0 tk _ I fun v n1 h1 t1 I1 hK => hK.run h1 t1 Q I1 hQ) ?_ (hs _))
  show (i.scope.kind == .module && _) = false
  rw [c.hk]; rfl
/-! several names take the items of a tuple -/
noncomputable def namesOf (sc : Scope) : List Expr → Option (List Str)
  | [] => some []
  | .Name x _ :: r => cond (nameLocal sc x) (match namesOf sc r with | some l => some (x :: l) | none => none) none
  | _ :: _ => none
noncomputable def puts : Fm → List Str → List Value → Fm
  | m, x :: xs, v :: vs => puts (setN m x v) xs vs
  | m, _, _ => m
theorem puts_ok {Q : Unit → Shared → Prop} : ∀ (es : List Expr) (xs : List Str) (vs : List Value) (m : Fm) (h0 : Heap) (tk : Nat), namesOf i.scope es = some xs → vs.length = xs.length → c.I m nw h0 → (∀ h1 t1, c.I (puts m xs vs) nw h1 → Q () (c.st h1 t1)) →
    wpAny (Mo w) c.A (assignInOrder ((assignEach es c.env).map fun x => x.2) vs) Q c.E (c.st h0 tk)
  | [], xs, vs, m, h0, tk, hn, hl, I, hQ => by
    cases hn
    exact assignInOrder_nil (hQ _ _ I)
  | e :: es, xs, vs, m, h0, tk, hn, hl, I, hQ => by
    cases e with
    | Name x px =>
      replace hn : cond (nameLocal i.scope x) (match namesOf i.scope es with | some l => some (x :: l) | none => none) none = some xs := hn
      obtain ⟨hx, hn⟩ := cond_some hn
      cases h1 : namesOf i.scope es with
      | none => rw [h1] at hn; cases hn
      | some ys =>
        rw [h1] at hn
        cases hn
        cases vs with
        | nil => cases hl
        | cons v vs =>
          exact assignInOrder_cons (assign_Name (store_ok hx I fun h1' t1 I1 => puts_ok es ys vs _ h1' t1 h1 (Nat.succ.inj hl) I1 hQ))
    | _ => exact nomatch (show (none : Option (List Str)) = some _ from hn)
theorem names_len : ∀ {es : List Expr} {xs : List Str} (env : Env), namesOf i.scope es = some xs → (assignEach es env).length = xs.length ∧ (assignEach es env).findIdx? (fun x => x.1) = none
  | [], _, env, h => by cases h; exact ⟨rfl, rfl⟩
  | e :: es, xs, env, h => by
    cases e with
    | Name x px =>
      replace h : cond (nameLocal i.scope x) (match namesOf i.scope es with | some l => some (x :: l) | none => none) none = some xs := h
      obtain ⟨hx, h⟩ := cond_some h
      cases h1 : namesOf i.scope es with
      | none => rw [h1] at h; cases h
      | some ys =>
        rw [h1] at h
        cases h
        obtain ⟨a, b⟩ := names_len env h1
        have e1 : assignEach (.Name x px :: es) env = (false, assign (.Name x px) env) :: assignEach es env := rfl
        rw [e1]
        refine ⟨by rw [List.length_cons, a]; rfl, ?_⟩
        rw [List.findIdx?_cons, b]; rfl
    | _ => exact nomatch (show (none : Option (List Str)) = some _ from h)
@[reducible] noncomputable def KAsgT (c : Cx w D i) (m : Fm) (xs : List Str) (l : List Stmt) (K : Flow → Fm → Led → Prop) (v : Value) (n : Led) : Prop := ∃ a its, v = .ref a ∧ (a, tupO its) ∈ n ∧ its.length = xs.length ∧ St c (puts m xs its) n l K
theorem St.asgT {es : List Expr} {k : Nat} {tp pos : Pos} {e : Expr} {xs : List Str} (hx : namesOf i.scope es = some xs) (hs : ∀ L, swapsWithSole [.Tuple es k tp] e pos.line (i.env L) = pure false) (hs2 : ∀ L, swappedStores [.Tuple es k tp] e (i.env L) = pure none) (h : Ex c m nw e (KAsgT c m xs l K)) : St c m nw (.Assign [.Tuple es k tp] e pos :: l) K := by
  refine ⟨fun h0 tk Q I hQ => ?_⟩
  refine wpAny_execs_cons (Assign_Tuple (h.run h0 tk _ I fun v n1 h1 t1 I1 hK => ?_) (hs _) (hs2 _))
  obtain ⟨a, its, rfl, hm, hl, hK⟩ := hK
  obtain ⟨n1', n2'⟩ := names_len c.env hx
  refine unpackN_ I1.F I1.N (News.isTup I1.N hm) rfl (by rw [n1', List.size_toArray, hl]) n2' fun h2 F2 N2 => ?_
  exact puts_ok es xs its m h2 _ hx hl ⟨F2, N2⟩ fun h3 t3 I3 => hK.run h3 t3 Q I3 hQ
/-! the ends -/
theorem fin_V {R : Tok → Value} {news : Led} (hret : RetV R c.k.h c.k.L c.k.m news c.k.s c.k.Q) {v : Value} (t : Tok) (e : v = R t) (hs : ∀ p ∈ news, p ∈ nw) : c.k.ret v nw := fun h' tk' F N => by
  subst e
  exact hret t h' tk' F (cb_drop N hs)
theorem fin_T2 {x y x' y' : Int} {t1 t2 : Tok} {a : Addr} {news : Led} (hret : RetT2 x y c.k.h c.k.L c.k.m news c.k.s c.k.Q) (hs : ∀ p ∈ (a, tupO [.int x' t1, .int y' t2]) :: news, p ∈ nw) (hl : ∀ p ∈ news, p.1 < a) (e1 : x' = x) (e2 : y' = y) : c.k.ret (.ref a) nw := fun h' tk' F N => by
  subst e1 e2
  exact hret a t1 t2 h' tk' F (cb_drop N hs) hl
theorem fin_T3 {x y z x' y' z' : Int} {t1 t2 t3 : Tok} {a : Addr} {news : Led} (hret : RetT3 x y z c.k.h c.k.L c.k.m news c.k.s c.k.Q) (hs : ∀ p ∈ (a, tupO [.int x' t1, .int y' t2, .int z' t3]) :: news, p ∈ nw) (hl : ∀ p ∈ news, p.1 < a) (e1 : x' = x) (e2 : y' = y) (e3 : z' = z) : c.k.ret (.ref a) nw := fun h' tk' F N => by
  subst e1 e2 e3
  exact hret a t1 t2 t3 h' tk' F (cb_drop N hs) hl
theorem fin_L {cs cs' : List Int} {its : List Value} {n : Nat} {a : Addr} {news : Led} (hret : RetL cs c.k.h c.k.L c.k.m news c.k.s c.k.Q) (hs : ∀ p ∈ (a, lstO its n) :: news, p ∈ nw) (hl : ∀ p ∈ news, p.1 < a) (hi : IntsAre its cs') (e : cs' = cs) : c.k.ret (.ref a) nw := fun h' tk' F N => by
  subst e
  exact hret a its n h' tk' hi F (cb_drop N hs) hl
theorem sub_r {l : Led} : ∀ p ∈ l, p ∈ l := fun _ h => h
theorem sub_t {l l' : Led} {q : Addr × Obj} (h : ∀ p ∈ l, p ∈ l') : ∀ p ∈ l, p ∈ q :: l' := fun p hp => .tail _ (h p hp)
theorem sub_c {l l' : Led} {q : Addr × Obj} (h : ∀ p ∈ l, p ∈ l') : ∀ p ∈ q :: l, p ∈ q :: l' := fun p hp => by
  cases hp with
  | head => exact .head _
  | tail _ hp => exact .tail _ (h p hp)
theorem lt_t {l : Led} {q : Addr × Obj} {a : Addr} (h : ∀ p ∈ q :: l, p.1 < a) : ∀ p ∈ l, p.1 < a := fun p hp => h p (.tail _ hp)
/-! comparisons -/
structure Co (c : Cx w D i) (m : Fm) (nw : Led) (op : CmpOp) (x y : Value) (K : Bool → Led → Prop) : Prop where
  run : ∀ (h : Heap) (tk : Nat) (Q : Value → Shared → Prop), c.I m nw h → (∀ b nw' h' tk', c.I m nw' h' → K b nw' → Q (.bool b) (c.st h' tk')) → wpAny (Mo w) c.A (compareOp op x y) Q c.E (c.st h tk)
@[reducible] noncomputable def KCo2 (c : Cx w D i) (m : Fm) (op : CmpOp) (K : Bool → Led → Prop) (x y : Value) (n : Led) : Prop := Co c m n op x y K
@[reducible] noncomputable def KCo (c : Cx w D i) (m : Fm) (r : Expr) (op : CmpOp) (K : Bool → Led → Prop) (x : Value) (n : Led) : Prop := Ex c m n r (KCo2 c m op K x)
@[reducible] noncomputable def KBl (K : Value → Led → Prop) (b : Bool) (n : Led) : Prop := K (.bool b) n
@[reducible] noncomputable def KCe2 (c : Cx w D i) (m : Fm) (op : CmpOp) (K : Value → Led → Prop) (x y : Value) (n : Led) : Prop := Co c m n op x y (KBl K)
@[reducible] noncomputable def KCe (c : Cx w D i) (m : Fm) (r : Expr) (op : CmpOp) (K : Value → Led → Prop) (x : Value) (n : Led) : Prop := Ex c m n r (KCe2 c m op K x)
theorem Tx.co {l r : Expr} {op : CmpOp} {pos : Pos} {K : Bool → Led → Prop} (hm : behindInMarks op r = false) (h : Ex c m nw l (KCo c m r op K)) : Tx c m nw (.Compare l [op] [r] pos) K :=
  ⟨fun h0 tk Q I hQ => wpAny_isTrue_Compare1 (h.run h0 tk _ I fun x n1 h1 t1 I1 h2 => h2.run h1 t1 _ I1 fun y n2 h3 t3 I3 h4 => h4.run h3 t3 _ I3 fun b n4 h5 t5 I5 hK => wpAny_truthy_bool (hQ _ _ _ _ I5 hK)) hm⟩
theorem Ex.co {l r : Expr} {op : CmpOp} {pos : Pos} {K : Value → Led → Prop} (hm : behindInMarks op r = false) (h : Ex c m nw l (KCe c m r op K)) : Ex c m nw (.Compare l [op] [r] pos) K :=
  ⟨fun h0 tk Q I hQ => wpAny_Compare1 (h.run h0 tk _ I fun x n1 h1 t1 I1 h2 => h2.run h1 t1 _ I1 fun y n2 h3 t3 I3 h4 => h4.run h3 t3 _ I3 fun b n4 h5 t5 I5 hK => hQ _ _ _ _ I5 hK) hm⟩
theorem Co.int {op : CmpOp} {x y : Int} {t t' : Tok} {cp : CP} {K : Bool → Led → Prop} (h : cpOf op x y = some cp) (hK : K cp.b nw) : Co c m nw op (.int x t) (.int y t') K := by
  refine ⟨fun h0 tk Q I hQ => ?_⟩
  have := hQ _ _ _ tk I hK
  cases op with
  | Eq => cases h; exact eq_int this
  | NotEq => cases h; exact ne_int this
  | Lt => cases h; exact lt_int this
  | LtE => cases h; exact le_int this
  | Gt => cases h; exact gt_int this
  | GtE => cases h; exact ge_int this
  | _ => exact nomatch (show (none : Option CP) = some _ from h)
theorem Co.bl {op : CmpOp} {x y : Value} {b : Bool} {K : Bool → Led → Prop} (h : evIs op x y = some b) (hK : K b nw) : Co c m nw op x y K := by
  refine ⟨fun h0 tk Q I hQ => ?_⟩
  have q := hQ _ _ _ tk I hK
  cases op with
  | Is =>
    obtain ⟨hn, h⟩ := cond_some h
    cases nonB_some hn
    cases x with
    | none => cases h; exact is_none_none q
    | int => cases h; exact is_int_none q
    | str => cases h; exact is_str_none q
    | bool => cases h; exact is_bool_none q
    | ref => cases h; exact is_ref_none q
    | _ => exact nomatch (show (none : Option Bool) = some _ from h)
  | IsNot =>
    obtain ⟨hn, h⟩ := cond_some h
    cases nonB_some hn
    cases x with
    | none => cases h; exact isnot_none_none q
    | int => cases h; exact isnot_int_none q
    | str => cases h; exact isnot_str_none q
    | bool => cases h; exact isnot_bool_none q
    | ref => cases h; exact isnot_ref_none q
    | _ => exact nomatch (show (none : Option Bool) = some _ from h)
  | Eq =>
    obtain ⟨i, j, hi, hj, h⟩ := two_some h
    obtain ⟨_, rfl⟩ := strOf_some hi
    obtain ⟨_, rfl⟩ := strOf_some hj
    cases h
    exact eq_str q
  | NotEq =>
    obtain ⟨i, j, hi, hj, h⟩ := two_some h
    obtain ⟨_, rfl⟩ := strOf_some hi
    obtain ⟨_, rfl⟩ := strOf_some hj
    cases h
    exact ne_str q
  | _ => exact nomatch (show (none : Option Bool) = some _ from h)
/-- a value in a tuple display of ints -/
theorem Tx.inN {x : Str} {px tp pos : Pos} {es : List Expr} {k : Nat} {n : Int} {u : Tok} {ns : List Int} {K : Bool → Led → Prop} {f : Nat → List Value} {ft : Nat → Nat} (hc : nameLocal i.scope x = true) (hv : lk m x = some (.int n u)) (he : ∀ t, evs i.scope (lk m) es t = some (f t, ft t)) (hn : ∀ t, Nat.ble (f t).length 1000 = true) (hi : ∀ t, IntsAre (f t) ns)
    (hm : behindInMarks .In (.Tuple es k tp) = false) (hK : K (ns.any fun y => y == n) nw) : Tx c m nw (.Compare (.Name x px) [.In] [.Tuple es k tp] pos) K :=
  Tx.co hm (Ex.nm hc hv (Ex.tupE he hn fun t a l => ⟨fun h0 tk Q I hQ => in_tuple_ints (News.isTup I.N (.head _)) (hi t) (hQ _ _ _ _ ⟨I.F, cb_drop I.N fun p hp => .tail _ hp⟩ hK)⟩))
theorem ints_reads {h : Heap} {its : List Value} {ns : List Int} (hi : IntsAre its ns) : ∃ as, ReadsAll h its (ns.map PyData.int) as := by
  induction hi with
  | nil => exact ⟨_, .nil⟩
  | cons n t r ih => exact ih.elim fun _ q => ⟨_, .cons (.int _ _) q⟩
theorem Co.eqT {a b : Addr} {its jts : List Value} {ns ms : List Int} {K : Bool → Led → Prop} (ha : (a, tupO its) ∈ nw) (hb : (b, tupO jts) ∈ nw) (hi : IntsAre its ns) (hj : IntsAre jts ms) (h1 : SeqAt.shaped (.tuple (ns.map PyData.int)) = true) (h2 : SeqAt.shaped (.tuple (ms.map PyData.int)) = true) (hK : K (decide (ns = ms)) nw) : Co c m nw .Eq (.ref a) (.ref b) K := by
  refine ⟨fun h0 tk Q I hQ => ?_⟩
  obtain ⟨as, r1⟩ := ints_reads (h := h0) hi
  obtain ⟨bs, r2⟩ := ints_reads (h := h0) hj
  refine eq_dataH (reads_tuple_at (I.N.get ha) rfl rfl r1) (reads_tuple_at (I.N.get hb) rfl rfl r2) h1 h2 (by have := c.hu; show c.un + 64 < cLine; lia) ?_
  rw [show (PyData.tuple (ns.map .int)).eqv (.tuple (ms.map .int)) = PyData.eqvAll (ns.map .int) (ms.map .int) by rw [PyData.eqv], ked_eqvAll]
  exact hQ _ _ _ _ I hK
/-- a chain of comparisons as a value -/
theorem Ex.cps1 {l r : Expr} {op : CmpOp} {pos : Pos} {K : Value → Led → Prop} {f g : Nat → Value} {ft gt : Nat → Nat} {cp : CP} (h1 : ∀ t, Mine.ev i.scope (lk m) 6 l t = some (f t, ft t)) (h2 : ∀ t, Mine.ev i.scope (lk m) 6 r t = some (g t, gt t)) (h3 : ∀ t t', evCP op (f t) (g t') = some cp) (hK : K (.bool cp.b) nw) : Ex c m nw (.Compare l [op] [r] pos) K :=
  Ex.co (ev_marks (h2 0)) (Ex.ev h1 fun t => Ex.ev h2 fun t' => by
    obtain ⟨x, y, hx, hy, h⟩ := two_some (h3 t t')
    obtain ⟨_, e1⟩ := intOf_some hx
    obtain ⟨_, e2⟩ := intOf_some hy
    rw [e1, e2]
    exact Co.int h hK)
theorem Ex.cps2 {l r r' : Expr} {op op' : CmpOp} {pos : Pos} {K : Value → Led → Prop} {f g g' : Nat → Value} {ft gt gt' : Nat → Nat} {cp cp' : CP} (h1 : ∀ t, Mine.ev i.scope (lk m) 6 l t = some (f t, ft t)) (h2 : ∀ t, Mine.ev i.scope (lk m) 6 r t = some (g t, gt t)) (h2' : ∀ t, Mine.ev i.scope (lk m) 6 r' t = some (g' t, gt' t)) (h3 : ∀ t t', evCP op (f t) (g t') = some cp) (h4 : ∀ t t', evCP op' (g t) (g' t') = some cp') (hK : K (.bool (cp.b && cp'.b)) nw) : Ex c m nw (.Compare l [op, op'] [r, r'] pos) K := by
  refine ⟨fun h0 tk Q I hQ => ?_⟩
  have go : ∀ {op : CmpOp} {a b : Value} {d : CP} (h : Heap) (tk : Nat) (Q : Value → Shared → Prop), c.I m nw h → evCP op a b = some d → (∀ h' tk', c.I m nw h' → Q (.bool d.b) (c.st h' tk')) → wpAny (Mo w) c.A (compareOp op a b) Q c.E (c.st h tk) := by
    intro op a b d h tk Q I hd hQ
    obtain ⟨x, y, hx, hy, hd⟩ := two_some hd
    obtain ⟨_, rfl⟩ := intOf_some hx
    obtain ⟨_, rfl⟩ := intOf_some hy
    exact (Co.int (K := fun b n => b = d.b ∧ nw = n) hd ⟨rfl, rfl⟩).run h tk Q I fun b n h' tk' I' hK => by obtain ⟨rfl, rfl⟩ := hK; exact hQ h' tk' I'
  refine Compare_chain ((Ex.ev h1 (K := fun v n => (∃ t, v = f t) ∧ nw = n) (fun t => ⟨⟨t, rfl⟩, rfl⟩)).run h0 tk _ I ?_) (show behindInMarks op' r' = false from ev_marks (h2' 0))
  rintro _ _ k1 t1 I1 ⟨⟨t, rfl⟩, rfl⟩
  refine chain_link ((Ex.ev h2 (K := fun v n => (∃ t, v = g t) ∧ nw = n) (fun t => ⟨⟨t, rfl⟩, rfl⟩)).run k1 t1 _ I1 ?_)
  rintro _ _ k2 t2 I2 ⟨⟨t', rfl⟩, rfl⟩
  refine go k2 t2 _ I2 (h3 t t') fun k3 t3 I3 => wpAny_truthy_bool ?_
  cases hb : cp.b with
  | false =>
    rw [if_neg Bool.false_ne_true]
    refine hQ _ _ _ _ I3 ?_
    rw [hb] at hK; exact hK
  | true =>
    rw [if_pos rfl]
    rw [hb] at hK
    refine chain_last ((Ex.ev h2' (K := fun v n => (∃ t, v = g' t) ∧ nw = n) (fun t => ⟨⟨t, rfl⟩, rfl⟩)).run k3 t3 _ I3 ?_)
    rintro _ _ k4 t4 I4 ⟨⟨t'', rfl⟩, rfl⟩
    exact go k4 t4 _ I4 (h4 t' t'') fun k5 t5 I5 => hQ _ _ _ _ I5 hK
theorem Ex.ev9 {e : Expr} {K : Value → Led → Prop} {f : Nat → Value} {ft : Nat → Nat} (h : ∀ t, Mine.ev i.scope (lk m) 9 e t = some (f t, ft t)) (hK : ∀ t, K (f t) nw) : Ex c m nw e K := Ex.ev h hK
/-! two steps in one -/
/-- a statement that gives back a simple expression -/
theorem St.retE {e : Expr} {pos : Pos} {f : Nat → Value} {ft : Nat → Nat} (h : ∀ t, Mine.ev i.scope (lk m) 9 e t = some (f t, ft t)) (hK : ∀ t, K (.ret (f t)) m nw) : St c m nw (.Return (some e) pos :: l) K :=
  St.ret (Ex.ev h hK)
theorem St.asgE {x : Str} {px pos : Pos} {e : Expr} {f : Nat → Value} {ft : Nat → Nat} (hx : nameLocal i.scope x = true) (hs : ∀ L, swapsWith e (some (.Name x px)) pos.line (i.env L) = pure false) (h : ∀ t, Mine.ev i.scope (lk m) 9 e t = some (f t, ft t)) (hK : ∀ t, St c (setN m x (f t)) nw l K) : St c m nw (.Assign [.Name x px] e pos :: l) K :=
  St.asg hx hs (Ex.ev h hK)
/-- an if whose test is a comparison of ints, or a chain -/
theorem St.ifC {t : Expr} {b1 b2 : List Stmt} {pos : Pos} {cs : List CP} {ft : Nat → Nat} (h : ∀ tk, Mine.evL i.scope (lk m) t tk = some (cs, ft tk)) (hT : allC cs (St c m nw b1 (Kt c l K))) (hF : ¬ conjC cs → St c m nw b2 (Kt c l K)) : St c m nw (.If t b1 b2 pos :: l) K :=
  St.if (Tx.cps h hT hF)
/-! while -/
/-- a while at its test -/
structure Wl (c : Cx w D i) (m : Fm) (nw : Led) (t : Expr) (b : List Stmt) (l : List Stmt) (K : Flow → Fm → Led → Prop) : Prop where
  run : ∀ (h : Heap) (tk : Nat) (Q : Flow → Shared → Prop), c.I m nw h → (∀ f m' nw' h' tk', c.I m' nw' h' → K f m' nw' → Q f (c.st h' tk')) → ∀ k, WhlRest PySem.Challenge.pw_nt0050_01 w c.A c.E c.env t b [] (fun f s' => match f with | .next => wpAny (Mo w) c.A (execs l c.env) Q c.E s' | f => Q f s') k (c.st h tk)
noncomputable def Kw (c : Cx w D i) (t : Expr) (b : List Stmt) (l : List Stmt) (K : Flow → Fm → Led → Prop) (f : Flow) (m : Fm) (nw : Led) : Prop :=
  match f with
  | .next => Wl c m nw t b l K
  | .cont => Wl c m nw t b l K
  | .brk => St c m nw l K
  | .ret v => K (.ret v) m nw
theorem St.while {t : Expr} {b : List Stmt} {pos : Pos} (h : Wl c m nw t b l K) : St c m nw (.While t b [] pos :: l) K :=
  ⟨fun h0 tk Q I hQ => wpAny_execs_cons (whl_start 0 (h.run h0 tk Q I hQ 0))⟩
theorem Wl.turn {t : Expr} {b : List Stmt} (h : Tx c m nw t fun q n1 => Sp q (St c m n1 b (Kw c t b l K)) (St c m n1 l K)) : Wl c m nw t b l K := by
  refine ⟨fun h0 tk Q I hQ k => whl_turn (k := k) c.po (h.run h0 tk _ I fun q n1 h1 t1 I1 hK => ?_)⟩
  cases q with
  | true =>
    refine WhlIf.yes rfl (hK.run h1 t1 _ I1 fun f m2 n2 h2 t2 I2 hK2 => ?_)
    cases f with
    | next => exact hK2.run h2 t2 Q I2 hQ k
    | cont => exact hK2.run h2 t2 Q I2 hQ k
    | brk => exact hK2.run h2 t2 Q I2 hQ
    | ret v => exact hQ _ _ _ _ _ I2 hK2
  | false => exact wpAny_execs_nil (hK.run h1 t1 Q I1 hQ)
theorem Wl.ind {t : Expr} {b : List Stmt} (J : Nat → Fm → Led → Prop) (hs : ∀ n m1 n1, J n m1 n1 → (∀ k m2 n2, k < n → J k m2 n2 → Wl c m2 n2 t b l K) → Wl c m1 n1 t b l K) : ∀ n m1 n1, J n m1 n1 → Wl c m1 n1 t b l K := fun n =>
  Nat.strongRecOn n fun n ih m1 n1 hJ => hs n m1 n1 hJ fun k m2 n2 hk h2 => ih k hk m2 n2 h2
/-! objects: attributes and methods -/
noncomputable def atab : List (Addr × Str) := [(419, Str.ofString "defaults"), (419, Str.ofString "maps"), (419, Str.ofString "properties"), (419, Str.ofString "words"), (363, Str.ofString "default"), (363, Str.ofString "starts"), (363, Str.ofString "values"), (175, Str.ofString "pairs"), (175, Str.ofString "seconds"), (303, Str.ofString "data_asked"), (303, Str.ofString "is_legacy"), (303, Str.ofString "kind"), (303, Str.ofString "is_odd"), (303, Str.ofString "picture"), (303, Str.ofString "conjunct")]
theorem atab_all (P : Params) : atab.map (fun q => (plainGet (hd.heap_1 P) q.1 q.2, hasDictIn (hd.heap_1 P) q.1, findIn (hd.heap_1 P) (.ref q.1) q.2)) = atab.map (fun _ => (true, true, some none)) := by kernel_rfl
noncomputable def mtab : List ((Addr × Str) × Addr) := [((419, Str.ofString "put"), 402), ((419, Str.ofString "get"), 409), ((419, Str.ofString "map_of"), 416), ((363, Str.ofString "get"), 341), ((363, Str.ofString "put"), 348), ((363, Str.ofString "ranges"), 353), ((175, Str.ofString "pair"), 165), ((175, Str.ofString "is_second"), 172), ((303, Str.ofString "put"), 286), ((303, Str.ofString "is_held"), 293), ((303, Str.ofString "take"), 300)]
theorem mtab_all (P : Params) : mtab.map (fun q => (plainGet (hd.heap_1 P) q.1.1 q.1.2, findIn (hd.heap_1 P) (.ref q.1.1) q.1.2, isFn (hd.heap_1 P) (.ref q.2), keepIn (hd.heap_1 P) (.ref q.2))) = mtab.map (fun q => (true, some (some (.ref q.2)), true, true)) := by kernel_rfl
theorem mtab_at {P : Params} {C f : Addr} {x : Str} (h : mtab.lookup (C, x) = some f) : plainGet (hd.heap_1 P) C x = true ∧ findIn (hd.heap_1 P) (.ref C) x = some (some (.ref f)) ∧ isFn (hd.heap_1 P) (.ref f) = true ∧ keepIn (hd.heap_1 P) (.ref f) = true := by
  have := List.map_inj_left.mp (mtab_all P) ((C, x), f) (lookup_mem h)
  simpa only [Prod.mk.injEq] using this
theorem atab_at {P : Params} {C : Addr} {x : Str} (h : atab.contains (C, x) = true) : plainGet (hd.heap_1 P) C x = true ∧ hasDictIn (hd.heap_1 P) C = true ∧ findIn (hd.heap_1 P) (.ref C) x = some none := by
  have := List.map_inj_left.mp (atab_all P) (C, x) (List.contains_iff_mem.mp h)
  simpa only [Prod.mk.injEq] using this
/-- getting an attribute -/
structure Ga (c : Cx w D i) (m : Fm) (nw : Led) (o : Value) (x : Str) (K : Value → Led → Prop) : Prop where
  run : ∀ (h : Heap) (tk : Nat) (Q : Value → Shared → Prop), c.I m nw h → (∀ v nw' h' tk', c.I m nw' h' → K v nw' → Q v (c.st h' tk')) → wpAny (Mo w) c.A (getAttr o x true) Q c.E (c.st h tk)
theorem Ga.own {a C dx : Addr} {es : List DictEntry} {n : Nat} {x : Str} {v : Value} {K : Value → Led → Prop} (ha : (a, instObj C dx) ∈ nw) (hd : (dx, dictOf es n) ∈ nw) (hc : atab.contains (C, x) = true) {hh : Int} {kk : Value} (hg : es.find? (fun e => e.key.isStr x) = some ⟨hh, kk, v⟩) (hv : handedIn v = true) (hK : K v nw) : Ga c m nw (.ref a) x K := by
  have hg : getL x es = some (some v) := by unfold getL; rw [hg]
  refine ⟨fun h0 tk Q I hQ => ?_⟩
  obtain ⟨h1, h2, h3⟩ := atab_at (P := w.params) hc
  exact get_own I.F c.X (InstAt.of_news I.N ha hd) h1 h2 h3 rfl hg hv (hQ _ _ _ _ I hK)
@[reducible] noncomputable def KAtt (c : Cx w D i) (m : Fm) (x : Str) (K : Value → Led → Prop) (o : Value) (n : Led) : Prop := Ga c m n o x K
theorem Ex.att {e : Expr} {x : Str} {pos : Pos} {K : Value → Led → Prop} (he : ∀ env, eval (e.Attribute x pos) env = (do let o ← eval e env; standAt pos.atName; let r ← holding [o] (getAttr o x true); letTemporaryGo e o r; pure r)) (h : Ex c m nw e fun o n1 => Ga c m n1 o x K) : Ex c m nw (.Attribute e x pos) K :=
  ⟨fun h0 tk Q I hQ => Attribute_any_ (h.run h0 tk _ I fun v n1 h1 t1 I1 hK => hK.run h1 t1 Q I1 hQ) (he _)⟩
theorem Ex.attN {x y : Str} {px pos : Pos} {K : Value → Led → Prop} (h : Ex c m nw (.Name y px) (KAtt c m x K)) : Ex c m nw (.Attribute (.Name y px) x pos) K :=
  ⟨fun h0 tk Q I hQ => Attribute_name (h.run h0 tk _ I fun v n1 h1 t1 I1 hK => hK.run h1 t1 Q I1 hQ)⟩
/-- getting a method -/
structure Gm (c : Cx w D i) (m : Fm) (nw : Led) (o : Value) (x : Str) (K : Value → List Value → Led → Prop) : Prop where
  run : ∀ (h : Heap) (tk : Nat) (pl : Sem Bool) (Q : Value × List Value → Shared → Prop), c.I m nw h → (∀ v vs nw' h' tk', c.I m nw' h' → K v vs nw' → Q (v, vs) (c.st h' tk')) → wpAny (Mo w) c.A (getMethod o x pl) Q c.E (c.st h tk)
theorem Gm.own {a C dx f : Addr} {es : List DictEntry} {n : Nat} {x : Str} {K : Value → List Value → Led → Prop} (ha : (a, instObj C dx) ∈ nw) (hd : (dx, dictOf es n) ∈ nw) (hc : mtab.lookup (C, x) = some f) (hg : getL x es = some none) (hK : K (.ref f) [.ref a] nw) : Gm c m nw (.ref a) x K := by
  refine ⟨fun h0 tk pl Q I hQ => ?_⟩
  obtain ⟨h1, h2, h3, _⟩ := mtab_at (P := w.params) hc
  exact method_inst I.F c.X (InstAt.of_news I.N ha hd) h1 h2 h3 hg (hQ _ _ _ _ _ I hK)
@[reducible] noncomputable def appV : List Value → List Value → List Value
  | [], l => l
  | x :: r, l => x :: appV r l
theorem appV_eq : ∀ (a b : List Value), appV a b = a ++ b
  | [], _ => rfl
  | x :: r, l => by rw [appV, appV_eq r l]; rfl
/-- a callable with the expressions of its arguments -/
structure Cw (c : Cx w D i) (m : Fm) (nw : Led) (f : Value) (first : List Value) (pos : Pos) (es : List Expr) (K : Value → Led → Prop) : Prop where
  run : ∀ (h : Heap) (tk : Nat) (Q : Value → Shared → Prop), c.I m nw h → (∀ v nw' h' tk', c.I m nw' h' → K v nw' → Q v (c.st h' tk')) → wpAny (Mo w) c.A (callWith pos f first (backTo pos (starEach es c.env)) []) Q c.E (c.st h tk)
@[reducible] noncomputable def KCw (c : Cx w D i) (m : Fm) (f : Value) (first : List Value) (K : Value → Led → Prop) (vs : List Value) (n : Led) : Prop := Ca c m n f (appV first vs) K
theorem Cw.fn {f : Value} {first : List Value} {pos : Pos} {e : Expr} {es : List Expr} {K : Value → Led → Prop} (hk : keepIn (hd.heap_1 w.params) f = true) (hs : noStar (e :: es) = true) (h : Exs c m nw pos (e :: es) (KCw c m f first K)) : Cw c m nw f first pos (e :: es) K :=
  ⟨fun h0 tk Q I hQ => callWith_K (Frag.In.keeps c.X I.F.keep) hk (h.run h0 tk _ I fun vs n3 h3 t3 I3 hK3 => ⟨Frag.In.keeps c.X I3.F.keep, (appV_eq first vs ▸ (show Ca c m _ _ (appV first vs) K from hK3)).run h3 t3 Q I3 hQ⟩) (noStar_cons hs _).1 (noStar_any _ _ (noStar_cons hs c.env).2)⟩
theorem Cw.fn0 {f : Value} {first : List Value} {pos : Pos} {K : Value → Led → Prop} (hk : keepIn (hd.heap_1 w.params) f = true) (h : Ca c m nw f (appV first []) K) : Cw c m nw f first pos [] K :=
  ⟨fun h0 tk Q I hQ => callWith_K0 (Frag.In.keeps c.X I.F.keep) hk ((appV_eq first [] ▸ h).run h0 tk Q I hQ)⟩
theorem keep_m {P : Params} {f : Addr} (h : (mtab.any fun q => q.2 == f) = true) : keepIn (hd.heap_1 P) (.ref f) = true := by
  obtain ⟨q, hq, e⟩ := List.any_eq_true.mp h
  have := List.map_inj_left.mp (mtab_all P) q hq
  simp only [Prod.mk.injEq] at this
  rw [← eq_of_beq e]
  exact this.2.2.2
theorem Cw.me {f : Addr} {first : List Value} {pos : Pos} {e : Expr} {es : List Expr} {K : Value → Led → Prop} (hk : (mtab.any fun q => q.2 == f) = true) (hs : noStar (e :: es) = true) (h : Exs c m nw pos (e :: es) (KCw c m (.ref f) first K)) : Cw c m nw (.ref f) first pos (e :: es) K := Cw.fn (keep_m hk) hs h
theorem Cw.me0 {f : Addr} {first : List Value} {pos : Pos} {K : Value → Led → Prop} (hk : (mtab.any fun q => q.2 == f) = true) (h : Ca c m nw (.ref f) (appV first []) K) : Cw c m nw (.ref f) first pos [] K := Cw.fn0 (keep_m hk) h
theorem Cw.bi {id : String} {first : List Value} {pos : Pos} {e : Expr} {es : List Expr} {K : Value → Led → Prop} (hs : noStar (e :: es) = true) (h : Exs c m nw pos (e :: es) (KCw c m (.builtin id) first K)) : Cw c m nw (.builtin id) first pos (e :: es) K :=
  ⟨fun h0 tk Q I hQ => callWith_method1 (h.run h0 tk _ I fun vs n3 h3 t3 I3 hK3 => (appV_eq first vs ▸ (show Ca c m _ _ (appV first vs) K from hK3)).run h3 t3 Q I3 hQ) (noStar_cons hs _).1 (noStar_any _ _ (noStar_cons hs c.env).2)⟩
theorem Cw.bi0 {id : String} {first : List Value} {pos : Pos} {K : Value → Led → Prop} (h : Ca c m nw (.builtin id) first K) : Cw c m nw (.builtin id) first pos [] K :=
  ⟨fun h0 tk Q I hQ => callWith_method0 (h.run h0 tk Q I hQ)⟩
theorem Cw.ty {T : String} {pos : Pos} {e : Expr} {es : List Expr} {K : Value → Led → Prop} (hs : noStar (e :: es) = true) (h : Exs c m nw pos (e :: es) (KCa c m (.type T) K)) : Cw c m nw (.type T) [] pos (e :: es) K :=
  ⟨fun h0 tk Q I hQ => PyProof.Rows.callWith_type1 (h.run h0 tk _ I fun vs n3 h3 t3 I3 hK3 => hK3.run h3 t3 Q I3 hQ) (noStar_cons hs _).1 (noStar_any _ _ (noStar_cons hs c.env).2)⟩
@[reducible] noncomputable def KMc2 (c : Cx w D i) (m : Fm) (pos : Pos) (as : List Expr) (K : Value → Led → Prop) (f : Value) (first : List Value) (n : Led) : Prop := Cw c m n f first pos as K
@[reducible] noncomputable def KMc (c : Cx w D i) (m : Fm) (x : Str) (pos : Pos) (as : List Expr) (K : Value → Led → Prop) (o : Value) (n : Led) : Prop := Gm c m n o x (KMc2 c m pos as K)
/-- a method's call -/
theorem Ex.mcall {e : Expr} {as : List Expr} {x : Str} {ap pos : Pos} {K : Value → Led → Prop} {pl : Env → Sem Bool}
    (he : ∀ env, eval ((e.Attribute x ap).Call as [] pos) env = (do let ov ← eval e env; standAt ap.atName; let (f, first) ← holding [ov] (getMethod ov x (pl env)); callWith pos f first (backTo pos (starEach as env)) []))
    (h : Ex c m nw e (KMc c m x pos as K)) : Ex c m nw (.Call (.Attribute e x ap) as [] pos) K :=
  ⟨fun h0 tk Q I hQ => MethodCall_ (h.run h0 tk _ I fun o n1 h1 t1 I1 hK => hK.run h1 t1 _ _ I1 fun f first n2 h2 t2 I2 hK2 => hK2.run h2 t2 Q I2 hQ) (he _)⟩
/-! built-in names -/
noncomputable def btab : List (Str × Value) := [(Str.ofString "len", .builtin "len"), (Str.ofString "range", .type "range"), (Str.ofString "list", .type "list"), (Str.ofString "int", .type "int"), (Str.ofString "enumerate", .type "enumerate"), (Str.ofString "max", .builtin "max"), (Str.ofString "isinstance", .builtin "isinstance"), (Str.ofString "sorted", .builtin "sorted"), (Str.ofString "bool", .type "bool")]
theorem btab_ok : (btab.all fun q => bootBuiltins q.1 == some q.2 && !(q.1 == Str.ofString "__name__")) = true := by decide +kernel
theorem btab_none (P : Params) : btab.map (fun q => nsIn (hd.heap_1 P) mainGlobals q.1) = btab.map (fun _ => some none) := by kernel_rfl
theorem Ex.bn {x : Str} {px : Pos} {v : Value} {K : Value → Led → Prop} (hg : nameGlobal i.scope x = true) (hv : btab.lookup x = some v) (hK : K v nw) : Ex c m nw (.Name x px) K := by
  refine ⟨fun h0 tk Q I hQ => ?_⟩
  have hm := lookup_mem hv
  have h1 := List.all_eq_true.mp btab_ok _ hm
  have h2 := List.map_inj_left.mp (btab_none w.params) _ hm
  simp only [Bool.and_eq_true, beq_iff_eq, Bool.not_eq_true', beq_eq_false_iff_ne] at h1
  simp only [nameGlobal, Bool.and_eq_true, beq_iff_eq, Bool.not_eq_true'] at hg
  exact nameX_B (cl := i.cells c.L) (s := c.st h0 tk) I.F c.X c.tr h2 h1.1 h1.2 (hQ _ _ _ _ I hK) hg.1 hg.2.1 hg.2.2
theorem Ex.callB {x : Str} {px pos : Pos} {es : List Expr} {v : Value} {K : Value → Led → Prop} (hg : nameGlobal i.scope x = true) (hv : btab.lookup x = some v) (he : ∀ env, eval ((Expr.Name x px).Call es [] pos) env = (do let f ← eval (.Name x px) env; callWith pos f [] (backTo pos (starEach es env)) (backToKw pos (keywordEach [] env)))) (h : Cw c m nw v [] pos es K) : Ex c m nw (.Call (.Name x px) es [] pos) K :=
  ⟨fun h0 tk Q I hQ => Call_ ((Ex.bn (K := fun u n => u = v ∧ nw = n) hg hv ⟨rfl, rfl⟩).run h0 tk _ I fun u n1 h1 t1 I1 hu => by obtain ⟨rfl, rfl⟩ := hu; exact h.run h1 t1 Q I1 hQ) (he _)⟩
/-- the length of a list -/
theorem Ca.len {a : Addr} {its : List Value} {n : Nat} {k : Nat} {K : Value → Led → Prop} (ha : (a, lstO its n) ∈ nw) (e : its.length = k) (hb : (k : Int) < 2 ^ 63) (hK : ∀ t, K (.int k t) nw) : Ca c m nw (.builtin "len") [.ref a] K :=
  ⟨fun h0 tk Q I hQ => kst_len I.N ha e hb (hQ _ _ _ _ I (hK _))⟩
/-! subscripts -/
structure Su (c : Cx w D i) (m : Fm) (nw : Led) (value slice : Expr) (o iv : Value) (K : Value → Led → Prop) : Prop where
  run : ∀ (h : Heap) (tk : Nat) (Q : Value → Shared → Prop), c.I m nw h → (∀ v nw' h' tk', c.I m nw' h' → K v nw' → Q v (c.st h' tk')) → wpAny (Mo w) c.A (subscriptTail value slice o iv) Q c.E (c.st h tk)
@[reducible] noncomputable def KSub2 (c : Cx w D i) (m : Fm) (e s : Expr) (K : Value → Led → Prop) (o iv : Value) (n : Led) : Prop := Su c m n e s o iv K
@[reducible] noncomputable def KSub (c : Cx w D i) (m : Fm) (e s : Expr) (K : Value → Led → Prop) (o : Value) (n : Led) : Prop := Ex c m n s (KSub2 c m e s K o)
theorem Ex.sub {e s : Expr} {pos : Pos} {K : Value → Led → Prop} (h : Ex c m nw e (KSub c m e s K)) : Ex c m nw (.Subscript e s pos) K :=
  ⟨fun h0 tk Q I hQ => Subscript_ (h.run h0 tk _ I fun o n1 h1 t1 I1 hK => hK.run h1 t1 _ I1 fun iv n2 h2 t2 I2 hK2 => hK2.run h2 t2 Q I2 hQ)⟩
theorem item_vs {prog : Program} {w : World} {A : Around} {E : Value → Shared → Prop} {s : Shared} {h₀ : Heap} {L l : Addr} {news : List (Addr × Obj)} {vs : List Value} {n : Nat} {value slice : Expr} {k : Int} {u : Tok} {v : Value} {Q : Value → Shared → Prop}
    (N : News h₀ L s.heap news) (hm : (l, lstO vs n) ∈ news) (h0 : 0 ≤ k) (h1 : k < 2 ^ 63) (hx : vs[k.toNat]? = some v) (h : Q v s)
    (hs : subscripted slice false (.ref l) (.int k u) = operate [.ref l, .int k u] (getItem (.ref l) (.int k u)) := by with_unfolding_all rfl) :
    wpAny (model prog w) A (subscriptTail value slice (.ref l) (.int k u)) Q E s :=
  have hl : s.heap.IsList l vs.toArray := ⟨_, (N _ hm).1, rfl, n, rfl⟩
  tail_any hl.typeIs slot_list_getitem.lookup (wpAny_getItem_list hl h0 h1 (by simpa using hx) h) hs
theorem Su.lst {value slice : Expr} {a : Addr} {its : List Value} {n : Nat} {k : Int} {u : Tok} {v : Value} {K : Value → Led → Prop} (hs : ∀ l k u, subscripted slice false (.ref l) (.int k u) = operate [.ref l, .int k u] (getItem (.ref l) (.int k u))) (ha : (a, lstO its n) ∈ nw) (h0 : 0 ≤ k) (h1 : k < 2 ^ 63) (hv : its[k.toNat]? = some v) (hK : K v nw) : Su c m nw value slice (.ref a) (.int k u) K :=
  ⟨fun h tk Q I hQ => item_vs I.N ha h0 h1 hv (hQ _ _ _ _ I hK) (hs _ _ _)⟩
theorem Su.tup {value slice : Expr} {a : Addr} {its : List Value} {k : Int} {u : Tok} {j : Nat} {v : Value} {K : Value → Led → Prop} (hs : ∀ l k u, subscripted slice false (.ref l) (.int k u) = operate [.ref l, .int k u] (getItem (.ref l) (.int k u))) (ha : (a, tupO its) ∈ nw) (h0 : -2 ^ 63 ≤ k) (h1 : k < 2 ^ 63) (hj : seqIndex? k its.length = some j) (hv : its[j]? = some v) (hK : K v nw) : Su c m nw value slice (.ref a) (.int k u) K :=
  ⟨fun h tk Q I hQ => item_tupleT (News.isTup I.N ha) h0 h1 hj hv (hQ _ _ _ _ I hK) (hs _ _ _)⟩
/-! dictionaries with texts as keys -/
theorem Co.inD {x : Str} {t : Tok} {a : Addr} {o : Obj} {kvs : List (Str × Value)} {b : Bool} {K : Bool → Led → Prop} (ha : (a, o) ∈ nw) (ho : o.IsDictOf (PySem.strKind PySem.Challenge.pw_nt0050_01 w) kvs) (hn : (a == sysModules) = false) (hb : (valueAt kvs x).isSome = b) (hK : K b nw) : Co c m nw .In (.str x t) (.ref a) K :=
  ⟨fun h tk Q I hQ => kda_in I.N ha ho hn (strKind_is _ _ _ _) b hb (hQ _ _ _ _ I hK)⟩
theorem Su.key {value slice : Expr} {a : Addr} {o : Obj} {kvs : List (Str × Value)} {x : Str} {t : Tok} {v : Value} {K : Value → Led → Prop} (hs : ∀ l k u, subscripted slice false (.ref l) (.str k u) = operate [.ref l, .str k u] (getItem (.ref l) (.str k u))) (ha : (a, o) ∈ nw) (ho : o.IsDictOf (PySem.strKind PySem.Challenge.pw_nt0050_01 w) kvs) (hv : valueAt kvs x = some v) (hK : K v nw) : Su c m nw value slice (.ref a) (.str x t) K :=
  ⟨fun h tk Q I hQ => kba_turn (value' := .Name (Str.ofString "x") ⟨0, 0, 0, 0⟩) (fun _ => rfl) (kda_item I.N ha ho (strKind_is _ _ _ _) hv (hQ _ _ _ _ I hK) (hs _ _ _) (fun _ => rfl))⟩
theorem Gm.dget {a : Addr} {o : Obj} {kvs : List (Str × Value)} {K : Value → List Value → Led → Prop} (ha : (a, o) ∈ nw) (ho : o.IsDictOf (PySem.strKind PySem.Challenge.pw_nt0050_01 w) kvs) (hK : K (.builtin "dict.get") [.ref a] nw) : Gm c m nw (.ref a) (Str.ofString "get") K :=
  ⟨fun h tk pl Q I hQ => kdg_method I.N ha ho (hQ _ _ _ _ _ I hK)⟩
theorem Ca.dget {a : Addr} {o : Obj} {kvs : List (Str × Value)} {x : Str} {t : Tok} {v : Option Value} {K : Value → Led → Prop} (ha : (a, o) ∈ nw) (ho : o.IsDictOf (PySem.strKind PySem.Challenge.pw_nt0050_01 w) kvs) (hn : (a == sysModules) = false) (hv : valueAt kvs x = v) (hK : K (v.getD .none) nw) : Ca c m nw (.builtin "dict.get") [.ref a, .str x t] K :=
  ⟨fun h tk Q I hQ => kdg_get1 I.N ha ho hn (strKind_is _ _ _ _) v hv (hQ _ _ _ _ I hK)⟩
theorem ints_get {its : List Value} {ns : List Int} (h : IntsAre its ns) : ∀ {k : Nat}, k < ns.length → ∃ t, its[k]? = some (.int (ns.getD k 0) t) := by
  induction h with
  | nil => intro k h; exact absurd h (Nat.not_lt_zero _)
  | cons n t _ ih =>
    intro k h
    cases k with
    | zero => exact ⟨t, rfl⟩
    | succ k => exact ih (Nat.lt_of_succ_lt_succ h)
theorem Su.ints {value slice : Expr} {a : Addr} {its : List Value} {ns : List Int} {n : Nat} {k : Int} {u : Tok} {K : Value → Led → Prop} (hs : ∀ l k u, subscripted slice false (.ref l) (.int k u) = operate [.ref l, .int k u] (getItem (.ref l) (.int k u))) (ha : (a, lstO its n) ∈ nw) (hi : IntsAre its ns) (h0 : 0 ≤ k) (h1 : k < ns.length) (h2 : (ns.length : Int) < 2 ^ 63) (hK : ∀ t, K (.int (ns.getD k.toNat 0) t) nw) : Su c m nw value slice (.ref a) (.int k u) K := by
  obtain ⟨t, e⟩ := ints_get (k := k.toNat) hi (by lia)
  exact Su.lst hs ha h0 (by lia) e (hK t)
theorem Sp.cp {p : CP} {A B : Prop} (h1 : p.P → A) (h2 : ¬ p.P → B) : Sp p.b A B := by
  cases hb : p.b with
  | true => exact h1 (p.bP.mp hb)
  | false => exact h2 fun q => Bool.false_ne_true (hb.symm.trans (p.bP.mpr q))
/-! what follows a block's end -/
theorem Kt.ret {l' : List Stmt} {v : Value} (h : K (.ret v) m nw) : Kt c l' K (.ret v) m nw := h
theorem Kt.cont {l' : List Stmt} (h : K .cont m nw) : Kt c l' K .cont m nw := h
theorem Kw.next {t : Expr} {b l' : List Stmt} (h : Wl c m nw t b l' K) : Kw c t b l' K .next m nw := h
theorem Kw.cont {t : Expr} {b l' : List Stmt} (h : Wl c m nw t b l' K) : Kw c t b l' K .cont m nw := h
theorem Kw.ret {t : Expr} {b l' : List Stmt} {v : Value} (h : K (.ret v) m nw) : Kw c t b l' K (.ret v) m nw := h
theorem fin_i {v : Value} (h : c.k.ret v nw) : c.fin (.ret v) m nw := h
theorem St.cont {pos : Pos} (h : K .cont m nw) : St c m nw (.Continue pos :: l) K :=
  ⟨fun h0 tk Q I hQ => wpAny_execs_cons (wpAny_Continue (hQ _ _ _ _ _ I h))⟩
/-- the ledger may lose objects -/
theorem St.drop {nw' : Led} (hs : ∀ p ∈ nw', p ∈ nw) (h : St c m nw' l K) : St c m nw l K :=
  ⟨fun h0 tk Q I hQ => h.run h0 tk Q ⟨I.F, cb_drop I.N hs⟩ hQ⟩
theorem St.pad (xs : List Str) (h : St c (padF m xs) nw l K) : St c m nw l K :=
  ⟨fun h0 tk Q I hQ => h.run h0 tk Q ⟨frTo I.F fun y => lk_padF y xs m, I.N⟩ hQ⟩
theorem St.fr {m' : Fm} (e : m = m') (h : St c m' nw l K) : St c m nw l K := e ▸ h
theorem Wl.fr {m' : Fm} {t : Expr} {b : List Stmt} (e : ∀ y, lk m y = lk m' y) (h : Wl c m' nw t b l K) : Wl c m nw t b l K :=
  ⟨fun h0 tk Q I hQ => h.run h0 tk Q ⟨frTo I.F e, I.N⟩ hQ⟩
theorem Wl.pad (xs : List Str) {t : Expr} {b : List Stmt} (h : Wl c (padF m xs) nw t b l K) : Wl c m nw t b l K := Wl.fr (fun y => lk_padF y xs m) h
end
theorem kw3 : True := by
  (k_with "m:hints" => (first | exact IntsAre.nil | ((apply IntsAre.cons); walk_at "hints")))
  (k_with "m:hkv" => (with_reducible assumption))
  (k_with "m:hkvB" => (with_reducible assumption))
  (k_with "m:hst" => (first | ((with_reducible apply St.nilK)) | ((with_reducible apply St.retE); exact fun _ => rfl) | ((with_reducible apply St.ret)) | ((with_reducible apply St.asgE); exact rfl; exact fun _ => rfl; exact fun _ => rfl) | ((with_reducible apply St.asg); exact rfl; exact fun _ => rfl) | ((with_reducible apply St.asgT); exact rfl; exact fun _ => rfl; exact fun _ => rfl) | ((with_reducible apply St.ifC); exact fun _ => rfl) | ((with_reducible apply St.if)) | ((with_reducible apply St.expr); exact fun _ => rfl) | ((with_reducible apply St.while)) | ((with_reducible apply St.cont)) | ((with_reducible apply St.nil))))
  (k_with "m:hk" => (first | ((with_reducible show Kt _ _ _ _ _ _); first | ((with_reducible apply Kt.ret)) | ((with_reducible apply Kt.cont))) | ((with_reducible show Kw _ _ _ _ _ _ _ _); first | ((with_reducible apply Kw.next)) | ((with_reducible apply Kw.cont)) | ((with_reducible apply Kw.ret))) | ((with_reducible show Cx.fin _ _ _ _); first | ((with_reducible apply fin_i)))))
  (k_with "m:hex" => (first | ((with_reducible apply Ex.nm); exact rfl; exact rfl) | ((with_reducible apply Ex.ev9); exact fun _ => rfl) | ((with_reducible apply Ex.tupE); exact fun _ => rfl; exact fun _ => rfl) | ((with_reducible apply Ex.tup)) | ((with_reducible apply Ex.lst0)) | ((with_reducible apply Ex.lstE); exact fun _ => rfl; exact fun _ => rfl) | ((with_reducible apply Ex.lst)) | ((with_reducible apply Ex.ifx)) | ((with_reducible apply Ex.cps2); exact fun _ => rfl; exact fun _ => rfl; exact fun _ => rfl; exact fun _ _ => rfl; exact fun _ _ => rfl) | ((with_reducible apply Ex.cps1); exact fun _ => rfl; exact fun _ => rfl; exact fun _ _ => rfl) | ((with_reducible apply Ex.co); (with_unfolding_all exact rfl)) | ((with_reducible apply Exs.nil)) | ((with_reducible apply Exs.ev); exact fun _ => rfl) | ((with_reducible apply Exs.cons); exact fun _ => rfl)))
  (k_with "m:hcall" => (first | ((with_reducible apply Ex.call); exact rfl; exact rfl; exact rfl) | ((with_reducible apply Ex.callB); exact rfl; exact rfl; exact fun _ => rfl) | ((with_reducible apply Ex.mcall); exact fun _ => rfl) | ((with_reducible apply Ex.attN)) | ((with_reducible apply Ex.att); exact fun _ => rfl) | ((with_reducible apply Ex.sub)) | ((with_reducible apply Ga.own); walk_at "hmem"; walk_at "hmem"; exact rfl; exact rfl; exact rfl) | ((with_reducible apply Gm.own); walk_at "hmem"; walk_at "hmem"; exact rfl; exact rfl) | ((with_reducible apply Gm.dget); walk_at "hmem"; (with_reducible assumption)) | ((with_reducible apply Ca.dget); walk_at "hmem"; (with_reducible assumption); (with_reducible assumption); walk_at "hkv") | ((with_reducible apply Cw.me); exact rfl; exact rfl) | ((with_reducible apply Cw.me0); exact rfl) | ((with_reducible apply Cw.bi); exact rfl) | ((with_reducible apply Cw.bi0)) | ((with_reducible apply Cw.ty); exact rfl) | ((with_reducible apply Su.lst); (with_unfolding_all exact fun _ _ _ => rfl); walk_at "hmem"; (first | decide | assumption); (first | decide | assumption); (first | (with_reducible assumption) | exact rfl)) | ((with_reducible apply Su.key); (with_unfolding_all exact fun _ _ _ => rfl); walk_at "hmem"; (with_reducible assumption); walk_at "hkv") | ((with_reducible apply Su.ints); (with_unfolding_all exact fun _ _ _ => rfl); walk_at "hmem"; (with_reducible assumption); omega; omega; omega) | ((with_reducible apply Su.tup); (with_unfolding_all exact fun _ _ _ => rfl); walk_at "hmem"; decide; decide; exact rfl; exact rfl)))
  (k_with "m:htx" => (first | ((with_reducible apply Tx.not)) | ((with_reducible apply Tx.cpsT); exact fun _ => rfl; (first | (show (_ : Int) < _; omega) | (show (_ : Int) ≤ _; omega) | (show ¬ (_ : Int) < _; omega) | (show ¬ (_ : Int) ≤ _; omega) | (show (_ : Int) = _; omega) | (show ¬ (_ : Int) = _; omega))) | ((with_reducible apply Tx.cpsF); exact fun _ => rfl; (first | (show (_ : Int) < _; omega) | (show (_ : Int) ≤ _; omega) | (show ¬ (_ : Int) < _; omega) | (show ¬ (_ : Int) ≤ _; omega) | (show (_ : Int) = _; omega) | (show ¬ (_ : Int) = _; omega))) | ((with_reducible apply Tx.cps); exact fun _ => rfl) | ((with_reducible apply Tx.andN)) | ((with_reducible apply Tx.orN)) | ((with_reducible apply Tx.andE); exact fun _ => rfl) | ((with_reducible apply Tx.orE); exact fun _ => rfl; exact fun _ => rfl) | ((with_reducible apply Tx.cmpE); exact fun _ => rfl; exact fun _ => rfl; exact fun _ _ => rfl) | ((with_reducible apply Tx.inN); exact rfl; exact rfl; exact fun _ => rfl; exact fun _ => rfl; (refine fun _ => ?_; walk_at "hints"); (with_unfolding_all exact rfl)) | ((with_reducible apply Tx.and)) | ((with_reducible apply Tx.or)) | ((with_reducible apply Tx.co); (with_unfolding_all exact rfl)) | ((with_reducible apply Tx.val); exact fun _ => rfl)))
  (k_with "m:hco" => (first | ((with_reducible apply Co.int); exact rfl) | ((with_reducible apply Co.bl); exact rfl) | ((with_reducible apply Co.inD); walk_at "hmem"; (with_reducible assumption); (with_reducible assumption); walk_at "hkvB") | ((with_reducible apply Co.eqT); walk_at "hmem"; walk_at "hmem"; walk_at "hints"; walk_at "hints"; exact rfl; exact rfl)))
  (k_with "m:hsp" => ((with_reducible show Sp _ _ _); first | ((with_reducible apply Sp.t)) | ((with_reducible apply Sp.f)) | ((with_reducible apply Sp.tt); (first | (with_reducible assumption) | exact rfl)) | ((with_reducible apply Sp.ff); (first | (with_reducible assumption) | exact rfl)) | ((with_reducible apply Sp.cp)) | ((with_reducible apply Sp.not)) | ((with_reducible apply Sp.by))))
  (k_with "m:hca" => (fail "no contract"))
  (k_with "m:hmem" => (first | (with_reducible assumption) | exact List.mem_cons_self | ((apply List.mem_cons_of_mem); walk_at "hmem")))
  (k_with "m:hval" => (first | ((with_reducible apply tru_i); exact rfl) | ((with_reducible apply tup_i); walk_at "hmem"; exact rfl) | ((with_reducible apply str_i))))
  (k_with "m:hsub" => (first | exact sub_r | (refine sub_t ?_; walk_at "hsub") | (refine sub_c ?_; walk_at "hsub")))
  trivial
local macro_rules | `(tactic| walk_at "h1") => `(tactic| first | ((fail_if_success (fail_if_success (with_reducible show St _ _ _ _ _))); first | walk_at "hst") | ((fail_if_success (fail_if_success (with_reducible show Ex _ _ _ _ _))); first | walk_at "hex" | walk_at "hcall" | walk_at "hca") | ((fail_if_success (fail_if_success (with_reducible show Ca _ _ _ _ _ _))); first | walk_at "hca" | walk_at "hcall") | ((fail_if_success (fail_if_success (with_reducible show Tx _ _ _ _ _))); first | walk_at "htx") | ((fail_if_success (fail_if_success (with_reducible show Co _ _ _ _ _ _ _))); first | walk_at "hco" | walk_at "hca") | ((fail_if_success (fail_if_success (with_reducible show Exs _ _ _ _ _ _))); first | walk_at "hex") | ((fail_if_success (fail_if_success (with_reducible show Cw _ _ _ _ _ _ _ _))); first | walk_at "hcall" | walk_at "hca") | (with_reducible intro _) | ((fail_if_success (fail_if_success (with_reducible show Sp _ _ _))); first | walk_at "hsp") | walk_at "hk" | (with_reducible refine And.intro (by decide) ?_) | walk_at "hval" | walk_at "hco" | walk_at "hca" | walk_at "hcall" | walk_at "hex" | walk_at "hst")
theorem kw4 : True := by
  (k_with "m:hgo" => (repeat' (walk_at "h1")))
  trivial
noncomputable def cls (c : Int) : Int := if c = 768 ∨ c = 769 then 230 else if c = 803 then 220 else 0
noncomputable def isHS (c : Int) : Bool := decide (0 ≤ c - 44032) && decide (c - 44032 < 11172)
noncomputable def hpair (a b : Int) : Option Int :=
  if 0 ≤ a - 4352 ∧ a - 4352 < 19 ∧ 0 ≤ b - 4449 ∧ b - 4449 < 21 then some (44032 + ((a - 4352) * 21 + (b - 4449)) * 28)
  else if isHS a = true ∧ (a - 44032) % 28 = 0 ∧ 0 < b - 4519 ∧ b - 4519 < 28 then some (a + b - 4519) else none
noncomputable def oInt (o : Option Int) (t : Tok) : Value := match o with | some n => .int n t | none => .none
theorem fm28 (x : Int) : x.fmod 28 = x % 28 := Int.fmod_eq_emod_of_nonneg x (by decide)
theorem fm21 (x : Int) : x.fmod 21 = x % 21 := Int.fmod_eq_emod_of_nonneg x (by decide)
theorem fd28 (x : Int) : x.fdiv 28 = x / 28 := Int.fdiv_eq_ediv_of_nonneg x (by decide)
theorem fd588 (x : Int) : x.fdiv (21 * 28) = x / 588 := Int.fdiv_eq_ediv_of_nonneg x (by decide)
theorem fd588' (x : Int) : x.fdiv 588 = x / 588 := Int.fdiv_eq_ediv_of_nonneg x (by decide)
noncomputable def strV (o : Option String) (t : Tok) : Value := match o with | some x => .str (Str.ofString x) t | none => .none
noncomputable def hkind (c : Int) : Option String :=
  if isHS c then (if (c - 44032) % 28 = 0 then some "LV" else some "LVT")
  else if (4352 ≤ c ∧ c ≤ 4447) ∨ (43360 ≤ c ∧ c ≤ 43388) then some "L"
  else if (4448 ≤ c ∧ c ≤ 4519) ∨ (55216 ≤ c ∧ c ≤ 55238) then some "V"
  else if (4520 ≤ c ∧ c ≤ 4607) ∨ (55243 ≤ c ∧ c ≤ 55291) then some "T"
  else none
noncomputable def lkind (c : Int) : String :=
  if 0 ≤ c - 44032 ∧ c - 44032 < 11172 then (if (c - 44032) % 28 = 0 then "LV" else "LVT")
  else if c = 768 ∨ c = 769 ∨ c = 803 then "M"
  else if c < 4352 then "other" else if c < 4448 then "L" else if c < 4520 then "V" else "T"
noncomputable def lpair (a b : Int) : Option Int :=
  if a = 97 ∧ b = 768 then some 224
  else if 4352 ≤ a ∧ a ≤ 4370 ∧ 4449 ≤ b ∧ b ≤ 4469 then some (44032 + ((a - 4352) * 21 + b - 4449) * 28)
  else if 0 ≤ a - 44032 ∧ a - 44032 < 11172 ∧ (a - 44032) % 28 = 0 ∧ 4520 ≤ b ∧ b ≤ 4546 then some (a + b - 4519) else none
theorem cls_a {n : Int} (h : ([768, 769].any fun x => x == n) = true) : 230 = cls n := by
  simp only [List.any_cons, List.any_nil, Bool.or_false, Bool.or_eq_true, beq_iff_eq] at h
  unfold cls; rw [if_pos (by omega)]
theorem cls_b {n : Int} (h : ([768, 769].any fun x => x == n) = false) (h' : n = 803) : 220 = cls n := by subst h'; rfl
theorem cls_c {n : Int} (h : ([768, 769].any fun x => x == n) = false) (h' : n ≠ 803) : 0 = cls n := by
  simp only [List.any_cons, List.any_nil, Bool.or_false, Bool.or_eq_false_iff, beq_eq_false_iff_ne] at h
  unfold cls; rw [if_neg (by omega), if_neg h']
theorem c_ishs (n : Int) (t : Tok) (news : List (Addr × Obj)) : Con w 1 68 [.int n t] news (RetV fun t => .bool (isHS n)) := by
  refine Con.enter [(Str.ofString "code", .int n t)] (by k_is) (by k_is) rfl rfl rfl rfl rfl rfl fun c hret => ?_
  walk_at "hgo"
  exact fin_V hret 0 rfl sub_r
theorem c_numbers (n : Int) (t : Tok) (news : List (Addr × Obj)) : Con w 1 75 [.int n t] news (RetT3 ((n - 44032) / 588) ((n-44032) / 28 % 21) ((n-44032) % 28)) := by
  refine Con.enter [(Str.ofString "code", .int n t)] (by k_is) (by k_is) rfl rfl rfl rfl rfl rfl fun c hret => ?_
  walk_at "hgo"
  exact fin_T3 hret (sub_c sub_r) (by assumption) (fd588 _) ((fm21 _).trans (congrArg (· % 21) (fd28 _))) (fm28 _)
theorem c_class (n : Int) (t : Tok) (news : List (Addr × Obj)) : Con w 1 458 [.int n t] news (RetV fun t => .int (cls n) t) := by
  refine Con.enter [(Str.ofString "code", .int n t)] (by k_is) (by k_is) rfl rfl rfl rfl rfl rfl fun c hret => ?_
  walk_at "hgo"
  · exact fin_V hret _ (congrArg (Value.int · _) (cls_a (by assumption))) sub_r
  · exact fin_V hret _ (congrArg (Value.int · _) (cls_b (by assumption) (by assumption))) sub_r
  · exact fin_V hret _ (congrArg (Value.int · _) (cls_c (by assumption) (by assumption))) sub_r
theorem kw5 : True := by
  (k_with "m:hca" => ((with_reducible show Ca _ _ _ (Value.ref 68) _ _); (with_reducible apply Ca.V (c_ishs _ _ _)); exact rfl))
  (k_with "m:hca" => ((with_reducible show Ca _ _ _ (Value.ref 75) _ _); (with_reducible apply Ca.T3 (c_numbers _ _ _)); exact rfl))
  (k_with "m:hca" => ((with_reducible show Ca _ _ _ (Value.ref 458) _ _); (with_reducible apply Ca.V (c_class _ _ _)); exact rfl))
  trivial
theorem isHS_t {n : Int} (h : isHS n = true) : 0 ≤ n - 44032 ∧ n - 44032 < 11172 := by
  simpa [isHS] using h
theorem hpair_1 {n k : Int} (h1 : 0 ≤ n - 4352) (h2 : n - 4352 < 19) (h3 : 0 ≤ k - 4449) (h4 : k - 4449 < 21) : hpair n k = some (44032 + ((n - 4352) * 21 + (k - 4449)) * 28) := by
  unfold hpair; rw [if_pos ⟨h1, h2, h3, h4⟩]
theorem hpair_2 {n k : Int} (h1 : isHS n = true) (h2 : (n - 44032).fmod 28 = 0) (h3 : 0 < k - 4519) (h4 : k - 4519 < 28) : hpair n k = some (n + k - 4519) := by
  have := isHS_t h1
  rw [fm28] at h2
  unfold hpair; rw [if_neg (by omega), if_pos ⟨h1, h2, h3, h4⟩]
theorem hpair_3 {n k : Int} (h0 : ¬ (0 ≤ n - 4352 ∧ n - 4352 < 19 ∧ 0 ≤ k - 4449 ∧ k - 4449 < 21)) (h : isHS n = true → (n - 44032).fmod 28 = 0 → 0 < k - 4519 → k - 4519 < 28 → False) : hpair n k = none := by
  unfold hpair; rw [if_neg h0, if_neg]
  rintro ⟨a, b, c, d⟩
  exact h a (by rw [fm28]; exact b) c d
theorem c_pair (n k : Int) (t u : Tok) (news : List (Addr × Obj)) : Con w 2 89 [.int n t, .int k u] news (RetV fun t => oInt (hpair n k) t) := by
  refine Con.enter [(Str.ofString "other", .int k u), (Str.ofString "one", .int n t)] (by k_is) (by k_is) rfl rfl rfl rfl rfl rfl fun c hret => ?_
  walk_at "hgo"
  · exact fin_V hret _ (congrArg (oInt · _) (hpair_1 (by assumption) (by assumption) (by assumption) (by assumption))).symm sub_r
  · exact fin_V hret _ (congrArg (oInt · _) (hpair_2 (by assumption) (by assumption) (by assumption) (by assumption))).symm sub_r
  · exact fin_V hret t (congrArg (oInt · t) (hpair_3 (by assumption) fun _ b d e => (by assumption : ¬ ((n - 44032).fmod 28 = 0 ∧ 0 < k - 4519 ∧ k - 4519 < 28)) ⟨b, d, e⟩)).symm sub_r
  · exact fin_V hret t (congrArg (oInt · t) (hpair_3 (by assumption) fun b _ _ _ => Bool.false_ne_true ((by assumption : isHS n = false).symm.trans b))).symm sub_r
theorem c_parts (n : Int) (t : Tok) (news : List (Addr × Obj)) : Con w 2 82 [.int n t] news (fun h₀ L m news s Q =>
    (isHS n = false → RetV (fun _ => .none) h₀ L m news s Q) ∧
    (isHS n = true → (n - 44032) % 28 = 0 → RetT2 (4352 + (n - 44032) / 588) (4449 + (n-44032) / 28 % 21) h₀ L m news s Q) ∧
    (isHS n = true → (n - 44032) % 28 ≠ 0 → RetT3 (4352 + (n - 44032) / 588) (4449 + (n-44032) / 28 % 21) (4519 + (n - 44032) % 28) h₀ L m news s Q)) := by
  refine Con.enter [(Str.ofString "code", .int n t)] (by k_is) (by k_is) rfl rfl rfl rfl rfl rfl fun c hret => ?_
  walk_at "hgo"
  · exact fin_T2 (hret.2.1 (by assumption) (by assumption)) (sub_c (sub_t sub_r)) (lt_t (by assumption)) rfl rfl
  · exact fin_T3 (hret.2.2 (by assumption) (by assumption)) (sub_c (sub_t sub_r)) (lt_t (by assumption)) rfl rfl rfl
  · exact fin_V (hret.1 (by assumption)) 0 rfl sub_r
theorem Ca.parts {D : Nat} {i : Fn} {c : Cx w D i} {m : Fm} {nw : Led} {n : Int} {t : Tok} {K : Value → Led → Prop} (hd : Nat.ble 2 D = true) (h0 : isHS n = false → K .none nw)
    (h2 : isHS n = true → (n - 44032) % 28 = 0 → ∀ a t1 t2, (∀ p ∈ nw, p.1 < a) → K (.ref a) ((a, tupO [.int (4352 + (n - 44032) / 588) t1, .int (4449 + (n-44032) / 28 % 21) t2]) :: nw))
    (h3 : isHS n = true → (n - 44032) % 28 ≠ 0 → ∀ a t1 t2 t3, (∀ p ∈ nw, p.1 < a) → K (.ref a) ((a, tupO [.int (4352 + (n - 44032) / 588) t1, .int (4449 + (n-44032) / 28 % 21) t2, .int (4519 + (n - 44032) % 28) t3]) :: nw)) : Ca c m nw (.ref 82) [.int n t] K :=
  Ca.con (c_parts n t nw) hd fun _ _ _ hQ => ⟨fun e _ h' tk' F N => hQ _ _ _ _ F N (h0 e), fun e1 e2 a t1 t2 h' tk' F N l => hQ _ _ _ _ F N (h2 e1 e2 a t1 t2 l), fun e1 e2 a t1 t2 t3 h' tk' F N l => hQ _ _ _ _ F N (h3 e1 e2 a t1 t2 t3 l)⟩
theorem kw6 : True := by
  (k_with "m:hca" => ((with_reducible apply Ca.parts); exact rfl))
  (k_with "m:hca" => ((with_reducible show Ca _ _ _ (Value.ref 89) _ _); (with_reducible apply Ca.V (c_pair _ _ _ _ _)); exact rfl))
  trivial
theorem hk_LV {n : Int} (h : isHS n = true) (h' : (n - 44032).fmod 28 = 0) : hkind n = some "LV" := by
  rw [fm28] at h'; unfold hkind; rw [if_pos h, if_pos h']
theorem hk_LVT {n : Int} (h : isHS n = true) (h' : (n - 44032).fmod 28 ≠ 0) : hkind n = some "LVT" := by
  rw [fm28] at h'; unfold hkind; rw [if_pos h, if_neg h']
theorem hk_L {n : Int} (h : isHS n = false) (q : (4352 ≤ n ∧ n ≤ 4447) ∨ (43360 ≤ n ∧ n ≤ 43388)) : hkind n = some "L" := by
  unfold hkind; rw [if_neg (by simp [h]), if_pos q]
theorem hk_V {n : Int} (h : isHS n = false) (q : (4448 ≤ n ∧ n ≤ 4519) ∨ (55216 ≤ n ∧ n ≤ 55238)) : hkind n = some "V" := by
  unfold hkind; rw [if_neg (by simp [h]), if_neg (by omega), if_pos q]
theorem hk_T {n : Int} (h : isHS n = false) (q : (4520 ≤ n ∧ n ≤ 4607) ∨ (55243 ≤ n ∧ n ≤ 55291)) : hkind n = some "T" := by
  unfold hkind; rw [if_neg (by simp [h]), if_neg (by omega), if_neg (by omega), if_pos q]
theorem hk_0 {n : Int} (h : isHS n = false) (q1 : ¬ ((4352 ≤ n ∧ n ≤ 4447) ∨ (43360 ≤ n ∧ n ≤ 43388))) (q2 : ¬ ((4448 ≤ n ∧ n ≤ 4519) ∨ (55216 ≤ n ∧ n ≤ 55238))) (q3 : ¬ ((4520 ≤ n ∧ n ≤ 4607) ∨ (55243 ≤ n ∧ n ≤ 55291))) : hkind n = none := by
  unfold hkind; rw [if_neg (by simp [h]), if_neg q1, if_neg q2, if_neg q3]
theorem c_hkind (n : Int) (t : Tok) (news : List (Addr × Obj)) (hn : n < 5000 ∨ 44032 ≤ n) : Con w 2 96 [.int n t] news (RetV fun t => strV (hkind n) t) := by
  refine Con.enter [(Str.ofString "code", .int n t)] (by k_is) (by k_is) rfl rfl rfl rfl rfl rfl fun c hret => ?_
  walk_at "hgo"
  · exact fin_V hret _ (congrArg (strV · _) (hk_LV (by assumption) (by assumption))).symm sub_r
  · exact fin_V hret _ (congrArg (strV · _) (hk_LVT (by assumption) (by assumption))).symm sub_r
  · exact fin_V hret _ (congrArg (strV · _) (hk_L (by assumption) (by assumption))).symm sub_r
  · exact fin_V hret _ (congrArg (strV · _) (hk_V (by assumption) (by assumption))).symm sub_r
  · exact fin_V hret _ (congrArg (strV · _) (hk_T (by assumption) (by assumption))).symm sub_r
  · rename_i h1 p1 p2 p3 p4 p5 p6 _; exact fin_V hret t (congrArg (strV · t) (hk_0 h1 (not_or.mpr ⟨p1, p2⟩) (not_or.mpr ⟨p3, p4⟩) (not_or.mpr ⟨p5, p6⟩))).symm sub_r
theorem kw7 : True := by
  (k_with "m:hca" => ((with_reducible show Ca _ _ _ (Value.ref 96) _ _); (with_reducible apply Ca.V (c_hkind _ _ _ (by first | assumption | omega))); exact rfl))
  trivial
theorem lp_1 {n k : Int} (h : decide ([n, k] = [97, 768]) = true) : lpair n k = some 224 := by
  simp only [decide_eq_true_eq, List.cons.injEq, and_true] at h; unfold lpair; rw [if_pos h]
theorem lp_2 {n k : Int} (h : 4352 ≤ n ∧ n ≤ 4370 ∧ 4449 ≤ k ∧ k ≤ 4469) : lpair n k = some (44032 + ((n - 4352) * 21 + k - 4449) * 28) := by
  unfold lpair; rw [if_neg (by omega), if_pos h]
theorem lp_3 {n k : Int} (h : 0 ≤ n - 44032 ∧ n - 44032 < 11172 ∧ (n - 44032).fmod 28 = 0 ∧ 4520 ≤ k ∧ k ≤ 4546) : lpair n k = some (n + k - 4519) := by
  rw [fm28] at h; unfold lpair; rw [if_neg (by omega), if_neg (by omega), if_pos h]
theorem lp_4 {n k : Int} (h1 : decide ([n, k] = [97, 768]) = false) (h2 : ¬ (4352 ≤ n ∧ n ≤ 4370 ∧ 4449 ≤ k ∧ k ≤ 4469)) (h3 : ¬ (0 ≤ n - 44032 ∧ n - 44032 < 11172 ∧ (n - 44032).fmod 28 = 0 ∧ 4520 ≤ k ∧ k ≤ 4546)) : lpair n k = none := by
  rw [fm28] at h3
  have h1 : ¬ (n = 97 ∧ k = 768) := fun q => by rw [q.1, q.2] at h1; cases h1
  unfold lpair; rw [if_neg h1, if_neg h2, if_neg h3]
theorem c_lpair (n k : Int) (t u : Tok) (news : List (Addr × Obj)) : Con w 2 479 [.int n t, .int k u] news (RetV fun t => oInt (lpair n k) t) := by
  refine Con.enter [(Str.ofString "other", .int k u), (Str.ofString "one", .int n t)] (by k_is) (by k_is) rfl rfl rfl rfl rfl rfl fun c hret => ?_
  walk_at "hgo"
  · exact fin_V hret _ (congrArg (oInt · _) (lp_1 (by assumption))).symm (by walk_at "hsub")
  · exact fin_V hret _ (congrArg (oInt · _) (lp_2 ⟨by assumption, by assumption, by assumption, by assumption⟩)).symm (by walk_at "hsub")
  · exact fin_V hret _ (congrArg (oInt · _) (lp_3 ⟨by assumption, by assumption, by assumption, by assumption, by assumption⟩)).symm (by walk_at "hsub")
  · exact fin_V hret t (congrArg (oInt · t) (lp_4 (by assumption) (by assumption) (by assumption))).symm (by walk_at "hsub")
theorem lk_M {n : Int} (h : ([768, 769, 803].any fun x => x == n) = true) : lkind n = "M" := by
  simp only [List.any_cons, List.any_nil, Bool.or_false, Bool.or_eq_true, beq_iff_eq] at h
  unfold lkind; rw [if_neg (by omega), if_pos (by omega)]
theorem lk_not {n : Int} (h : ([768, 769, 803].any fun x => x == n) = false) : ¬ (n = 768 ∨ n = 769 ∨ n = 803) := by
  simp only [List.any_cons, List.any_nil, Bool.or_false, Bool.or_eq_false_iff, beq_eq_false_iff_ne] at h
  omega
theorem lk_LV {n : Int} (hn : n < 55204) (h1 : 0 ≤ n - 44032) (h' : (n - 44032).fmod 28 = 0) : lkind n = "LV" := by
  rw [fm28] at h'; unfold lkind; rw [if_pos ⟨h1, by omega⟩, if_pos h']
theorem lk_LVT {n : Int} (hn : n < 55204) (h1 : 0 ≤ n - 44032) (h' : (n - 44032).fmod 28 ≠ 0) : lkind n = "LVT" := by
  rw [fm28] at h'; unfold lkind; rw [if_pos ⟨h1, by omega⟩, if_neg h']
theorem lk_o {n : Int} (h0 : ¬ (n = 768 ∨ n = 769 ∨ n = 803)) (h : n < 4352) : lkind n = "other" := by
  unfold lkind; rw [if_neg (by omega), if_neg h0, if_pos h]
theorem lk_L {n : Int} (h : 4352 ≤ n ∧ n < 4448) : lkind n = "L" := by
  unfold lkind; rw [if_neg (by omega), if_neg (by omega), if_neg (by omega), if_pos (by omega)]
theorem lk_V {n : Int} (h : 4448 ≤ n ∧ n < 4520) : lkind n = "V" := by
  unfold lkind; rw [if_neg (by omega), if_neg (by omega), if_neg (by omega), if_neg (by omega), if_pos (by omega)]
theorem lk_T {n : Int} (h : 4520 ≤ n ∧ n < 44032) : lkind n = "T" := by
  unfold lkind; rw [if_neg (by omega), if_neg (by omega), if_neg (by omega), if_neg (by omega), if_neg (by omega)]
theorem c_lkind (n : Int) (t : Tok) (news : List (Addr × Obj)) (hn : n < 55204) : Con w 2 491 [.int n t] news (RetV fun t => .str (Str.ofString (lkind n)) t) := by
  refine Con.enter [(Str.ofString "code", .int n t)] (by k_is) (by k_is) rfl rfl rfl rfl rfl rfl fun c hret => ?_
  walk_at "hgo"
  · exact fin_V hret _ (congrArg (fun x => Value.str (Str.ofString x) _) (lk_LV (by assumption) (by assumption) (by assumption))).symm sub_r
  · exact fin_V hret _ (congrArg (fun x => Value.str (Str.ofString x) _) (lk_LVT (by assumption) (by assumption) (by assumption))).symm sub_r
  · exact fin_V hret _ (congrArg (fun x => Value.str (Str.ofString x) _) (lk_M (by assumption))).symm sub_r
  · rename_i h0 hM _ _; exact fin_V hret _ (congrArg (fun x => Value.str (Str.ofString x) _) (lk_o (lk_not hM) (by assumption))).symm sub_r
  · rename_i h0 hM hO hL _; exact fin_V hret _ (congrArg (fun x => Value.str (Str.ofString x) _) (lk_L (by omega))).symm sub_r
  · rename_i h0 hM hO hL hV _; exact fin_V hret _ (congrArg (fun x => Value.str (Str.ofString x) _) (lk_V (by omega))).symm sub_r
  · rename_i h0 hM hO hL hV _; exact fin_V hret _ (congrArg (fun x => Value.str (Str.ofString x) _) (lk_T (by omega))).symm sub_r
theorem kw8 : True := by
  (k_with "m:hca" => ((with_reducible show Ca _ _ _ (Value.ref 479) _ _); (with_reducible apply Ca.V (c_lpair _ _ _ _ _)); exact rfl))
  (k_with "m:hca" => ((with_reducible show Ca _ _ _ (Value.ref 491) _ _); (with_reducible apply Ca.V (c_lkind _ _ _ (by first | assumption | omega))); exact rfl))
  (k_with "m:hca" => ((with_reducible apply Ca.len); walk_at "hmem"; (with_reducible assumption); omega))
  trivial
/-- place_by_half -/
theorem filter_half {ns : List Int} {x lo : Int} (h0 : 0 ≤ lo) (hl : lo ≤ ns.length) (h1 : ∀ i : Nat, (i : Int) < lo → ∀ y, ns[i]? = some y → y ≤ x) (h2 : ∀ i : Nat, lo ≤ (i : Int) → ∀ y, ns[i]? = some y → x < y) :
    ((ns.filter (fun y => decide (y ≤ x))).length : Int) = lo := by
  have e : ns = ns.take lo.toNat ++ ns.drop lo.toNat := (List.take_append_drop _ _).symm
  have a : (ns.take lo.toNat).filter (fun y => decide (y ≤ x)) = ns.take lo.toNat := by
    rw [List.filter_eq_self]
    intro y hy
    obtain ⟨i, hi, e⟩ := List.mem_iff_getElem.mp hy
    rw [List.length_take] at hi
    exact decide_eq_true (h1 i (by omega) y (by rw [← e, List.getElem_take]; exact List.getElem?_eq_getElem (by omega)))
  have b : (ns.drop lo.toNat).filter (fun y => decide (y ≤ x)) = [] := by
    rw [List.filter_eq_nil_iff]
    intro y hy
    obtain ⟨i, hi, e⟩ := List.mem_iff_getElem.mp hy
    rw [List.length_drop] at hi
    have := h2 (lo.toNat + i) (by omega) y (by rw [← e, List.getElem_drop]; exact List.getElem?_eq_getElem (by omega))
    simpa using this
  rw [e, List.filter_append, a, b, List.append_nil, List.length_take]
  omega
inductive HalfJ (news : Led) (l : Addr) (ns : List Int) (x : Int) (t : Tok) (k : Nat) (m₁ : Fm) (nx : Led) : Prop
  | mk (lo hi : Int) (t1 t2 : Tok) (o : Option Value) (e : nx = news) (f : m₁ = [(Str.ofString "number", some (Value.int x t)), (Str.ofString "firsts", some (Value.ref l)), (Str.ofString "low", some (Value.int lo t1)), (Str.ofString "high", some (Value.int hi t2)), (Str.ofString "middle", o)]) (b1 : 0 ≤ lo) (b3 : hi ≤ ns.length) (b4 : lo + k = hi)
    (b5 : ∀ i : Nat, (i : Int) < lo → ∀ y, ns[i]? = some y → y ≤ x) (b6 : ∀ i : Nat, hi ≤ (i : Int) → ∀ y, ns[i]? = some y → x < y) : HalfJ news l ns x t k m₁ nx
theorem fd2 (x : Int) : x.fdiv 2 = x / 2 := Int.fdiv_eq_ediv_of_nonneg x (by decide)
theorem sorted_le {ns : List Int} (h : ns.Pairwise (· < ·)) {i j : Nat} {a b : Int} (ha : ns[i]? = some a) (hb : ns[j]? = some b) (hij : i ≤ j) : a ≤ b := by
  obtain ⟨h1, e1⟩ := List.getElem?_eq_some_iff.mp ha
  obtain ⟨h2, e2⟩ := List.getElem?_eq_some_iff.mp hb
  rcases Nat.lt_or_ge i j with q | q
  · have := List.pairwise_iff_getElem.mp h i j h1 h2 q
    omega
  · have : i = j := by omega
    subst this; omega
theorem getD_some {ns : List Int} {i : Nat} (h : i < ns.length) : ns[i]? = some (ns.getD i 0) := by
  rw [List.getD_eq_getElem?_getD, List.getElem?_eq_getElem h]; rfl
theorem half_in {lo hi : Int} (h : lo < hi) : lo ≤ (lo + hi).fdiv 2 ∧ (lo + hi).fdiv 2 < hi := by rw [fd2]; omega
theorem half_lo {ns : List Int} {x m : Int} (hs : ns.Pairwise (· < ·)) (h0 : 0 ≤ m) (h1 : m < ns.length) (h2 : ns.getD m.toNat 0 ≤ x) (i : Nat) (h : (i : Int) < m + 1) (y : Int) (e : ns[i]? = some y) : y ≤ x :=
  Int.le_trans (sorted_le hs e (getD_some (i := m.toNat) (by omega)) (by omega)) h2
theorem half_hi {ns : List Int} {x m : Int} (hs : ns.Pairwise (· < ·)) (h0 : 0 ≤ m) (h1 : m < ns.length) (h2 : ¬ ns.getD m.toNat 0 ≤ x) (i : Nat) (h : m ≤ (i : Int)) (y : Int) (e : ns[i]? = some y) : x < y :=
  Int.lt_of_lt_of_le (Int.not_le.mp h2) (sorted_le hs (getD_some (i := m.toNat) (by omega)) e (by omega))
theorem half_g1 {lo hi m : Int} {k : Nat} (h : lo ≤ m ∧ m < hi) (b : lo + k = hi) : ∃ k' : Nat, k' < k ∧ m + 1 + k' = hi := ⟨(hi - (m + 1)).toNat, by omega, by omega⟩
theorem half_g2 {lo hi m : Int} {k : Nat} (h : lo ≤ m ∧ m < hi) (b : lo + k = hi) : ∃ k' : Nat, k' < k ∧ lo + k' = m := ⟨(m - lo).toNat, by omega, by omega⟩
theorem lt_of_at {ns : List Int} {i : Nat} {x y : Int} (h : (ns.length : Int) ≤ i) (e : ns[i]? = some y) : x < y := by
  have := (List.getElem?_eq_some_iff.mp e).1; omega
theorem c_half (l : Addr) (its : List Value) (n : Nat) (ns : List Int) (x : Int) (t : Tok) (news : List (Addr × Obj)) (hm : (l, lstO its n) ∈ news) (hi : IntsAre its ns) (hs : ns.length < 100) (hsort : ns.Pairwise (· < ·)) :
    Con w 1 61 [.ref l, .int x t] news (RetV fun t => .int ((ns.filter (fun y => decide (y ≤ x))).length - 1) t) := by
  refine Con.enter [(Str.ofString "number", .int x t), (Str.ofString "firsts", .ref l)] (by k_is) (by k_is) rfl rfl rfl rfl rfl rfl fun c hret => ?_
  have hl := IntsAre.length hi
  walk_at "hgo"
  refine Wl.pad [Str.ofString "middle"] ?_
  refine Wl.ind (HalfJ news l ns x t) ?_ ns.length _ _ ⟨0, ns.length, _, _, none, rfl, rfl, Int.le_refl _, Int.le_refl _, Int.zero_add _, fun i h => (Int.not_lt.mpr (Int.natCast_nonneg i) h).elim, fun i h y e => lt_of_at h e⟩
  rintro k m1 n1 ⟨lo, hi', t1, t2, o, rfl, rfl, b1, b3, b4, b5, b6⟩ ih
  have hm2 : lo < hi' → lo ≤ (lo + hi').fdiv 2 ∧ (lo + hi').fdiv 2 < hi' := half_in
  have f3 : ¬ lo < hi' → lo - 1 = (((ns.filter (fun y => decide (y ≤ x))).length : Nat) : Int) - 1 := fun h1 => by rw [filter_half b1 (by omega) b5 (fun i h => b6 i (by omega))]
  have ih1 : ∀ v t1 t2, lo < hi' → ns.getD ((lo + hi').fdiv 2).toNat 0 ≤ x → _ := fun v t1 t2 h1 h2 =>
    (half_g1 (hm2 h1) b4).elim fun k' q => ih _ _ _ q.1 ⟨(lo + hi').fdiv 2 + 1, hi', t1, t2, v, rfl, rfl, Int.le_add_one (Int.le_trans b1 (hm2 h1).1), b3, q.2, half_lo hsort (Int.le_trans b1 (hm2 h1).1) (Int.lt_of_lt_of_le (hm2 h1).2 b3) h2, b6⟩
  have ih2 : ∀ v t1 t2, lo < hi' → ¬ ns.getD ((lo + hi').fdiv 2).toNat 0 ≤ x → _ := fun v t1 t2 h1 h2 =>
    (half_g2 (hm2 h1) b4).elim fun k' q => ih _ _ _ q.1 ⟨lo, (lo + hi').fdiv 2, t1, t2, v, rfl, rfl, b1, Int.le_trans (Int.le_of_lt (hm2 h1).2) b3, q.2, b5, half_hi hsort (Int.le_trans b1 (hm2 h1).1) (Int.lt_of_lt_of_le (hm2 h1).2 b3) h2⟩
  refine Wl.turn ?_
  walk_at "hgo"
  · exact ih1 _ _ _ (by assumption) (by assumption)
  · exact ih2 _ _ _ (by assumption) (by assumption)
  · exact fin_V hret _ (congrArg (Value.int · _) (f3 (by assumption))) sub_r
theorem kw9 : True := by
  (k_with "m:hca" => ((with_reducible show Ca _ _ _ (Value.ref 61) _ _); (with_reducible apply Ca.V (c_half _ _ _ _ _ _ _ (by (with_reducible assumption)) (by (with_reducible assumption)) (by assumption) (by assumption))); exact rfl))
  trivial
/-- a map of ranges in the ledger: its ranges' firsts (ints) and values -/
structure RMapV where
  (dx ls lv : Addr)
  (t1 t2 t3 : Tok)
  its : List Value
  (n1 n2 : Nat)
structure RMapC (w : World) (news : List (Addr × Obj)) (x : Addr) (dv : Value) (ns : List Int) (vs : List Value) (r : RMapV) : Prop where
  a : (x, instObj 363 r.dx) ∈ news
  b : (r.dx, dictOf [⟨PyData.keyHash w.params (Str.ofString "default"), .str (Str.ofString "default") r.t1, dv⟩, ⟨PyData.keyHash w.params (Str.ofString "starts"), .str (Str.ofString "starts") r.t2, .ref r.ls⟩, ⟨PyData.keyHash w.params (Str.ofString "values"), .str (Str.ofString "values") r.t3, .ref r.lv⟩] 3) ∈ news
  c : (r.ls, lstO r.its r.n1) ∈ news
  d : (r.lv, lstO vs r.n2) ∈ news
  e : IntsAre r.its ns
structure RMap (w : World) (news : List (Addr × Obj)) (x : Addr) (dv : Value) (ns : List Int) (vs : List Value) : Prop where
  ex : ∃ r, RMapC w news x dv ns vs r
theorem RMap.mono {w : World} {news news' : List (Addr × Obj)} {x : Addr} {dv : Value} {ns : List Int} {vs : List Value} (h : RMap w news x dv ns vs) (hs : ∀ p ∈ news, p ∈ news') : RMap w news' x dv ns vs :=
  h.ex.elim fun r q => ⟨r, hs _ q.a, hs _ q.b, hs _ q.c, hs _ q.d, q.e⟩
theorem c_rget {dv : Value} (x : Addr) (ns : List Int) (vs : List Value) (c : Int) (t : Tok) (v : Value) (news : List (Addr × Obj)) (hw : RMap w news x dv ns vs) (hs : ns.length < 100) (hsort : ns.Pairwise (· < ·))
    (hp : 0 < (ns.filter (fun y => decide (y ≤ c))).length) (hv : vs[(ns.filter (fun y => decide (y ≤ c))).length - 1]? = some v) :
    Con w 3 341 [.ref x, .int c t] news (RetV fun _ => v) := by
  obtain ⟨r, ma, mb, mc, md, hi⟩ := hw.ex
  refine Con.enter [(Str.ofString "code", .int c t), (Str.ofString "self", .ref x)] (by k_is) (by k_is) rfl rfl rfl rfl rfl rfl fun c2 hret => ?_
  have hle := List.length_filter_le (fun y => decide (y ≤ c)) ns
  have e : ((ns.filter (fun y => decide (y ≤ c))).length - 1 : Int).toNat = (ns.filter (fun y => decide (y ≤ c))).length - 1 := by omega
  have b1 : (0 : Int) ≤ (ns.filter (fun y => decide (y ≤ c))).length - 1 := by omega
  have b2 : ((ns.filter (fun y => decide (y ≤ c))).length - 1 : Int) < 2 ^ 63 := by omega
  rw [← e] at hv
  walk_at "hgo"
  exact fin_V hret 0 rfl sub_r
theorem kw10 : True := by
  (k_with "m:hca" => ((with_reducible show Ca _ _ _ (Value.ref 341) _ _); (with_reducible apply Ca.V (c_rget _ _ _ _ _ _ _ (by assumption) (by assumption) (by assumption) (by assumption) (by assumption))); exact rfl))
  trivial
/-- the data object in the ledger -/
structure DataV where
  (dx dd dm dp dw xc xg xm tq : Addr)
  (od om : Obj)
  (t1 t2 t3 t4 t5 t6 t7 t8 : Tok)
  (c0 c1 c2 c3 c4 g0 g1 g2 g3 g4 : Tok)
  (dc dg : Value)
  (kvd : List (Str × Value))
structure DataC (w : World) (news : List (Addr × Obj)) (d tp : Addr) (v : DataV) : Prop where
  a1 : (d, instObj 419 v.dx) ∈ news
  a2 : (v.dx, dictOf [⟨PyData.keyHash w.params (Str.ofString "defaults"), .str (Str.ofString "defaults") v.t1, .ref v.dd⟩, ⟨PyData.keyHash w.params (Str.ofString "maps"), .str (Str.ofString "maps") v.t2, .ref v.dm⟩, ⟨PyData.keyHash w.params (Str.ofString "properties"), .str (Str.ofString "properties") v.t3, .ref v.dp⟩, ⟨PyData.keyHash w.params (Str.ofString "words"), .str (Str.ofString "words") v.t4, .ref v.dw⟩] 4) ∈ news
  a3 : (v.dd, v.od) ∈ news
  a4 : v.od.IsDictOf (PySem.strKind PySem.Challenge.pw_nt0050_01 w) v.kvd
  a5 : (v.dd == sysModules) = false
  a6 : valueAt v.kvd (Str.ofString "ex") = some (.bool false)
  a7 : valueAt v.kvd (Str.ofString "ep") = some (.bool false)
  a8 : valueAt v.kvd (Str.ofString "incb") = some (.str (Str.ofString "None") v.t8)
  a9 : (v.dm, v.om) ∈ news
  b1 : v.om.IsDictOf (PySem.strKind PySem.Challenge.pw_nt0050_01 w) [(Str.ofString "ccc", .ref v.xc), (Str.ofString "gcb", .ref v.xg), (Str.ofString "dm", .ref v.xm)]
  b2 : (v.dm == sysModules) = false
  b3 : RMap w news v.xc v.dc [0, 768, 770, 803, 804] [.int 0 v.c0, .int 230 v.c1, .int 0 v.c2, .int 220 v.c3, .int 0 v.c4]
  b4 : RMap w news v.xg v.dg [0, 768, 770, 803, 804] [.str (Str.ofString "Other") v.g0, .str (Str.ofString "Extend") v.g1, .str (Str.ofString "Other") v.g2, .str (Str.ofString "Extend") v.g3, .str (Str.ofString "Other") v.g4]
  b5 : RMap w news v.xm .none [0, 224, 225] [.none, .ref tp, .none]
  b6 : (tp, tupO [.str (Str.ofString "") v.t5, .ref v.tq]) ∈ news
  b7 : (v.tq, tupO [.int 97 v.t6, .int 768 v.t7]) ∈ news
structure DataIn (w : World) (news : List (Addr × Obj)) (d : Addr) (tp : Addr) : Prop where
  ex : ∃ v : DataV, DataC w news d tp v
theorem DataIn.mono {w : World} {news news' : List (Addr × Obj)} {d tp : Addr} (h : DataIn w news d tp) (hs : ∀ p ∈ news, p ∈ news') : DataIn w news' d tp :=
  h.ex.elim fun v c => ⟨v, hs _ c.a1, hs _ c.a2, hs _ c.a3, c.a4, c.a5, c.a6, c.a7, c.a8, hs _ c.a9, c.b1, c.b2, c.b3.mono hs, c.b4.mono hs, c.b5.mono hs, hs _ c.b6, hs _ c.b7⟩
/-- the part of it that every reader wants -/
structure DataBV where
  (dx dd dm : Addr)
  (od om : Obj)
  (t1 t2 t3 t4 : Tok)
  (v3 v4 : Value)
  (kvd kvm : List (Str × Value))
structure DataB (w : World) (news : List (Addr × Obj)) (d : Addr) (b : DataBV) : Prop where
  a1 : (d, instObj 419 b.dx) ∈ news
  a2 : (b.dx, dictOf [⟨PyData.keyHash w.params (Str.ofString "defaults"), .str (Str.ofString "defaults") b.t1, .ref b.dd⟩, ⟨PyData.keyHash w.params (Str.ofString "maps"), .str (Str.ofString "maps") b.t2, .ref b.dm⟩, ⟨PyData.keyHash w.params (Str.ofString "properties"), .str (Str.ofString "properties") b.t3, b.v3⟩, ⟨PyData.keyHash w.params (Str.ofString "words"), .str (Str.ofString "words") b.t4, b.v4⟩] 4) ∈ news
  a3 : (b.dm, b.om) ∈ news
  a4 : b.om.IsDictOf (PySem.strKind PySem.Challenge.pw_nt0050_01 w) b.kvm
  a5 : (b.dm == sysModules) = false
  b1 : (b.dd, b.od) ∈ news
  b2 : b.od.IsDictOf (PySem.strKind PySem.Challenge.pw_nt0050_01 w) b.kvd
  b3 : (b.dd == sysModules) = false
theorem DataC.b {w : World} {news : List (Addr × Obj)} {d tp : Addr} {v : DataV} (c : DataC w news d tp v) : DataB w news d ⟨v.dx, v.dd, v.dm, v.od, v.om, v.t1, v.t2, v.t3, v.t4, .ref v.dp, .ref v.dw, v.kvd, [(Str.ofString "ccc", .ref v.xc), (Str.ofString "gcb", .ref v.xg), (Str.ofString "dm", .ref v.xm)]⟩ :=
  ⟨c.a1, c.a2, c.a9, c.b1, c.b2, c.a3, c.a4, c.a5⟩
structure DataM (w : World) (news : List (Addr × Obj)) (d : Addr) (nm : Str) (x : Addr) : Prop where
  ex : ∃ b, DataB w news d b ∧ valueAt b.kvm nm = some (.ref x)
structure DataD (w : World) (news : List (Addr × Obj)) (d : Addr) (nm : Str) (v : Value) : Prop where
  ex : ∃ b, DataB w news d b ∧ valueAt b.kvm nm = none ∧ valueAt b.kvd nm = some v
theorem c_getm {dv : Value} (d x : Addr) (nm : Str) (tn : Tok) (ns : List Int) (vs : List Value) (c : Int) (t : Tok) (v : Value) (news : List (Addr × Obj)) (hq : DataM w news d nm x) (hw : RMap w news x dv ns vs) (hs : ns.length < 100) (hsort : ns.Pairwise (· < ·))
    (hp : 0 < (ns.filter (fun y => decide (y ≤ c))).length) (hv : vs[(ns.filter (fun y => decide (y ≤ c))).length - 1]? = some v) :
    Con w 5 409 [.ref d, .str nm tn, .int c t] news (RetV fun _ => v) := by
  obtain ⟨b, B, a6⟩ := hq.ex
  obtain ⟨r, R⟩ := hw.ex
  have q1 := B.a1
  have q2 := B.a2
  have q3 := B.a3
  have q4 := B.a4
  have q5 := B.a5
  have r1 := R.a
  have r2 := R.b
  have a7 : (valueAt b.kvm nm).isSome = true := by rw [a6]; rfl
  refine Con.enter [(Str.ofString "code", .int c t), (Str.ofString "name", .str nm tn), (Str.ofString "self", .ref d)] (by k_is) (by k_is) rfl rfl rfl rfl rfl rfl fun c2 hret => ?_
  walk_at "hgo"
  exact fin_V hret 0 rfl sub_r
theorem c_getd (d : Addr) (nm : Str) (tn : Tok) (c : Int) (t : Tok) (v : Value) (news : List (Addr × Obj)) (hq : DataD w news d nm v) :
    Con w 5 409 [.ref d, .str nm tn, .int c t] news (RetV fun _ => v) := by
  obtain ⟨b, B, a6, b4⟩ := hq.ex
  have q1 := B.a1
  have q2 := B.a2
  have q3 := B.a3
  have q4 := B.a4
  have q5 := B.a5
  have r1 := B.b1
  have r2 := B.b2
  have r3 := B.b3
  have a7 : (valueAt b.kvm nm).isSome = false := by rw [a6]; rfl
  refine Con.enter [(Str.ofString "code", .int c t), (Str.ofString "name", .str nm tn), (Str.ofString "self", .ref d)] (by k_is) (by k_is) rfl rfl rfl rfl rfl rfl fun c2 hret => ?_
  walk_at "hgo"
  exact fin_V hret 0 rfl sub_r
inductive DataMs (w : World) (news : List (Addr × Obj)) (d tp : Addr) : Prop
  | mk (xc xg xm : Addr) (c0 c1 c2 c3 c4 g0 g1 g2 g3 g4 : Tok) (dc dg : Value) : DataM w news d (Str.ofString "ccc") xc → DataM w news d (Str.ofString "gcb") xg → DataM w news d (Str.ofString "dm") xm → RMap w news xc dc [0, 768, 770, 803, 804] [.int 0 c0, .int 230 c1, .int 0 c2, .int 220 c3, .int 0 c4] → RMap w news xg dg [0, 768, 770, 803, 804] [.str (Str.ofString "Other") g0, .str (Str.ofString "Extend") g1, .str (Str.ofString "Other") g2, .str (Str.ofString "Extend") g3, .str (Str.ofString "Other") g4] → RMap w news xm .none [0, 224, 225] [.none, .ref tp, .none] → DataMs w news d tp
theorem DataIn.m {w : World} {news : List (Addr × Obj)} {d tp : Addr} (h : DataIn w news d tp) : DataMs w news d tp :=
  h.ex.elim fun v c => ⟨v.xc, v.xg, v.xm, v.c0, v.c1, v.c2, v.c3, v.c4, v.g0, v.g1, v.g2, v.g3, v.g4, v.dc, v.dg, ⟨_, c.b, rfl⟩, ⟨_, c.b, rfl⟩, ⟨_, c.b, rfl⟩, c.b3, c.b4, c.b5⟩
theorem DataIn.d {w : World} {news : List (Addr × Obj)} {d tp : Addr} (h : DataIn w news d tp) : DataD w news d (Str.ofString "ex") (.bool false) ∧ DataD w news d (Str.ofString "ep") (.bool false) ∧ ∃ t, DataD w news d (Str.ofString "incb") (.str (Str.ofString "None") t) :=
  h.ex.elim fun v c => ⟨⟨_, c.b, rfl, c.a6⟩, ⟨_, c.b, rfl, c.a7⟩, v.t8, ⟨_, c.b, rfl, c.a8⟩⟩
theorem fh_no {ns : List Int} {b c : Int} (hb : c < b) (hp : (b :: ns).Pairwise (· < ·)) : (b :: ns).filter (fun y => decide (y ≤ c)) = [] := by
  rw [List.filter_eq_nil_iff]
  intro y hy h
  have h := of_decide_eq_true h
  rcases List.mem_cons.mp hy with rfl | q
  · exact Int.not_le.mpr hb h
  · exact Int.not_le.mpr (Int.lt_trans hb ((List.pairwise_cons.mp hp).1 y q)) h
theorem at_no {ns : List Int} {vs : List Value} {v : Value} {a b c : Int} (ha : a ≤ c) (hb : c < b) (hp : (b :: ns).Pairwise (· < ·)) : 0 < ((a :: b :: ns).filter (fun y => decide (y ≤ c))).length ∧ (v :: vs)[((a :: b :: ns).filter (fun y => decide (y ≤ c))).length - 1]? = some v := by
  rw [List.filter_cons_of_pos (p := fun y => decide (y ≤ c)) (decide_eq_true ha), fh_no hb hp]
  exact ⟨Nat.one_pos, rfl⟩
theorem at_last {vs : List Value} {v : Value} {a c : Int} (ha : a ≤ c) : 0 < ([a].filter (fun y => decide (y ≤ c))).length ∧ (v :: vs)[([a].filter (fun y => decide (y ≤ c))).length - 1]? = some v := by
  rw [List.filter_cons_of_pos (p := fun y => decide (y ≤ c)) (decide_eq_true ha)]
  exact ⟨Nat.one_pos, rfl⟩
theorem at_yes {ns : List Int} {vs : List Value} {v : Value} {r : Option Value} {a c : Int} (ha : a ≤ c) (h : 0 < (ns.filter (fun y => decide (y ≤ c))).length ∧ vs[(ns.filter (fun y => decide (y ≤ c))).length - 1]? = r) : 0 < ((a :: ns).filter (fun y => decide (y ≤ c))).length ∧ (v :: vs)[((a :: ns).filter (fun y => decide (y ≤ c))).length - 1]? = r := by
  rw [List.filter_cons_of_pos (p := fun y => decide (y ≤ c)) (decide_eq_true ha), List.length_cons]
  revert h
  cases (ns.filter (fun y => decide (y ≤ c))).length with
  | zero => exact fun h => (Nat.lt_irrefl _ h.1).elim
  | succ n => exact fun h => ⟨Nat.succ_pos _, h.2⟩
theorem cls_at {c : Int} (hc : 0 ≤ c) {v0 v1 v2 v3 v4 : Value} : 0 < (([0, 768, 770, 803, 804] : List Int).filter (fun y => decide (y ≤ c))).length ∧
    ([v0, v1, v2, v3, v4] : List Value)[(([0, 768, 770, 803, 804] : List Int).filter (fun y => decide (y ≤ c))).length - 1]? = some (if c < 768 then v0 else if c < 770 then v1 else if c < 803 then v2 else if c < 804 then v3 else v4) := by
  by_cases h0 : c < 768
  · rw [if_pos h0]; exact at_no hc h0 (by decide)
  · rw [if_neg h0]
    refine at_yes hc ?_
    by_cases h1 : c < 770
    · rw [if_pos h1]; exact at_no (Int.not_lt.mp h0) h1 (by decide)
    · rw [if_neg h1]
      refine at_yes (Int.not_lt.mp h0) ?_
      by_cases h2 : c < 803
      · rw [if_pos h2]; exact at_no (Int.not_lt.mp h1) h2 (by decide)
      · rw [if_neg h2]
        refine at_yes (Int.not_lt.mp h1) ?_
        by_cases h3 : c < 804
        · rw [if_pos h3]; exact at_no (Int.not_lt.mp h2) h3 (by decide)
        · rw [if_neg h3]
          refine at_yes (Int.not_lt.mp h2) ?_
          exact at_last (Int.not_lt.mp h3)
theorem dm_at {c : Int} (hc : 0 ≤ c) {v0 v1 v2 : Value} : 0 < (([0, 224, 225] : List Int).filter (fun y => decide (y ≤ c))).length ∧
    ([v0, v1, v2] : List Value)[(([0, 224, 225] : List Int).filter (fun y => decide (y ≤ c))).length - 1]? = some (if c < 224 then v0 else if c < 225 then v1 else v2) := by
  by_cases h0 : c < 224
  · rw [if_pos h0]; exact at_no hc h0 (by decide)
  · rw [if_neg h0]
    refine at_yes hc ?_
    by_cases h1 : c < 225
    · rw [if_pos h1]; exact at_no (Int.not_lt.mp h0) h1 (by decide)
    · rw [if_neg h1]
      refine at_yes (Int.not_lt.mp h0) ?_
      exact at_last (Int.not_lt.mp h1)
theorem Con.mono {D : Nat} {f : Addr} {vs : List Value} {news : List (Addr × Obj)} {R R' : RetT} (C : Con w D f vs news R) (h : ∀ h₀ L m s Q, R' h₀ L m news s Q → R h₀ L m news s Q) : Con w D f vs news R' :=
  fun p loose mean mg mb dp un gd cn cs a ccd cl outer A₀ base h₀ L m s Q E B F X N T hk hd hu hR => C p loose mean mg mb dp un gd cn cs a ccd cl outer A₀ base h₀ L m s Q E B F X N T hk hd hu (h _ _ _ _ _ hR)
noncomputable def isMark (c : Int) : Bool := c == 768 || c == 769 || c == 803
theorem c_ccc (d tp : Addr) (tn : Tok) (c : Int) (t : Tok) (news : List (Addr × Obj)) (hD : DataIn w news d tp) (hc : 0 ≤ c) :
    Con w 5 409 [.ref d, .str (Str.ofString "ccc") tn, .int c t] news (RetV fun t => .int (cls c) t) := by
  obtain ⟨xc, xg, xm, c0, c1, c2, c3, c4, g0, g1, g2, g3, g4, dc, dg, m1, m2, m3, r1, r2, r3⟩ := hD.m
  obtain ⟨q1, q2⟩ := cls_at hc (v0 := .int 0 c0) (v1 := .int 230 c1) (v2 := .int 0 c2) (v3 := .int 220 c3) (v4 := .int 0 c4)
  refine (c_getm d xc _ tn _ _ c t _ news m1 r1 (by decide) (by decide) q1 q2).mono fun h₀ L m s Q hR t' h' tk' F N => ?_
  have : ∃ u, (if c < 768 then Value.int 0 c0 else if c < 770 then .int 230 c1 else if c < 803 then .int 0 c2 else if c < 804 then .int 220 c3 else .int 0 c4) = .int (cls c) u := by
    unfold cls
    by_cases h1 : c < 768
    · exact ⟨c0, by rw [if_pos h1, if_neg (by omega), if_neg (by omega)]⟩
    by_cases h2 : c < 770
    · exact ⟨c1, by rw [if_neg h1, if_pos h2, if_pos (by omega)]⟩
    by_cases h3 : c < 803
    · exact ⟨c2, by rw [if_neg h1, if_neg h2, if_pos h3, if_neg (by omega), if_neg (by omega)]⟩
    by_cases h4 : c < 804
    · exact ⟨c3, by rw [if_neg h1, if_neg h2, if_neg h3, if_pos h4, if_neg (by omega), if_pos (by omega)]⟩
    exact ⟨c4, by rw [if_neg h1, if_neg h2, if_neg h3, if_neg h4, if_neg (by omega), if_neg (by omega)]⟩
  obtain ⟨u, e⟩ := this
  rw [e]; exact hR u h' tk' F N
theorem c_gcb (d tp : Addr) (tn : Tok) (c : Int) (t : Tok) (news : List (Addr × Obj)) (hD : DataIn w news d tp) (hc : 0 ≤ c) :
    Con w 5 409 [.ref d, .str (Str.ofString "gcb") tn, .int c t] news (RetV fun t => .str (Str.ofString (if isMark c then "Extend" else "Other")) t) := by
  obtain ⟨xc, xg, xm, c0, c1, c2, c3, c4, g0, g1, g2, g3, g4, dc, dg, m1, m2, m3, r1, r2, r3⟩ := hD.m
  obtain ⟨q1, q2⟩ := cls_at hc (v0 := .str (Str.ofString "Other") g0) (v1 := .str (Str.ofString "Extend") g1) (v2 := .str (Str.ofString "Other") g2) (v3 := .str (Str.ofString "Extend") g3) (v4 := .str (Str.ofString "Other") g4)
  refine (c_getm d xg _ tn _ _ c t _ news m2 r2 (by decide) (by decide) q1 q2).mono fun h₀ L m s Q hR t' h' tk' F N => ?_
  have : ∃ u, (if c < 768 then Value.str (Str.ofString "Other") g0 else if c < 770 then .str (Str.ofString "Extend") g1 else if c < 803 then .str (Str.ofString "Other") g2 else if c < 804 then .str (Str.ofString "Extend") g3 else .str (Str.ofString "Other") g4) = .str (Str.ofString (if isMark c then "Extend" else "Other")) u := by
    have hm : isMark c = true ↔ (c = 768 ∨ c = 769 ∨ c = 803) := by simp [isMark, or_assoc]
    by_cases h1 : c < 768
    · exact ⟨g0, by rw [if_pos h1, if_neg (by rw [hm]; omega)]⟩
    by_cases h2 : c < 770
    · exact ⟨g1, by rw [if_neg h1, if_pos h2, if_pos (by rw [hm]; omega)]⟩
    by_cases h3 : c < 803
    · exact ⟨g2, by rw [if_neg h1, if_neg h2, if_pos h3, if_neg (by rw [hm]; omega)]⟩
    by_cases h4 : c < 804
    · exact ⟨g3, by rw [if_neg h1, if_neg h2, if_neg h3, if_pos h4, if_pos (by rw [hm]; omega)]⟩
    exact ⟨g4, by rw [if_neg h1, if_neg h2, if_neg h3, if_neg h4, if_neg (by rw [hm]; omega)]⟩
  obtain ⟨u, e⟩ := this
  rw [e]; exact hR u h' tk' F N
theorem c_dm (d tp : Addr) (tn : Tok) (c : Int) (t : Tok) (news : List (Addr × Obj)) (hD : DataIn w news d tp) (hc : 0 ≤ c) :
    Con w 5 409 [.ref d, .str (Str.ofString "dm") tn, .int c t] news (fun h₀ L m news s Q => (c = 224 → RetV (fun t => .ref tp) h₀ L m news s Q) ∧ (c ≠ 224 → RetV (fun t => .none) h₀ L m news s Q)) := by
  obtain ⟨xc, xg, xm, c0, c1, c2, c3, c4, g0, g1, g2, g3, g4, dc, dg, m1, m2, m3, r1, r2, r3⟩ := hD.m
  obtain ⟨q1, q2⟩ := dm_at hc (v0 := .none) (v1 := .ref tp) (v2 := .none)
  refine (c_getm d xm _ tn _ _ c t _ news m3 r3 (by decide) (by decide) q1 q2).mono fun h₀ L m s Q hR t' h' tk' F N => ?_
  by_cases h1 : c < 224
  · rw [if_pos h1]; exact hR.2 (by omega) t' h' tk' F N
  by_cases h2 : c < 225
  · rw [if_neg h1, if_pos h2]; exact hR.1 (by omega) t' h' tk' F N
  rw [if_neg h1, if_neg h2]; exact hR.2 (by omega) t' h' tk' F N
theorem c_ex (d tp : Addr) (tn : Tok) (c : Int) (t : Tok) (news : List (Addr × Obj)) (hD : DataIn w news d tp) : Con w 5 409 [.ref d, .str (Str.ofString "ex") tn, .int c t] news (RetV fun _ => .bool false) := c_getd d _ tn c t _ news hD.d.1
theorem c_ep (d tp : Addr) (tn : Tok) (c : Int) (t : Tok) (news : List (Addr × Obj)) (hD : DataIn w news d tp) : Con w 5 409 [.ref d, .str (Str.ofString "ep") tn, .int c t] news (RetV fun _ => .bool false) := c_getd d _ tn c t _ news hD.d.2.1
theorem c_incb (d tp : Addr) (tn : Tok) (c : Int) (t : Tok) (news : List (Addr × Obj)) (hD : DataIn w news d tp) : Con w 5 409 [.ref d, .str (Str.ofString "incb") tn, .int c t] news (RetV fun t => .str (Str.ofString "None") t) := by
  obtain ⟨u, h⟩ := hD.d.2.2
  exact (c_getd d _ tn c t _ news h).mono fun h₀ L m s Q hR t' h' tk' F N => hR u h' tk' F N
inductive DataOb (w : World) (news : List (Addr × Obj)) (d : Addr) : Prop
  | mk (dx : Addr) (t1 t2 t3 t4 : Tok) (v1 v2 v3 v4 : Value) : (d, instObj 419 dx) ∈ news →
    (dx, dictOf [⟨PyData.keyHash w.params (Str.ofString "defaults"), .str (Str.ofString "defaults") t1, v1⟩, ⟨PyData.keyHash w.params (Str.ofString "maps"), .str (Str.ofString "maps") t2, v2⟩, ⟨PyData.keyHash w.params (Str.ofString "properties"), .str (Str.ofString "properties") t3, v3⟩, ⟨PyData.keyHash w.params (Str.ofString "words"), .str (Str.ofString "words") t4, v4⟩] 4) ∈ news → DataOb w news d
theorem DataIn.ob {news : List (Addr × Obj)} {d tp : Addr} (h : DataIn w news d tp) : DataOb w news d := h.ex.elim fun v c => ⟨v.dx, v.t1, v.t2, v.t3, v.t4, _, _, _, _, c.a1, c.a2⟩
theorem DataIn.tup {news : List (Addr × Obj)} {d tp : Addr} (h : DataIn w news d tp) : ∃ (tq : Addr) (t5 t6 t7 : Tok), (tp, tupO [.str (Str.ofString "") t5, .ref tq]) ∈ news ∧ (tq, tupO [.int 97 t6, .int 768 t7]) ∈ news := h.ex.elim fun v c => ⟨v.tq, v.t5, v.t6, v.t7, c.b6, c.b7⟩
theorem DataIn.b {news : List (Addr × Obj)} {d tp : Addr} (h : DataIn w news d tp) : ∃ b, DataB w news d b := h.ex.elim fun _ c => ⟨_, c.b⟩
/-- a method of the data object -/
theorem Gm.data {D : Nat} {i : Fn} {c : Cx w D i} {m : Fm} {nw : Led} {d tp f : Addr} {x : Str} {K : Value → List Value → Led → Prop} (hD : DataIn w nw d tp) (hf : mtab.lookup (419, x) = some f) (hx : [Str.ofString "get", Str.ofString "map_of", Str.ofString "put"].contains x = true) (hK : K (.ref f) [.ref d] nw) : Gm c m nw (.ref d) x K := by
  obtain ⟨b, B⟩ := hD.b
  refine Gm.own B.a1 B.a2 hf ?_ hK
  have := List.contains_iff_mem.mp hx
  simp only [List.mem_cons, List.not_mem_nil, or_false] at this
  rcases this with rfl | rfl | rfl <;> rfl
theorem Ca.dm {D : Nat} {i : Fn} {c : Cx w D i} {m : Fm} {nw : Led} {d tp : Addr} {tn t : Tok} {n : Int} {K : Value → Led → Prop} (hD : DataIn w nw d tp) (hc : 0 ≤ n) (hd : Nat.ble 5 D = true) (h1 : n = 224 → K (.ref tp) nw) (h2 : n ≠ 224 → K .none nw) : Ca c m nw (.ref 409) [.ref d, .str (Str.ofString "dm") tn, .int n t] K :=
  Ca.con (c_dm d tp tn n t nw hD hc) hd fun _ _ _ hQ => ⟨fun e _ h' tk' F N => hQ _ _ _ _ F N (h1 e), fun e _ h' tk' F N => hQ _ _ _ _ F N (h2 e)⟩
theorem kw11 : True := by
  (k_with "m:hca" => ((with_reducible show Gm _ _ _ (Value.ref _) _ _); (with_reducible apply Gm.data (by first | assumption | exact DataIn.mono (by assumption) (by walk_at "hsub"))); exact rfl; exact rfl))
  (k_with "m:hca" => ((with_reducible show Ca _ _ _ (Value.ref 409) _ _); (with_reducible apply Ca.dm (by first | assumption | exact DataIn.mono (by assumption) (by walk_at "hsub")) (by first | assumption | omega)); exact rfl))
  (k_with "m:hca" => ((with_reducible show Ca _ _ _ (Value.ref 409) _ _); (with_reducible apply Ca.V (c_ccc _ _ _ _ _ _ (by first | assumption | exact DataIn.mono (by assumption) (by walk_at "hsub")) (by first | assumption | omega))); exact rfl))
  (k_with "m:hca" => ((with_reducible show Ca _ _ _ (Value.ref 409) _ _); (with_reducible apply Ca.V (c_gcb _ _ _ _ _ _ (by first | assumption | exact DataIn.mono (by assumption) (by walk_at "hsub")) (by first | assumption | omega))); exact rfl))
  (k_with "m:hca" => ((with_reducible show Ca _ _ _ (Value.ref 409) _ _); (with_reducible apply Ca.V (c_ex _ _ _ _ _ _ (by first | assumption | exact DataIn.mono (by assumption) (by walk_at "hsub")))); exact rfl))
  (k_with "m:hca" => ((with_reducible show Ca _ _ _ (Value.ref 409) _ _); (with_reducible apply Ca.V (c_ep _ _ _ _ _ _ (by first | assumption | exact DataIn.mono (by assumption) (by walk_at "hsub")))); exact rfl))
  (k_with "m:hca" => ((with_reducible show Ca _ _ _ (Value.ref 409) _ _); (with_reducible apply Ca.V (c_incb _ _ _ _ _ _ (by first | assumption | exact DataIn.mono (by assumption) (by walk_at "hsub")))); exact rfl))
  trivial
theorem c_mapping (c : Int) (t : Tok) (d tp : Addr) (news : List (Addr × Obj)) (hD : DataIn w news d tp) (tq : Addr) (t5 : Tok) (q1 : (tp, tupO [.str (Str.ofString "") t5, .ref tq]) ∈ news) (hc : 0 ≤ c) : Con w 7 103 [.int c t, .ref d, .bool false] news (fun h₀ L m news s Q =>
    (isHS c = false → c ≠ 224 → RetV (fun _ => .none) h₀ L m news s Q) ∧
    (c = 224 → RetV (fun _ => .ref tq) h₀ L m news s Q) ∧
    (isHS c = true → (c - 44032) % 28 = 0 → RetT2 (4352 + (c - 44032) / 588) (4449 + (c-44032) / 28 % 21) h₀ L m news s Q) ∧
    (isHS c = true → (c - 44032) % 28 ≠ 0 → RetT3 (4352 + (c - 44032) / 588) (4449 + (c-44032) / 28 % 21) (4519 + (c - 44032) % 28) h₀ L m news s Q)) := by
  refine Con.enter [(Str.ofString "is_compat", .bool false), (Str.ofString "data", .ref d), (Str.ofString "code", .int c t)] (by k_is) (by k_is) rfl rfl rfl rfl rfl rfl fun c2 hret => ?_
  walk_at "hgo"
  · exact fin_V (hret.2.1 (by assumption)) 0 rfl sub_r
  · exact fin_V (hret.1 (by assumption) (by assumption)) 0 rfl sub_r
  · exact fin_T2 (hret.2.2.1 (by assumption) (by assumption)) sub_r (by assumption) rfl rfl
  · exact fin_T3 (hret.2.2.2 (by assumption) (by assumption)) sub_r (by assumption) rfl rfl rfl
theorem c_map0 (c : Int) (t : Tok) (d tp : Addr) (news : List (Addr × Obj)) (hD : DataIn w news d tp) (hc : 0 ≤ c) (h1 : isHS c = false) (h2 : c ≠ 224) : Con w 7 103 [.int c t, .ref d, .bool false] news (RetV fun _ => .none) :=
  (c_mapping c t d tp news hD hD.tup.choose hD.tup.choose_spec.choose hD.tup.choose_spec.choose_spec.choose_spec.choose_spec.1 hc).mono fun h₀ L m s Q hR => ⟨fun _ _ => hR, ⟨fun e => (h2 e).elim, ⟨(fun e => by rw [h1] at e; cases e), (fun e => by rw [h1] at e; cases e)⟩⟩⟩
theorem c_map1 (t : Tok) (d tp : Addr) (news : List (Addr × Obj)) (hD : DataIn w news d tp) (tq : Addr) (t5 : Tok) (q1 : (tp, tupO [.str (Str.ofString "") t5, .ref tq]) ∈ news) : Con w 7 103 [.int 224 t, .ref d, .bool false] news (RetV fun _ => .ref tq) :=
  (c_mapping 224 t d tp news hD tq t5 q1 (by decide)).mono fun h₀ L m s Q hR => ⟨fun _ e => (e rfl).elim, ⟨fun _ => hR, ⟨(fun e => by cases e), (fun e => by cases e)⟩⟩⟩
theorem c_map2 (c : Int) (t : Tok) (d tp : Addr) (news : List (Addr × Obj)) (hD : DataIn w news d tp) (h1 : isHS c = true) (h2 : (c - 44032) % 28 = 0) : Con w 7 103 [.int c t, .ref d, .bool false] news (RetT2 (4352 + (c - 44032) / 588) (4449 + (c-44032) / 28 % 21)) :=
  (c_mapping c t d tp news hD hD.tup.choose hD.tup.choose_spec.choose hD.tup.choose_spec.choose_spec.choose_spec.choose_spec.1 (by have := isHS_t h1; omega)).mono fun h₀ L m s Q hR => ⟨(fun e => by rw [h1] at e; cases e), ⟨(fun e => by subst e; cases h1), ⟨fun _ _ => hR, fun _ e => (e h2).elim⟩⟩⟩
theorem c_map3 (c : Int) (t : Tok) (d tp : Addr) (news : List (Addr × Obj)) (hD : DataIn w news d tp) (h1 : isHS c = true) (h2 : (c - 44032) % 28 ≠ 0) : Con w 7 103 [.int c t, .ref d, .bool false] news (RetT3 (4352 + (c - 44032) / 588) (4449 + (c-44032) / 28 % 21) (4519 + (c - 44032) % 28)) :=
  (c_mapping c t d tp news hD hD.tup.choose hD.tup.choose_spec.choose hD.tup.choose_spec.choose_spec.choose_spec.choose_spec.1 (by have := isHS_t h1; omega)).mono fun h₀ L m s Q hR => ⟨(fun e => by rw [h1] at e; cases e), ⟨(fun e => by subst e; cases h1), ⟨fun _ e => (h2 e).elim, fun _ _ => hR⟩⟩⟩
theorem isHS_lo {c : Int} (h : c < 44032) : isHS c = false := by
  unfold isHS; rw [decide_eq_false (by omega : ¬ 0 ≤ c - 44032)]; rfl
theorem kw12 : True := by
  (k_with "m:hca" => ((with_reducible show Ca _ _ _ (Value.ref 103) _ _); (with_reducible apply Ca.T3 (c_map3 _ _ _ _ _ (by first | assumption | exact DataIn.mono (by assumption) (by walk_at "hsub")) (by assumption) (by assumption))); exact rfl))
  (k_with "m:hca" => ((with_reducible show Ca _ _ _ (Value.ref 103) _ _); (with_reducible apply Ca.T2 (c_map2 _ _ _ _ _ (by first | assumption | exact DataIn.mono (by assumption) (by walk_at "hsub")) (by assumption) (by assumption))); exact rfl))
  (k_with "m:hca" => ((with_reducible show Ca _ _ _ (Value.ref 103) _ _); (with_reducible apply Ca.V (c_map1 _ _ _ _ (by first | assumption | exact DataIn.mono (by assumption) (by walk_at "hsub")) _ _ (by walk_at "hmem"))); exact rfl))
  (k_with "m:hca" => ((with_reducible show Ca _ _ _ (Value.ref 103) _ _); (with_reducible apply Ca.V (c_map0 _ _ _ _ _ (by first | assumption | exact DataIn.mono (by assumption) (by walk_at "hsub")) (by first | assumption | omega) (by first | assumption | exact isHS_lo (by omega)) (by first | assumption | omega))); exact rfl))
  trivial
/-- a made tuple read backwards: parts[::-1] -/
theorem slicedRev {prog : Program} {A : Around} {E : Value → Shared → Prop} {s : Shared} {sl : Addr} {n : Nat} {u : Tok} {Q : Int × Int × Nat → Shared → Prop} (hs : s.heap.IsSliceOf sl .none .none (.int (-1) u)) (hn : 1 ≤ n) (h : Q ((n : Int) - 1, -1, n) s) :
    wpAny (model prog w) A (Builtin.Slice.sliceApplied (.ref sl) (pure (n : Int))) Q E s := by
  obtain ⟨os, hos, hcs, hds⟩ := id hs
  unfold Builtin.Slice.sliceApplied Builtin.Slice.sliceFields
  refine wpAny_bind (wpAny_bind (wpAny_field hos hds (x := .none) rfl (wpAny_bind (wpAny_field hos hds (x := .none) rfl (wpAny_bind (wpAny_field hos hds (x := .int (-1) u) rfl (wpAny_pure ?_)))))))
  refine wpAny_bind (slicePart_int ?_)
  show wpAny _ _ (if ((-1 : Int) == 0) = true then _ else _) _ _ s
  rw [if_neg (by decide)]
  refine wpAny_bind (slicePart_none (wpAny_bind (slicePart_none (wpAny_bind (wpAny_pure ?_)))))
  show wpAny _ _ (match Builtin.Slice.sliceAdjust none none (-1) (n : Int) with | (lo, hi) => pure (lo, (-1 : Int), Builtin.Slice.slicePlaces lo hi (-1))) _ _ s
  have e1 : Builtin.Slice.sliceAdjust none none (-1) (n : Int) = ((n : Int) - 1, -1) := by
    unfold Builtin.Slice.sliceAdjust
    simp
  rw [e1]
  show wpAny _ _ (pure ((n : Int) - 1, (-1 : Int), Builtin.Slice.slicePlaces ((n : Int) - 1) (-1) (-1))) _ _ s
  have e2 : Builtin.Slice.slicePlaces ((n : Int) - 1) (-1) (-1) = n := by
    unfold Builtin.Slice.slicePlaces
    have h1 : ¬ ((-1 : Int) > 0) := by lia
    have h2 : (n : Int) - 1 > -1 := by lia
    simp only [h1, h2, if_false, if_true]
    rw [show (-(-1 : Int)) = 1 from rfl, Int.ediv_one]
    lia
  rw [e2]
  exact wpAny_pure h
theorem getItem_tuple_rev {prog : Program} {A : Around} {E : Value → Shared → Prop} {s : Shared} {t sl : Addr} {items zs : Array Value} {u : Tok} {Q : Value → Shared → Prop} (ht : IsTup s.heap t items) (hs : s.heap.IsSliceOf sl .none .none (.int (-1) u)) (h1 : 2 ≤ items.size)
    (hp : ((List.range items.size).filterMap fun (k : Nat) => items[((items.size : Int) - 1 + (k : Int) * (-1)).toNat]?).toArray = zs) (hz : zs.size ≤ sizeLine)
    (h : Q (.ref s.heap.objs.size) { s with heap := s.heap.push { cls := .type "tuple", data := .seq zs } }) : wpAny (model prog w) A (getItem (.ref t) (.ref sl)) Q E s := by
  have hdrop : sizeOk (.seq zs) := hz
  obtain ⟨os, hos, hcs, hds⟩ := id hs
  have hTs : s.TypeIs (.ref sl) "slice" := ⟨os, hos, hcs⟩
  unfold getItem
  try with_reducible refine wpAny_holding ?_
  first | refine wpAny_bind (wpAny_pure ?_) | skip
  refine wpAny_bind (wpAny_sequenceKey ht.typeIs (by decide) ?_)
  refine wpAny_bind (wpAny_callSpecial?_slot (name := Str.ofString "__getitem__") ht.typeIs slot_tuple_getitem
    (wpAny_call_entry slot_tuple_getitem ht.typeIs entry_tuple_getitem ?_ (args_tuple_getitem _ _)))
  show wpAny _ _ (Builtin.Tuple.tupleItemsOf (.ref t) >>= _) _ _ s
  refine wpAny_bind (tupleItemsOf_ ht ?_)
  refine wpAny_bind (wpAny_typeOf hTs ?_)
  rw [if_pos (by decide)]
  refine wpAny_bind (slicedRev hs (by lia) ?_)
  have hno : ¬ ((((items.size : Int) - 1) == 0 && (-1 : Int) == 1 && items.size == items.size) = true) := by
    rw [show ((-1 : Int) == 1) = false from rfl]; simp
  show wpAny _ _ (if (((items.size : Int) - 1) == 0 && (-1 : Int) == 1 && items.size == items.size) = true then _ else _) _ _ s
  rw [if_neg hno, hp]
  first
    | exact wpAny_bind (m := Builtin.Tuple.tupleExact _) (wpAny_newObj_type (wpAny_pure ⟨_, rfl, wpAny_pure h⟩) hdrop)
    | exact wpAny_bind (m := Builtin.Tuple.tupleExact _) (wpAny_newObj_type (wpAny_bind (wpAny_pure (wpAny_pure ⟨_, rfl, wpAny_pure h⟩))) hdrop)
    | exact wpAny_bind (wpAny_bind (m := Builtin.Tuple.tupleExact _) (wpAny_newObj_type (wpAny_pure (wpAny_pure ⟨_, rfl, wpAny_pure h⟩)) hdrop))
    | exact wpAny_bind (wpAny_bind (m := Builtin.Tuple.tupleExact _) (wpAny_newObj_type (wpAny_pure ⟨_, rfl, wpAny_pure h⟩) hdrop))
theorem slice_tuple_rev {prog : Program} {A : Around} {E : Value → Shared → Prop} {s : Shared} {h₀ : Heap} {L : Addr} {m : Str → Option Value} {news : List (Addr × Obj)} {value slice : Expr} {t : Addr} {vs zs : List Value} {u : Tok} {ops : List Value} {Q : Value → Shared → Prop}
    (F : Fr h₀ L s.heap m) (N : News h₀ L s.heap news) (ht : (t, tupO vs) ∈ news) (h1 : 2 ≤ vs.length)
    (hp : ((List.range vs.toArray.size).filterMap fun (k : Nat) => vs.toArray[((vs.toArray.size : Int) - 1 + (k : Int) * (-1)).toNat]?).toArray = zs.toArray) (hz : zs.length ≤ sizeLine)
    (h : ∀ D h', Fr h₀ L h' m → News h₀ L h' ((D, tupO zs) :: news) → (∀ p ∈ news, p.1 < D) → Q (.ref D) { s with heap := h' })
    (hs : subscripted slice false (.ref t) (.ref s.heap.objs.size) = operate ops (getItem (.ref t) (.ref s.heap.objs.size)))
    (hg : ∀ r, letTemporaryGo value (.ref t) r = pure ()) :
    wpAny (model prog w) A (subscriptTail value slice (.ref t) (.ref s.heap.objs.size)) Q E { s with heap := s.heap.push { cls := .type "slice", data := .fields #[.none, .none, .int (-1) u] } } := by
  have ht0 : IsTup s.heap t vs.toArray := ⟨_, (N _ ht).1, rfl, 0, rfl⟩
  have ht' : IsTup (s.heap.push { cls := .type "slice", data := .fields #[.none, .none, .int (-1) u] }) t vs.toArray := ht0.keeps fun _ _ e => Heap.get?_push_of_some _ e
  refine subscriptTail_ops (s := { s with heap := s.heap.push { cls := .type "slice", data := .fields #[.none, .none, .int (-1) u] } }) ht'.typeIs slot_tuple_getitem.lookup
    (getItem_tuple_rev ht' (Heap.IsSliceOf.new ..) (by simpa using h1) hp (by simpa using hz) ?_) hs hg
  have N1 := News.push (F.push { cls := .type "slice", data := .fields #[.none, .none, .int (-1) u] }) (N.grown fun _ _ e => Heap.get?_push_of_some _ e) { cls := .type "tuple", data := .seq zs.toArray }
  refine h _ _ ((F.push _).push _) N1 fun p hp => ?_
  rw [Heap.size_push]
  exact Nat.lt_succ_of_lt (Heap.lt_size (N p hp).1)
section
variable {prog : Program} {A : Around} {E : Value → Shared → Prop} {s : Shared} {h₀ : Heap} {L : Addr} {m : Str → Option Value} {news : List (Addr × Obj)} {value slice : Expr} {t : Addr} {x y z : Value} {u : Tok} {ops : List Value} {Q : Value → Shared → Prop}
theorem slice_rev2 (F : Fr h₀ L s.heap m) (N : News h₀ L s.heap news) (ht : (t, tupO [x, y]) ∈ news)
    (h : ∀ D h', Fr h₀ L h' m → News h₀ L h' ((D, tupO [y, x]) :: news) → (∀ p ∈ news, p.1 < D) → Q (.ref D) { s with heap := h' })
    (hs : subscripted slice false (.ref t) (.ref s.heap.objs.size) = operate ops (getItem (.ref t) (.ref s.heap.objs.size))) (hg : ∀ r, letTemporaryGo value (.ref t) r = pure ()) :
    wpAny (model prog w) A (subscriptTail value slice (.ref t) (.ref s.heap.objs.size)) Q E { s with heap := s.heap.push { cls := .type "slice", data := .fields #[.none, .none, .int (-1) u] } } :=
  slice_tuple_rev (vs := [x, y]) (zs := [y, x]) F N ht (Nat.le_of_ble_eq_true rfl) rfl (by rw [sizeLine_eq]; exact Nat.le_of_ble_eq_true rfl) h hs hg
theorem slice_rev3 (F : Fr h₀ L s.heap m) (N : News h₀ L s.heap news) (ht : (t, tupO [x, y, z]) ∈ news)
    (h : ∀ D h', Fr h₀ L h' m → News h₀ L h' ((D, tupO [z, y, x]) :: news) → (∀ p ∈ news, p.1 < D) → Q (.ref D) { s with heap := h' })
    (hs : subscripted slice false (.ref t) (.ref s.heap.objs.size) = operate ops (getItem (.ref t) (.ref s.heap.objs.size))) (hg : ∀ r, letTemporaryGo value (.ref t) r = pure ()) :
    wpAny (model prog w) A (subscriptTail value slice (.ref t) (.ref s.heap.objs.size)) Q E { s with heap := s.heap.push { cls := .type "slice", data := .fields #[.none, .none, .int (-1) u] } } :=
  slice_tuple_rev (vs := [x, y, z]) (zs := [z, y, x]) F N ht (Nat.le_of_ble_eq_true rfl) rfl (by rw [sizeLine_eq]; exact Nat.le_of_ble_eq_true rfl) h hs hg
end
noncomputable def plainB : Value → Bool
  | .int _ _ => true
  | .none => true
  | .bool _ => true
  | _ => false
theorem plain_carried : ∀ {vs : List Value}, vs.all plainB = true → ∃ ds, CarriedAll vs ds ∧ PyData.canLayAll0 ds = true ∧ PyData.depthAll ds ≤ 1 ∧ ds.length = vs.length
  | [], _ => ⟨[], .nil, by simp [PyData.canLayAll0], by simp [PyData.depthAll], rfl⟩
  | v :: r, h => by
    simp only [List.all_cons, Bool.and_eq_true] at h
    obtain ⟨ds, c, a, b, e⟩ := plain_carried h.2
    cases v with
    | int i t => exact ⟨.int i :: ds, .cons (.int i t) c, by simp [PyData.canLayAll0, PyData.canLay0, a], by simp [PyData.depthAll, PyData.depth, b], by simp [e]⟩
    | none => exact ⟨.none :: ds, .cons .none c, by simp [PyData.canLayAll0, PyData.canLay0, a], by simp [PyData.depthAll, PyData.depth, b], by simp [e]⟩
    | bool x => exact ⟨.bool x :: ds, .cons (.bool x) c, by simp [PyData.canLayAll0, PyData.canLay0, a], by simp [PyData.depthAll, PyData.depth, b], by simp [e]⟩
    | _ => simp [plainB] at h
theorem plain_shaped {ds : List PyData} (a : PyData.canLayAll0 ds = true) (b : PyData.depthAll ds ≤ 1) : SeqAt.shaped (.list ds) = true := by
  unfold SeqAt.shaped
  simp [PyData.canLay0, PyData.depth, a]
  lia
section
variable {prog : Program} {A : Around} {E : Value → Shared → Prop} {s : Shared} {h₀ : Heap} {L : Addr} {news : List (Addr × Obj)} {l b : Addr} {arr : Array Value} {n k : Nat} {Q : Value → Shared → Prop}
theorem ne_nil_t (N : News h₀ L s.heap news) (h1 : (l, listOf arr n) ∈ news) (h2 : (b, listOf #[] k) ∈ news) (hp : arr.toList.all plainB = true) (hu : A.units + 64 < cLine) (hz : 0 < arr.size) (h : Q (.bool true) s) :
    wpAny (model prog w) A (compareOp .NotEq (.ref l) (.ref b)) Q E s := by
  obtain ⟨ds, c, a, d, e⟩ := plain_carried hp
  have hl : s.heap.IsList l arr.toList.toArray := ⟨_, (N _ h1).1, rfl, n, by simp⟩
  have hb : s.heap.IsList b ([] : List Value).toArray := ⟨_, (N _ h2).1, rfl, k, rfl⟩
  refine ne_dataH (reads_newData hl c) (reads_newData hb .nil) (plain_shaped a d) (plain_shaped (by simp [PyData.canLayAll0]) (by simp [PyData.depthAll])) hu ?_
  cases ds with
  | nil => simp at e; lia
  | cons x r => simpa [PyData.eqv, PyData.eqvAll] using h
theorem ne_nil_f (N : News h₀ L s.heap news) (h1 : (l, listOf #[] n) ∈ news) (h2 : (b, listOf #[] k) ∈ news) (hu : A.units + 64 < cLine) (h : Q (.bool false) s) :
    wpAny (model prog w) A (compareOp .NotEq (.ref l) (.ref b)) Q E s := by
  have hl : s.heap.IsList l ([] : List Value).toArray := ⟨_, (N _ h1).1, rfl, n, rfl⟩
  have hb : s.heap.IsList b ([] : List Value).toArray := ⟨_, (N _ h2).1, rfl, k, rfl⟩
  refine ne_dataH (reads_newData hl .nil) (reads_newData hb .nil) (plain_shaped (by simp [PyData.canLayAll0]) (by simp [PyData.depthAll])) (plain_shaped (by simp [PyData.canLayAll0]) (by simp [PyData.depthAll])) hu ?_
  simpa [PyData.eqv, PyData.eqvAll] using h
end
/-- the end of a loop's turn: a new state c, its ledger and its frame -/
inductive IterEnd {σ : Type} (Led : σ → List (Addr × Obj)) (M : σ → Str → Option Value) (P : Nat → σ → Prop) (x : Str) (I : Addr) (it : Obj) (h₀ : Heap) (L : Addr) (s : Shared) (i : Nat) (s₂ : Shared) : Prop
  | mk (c : σ) (h' : Heap) (tk : Nat) (m' : Str → Option Value) (news' : List (Addr × Obj)) : (s₂ = { s with heap := h', toks := tk }) → (Fr h₀ L h' m') → (News h₀ L h' news') → ((∀ p ∈ Led c, p ∈ news')) → ((I, it) ∈ news') → ((∀ p ∈ Led c, p.1 ≠ I)) → ((∀ y, y ≠ x → m' y = M c y)) → (P i c) → IterEnd Led M P x I it h₀ L s i s₂
noncomputable def IterPost {σ : Type} (Led : σ → List (Addr × Obj)) (M : σ → Str → Option Value) (P : Nat → σ → Prop) (x : Str) (I : Addr) (it : Obj) (h₀ : Heap) (L : Addr) (s : Shared) (i : Nat) (Q : Flow → Shared → Prop) (f : Flow) (s₂ : Shared) : Prop :=
  match f with
  | .ret v => Q (.ret v) s₂
  | .brk => Q .next s₂
  | _ => IterEnd Led M P x I it h₀ L s i s₂
section
variable {prog : Program} {A : Around} {E : Value → Shared → Prop} {s : Shared} {env : Env} {h₀ : Heap} {x : Str} {body : List Stmt} {Q : Flow → Shared → Prop} {σ : Type} {Led : σ → List (Addr × Obj)} {M : σ → Str → Option Value} {P : Nat → σ → Prop} {l : Addr} {o : Obj} {vs : List Value} {m₀ : Str → Option Value}
inductive ItInv {σ : Type} (Led : σ → List (Addr × Obj)) (M : σ → Str → Option Value) (P : Nat → σ → Prop) (x : Str) (i : Nat) (m : Str → Option Value) (nx : List (Addr × Obj)) : Prop
  | mk (c : σ) : nx = Led c → (∀ y, y ≠ x → m y = M c y) → P i c → ItInv Led M P x i m nx
theorem iterCore {I : Addr} {io : Obj} {n : Nat} {St : Nat → Heap → Prop} {Pv : Nat → Value → Prop} (hl : ∀ c : σ, (l, o) ∈ Led c) (c₀ : σ) (F : Fr h₀ env.locals s.heap m₀) (N : News h₀ env.locals s.heap (Led c₀))
    (hI : I = s.heap.objs.size) (hio : io.isFreed = false) (W : Walks prog w A I [I, l] [I] n Pv St) (hst : St 0 (s.heap.push io)) (hin : ∀ i h, St i h → ∃ it, h.get? I = some it)
    (hm : ∀ y, y ≠ x → m₀ y = M c₀ y) (hp : P 0 c₀)
    (turn : ∀ it i c v h tk, i < n → Pv i v → P i c → (∀ p ∈ Led c, p.1 ≠ I) → Fr h₀ env.locals h (fun y => if y = x then some v else M c y) → News h₀ env.locals h ((I, it) :: Led c) →
      wpAny (model prog w) A (execs body env) (IterPost Led M P x I it h₀ env.locals { s with heap := h, toks := tk } (i + 1) Q) E { s with heap := h, toks := tk })
    (done : ∀ c u h tk, P n c → Fr h₀ env.locals h (fun y => if y = x then u else M c y) → News h₀ env.locals h (Led c) → Q .next { s with heap := h, toks := tk }) :
    LoopAtV prog w A h₀ env x body Q E (.ref I) { s with heap := s.heap.push io } := by
  have hlt : ∀ p ∈ Led c₀, p.1 < I := fun p hp => hI ▸ Heap.lt_size (N p hp).1
  have hLI : env.locals ≠ I := fun e => by have := F.ns.lt; rw [e, hI] at this; exact Nat.lt_irrefl _ this
  have hLl : env.locals ≠ l := fun e => (N _ (hl c₀)).2.1 e.symm
  have hnI : h₀.get? I = none := by rw [hI]; exact next_is_new F
  have hnl : h₀.get? l = none := (N _ (hl c₀)).2.2
  refine ⟨I, [I, l], [I], n, Pv, St, m₀, Led c₀, ItInv Led M P x, rfl, W, ?_, ?_, ?_, hst, F.push _, fun p hp => ⟨Heap.get?_push_of_some _ (N p hp).1, (N p hp).2⟩, ⟨c₀, rfl, hm, hp⟩, ?_, ?_⟩
  · intro h
    rcases List.mem_cons.mp h with h | h
    · exact hLI h
    · exact hLl (List.mem_singleton.mp h)
  · intro b hb; rw [List.mem_singleton.mp hb]; exact hnI
  · intro p hp h; exact Nat.ne_of_lt (hlt p hp) (List.mem_singleton.mp h)
  · rintro i v m₁ news₁ s₁ own ⟨h, tk, rfl⟩ hi hv ⟨c, rfl, hm₁, hp₁⟩ hoff hown hget hfp st F₁ N₁
    obtain ⟨it, hit⟩ := hin _ _ st
    have mI : (I, it) ∈ own := hfp I (.head _) hnI it hit
    have hne : ∀ p ∈ Led c, p.1 ≠ I := fun p hp e => hoff p hp (List.mem_singleton.mpr e)
    have F₂ : Fr h₀ env.locals h (fun y => if y = x then some v else M c y) := frTo F₁ fun y => by
      by_cases hy : y = x
      · rw [if_pos hy, if_pos hy]
      · rw [if_neg hy, if_neg hy]; exact hm₁ y hy
    have hlo : h.get? l = some o := (N₁ _ (List.mem_append_right _ (hl c))).1
    refine wpAny_mono (turn it i c v h tk hi hv hp₁ hne F₂ fun p hp => ?_) (fun f s₂ q => ?_) fun _ _ e => e
    · rcases List.mem_cons.mp hp with rfl | hp
      · exact N₁ _ (List.mem_append_left _ mI)
      · exact N₁ p (List.mem_append_right _ hp)
    · have fin : IterEnd Led M P x I it h₀ env.locals { s with heap := h, toks := tk } (i + 1) s₂ → LoopStepU h₀ env.locals [I] own (ItInv Led M P x (i + 1)) { s with heap := h, toks := tk } .next s₂ := by
        rintro ⟨c', h', tk', m', news', rfl, F', N', hn', hI', ho', hm', hp'⟩
        refine ⟨rfl, h', tk', m', Led c', rfl, F', fun p hp => ?_, fun p hp hq => ho' p hp (List.mem_singleton.mp hq), c', rfl, hm', hp'⟩
        rcases List.mem_append.mp hp with q | q
        · have g := hget p q
          rcases List.mem_cons.mp (hown p q) with e | e
          · have : p = (I, it) := Prod.ext e (Option.some.inj (g.symm.trans (e ▸ hit)))
            rw [this]; exact N' _ hI'
          · have e := List.mem_singleton.mp e
            have : p = (l, o) := Prod.ext e (Option.some.inj (g.symm.trans (e ▸ hlo)))
            rw [this]; exact N' _ (hn' _ (hl c'))
        · exact N' p (hn' p q)
      cases f with
      | ret v => exact .ret q
      | brk => exact .brk q
      | next => exact .next (fin q)
      | cont => exact .cont (fin q)
  · rintro h' tk m' news' F' N' _ ⟨c, rfl, hm', hp'⟩
    refine done c (m' x) h' tk hp' (frTo F' fun y => ?_) N'
    by_cases hy : y = x
    · rw [if_pos hy, hy]
    · rw [if_neg hy]; exact hm' y hy
theorem iterL (c₀ : σ) {k : Nat} (hl : ∀ c : σ, (l, lstO vs k) ∈ Led c) (hh : A.handled = none) (F : Fr h₀ env.locals s.heap m₀) (N : News h₀ env.locals s.heap (Led c₀)) (hm : ∀ y, y ≠ x → m₀ y = M c₀ y) (hp : P 0 c₀)
    (turn : ∀ I it i c v h tk, vs[i]? = some v → P i c → (∀ p ∈ Led c, p.1 ≠ I) → Fr h₀ env.locals h (fun y => if y = x then some v else M c y) → News h₀ env.locals h ((I, it) :: Led c) →
      wpAny (model prog w) A (execs body env) (IterPost Led M P x I it h₀ env.locals { s with heap := h, toks := tk } (i + 1) Q) E { s with heap := h, toks := tk })
    (done : ∀ c u h tk, P vs.length c → Fr h₀ env.locals h (fun y => if y = x then u else M c y) → News h₀ env.locals h (Led c) → Q .next { s with heap := h, toks := tk }) :
    wpAny (model prog w) A (pyIter (.ref l)) (fun it s₂ => LoopAtV prog w A h₀ env x body Q E it s₂) E s := by
  have hol := (N _ (hl c₀)).1
  have hls : s.heap.IsList l vs.toArray := ⟨_, hol, rfl, k, rfl⟩
  have hne : l ≠ s.heap.objs.size := Nat.ne_of_lt (Heap.lt_size hol)
  refine wpAny_pyIter_list hls ?_
  have W := Walks.list (prog := prog) (w := w) hh s.heap.objs.size l hne vs.toArray
  rw [show vs.toArray.size = vs.length from List.size_toArray ..] at W
  refine iterCore (o := lstO vs k) hl c₀ F N rfl rfl W ⟨⟨_, Heap.get?_push_size _ rfl, rfl, rfl⟩, hls.at fun o e => Heap.get?_push_of_some _ e⟩ (fun i h st => ?_) hm hp (fun it i c v h tk _ hv => turn _ it i c v h tk (by simpa using hv)) done
  obtain ⟨it, hit, _⟩ := st.1
  exact ⟨it, hit⟩
theorem iterT (c₀ : σ) (hl : ∀ c : σ, (l, tupO vs) ∈ Led c) (hh : A.handled = none) (F : Fr h₀ env.locals s.heap m₀) (N : News h₀ env.locals s.heap (Led c₀)) (hm : ∀ y, y ≠ x → m₀ y = M c₀ y) (hp : P 0 c₀)
    (turn : ∀ I it i c v h tk, vs[i]? = some v → P i c → (∀ p ∈ Led c, p.1 ≠ I) → Fr h₀ env.locals h (fun y => if y = x then some v else M c y) → News h₀ env.locals h ((I, it) :: Led c) →
      wpAny (model prog w) A (execs body env) (IterPost Led M P x I it h₀ env.locals { s with heap := h, toks := tk } (i + 1) Q) E { s with heap := h, toks := tk })
    (done : ∀ c u h tk, P vs.length c → Fr h₀ env.locals h (fun y => if y = x then u else M c y) → News h₀ env.locals h (Led c) → Q .next { s with heap := h, toks := tk }) :
    wpAny (model prog w) A (pyIter (.ref l)) (fun it s₂ => LoopAtV prog w A h₀ env x body Q E it s₂) E s := by
  have hol := (N _ (hl c₀)).1
  have hls : s.heap.IsTuple l vs.toArray := ⟨_, hol, rfl, 0, rfl⟩
  have hne : l ≠ s.heap.objs.size := Nat.ne_of_lt (Heap.lt_size hol)
  refine wpAny_pyIter_tuple hls ?_
  have W := Walks.tuple (prog := prog) (w := w) hh s.heap.objs.size l hne vs.toArray
  rw [show vs.toArray.size = vs.length from List.size_toArray ..] at W
  refine iterCore (o := tupO vs) hl c₀ F N rfl rfl W ⟨⟨_, Heap.get?_push_size _ rfl, rfl, rfl⟩, hls.at fun o e => Heap.get?_push_of_some _ e⟩ (fun i h st => ?_) hm hp (fun it i c v h tk _ hv => turn _ it i c v h tk (by simpa using hv)) done
  obtain ⟨it, hit, _⟩ := st.1
  exact ⟨it, hit⟩
end
section
variable {prog : Program} {A : Around} {E : Value → Shared → Prop} {s : Shared} {env : Env} {h₀ : Heap} {x : Str} {body : List Stmt} {Q : Flow → Shared → Prop} {l wt : Addr} {vs : List Value} {m₀ : Str → Option Value} {a₀ : Array Value} {n₀ : Nat} {news : List (Addr × Obj)} {g : Obj → List (Addr × Obj)}
end
section
variable {D : Nat} {i : Fn} {c : Cx w D i} {m : Fm} {nw : Led}
/-! lists -/
theorem Gm.append {a : Addr} {its : List Value} {n : Nat} {K : Value → List Value → Led → Prop} (ha : (a, lstO its n) ∈ nw) (hK : K (.builtin "list.append") [.ref a] nw) : Gm c m nw (.ref a) (Str.ofString "append") K :=
  ⟨fun h tk pl Q I hQ => listMethod_K I.N ha PySem.F.slot_list_append PySem.F.type_list_append (hQ _ _ _ _ _ I hK)⟩
theorem Gm.pop {a : Addr} {its : List Value} {n : Nat} {K : Value → List Value → Led → Prop} (ha : (a, lstO its n) ∈ nw) (hK : K (.builtin "list.pop") [.ref a] nw) : Gm c m nw (.ref a) (Str.ofString "pop") K :=
  ⟨fun h tk pl Q I hQ => kl_method I.N ha PySem.F.slot_list_pop PySem.F.type_list_pop (hQ _ _ _ _ _ I hK)⟩
theorem upd_F {d : Addr} {o : Obj} {l : Led} {g : Obj → Led} (U : UpdF d o l g) (o' : Obj) : Upd d o o' l (g o') := by
  induction U with
  | head h => exact .head h
  | tail h _ ih => exact .tail h ih
theorem Ca.append {a : Addr} {its : List Value} {n : Nat} {v : Value} {g : Obj → Led} {K : Value → Led → Prop} (U : UpdF a (lstO its n) nw g) (hn : its.length ≤ 100000) (hK : K .none (g (lstO (its ++ [v]) (n + 1)))) : Ca c m nw (.builtin "list.append") [.ref a, v] K := by
  refine ⟨fun h tk Q I hQ => append_K (its := its.toArray) I.F I.N (upd_F U _) (fun h' F' N' => ?_) (by rw [List.size_toArray, sizeLine_eq]; lia)⟩
  rw [show (W.listOf (its.toArray.push v) (n + 1)) = lstO (its ++ [v]) (n + 1) by simp [W.listOf]] at N'
  exact hQ _ _ _ _ ⟨F', N'⟩ hK
theorem kl_last_snoc (p : List Value) (y : Value) : kl_last (p ++ [y]) = some (p, y) := by
  induction p with
  | nil => rfl
  | cons a r ih =>
    cases r with
    | nil => rfl
    | cons b r => simp only [List.cons_append, kl_last] at ih ⊢; rw [ih]
theorem Ca.pop {a : Addr} {p : List Value} {y : Value} {n : Nat} {g : Obj → Led} {K : Value → Led → Prop} (U : UpdF a (lstO (p ++ [y]) n) nw g) (hn : p.length < 100000) (hK : K y (g (lstO p (n + 1)))) : Ca c m nw (.builtin "list.pop") [.ref a] K :=
  ⟨fun h tk Q I hQ => kl_pop I.F I.N (by rw [List.toList_toArray]; exact kl_last_snoc p y) (upd_F U _) (by rw [List.toList_toArray, List.length_append, List.length_singleton, sizeLine_eq]; lia) (fun h' F' N' => hQ _ _ _ _ ⟨F', N'⟩ hK)⟩
/-- a list is (is not) empty -/
@[reducible] noncomputable def KNn (K : Bool → Led → Prop) (v : Value) (n1 : Led) : Prop := ∃ a its n, v = .ref a ∧ (a, lstO its n) ∈ n1 ∧ its.all plainB = true ∧ K (!its.isEmpty) n1
theorem Tx.neNil {e : Expr} {p1 pos : Pos} {K : Bool → Led → Prop} (h : Ex c m nw e (KNn K)) : Tx c m nw (.Compare e [.NotEq] [.List [] p1] pos) K := by
  refine Tx.co rfl ⟨fun h0 tk Q I hQ => h.run h0 tk Q I fun v n1 h1 t1 I1 hK => hQ _ _ _ _ I1 ?_⟩
  obtain ⟨a, its, n, rfl, ha, hp, hK⟩ := hK
  refine Ex.lst (Exs.nil ⟨Nat.zero_le _, fun b l => ⟨fun h2 t2 Q I2 hQ => ?_⟩⟩)
  have I3 : c.I m n1 h2 := ⟨I2.F, cb_drop I2.N fun p hp => .tail _ hp⟩
  have hu : c.A.units + 64 < cLine := by have := c.hu; show c.un + 64 < cLine; lia
  cases its with
  | nil => exact ne_nil_f I2.N (.tail _ ha) (.head _) hu (hQ _ _ _ _ I3 hK)
  | cons x r => exact ne_nil_t I2.N (.tail _ ha) (.head _) hp hu (by simp) (hQ _ _ _ _ I3 hK)
/-! where addresses differ -/
theorem ne_lt {n : Led} {x y : Addr} {o : Obj} (l : ∀ p ∈ n, p.1 < y) (h : (x, o) ∈ n) : x ≠ y := Nat.ne_of_lt (l _ h)
theorem ne_gt {n : Led} {x y : Addr} {o : Obj} (l : ∀ p ∈ n, p.1 < y) (h : (x, o) ∈ n) : y ≠ x := Nat.ne_of_gt (l _ h)
theorem ne_all {n r : Led} {y : Addr} (l : ∀ p ∈ n, p.1 < y) (h : ∀ p ∈ r, p ∈ n) : ∀ p ∈ r, p.1 ≠ y := fun p hp => Nat.ne_of_lt (l _ (h p hp))
theorem ne_cons {r : Led} {x y : Addr} {o : Obj} (h : x ≠ y) (hr : ∀ p ∈ r, p.1 ≠ y) : ∀ p ∈ (x, o) :: r, p.1 ≠ y := List.forall_mem_cons.mpr ⟨h, hr⟩
theorem ne_nil {y : Addr} : ∀ p ∈ ([] : Led), p.1 ≠ y := fun _ h => nomatch h
theorem ne_sym {x y : Addr} (h : x ≠ y) : y ≠ x := h.symm
theorem lt_l {n : Led} {x y : Addr} {o : Obj} (l : ∀ p ∈ n, p.1 < y) (h : (x, o) ∈ n) : x < y := l _ h
theorem lt_sub {n r : Led} {y : Addr} (l : ∀ p ∈ n, p.1 < y) (h : ∀ p ∈ r, p ∈ n) : ∀ p ∈ r, p.1 < y := fun p hp => l p (h p hp)
/-! for -/
/-- a for over a list or a tuple: the end of a turn -/
structure Kf (I : Addr) (it : Obj) (J : Fm → Led → Prop) (m2 : Fm) (n2 : Led) : Prop where
  ex : ∃ n', J m2 n' ∧ (∀ p ∈ n', p ∈ n2) ∧ (I, it) ∈ n2 ∧ ∀ p ∈ n', p.1 ≠ I
theorem Kf.mk' {I : Addr} {it : Obj} {J : Fm → Led → Prop} {m2 : Fm} {n2 n' : Led} (h1 : J m2 n') (h2 : ∀ p ∈ n', p ∈ n2) (h3 : (I, it) ∈ n2) (h4 : ∀ p ∈ n', p.1 ≠ I) : Kf I it J m2 n2 := ⟨n', h1, h2, h3, h4⟩
noncomputable def Kfor (c : Cx w D i) (I : Addr) (it : Obj) (J : Fm → Led → Prop) (l : List Stmt) (K : Flow → Fm → Led → Prop) (f : Flow) (m2 : Fm) (n2 : Led) : Prop :=
  match f with
  | .next => Kf I it J m2 n2
  | .cont => Kf I it J m2 n2
  | .brk => St c m2 n2 l K
  | .ret v => K (.ret v) m2 n2
variable {l : List Stmt} {K : Flow → Fm → Led → Prop}
theorem Kfor.next {I : Addr} {it : Obj} {J : Fm → Led → Prop} (h : Kf I it J m nw) : Kfor c I it J l K .next m nw := h
theorem Kfor.cont {I : Addr} {it : Obj} {J : Fm → Led → Prop} (h : Kf I it J m nw) : Kfor c I it J l K .cont m nw := h
theorem Kfor.ret {I : Addr} {it : Obj} {J : Fm → Led → Prop} {v : Value} (h : K (.ret v) m nw) : Kfor c I it J l K (.ret v) m nw := h
theorem Kfor.brk {I : Addr} {it : Obj} {J : Fm → Led → Prop} (h : St c m nw l K) : Kfor c I it J l K .brk m nw := h
/-- what an iteration goes over -/
noncomputable def LoopB (o : Obj) (vs : List Value) : Prop := (∃ k, o = lstO vs k) ∨ o = tupO vs
theorem LoopB.li {vs : List Value} {k : Nat} : LoopB (lstO vs k) vs := .inl ⟨k, rfl⟩
theorem LoopB.tu {vs : List Value} : LoopB (tupO vs) vs := .inr rfl
/-- a for at its iterable v -/
inductive ForP (c : Cx w D i) (x : Str) (b l : List Stmt) (K : Flow → Fm → Led → Prop) (m : Fm) (n : Led) (v : Value) : Prop
  | mk (a : Addr) (o : Obj) (vs : List Value) (J : Nat → Fm → Led → Prop) : (v = .ref a) → (LoopB o vs) → ((∀ k m1 n1, J k m1 n1 → (a, o) ∈ n1)) → (J 0 m n) → ((∀ I it k v m1 n1, vs[k]? = some v → J k m1 n1 → (∀ p ∈ n1, p.1 ≠ I) → St c (setN m1 x v) ((I, it) :: n1) b (Kfor c I it (J (k + 1)) l K))) → (∀ m1 n1 u, J vs.length m1 n1 → St c (setO m1 x u) n1 l K) → ForP c x b l K m n v
theorem ForP.mk' {x : Str} {b : List Stmt} {a : Addr} {o : Obj} {vs : List Value} (J : Nat → Fm → Led → Prop) (ho : LoopB o vs) (hl : ∀ k m1 n1, J k m1 n1 → (a, o) ∈ n1) (h0 : J 0 m nw)
    (turn : ∀ I it k v m1 n1, vs[k]? = some v → J k m1 n1 → (∀ p ∈ n1, p.1 ≠ I) → St c (setN m1 x v) ((I, it) :: n1) b (Kfor c I it (J (k + 1)) l K))
    (done : ∀ m1 n1 u, J vs.length m1 n1 → St c (setO m1 x u) n1 l K) : ForP c x b l K m nw (.ref a) := ⟨a, o, vs, J, rfl, ho, hl, h0, turn, done⟩
@[reducible] noncomputable def KFor (c : Cx w D i) (m : Fm) (x : Str) (b l : List Stmt) (K : Flow → Fm → Led → Prop) (v : Value) (n : Led) : Prop := ForP c x b l K m n v
theorem St.for {x : Str} {px pos : Pos} {e : Expr} {b : List Stmt} (hx : nameLocal i.scope x = true) (hfold : ∀ (L : Addr) v, foldedSetIterable e (i.env L) v = pure v) (he : Ex c m nw e (KFor c m x b l K)) : St c m nw (.For (.Name x px) e b [] pos :: l) K := by
  have hx' : i.scope.names.lookup x = some .local := by
    simp only [nameLocal, Bool.and_eq_true, beq_iff_eq] at hx
    exact hx.2.1
  refine ⟨fun h0 tk Q I0 hQ => wpAny_execs_cons (For_invVF I0.F hx' (show (i.scope.kind == .class || i.scope.kind == .module && _) = false by rw [c.hk]; rfl) (he.run h0 tk _ I0 fun v n1 h1 t1 I1 hK => ?_) (hfold _) c.po)⟩
  obtain ⟨a, o, vs, J, rfl, ho, hl, hJ, turn, done⟩ := hK
  have post : ∀ (I : Addr) (it : Obj) (k : Nat) (h : Heap) (tk : Nat) (m1 : Fm) (n1 : Led), J k m1 n1 → (∀ v, vs[k]? = some v → c.I (setN m1 x v) ((I, it) :: n1) h → (∀ p ∈ n1, p.1 ≠ I) → wpAny (Mo w) c.A (execs b c.env) (IterPost (fun q : { q : Fm × Led // (a, o) ∈ q.2 } => q.1.2) (fun q => lk q.1.1) (fun k q => J k q.1.1 q.1.2) x I it c.g c.env.locals (c.st h tk) (k + 1) (fun f s' => match f with | .next => wpAny (Mo w) c.A (execs l c.env) Q c.E s' | f => Q f s')) c.E (c.st h tk)) := by
    intro I it k h tk m1 n1 hJ v hv hI hne
    refine (turn I it k v m1 n1 hv hJ hne).run h tk _ hI fun f m2 n2 h2 t2 I2 hK => ?_
    have fin : Kf I it (J (k + 1)) m2 n2 → IterEnd (fun q : { q : Fm × Led // (a, o) ∈ q.2 } => q.1.2) (fun q => lk q.1.1) (fun k q => J k q.1.1 q.1.2) x I it c.g c.env.locals (c.st h tk) (k + 1) (c.st h2 t2) := by
      rintro ⟨n', e1, e2, e3, e4⟩
      exact ⟨⟨(m2, n'), hl _ _ _ e1⟩, h2, t2, _, n2, rfl, I2.F, I2.N, e2, e3, e4, fun _ _ => rfl, e1⟩
    cases f with
    | next => exact fin hK
    | cont => exact fin hK
    | brk => exact hK.run h2 t2 Q I2 hQ
    | ret v => exact hQ _ _ _ _ _ I2 hK
  rcases ho with ⟨k, rfl⟩ | rfl
  · exact iterL (σ := { q : Fm × Led // (a, lstO vs k) ∈ q.2 }) (Led := fun q => q.1.2) (M := fun q => lk q.1.1) (P := fun k q => J k q.1.1 q.1.2) ⟨(m, n1), hl _ _ _ hJ⟩ (fun q => q.2) rfl I1.F I1.N (fun _ _ => rfl) hJ
      (fun I it k q v h tk hv hp hne F' N' => post I it k h tk q.1.1 q.1.2 hp v hv ⟨frTo F' fun y => lk_cons y, N'⟩ hne)
      fun q u h tk hp F' N' => (done q.1.1 q.1.2 u hp).run h tk Q ⟨frTo F' fun y => lk_setO y, N'⟩ hQ
  · exact iterT (σ := { q : Fm × Led // (a, tupO vs) ∈ q.2 }) (Led := fun q => q.1.2) (M := fun q => lk q.1.1) (P := fun k q => J k q.1.1 q.1.2) ⟨(m, n1), hl _ _ _ hJ⟩ (fun q => q.2) rfl I1.F I1.N (fun _ _ => rfl) hJ
      (fun I it k q v h tk hv hp hne F' N' => post I it k h tk q.1.1 q.1.2 hp v hv ⟨frTo F' fun y => lk_cons y, N'⟩ hne)
      fun q u h tk hp F' N' => (done q.1.1 q.1.2 u hp).run h tk Q ⟨frTo F' fun y => lk_setO y, N'⟩ hQ
theorem assign_rev {Q : Unit → Shared → Prop} : ∀ (xs : List Str) (vs : List Value) (m : Fm) (h0 : Heap) (tk : Nat), (xs.all (nameLocal i.scope)) = true → c.I m nw h0 → (∀ h1 t1, c.I (puts m xs vs) nw h1 → Q () (c.st h1 t1)) →
    vs.length = xs.length → wpAny (Mo w) c.A (assignInOrder (xs.map fun n => bindName c.env n) vs) Q c.E (c.st h0 tk)
  | [], vs, m, h0, tk, hx, I, hQ, hl => by
    cases vs with
    | cons => cases hl
    | nil => exact assignInOrder_nil (hQ _ _ I)
  | x :: xs, vs, m, h0, tk, hx, I, hQ, hl => by
    simp only [List.all_cons, Bool.and_eq_true] at hx
    cases vs with
    | nil => cases hl
    | cons v vs => exact assignInOrder_cons (bindName_ (store_ok hx.1 I fun h1 t1 I1 => assign_rev xs vs _ h1 t1 hx.2 I1 hQ (Nat.succ.inj hl)))
@[reducible] noncomputable def revV : List Value → List Value → List Value
  | [], r => r
  | x :: l, r => revV l (x :: r)
theorem revV_eq : ∀ (l r : List Value), revV l r = l.reverse ++ r
  | [], r => rfl
  | x :: l, r => by rw [revV, revV_eq l, List.reverse_cons, List.append_assoc]; rfl
/-- several names take the values of a display (the tuple is not kept) -/
@[reducible] noncomputable def KAsgS (c : Cx w D i) (m : Fm) (xs : List Str) (l : List Stmt) (K : Flow → Fm → Led → Prop) (vs : List Value) (n : Led) : Prop := vs.length = xs.length ∧ Nat.ble vs.length 1000 = true ∧ St c (puts m xs.reverse (revV vs [])) n l K
@[reducible] noncomputable def KAsgD (c : Cx w D i) (m : Fm) (xs : List Str) (l : List Stmt) (K : Flow → Fm → Led → Prop) (vs : List Value) (n : Led) : Prop := vs.length = xs.length ∧ Nat.ble vs.length 1000 = true ∧ St c (puts m xs vs) n l K
theorem St.asgS {es es' : List Expr} {k k' : Nat} {tp tp' pos : Pos} {xs : List Str} (_hn : namesOf i.scope es = some xs) (hs : ∀ L, swapsWithSole [.Tuple es k tp] (.Tuple es' k' tp') pos.line (i.env L) = pure false) (hs2 : ∀ L, swappedStores [.Tuple es k tp] (.Tuple es' k' tp') (i.env L) = pure (some xs)) (hx : (xs.all (nameLocal i.scope)) = true)
    (h : Exs c m nw tp' es' (KAsgS c m xs l K)) : St c m nw (.Assign [.Tuple es k tp] (.Tuple es' k' tp') pos :: l) K := by
  refine ⟨fun h0 tk Q I hQ => wpAny_execs_cons (Assign_Tuple_swapped ((Ex.tup (K := fun v n => ∃ a vs n1, v = .ref a ∧ n = (a, tupO vs) :: n1 ∧ vs.length = xs.length ∧ St c (puts m xs.reverse (revV vs [])) n1 l K) ?_).run h0 tk _ I fun v n1 h1 t1 I1 hK => ?_) (hs _) (hs2 _))⟩
  · exact ⟨fun h0 tk Q I hQ => h.run h0 tk Q I fun vs n1 h1 t1 I1 hK => hQ _ _ _ _ I1 ⟨Nat.le_of_ble_eq_true hK.2.1, fun a _ => ⟨a, vs, n1, rfl, rfl, hK.1, hK.2.2⟩⟩⟩
  · obtain ⟨a, vs, n2, rfl, rfl, e, hK⟩ := hK
    refine unpackItemsN_ (items := vs.toArray) I1.F I1.N (News.isTup I1.N (.head _)) rfl (by rw [List.size_toArray, e]) fun h2 F2 N2 => ?_
    have e1 : vs.toArray.toList.reverse = revV vs [] := by rw [revV_eq, List.append_nil]
    rw [e1]
    have e2 : (xs.reverse.all (nameLocal i.scope)) = true := by rw [List.all_reverse]; exact hx
    exact assign_rev xs.reverse (revV vs []) m h2 _ e2 ⟨F2, cb_drop N2 fun p hp => .tail _ hp⟩ (fun h3 t3 I3 => hK.run h3 t3 Q I3 hQ) (by rw [revV_eq, List.append_nil, List.length_reverse, List.length_reverse, e])
/-- .. the stores in their order -/
theorem St.asgD {es es' : List Expr} {k k' : Nat} {tp tp' pos : Pos} {xs : List Str} (hx : namesOf i.scope es = some xs) (hs : ∀ L, swapsWithSole [.Tuple es k tp] (.Tuple es' k' tp') pos.line (i.env L) = pure false) (hs2 : ∀ L, swappedStores [.Tuple es k tp] (.Tuple es' k' tp') (i.env L) = pure none)
    (h : Exs c m nw tp' es' (KAsgD c m xs l K)) : St c m nw (.Assign [.Tuple es k tp] (.Tuple es' k' tp') pos :: l) K :=
  St.asgT hx hs hs2 (Ex.tup ⟨fun h0 tk Q I hQ => h.run h0 tk Q I fun vs n1 h1 t1 I1 hK => hQ _ _ _ _ I1 ⟨Nat.le_of_ble_eq_true hK.2.1, fun a _ => ⟨a, vs, rfl, .head _, hK.1, St.drop (fun p hp => .tail _ hp) hK.2.2⟩⟩⟩)
theorem asg_i {vs : List Value} {xs : List Str} {P : Prop} (h1 : vs.length = xs.length) (h2 : Nat.ble vs.length 1000 = true) (h : P) : vs.length = xs.length ∧ Nat.ble vs.length 1000 = true ∧ P := ⟨h1, h2, h⟩
theorem lst_i {a : Addr} {its : List Value} {n : Nat} {n1 : Led} {P : List Value → Prop} (h1 : (a, lstO its n) ∈ n1) (h2 : its.all plainB = true) (h : P its) : ∃ a' its n, Value.ref a = Value.ref a' ∧ (a', lstO its n) ∈ n1 ∧ its.all plainB = true ∧ P its := ⟨a, its, n, rfl, h1, h2, h⟩
/-- an int in a list of ints -/
theorem Co.inL {a : Addr} {its : List Value} {n : Nat} {k : Int} {t : Tok} {b : Bool} {K : Bool → Led → Prop} (ha : (a, lstO its n) ∈ nw) (h1 : kf_ints its = true) (h2 : its.any (isInt k) = b) (hK : K b nw) : Co c m nw .In (.int k t) (.ref a) K :=
  ⟨fun h tk Q I hQ => kf_in I.N ha (by simpa using h1) (by simpa using h2) (hQ _ _ _ _ I hK)⟩
/-- a while by a word W for «at its test» -/
noncomputable def KwW (c : Cx w D i) (W : Fm → Led → Prop) (l : List Stmt) (K : Flow → Fm → Led → Prop) (f : Flow) (m : Fm) (nw : Led) : Prop :=
  match f with
  | .next => W m nw
  | .cont => W m nw
  | .brk => St c m nw l K
  | .ret v => K (.ret v) m nw
theorem Wl.drop {nw' : Led} {t : Expr} {b : List Stmt} (hs : ∀ p ∈ nw', p ∈ nw) (h : Wl c m nw' t b l K) : Wl c m nw t b l K :=
  ⟨fun h0 tk Q I hQ => h.run h0 tk Q ⟨I.F, cb_drop I.N hs⟩ hQ⟩
theorem Wl.by {t : Expr} {b : List Stmt} (h : ∀ W : Fm → Led → Prop, (∀ m n, (Tx c m n t fun q n1 => Sp q (St c m n1 b (KwW c W l K)) (St c m n1 l K)) → W m n) → (∀ m n n', (∀ p ∈ n', p ∈ n) → W m n' → W m n) → W m nw) : Wl c m nw t b l K :=
  h (fun m n => Wl c m n t b l K) (fun m n h => Wl.turn ⟨fun h0 tk Q I hQ => h.run h0 tk Q I fun q n1 h1 t1 I1 hK => hQ _ _ _ _ I1 (by
    cases q with
    | false => exact hK
    | true => exact ⟨fun h2 t2 Q2 I2 hQ2 => (show St c m n1 b (KwW c _ l K) from hK).run h2 t2 Q2 I2 fun f m' n' h3 t3 I3 h4 => hQ2 _ _ _ _ _ I3 (by cases f <;> exact h4)⟩)⟩) fun _ _ _ hs h => Wl.drop hs h
theorem KwW.next {W : Fm → Led → Prop} (h : W m nw) : KwW c W l K .next m nw := h
theorem KwW.cont {W : Fm → Led → Prop} (h : W m nw) : KwW c W l K .cont m nw := h
theorem KwW.ret {W : Fm → Led → Prop} {v : Value} (h : K (.ret v) m nw) : KwW c W l K (.ret v) m nw := h
theorem KwW.brk {W : Fm → Led → Prop} (h : St c m nw l K) : KwW c W l K .brk m nw := h
/-- a tuple of two, of three, backwards -/
theorem Ex.rev2 {x : Str} {p1 p2 p3 p4 p5 : Pos} {k : Nat} {a : Addr} {u v : Value} {K : Value → Led → Prop} (hx : nameLocal i.scope x = true) (hv : lk m x = some (.ref a)) (ha : (a, tupO [u, v]) ∈ nw) (hK : ∀ D, (∀ p ∈ nw, p.1 < D) → K (.ref D) ((D, tupO [v, u]) :: nw)) :
    Ex c m nw (.Subscript (.Name x p1) (.Slice none none (some (.UnaryOp .USub (.Constant (.int 1) k p2) p3)) p4) p5) K := by
  refine ⟨fun h0 tk Q I hQ => ?_⟩
  obtain ⟨F, N⟩ := I
  refine Subscript_ (ldq hx F hv (wpAny_Slice (evalPart_none_step (evalPart_none_step (evalPart_some_step (UnaryOp_ (wpAny_Constant_int (neg_int ?_))))))))
  exact slice_rev2 (s := { heap := h0, gens := c.k.s.gens, drawn := c.k.s.drawn, toks := _, os := c.k.s.os }) F N ha (fun D h' F' N' l => hQ _ _ _ _ ⟨F', N'⟩ (hK D l)) (by with_unfolding_all rfl) (by intro _; with_unfolding_all rfl)
theorem Ex.rev3 {x : Str} {p1 p2 p3 p4 p5 : Pos} {k : Nat} {a : Addr} {u v z : Value} {K : Value → Led → Prop} (hx : nameLocal i.scope x = true) (hv : lk m x = some (.ref a)) (ha : (a, tupO [u, v, z]) ∈ nw) (hK : ∀ D, (∀ p ∈ nw, p.1 < D) → K (.ref D) ((D, tupO [z, v, u]) :: nw)) :
    Ex c m nw (.Subscript (.Name x p1) (.Slice none none (some (.UnaryOp .USub (.Constant (.int 1) k p2) p3)) p4) p5) K := by
  refine ⟨fun h0 tk Q I hQ => ?_⟩
  obtain ⟨F, N⟩ := I
  refine Subscript_ (ldq hx F hv (wpAny_Slice (evalPart_none_step (evalPart_none_step (evalPart_some_step (UnaryOp_ (wpAny_Constant_int (neg_int ?_))))))))
  exact slice_rev3 (s := { heap := h0, gens := c.k.s.gens, drawn := c.k.s.drawn, toks := _, os := c.k.s.os }) F N ha (fun D h' F' N' l => hQ _ _ _ _ ⟨F', N'⟩ (hK D l)) (by with_unfolding_all rfl) (by intro _; with_unfolding_all rfl)
theorem updF_again {d : Addr} {o : Obj} {l : Led} {g : Obj → Led} (U : UpdF d o l g) (o' : Obj) : UpdF d o' (g o') g := by
  induction U with
  | head h => exact .head h
  | tail h _ ih => exact .tail h ih
theorem updF_self {d : Addr} {o : Obj} {l : Led} {g : Obj → Led} (U : UpdF d o l g) : g o = l := by
  induction U with
  | head h => rfl
  | tail h _ ih => exact congrArg (_ :: ·) ih
theorem updF_mem {d : Addr} {o : Obj} {l : Led} {g : Obj → Led} (U : UpdF d o l g) (o' : Obj) : (d, o') ∈ g o' := by
  induction U with
  | head h => exact .head _
  | tail h _ ih => exact .tail _ ih
theorem updF_at {d : Addr} {o : Obj} {l : Led} {g : Obj → Led} (U : UpdF d o l g) : (d, o) ∈ l := by
  have := updF_mem U o
  rw [updF_self U] at this
  exact this
theorem updF_keep {d : Addr} {o : Obj} {l : Led} {g : Obj → Led} (U : UpdF d o l g) {q : Addr × Obj} (h : q ∈ l) (hq : q.1 ≠ d) (o' : Obj) : q ∈ g o' := by
  induction U with
  | head _ =>
    cases h with
    | head => exact (hq rfl).elim
    | tail _ h => exact .tail _ h
  | tail _ _ ih =>
    cases h with
    | head => exact .head _
    | tail _ h => exact .tail _ (ih h)
theorem updF_addr {d : Addr} {o : Obj} {l : Led} {g : Obj → Led} (U : UpdF d o l g) {I : Addr} (o1 o2 : Obj) (h : ∀ p ∈ g o1, p.1 ≠ I) : ∀ p ∈ g o2, p.1 ≠ I := by
  induction U with
  | head _ => exact List.forall_mem_cons.mpr ⟨h (_, o1) List.mem_cons_self, fun p hp => h p (.tail _ hp)⟩
  | tail _ _ ih => exact List.forall_mem_cons.mpr ⟨h _ (.head _), ih fun p hp => h p (.tail _ hp)⟩
theorem setO_set {x : Str} {u v : Option Value} : ∀ {m : Fm}, setO (setO m x u) x v = setO m x v
  | [] => by show cond (x == x) _ _ = _; rw [beq_self_eq_true]; rfl
  | (y, w) :: r => by
    show setO (cond (y == x) ((y, u) :: r) ((y, w) :: setO r x u)) x v = cond (y == x) ((y, v) :: r) ((y, w) :: setO r x v)
    cases h : y == x with
    | true => show cond (y == x) _ _ = _; rw [h]; rfl
    | false => show cond (y == x) _ _ = _; rw [h]; show _ :: _ = _; rw [setO_set]; rfl
/-- for x in ..: nm.append(x) -/
theorem ForP.app {x nm : Str} {p1 p2 p3 p4 p5 : Pos} {a wt : Addr} {o : Obj} {zs ws : List Value} {n2 : Nat} {g : Obj → Led} {pl : Env → Sem Bool} (hv : lk m nm = some (.ref wt)) (hc : nameLocal i.scope nm = true) (hx : nameLocal i.scope x = true) (hne : (nm == x) = false)
    (he : ∀ env, eval ((Expr.Attribute (.Name nm p1) (Str.ofString "append") p2).Call [.Name x p3] [] p4) env = (do let ov ← eval (.Name nm p1) env; standAt p2.atName; let (f, first) ← holding [ov] (getMethod ov (Str.ofString "append") (pl env)); callWith p4 f first (backTo p4 (starEach [.Name x p3] env)) [])) (hl : (a, o) ∈ nw) (ho : LoopB o zs) (U : UpdF wt (lstO ws n2) nw g) (ha : a ≠ wt) (hb : ws.length + zs.length < 1000)
    (done : ∀ u n2', St c (setO m x u) (g (lstO (ws ++ zs) n2')) l K) : ForP c x [.Expr (.Call (.Attribute (.Name nm p1) (Str.ofString "append") p2) [.Name x p3] [] p4) p5] l K m nw (.ref a) := by
  have hne' : nm ≠ x := beq_eq_false_iff_ne.mp hne
  refine ForP.mk' (fun k m1 n1 => (m1 = m ∨ ∃ u, m1 = setO m x u) ∧ ∃ n2', n1 = g (lstO (ws ++ zs.take k) n2')) ho (fun k m1 n1 hJ => ?_) ⟨.inl rfl, n2, by rw [List.take_zero, List.append_nil, updF_self U]⟩ (fun I it k v m1 n1 hk hJ hI => ?_) fun m1 n1 u hJ => ?_
  · obtain ⟨_, n2', rfl⟩ := hJ
    exact updF_keep U hl ha _
  · obtain ⟨hm, n3, rfl⟩ := hJ
    have e1 : setN m1 x v = setO m x (some v) := by
      rcases hm with rfl | ⟨u, rfl⟩
      · rfl
      · exact setO_set
    have U1 := updF_again U (lstO (ws ++ zs.take k) n3)
    have hw := updF_mem U (lstO (ws ++ zs.take k) n3)
    rw [e1]
    have l1 : lk (setO m x (some v)) nm = some (.ref wt) := by rw [← lk_setO, if_neg hne']; exact hv
    have l2 : lk (setO m x (some v)) x = some v := by rw [← lk_setO, if_pos rfl]
    have hlt : k < zs.length := (List.getElem?_eq_some_iff.mp hk).1
    have U2 : UpdF wt (lstO (ws ++ zs.take k) n3) ((I, it) :: g (lstO (ws ++ zs.take k) n3)) (fun o' => (I, it) :: g o') := .tail (hI _ hw).symm U1
    refine St.expr (fun _ => rfl) (Ex.mcall he (Ex.nm hc l1 (Gm.append (its := ws ++ zs.take k) (n := n3) (.tail _ hw) (Cw.bi rfl (Exs.cons (fun _ => rfl) (Ex.nm hx l2 (Exs.nil (Ca.append U2 (by simp; lia) (St.nil ?_)))))))))
    refine ⟨g (lstO (ws ++ zs.take (k + 1)) (n3 + 1)), ⟨.inr ⟨_, rfl⟩, _, rfl⟩, fun p hp => .tail _ ?_, .head _, updF_addr U _ _ hI⟩
    rw [List.append_assoc, show zs.take k ++ [v] = zs.take (k + 1) by rw [List.take_add_one, hk]; rfl]
    exact hp
  · obtain ⟨hm, n3, rfl⟩ := hJ
    rw [List.take_length]
    rcases hm with rfl | ⟨u', rfl⟩
    · exact done u n3
    · rw [setO_set]; exact done u n3
/-! slices -/
structure Pt (c : Cx w D i) (m : Fm) (nw : Led) (o : Option Expr) (K : Value → Led → Prop) : Prop where
  run : ∀ (h : Heap) (tk : Nat) (Q : Value → Shared → Prop), c.I m nw h → (∀ v nw' h' tk', c.I m nw' h' → K v nw' → Q v (c.st h' tk')) → wpAny (Mo w) c.A (evalPart o c.env) Q c.E (c.st h tk)
theorem Pt.no {K : Value → Led → Prop} (h : K .none nw) : Pt c m nw none K := ⟨fun h0 tk Q I hQ => evalPart_none_step (hQ _ _ _ _ I h)⟩
theorem Pt.so {e : Expr} {K : Value → Led → Prop} (h : Ex c m nw e K) : Pt c m nw (some e) K := ⟨fun h0 tk Q I hQ => evalPart_some_step (h.run h0 tk Q I hQ)⟩
inductive Sl (n : Led) (v vl vu : Value) (K : Value → Led → Prop) : Prop
  | mk (a : Addr) (its : List Value) (k : Nat) (zs : List Value) (lo hi : Option Int) : (v = .ref a) → ((a, lstO its k) ∈ n) → (IsPart vl lo) → (IsPart vu hi) → (kms_pick its lo hi = zs) → (its.length ≤ 100000) → (∀ D, (∀ p ∈ n, p.1 < D) → K (.ref D) ((D, lstO zs 0) :: n)) → Sl n v vl vu K
theorem Sl.mk' {n : Led} {a : Addr} {its zs : List Value} {k : Nat} {vl vu : Value} {lo hi : Option Int} {K : Value → Led → Prop} (h1 : (a, lstO its k) ∈ n) (h2 : IsPart vl lo) (h3 : IsPart vu hi) (h4 : kms_pick its lo hi = zs) (h5 : its.length ≤ 100000) (h6 : ∀ D, (∀ p ∈ n, p.1 < D) → K (.ref D) ((D, lstO zs 0) :: n)) : Sl n (.ref a) vl vu K := ⟨a, its, k, zs, lo, hi, rfl, h1, h2, h3, h4, h5, h6⟩
@[reducible] noncomputable def KSl2 (K : Value → Led → Prop) (v vl vu : Value) (n : Led) : Prop := Sl n v vl vu K
@[reducible] noncomputable def KSl1 (c : Cx w D i) (m : Fm) (hi : Option Expr) (K : Value → Led → Prop) (v vl : Value) (n : Led) : Prop := Pt c m n hi (KSl2 K v vl)
@[reducible] noncomputable def KSl (c : Cx w D i) (m : Fm) (lo hi : Option Expr) (K : Value → Led → Prop) (v : Value) (n : Led) : Prop := Pt c m n lo (KSl1 c m hi K v)
theorem Ex.sl {e : Expr} {lo hi : Option Expr} {p pos : Pos} {K : Value → Led → Prop} (hs : ∀ l r, subscripted (.Slice lo hi none p) false (.ref l) (.ref r) = operate [.ref r, .ref l] (getItem (.ref l) (.ref r))) (h : Ex c m nw e (KSl c m lo hi K)) : Ex c m nw (.Subscript e (.Slice lo hi none p) pos) K := by
  refine ⟨fun h0 tk Q I hQ => Subscript_ (h.run h0 tk _ I fun v n1 h1 t1 I1 hK => wpAny_Slice (hK.run h1 t1 _ I1 fun vl n2 h2 t2 I2 hK2 => hK2.run h2 t2 _ I2 fun vu n3 h3 t3 I3 hK3 => evalPart_none_step ?_))⟩
  obtain ⟨a, its, k, zs, l', u', rfl, q1, q2, q3, q4, q5, q6⟩ := hK3
  refine kba_turn (value' := .Name (Str.ofString "x") ⟨0, 0, 0, 0⟩) (fun _ => rfl) ?_
  exact kms_slice_lit (its := its.toArray) I3.F I3.N ⟨_, (I3.N _ q1).1, rfl, k, rfl⟩ q2 q3 (by simpa using q4) (fun D h' F' N' l => hQ _ _ _ _ ⟨F', N'⟩ (q6 D l)) (hs _ _) (fun _ => rfl) (by rw [List.size_toArray, sizeLine_eq]; lia)
/-! sums -/
structure Bo (c : Cx w D i) (m : Fm) (nw : Led) (op : Operator) (x y : Value) (K : Value → Led → Prop) : Prop where
  run : ∀ (h : Heap) (tk : Nat) (Q : Value → Shared → Prop), c.I m nw h → (∀ v nw' h' tk', c.I m nw' h' → K v nw' → Q v (c.st h' tk')) → wpAny (Mo w) c.A (binaryOp op x y) Q c.E (c.st h tk)
@[reducible] noncomputable def KBin2 (c : Cx w D i) (m : Fm) (op : Operator) (K : Value → Led → Prop) (x y : Value) (n : Led) : Prop := Bo c m n op x y K
@[reducible] noncomputable def KBin (c : Cx w D i) (m : Fm) (r : Expr) (op : Operator) (K : Value → Led → Prop) (x : Value) (n : Led) : Prop := Ex c m n r (KBin2 c m op K x)
theorem Ex.bin {l r : Expr} {op : Operator} {pos : Pos} {K : Value → Led → Prop} (h : Ex c m nw l (KBin c m r op K)) : Ex c m nw (.BinOp l op r pos) K :=
  ⟨fun h0 tk Q I hQ => wpAny_BinOp (h.run h0 tk _ I fun x n1 h1 t1 I1 hK => hK.run h1 t1 _ I1 fun y n2 h2 t2 I2 hK2 => hK2.run h2 t2 Q I2 hQ)⟩
theorem Bo.int {op : Operator} {x y : Value} {f : Nat → Value} {ft : Nat → Nat} {K : Value → Led → Prop} (h : ∀ t, evOp op x y t = some (f t, ft t)) (hK : ∀ t, K (f t) nw) : Bo c m nw op x y K :=
  ⟨fun h0 tk Q I hQ => evOp_ok (h tk) (hQ _ _ _ _ I (hK tk))⟩
theorem Bo.lst {a b : Addr} {its jts : List Value} {n k : Nat} {K : Value → Led → Prop} (ha : (a, lstO its n) ∈ nw) (hb : (b, lstO jts k) ∈ nw) (hn : its.length + jts.length ≤ 100000) (hK : ∀ D, (∀ p ∈ nw, p.1 < D) → K (.ref D) ((D, lstO (its ++ jts) 0) :: nw)) : Bo c m nw .Add (.ref a) (.ref b) K :=
  ⟨fun h0 tk Q I hQ => kmk_add_lit (its := its.toArray) (its2 := jts.toArray) I.F I.N ⟨_, (I.N _ ha).1, rfl, n, rfl⟩ ⟨_, (I.N _ hb).1, rfl, k, rfl⟩ rfl (fun D h' F' N' l => hQ _ _ _ _ ⟨F', N'⟩ (hK D l)) (by simp only [sizeLine_eq]; lia)⟩
/-! setting an attribute that is there -/
structure Sa (c : Cx w D i) (m : Fm) (nw : Led) (o : Value) (x : Str) (v : Value) (K : Led → Prop) : Prop where
  run : ∀ (h : Heap) (tk : Nat) (Q : Unit → Shared → Prop), c.I m nw h → (∀ nw' h' tk', c.I m nw' h' → K nw' → Q () (c.st h' tk')) → wpAny (Mo w) c.A (setAttr o x v) Q c.E (c.st h tk)
theorem stab_all (P : Params) : atab.map (fun q => (findIn (hd.heap_1 P) (.ref q.1) (Str.ofString "__setattr__"), plainOver (hd.heap_1 P) q.1, takerIn (hd.heap_1 P) q.1 q.2, hasDictIn (hd.heap_1 P) q.1)) = atab.map (fun _ => (some (some (.builtin "object.__setattr__")), true, some none, true)) := by kernel_rfl
theorem stab_at {P : Params} {C : Addr} {x : Str} (h : atab.contains (C, x) = true) : findIn (hd.heap_1 P) (.ref C) (Str.ofString "__setattr__") = some (some (.builtin "object.__setattr__")) ∧ plainOver (hd.heap_1 P) C = true ∧ takerIn (hd.heap_1 P) C x = some none ∧ hasDictIn (hd.heap_1 P) C = true := by
  have := List.map_inj_left.mp (stab_all P) (C, x) (List.contains_iff_mem.mp h)
  simpa only [Prod.mk.injEq] using this
noncomputable def setL (x : Str) (v : Value) : List DictEntry → List DictEntry
  | [] => []
  | e :: r => cond (e.key.isStr x) (⟨e.hash, e.key, v⟩ :: r) (e :: setL x v r)
theorem setL_len (x : Str) (v : Value) : ∀ es : List DictEntry, (setL x v es).length = es.length
  | [] => rfl
  | e :: r => by
    show (cond _ _ _ : List DictEntry).length = _
    cases e.key.isStr x
    · exact congrArg (· + 1) (setL_len x v r)
    · rfl
theorem putL_set {x : Str} {v : Value} (h : Int) (k : Value) : ∀ {es : List DictEntry}, (es.any fun e => e.key.isStr x) = true → putL x h k v es = setL x v es
  | [], q => by cases q
  | e :: r, q => by
    rw [putL, setL]
    cases he : e.key.isStr x with
    | true => rfl
    | false =>
      rw [List.any_cons, he, Bool.false_or] at q
      rw [putL_set h k q]; rfl
theorem Sa.old {a C dx : Addr} {es : List DictEntry} {n : Nat} {x : Str} {v : Value} {g : Obj → Led} {K : Led → Prop} (ha : (a, instObj C dx) ∈ nw) (hd : (dx, dictOf es n) ∈ nw) (hc : atab.contains (C, x) = true) (hg : (getL x es).isSome = true) (ha' : (es.any fun e => e.key.isStr x) = true) (hl : Nat.ble es.length 1000 = true) (U : UpdF dx (dictOf es n) nw g) (hK : K (g (dictOf (setL x v es) n))) : Sa c m nw (.ref a) x v K := by
  refine ⟨fun h0 tk Q I hQ => ?_⟩
  obtain ⟨h1, h2, h3, h4⟩ := stab_at (P := w.params) hc
  exact set_dict I.F c.X I.N (InstAt.of_news I.N ha hd) rfl h1 h2 h3 h4 hg (by rw [putL_set _ _ ha', show putN x es n = n from if_pos ha']) (upd_F U _) (by rw [setL_len]; exact Nat.le_of_ble_eq_true hl) fun h' F' N' => hQ _ _ _ ⟨F', N'⟩ hK
@[reducible] noncomputable def KLed (c : Cx w D i) (m : Fm) (l : List Stmt) (K : Flow → Fm → Led → Prop) (n : Led) : Prop := St c m n l K
@[reducible] noncomputable def KAsgA2 (c : Cx w D i) (m : Fm) (x : Str) (l : List Stmt) (K : Flow → Fm → Led → Prop) (v ov : Value) (n : Led) : Prop := Sa c m n ov x v (KLed c m l K)
@[reducible] noncomputable def KAsgA (c : Cx w D i) (m : Fm) (o : Expr) (x : Str) (l : List Stmt) (K : Flow → Fm → Led → Prop) (v : Value) (n : Led) : Prop := Ex c m n o (KAsgA2 c m x l K v)
theorem St.asgA {o e : Expr} {x : Str} {p' pos : Pos} (hs : ∀ L, swapsWith e (some (.Attribute o x p')) pos.line (i.env L) = pure false) (h : Ex c m nw e (KAsgA c m o x l K)) : St c m nw (.Assign [.Attribute o x p'] e pos :: l) K :=
  ⟨fun h0 tk Q I hQ => wpAny_execs_cons (plainObj_wpAny_Assign_Attribute (h.run h0 tk _ I fun v n1 h1 t1 I1 hK => hK.run h1 t1 _ I1 fun ov n2 h2 t2 I2 hK2 => hK2.run h2 t2 _ I2 fun n3 h3 t3 I3 hK3 => hK3.run h3 t3 Q I3 hQ) (hs _))⟩
end
theorem kw13 : True := by
  (k_with "m:hne" => (first | (with_reducible assumption) | ((with_reducible apply ne_lt); (with_reducible assumption); walk_at "hmem") | ((with_reducible apply ne_gt); (with_reducible assumption); walk_at "hmem") | ((with_reducible apply ne_sym); (with_reducible assumption))))
  (k_with "m:hneR" => (first | (with_reducible assumption) | exact ne_nil | ((with_reducible apply ne_all); (with_reducible assumption); walk_at "hsub") | ((with_reducible apply ne_cons); walk_at "hne"; walk_at "hneR")))
  (k_with "m:hupd" => (first | ((with_reducible apply UpdF.head); walk_at "hneR") | ((with_reducible apply UpdF.tail); walk_at "hne"; walk_at "hupd")))
  (k_with "m:hca" => ((with_reducible apply Gm.append); walk_at "hmem"))
  (k_with "m:hca" => ((with_reducible apply Gm.pop); walk_at "hmem"))
  (k_with "m:hca" => ((with_reducible apply Ca.append); walk_at "hupd"; (first | assumption | exact Nat.le_of_ble_eq_true rfl | omega | (simp; omega))))
  (k_with "m:hca" => ((with_reducible apply Ca.pop); walk_at "hupd"; (first | assumption | exact Nat.le_of_ble_eq_true rfl | omega | (simp; omega))))
  (k_with "m:hst" => ((with_reducible apply St.asgS); exact rfl; exact fun _ => rfl; (with_unfolding_all exact fun _ => rfl); exact rfl))
  (k_with "m:hst" => ((with_reducible apply St.asgD); exact rfl; exact fun _ => rfl; (with_unfolding_all exact fun _ => rfl)))
  (k_with "m:hk" => (first | ((with_reducible show Kfor _ _ _ _ _ _ _ _ _); first | (with_reducible apply Kfor.next) | (with_reducible apply Kfor.cont) | (with_reducible apply Kfor.ret) | (with_reducible apply Kfor.brk)) | ((with_reducible show KwW _ _ _ _ _ _ _); first | (with_reducible apply KwW.next) | (with_reducible apply KwW.cont) | (with_reducible apply KwW.ret) | (with_reducible apply KwW.brk))))
  (k_with "m:hst" => ((with_reducible apply St.for); exact rfl; (with_unfolding_all exact fun _ _ => rfl)))
  (k_with "m:htx" => (with_reducible apply Tx.neNil))
  (k_with "m:hval" => (first | ((with_reducible apply asg_i); exact rfl; exact rfl) | ((with_reducible apply lst_i); walk_at "hmem"; (first | exact rfl | assumption))))
  (k_with "m:hco" => ((with_reducible apply Co.inL); walk_at "hmem"; exact rfl; exact rfl))
  (k_with "m:hex" => (first | ((with_reducible apply Ex.rev2); exact rfl; exact rfl; walk_at "hmem") | ((with_reducible apply Ex.rev3); exact rfl; exact rfl; walk_at "hmem")))
  (k_with "m:hk" => ((with_reducible apply ForP.app); exact rfl; exact rfl; exact rfl; exact rfl; exact fun _ => rfl; walk_at "hmem"; (first | exact LoopB.tu | exact LoopB.li); walk_at "hupd"; walk_at "hne"; (first | exact Nat.le_of_ble_eq_true rfl | omega | (simp; omega))))
  (k_with "m:hst" => ((with_reducible apply St.asgA); exact fun _ => rfl))
  (k_with "m:hex" => (first | ((with_reducible apply Ex.sl); (with_unfolding_all exact fun _ _ => rfl)) | (with_reducible apply Pt.no) | (with_reducible apply Pt.so) | ((with_reducible apply Sl.mk'); walk_at "hmem"; (first | exact IsPart.none | exact IsPart.int ..); (first | exact IsPart.none | exact IsPart.int ..); exact rfl; (first | exact Nat.le_of_ble_eq_true rfl | omega))))
  (k_with "m:hco" => (first | ((with_reducible apply Bo.int); exact fun _ => rfl) | ((with_reducible apply Bo.lst); walk_at "hmem"; walk_at "hmem"; (first | exact Nat.le_of_ble_eq_true rfl | omega)) | ((with_reducible apply Sa.old); walk_at "hmem"; walk_at "hmem"; exact rfl; exact rfl; exact rfl; exact rfl; walk_at "hupd")))
  (k_with "m:hcall" => (with_reducible apply Ex.bin))
  (k_with "m:hmem" => (first | exact updF_mem (by (with_reducible assumption)) _ | exact updF_keep (by (with_reducible assumption)) (by (with_reducible assumption)) (by (with_reducible assumption)) _))
  (k_with "m:hupd" => (first | (with_reducible assumption) | exact updF_again (by (with_reducible assumption)) _))
  (k_with "m:hsub" => (with_reducible assumption))
  (k_with "m:hlt" => (first | (with_reducible assumption) | ((with_reducible apply lt_l); (with_reducible assumption); walk_at "hmem") | ((with_reducible apply lt_sub); (with_reducible assumption); walk_at "hsub")))
  trivial
theorem valueAt_stored {K : Type} [DecidableEq K] (k : K) (v : Value) (x : K) : ∀ kvs : List (K × Value), valueAt (stored kvs k v) x = if x = k then some v else valueAt kvs x := by
  intro kvs
  unfold stored
  split
  · rename_i h
    have key : ∀ l : List (K × Value), valueAt (l.map (fun kv => if kv.1 = k then (kv.1, v) else kv)) x = if x = k then (if l.any (fun kv => decide (kv.1 = k)) then some v else none) else valueAt l x := by
      intro l
      induction l with
      | nil => simp [valueAt]
      | cons a r ih =>
        simp only [valueAt, List.map_cons, List.find?_cons, List.any_cons] at ih ⊢
        by_cases h1 : a.1 = k
        · by_cases h2 : x = k
          · simp [h1, h2]
          · have : ¬ k = x := fun e => h2 e.symm
            simp only [h1, if_true, h2, if_false, this, decide_false] at ih ⊢
            exact ih
        · by_cases h3 : a.1 = x
          · have h2 : ¬ x = k := fun e => h1 (h3.trans e)
            simp [h1, h2, h3]
          · simp only [h1, if_false, h3, decide_false, Bool.false_or] at ih ⊢
            exact ih
    rw [key, h]; simp
  · rename_i h
    by_cases h2 : x = k
    · subst h2
      have hn : kvs.find? (fun kv => decide (kv.1 = x)) = none := by
        rw [List.find?_eq_none]
        intro kv hkv hc
        exact h (List.any_eq_true.mpr ⟨kv, hkv, hc⟩)
      simp [valueAt, List.find?_append, hn]
    · have h3 : ¬ k = x := fun e => h2 e.symm
      simp only [valueAt, List.find?_append, List.find?_cons, h3, decide_false, List.find?_nil, Option.or_none, h2, if_false]
theorem St.frE {D : Nat} {i : Fn} {c : Cx w D i} {m m' : Fm} {nw : Led} {l : List Stmt} {K : Flow → Fm → Led → Prop} (e : ∀ y, lk m y = lk m' y) (h : St c m' nw l K) : St c m nw l K :=
  ⟨fun h0 tk Q I hQ => h.run h0 tk Q ⟨frTo I.F e, I.N⟩ hQ⟩
theorem sub_m {q : Addr × Obj} {r l : Led} (h : q ∈ l) (hr : ∀ p ∈ r, p ∈ l) : ∀ p ∈ q :: r, p ∈ l := List.forall_mem_cons.mpr ⟨h, hr⟩
theorem vA_head {K : Type} [DecidableEq K] {k : K} {v : Value} {r : List (K × Value)} : valueAt ((k, v) :: r) k = some v := by simp [valueAt]
theorem vA_next {K : Type} [DecidableEq K] {k x : K} {u : Value} {o : Option Value} {r : List (K × Value)} (h : decide (k = x) = false) (hr : valueAt r x = o) : valueAt ((k, u) :: r) x = o := by
  rw [← hr]
  have h := of_decide_eq_false h
  simp [valueAt, List.find?_cons, h]
theorem vA_nil {K : Type} [DecidableEq K] {x : K} : valueAt ([] : List (K × Value)) x = none := rfl
theorem vA_self {K : Type} [DecidableEq K] {k : K} {v : Value} {r : List (K × Value)} : valueAt (stored r k v) k = some v := by rw [valueAt_stored, if_pos rfl]
theorem vA_ne {K : Type} [DecidableEq K] {k x : K} {v : Value} {o : Option Value} {r : List (K × Value)} (h : decide (x = k) = false) (hr : valueAt r x = o) : valueAt (stored r k v) x = o := by rw [valueAt_stored, if_neg (of_decide_eq_false h)]; exact hr
theorem vA_some {K : Type} [DecidableEq K] {k : K} {kvs : List (K × Value)} {v : Value} (h : valueAt kvs k = some v) : (valueAt kvs k).isSome = true := by rw [h]; rfl
theorem vA_none {K : Type} [DecidableEq K] {k : K} {kvs : List (K × Value)} (h : valueAt kvs k = none) : (valueAt kvs k).isSome = false := by rw [h]; rfl
section
variable {D : Nat} {i : Fn} {c : Cx w D i} {m : Fm} {nw : Led} {l : List Stmt} {K : Flow → Fm → Led → Prop}
noncomputable abbrev sK (w : World) := PySem.strKind PySem.Challenge.pw_nt0050_01 w
noncomputable abbrev iK (w : World) := PySem.intKind PySem.Challenge.pw_nt0050_01 w
/-! setting an item -/
structure Si (c : Cx w D i) (m : Fm) (nw : Led) (o k v : Value) (K : Led → Prop) : Prop where
  run : ∀ (h : Heap) (tk : Nat) (Q : Unit → Shared → Prop), c.I m nw h → (∀ nw' h' tk', c.I m nw' h' → K nw' → Q () (c.st h' tk')) → wpAny (Mo w) c.A (setItem o k v) Q c.E (c.st h tk)
@[reducible] noncomputable def KAsgI3 (c : Cx w D i) (m : Fm) (l : List Stmt) (K : Flow → Fm → Led → Prop) (v ov iv : Value) (n : Led) : Prop := Si c m n ov iv v (KLed c m l K)
@[reducible] noncomputable def KAsgI2 (c : Cx w D i) (m : Fm) (s : Expr) (l : List Stmt) (K : Flow → Fm → Led → Prop) (v ov : Value) (n : Led) : Prop := Ex c m n s (KAsgI3 c m l K v ov)
@[reducible] noncomputable def KAsgI (c : Cx w D i) (m : Fm) (o s : Expr) (l : List Stmt) (K : Flow → Fm → Led → Prop) (v : Value) (n : Led) : Prop := Ex c m n o (KAsgI2 c m s l K v)
theorem St.asgI {o s e : Expr} {p' pos : Pos} (hs : ∀ L, swapsWith e (some (.Subscript o s p')) pos.line (i.env L) = pure false) (h : Ex c m nw e (KAsgI c m o s l K)) : St c m nw (.Assign [.Subscript o s p'] e pos :: l) K :=
  ⟨fun h0 tk Q I hQ => wpAny_execs_cons (wpAny_Assign_Subscript (h.run h0 tk _ I fun v n1 h1 t1 I1 hK => hK.run h1 t1 _ I1 fun ov n2 h2 t2 I2 hK2 => hK2.run h2 t2 _ I2 fun iv n3 h3 t3 I3 hK3 => hK3.run h3 t3 _ I3 fun n4 h4 t4 I4 hK4 => hK4.run h4 t4 Q I4 hQ) (hs _))⟩
theorem Si.kd {T : Type} [DecidableEq T] {knd : KeyKind PySem.Challenge.pw_nt0050_01 w T} {a : Addr} {o : Obj} {kvs : List (T × Value)} {x : T} {key v : Value} {g : Obj → Led} {K : Led → Prop} (hx : knd.is x key = true) (U : UpdF a o nw g) (ho : o.IsDictOf knd kvs) (hl : kvs.length ≤ 1000) (hK : ∀ o', o'.IsDictOf knd (stored kvs x v) → K (g o')) : Si c m nw (.ref a) key v K :=
  ⟨fun h0 tk Q I hQ => kda_set I.F I.N U ho hx (by rw [sizeLine_eq]; omega) fun h' o' F' N' d => hQ _ _ _ ⟨F', N'⟩ (hK o' d)⟩
theorem Si.str {a : Addr} {o : Obj} {kvs : List (Str × Value)} {x : Str} {t : Tok} {v : Value} {g : Obj → Led} {K : Led → Prop} (U : UpdF a o nw g) (ho : o.IsDictOf (sK w) kvs) (hl : kvs.length ≤ 1000) (hK : ∀ o', o'.IsDictOf (sK w) (stored kvs x v) → K (g o')) : Si c m nw (.ref a) (.str x t) v K :=
  Si.kd (strKind_is _ _ _ _) U ho hl hK
theorem Si.int {a : Addr} {o : Obj} {kvs : List (Int × Value)} {x : Int} {t : Tok} {v : Value} {g : Obj → Led} {K : Led → Prop} (U : UpdF a o nw g) (ho : o.IsDictOf (iK w) kvs) (hl : kvs.length ≤ 1000) (hK : ∀ o', o'.IsDictOf (iK w) (stored kvs x v) → K (g o')) : Si c m nw (.ref a) (.int x t) v K :=
  Si.kd (intKind_is _ _ _ _) U ho hl hK
/-! displays of dictionaries -/
theorem Ex.dic0 {pos : Pos} {K : Value → Led → Prop} (hK : ∀ d o, (∀ p ∈ nw, p.1 < d) → (d == sysModules) = false → o.IsDictOf (sK w) [] → o.IsDictOf (iK w) [] → K (.ref d) ((d, o) :: nw)) : Ex c m nw (.Dict [] [] pos) K :=
  ⟨fun h0 tk Q I hQ => newDict_K I.F I.N (TopRead.nolimit c.tr) fun d h' o F' N' l1 lo hs _ hi _ => hQ _ _ _ _ ⟨F', N'⟩ (hK d o l1 lo hs hi)⟩
structure Dp (c : Cx w D i) (m : Fm) (nw : Led) (pos : Pos) (ks : List (Option Expr)) (vs : List Expr) (K : List (Value × Value) → Led → Prop) : Prop where
  run : ∀ (h : Heap) (tk : Nat) (Q : List (Value × Value) → Shared → Prop), c.I m nw h → (∀ v nw' h' tk', c.I m nw' h' → K v nw' → Q v (c.st h' tk')) → wpAny (Mo w) c.A (evalPairs (pairTrees ks vs c.env pos)) Q c.E (c.st h tk)
theorem Dp.nil {pos : Pos} {K : List (Value × Value) → Led → Prop} (hK : K [] nw) : Dp c m nw pos [] [] K := ⟨fun h0 tk Q I hQ => pairTrees_nil_walk (hQ _ _ _ _ I hK)⟩
@[reducible] noncomputable def KDp3 (K : List (Value × Value) → Led → Prop) (x y : Value) (r : List (Value × Value)) (n : Led) : Prop := K ((x, y) :: r) n
@[reducible] noncomputable def KDp2 (c : Cx w D i) (m : Fm) (pos : Pos) (ks : List (Option Expr)) (vs : List Expr) (K : List (Value × Value) → Led → Prop) (x y : Value) (n : Led) : Prop := Dp c m n pos ks vs (KDp3 K x y)
@[reducible] noncomputable def KDp (c : Cx w D i) (m : Fm) (v : Expr) (pos : Pos) (ks : List (Option Expr)) (vs : List Expr) (K : List (Value × Value) → Led → Prop) (x : Value) (n : Led) : Prop := Ex c m n v (KDp2 c m pos ks vs K x)
theorem Dp.cons {pos : Pos} {k v : Expr} {ks : List (Option Expr)} {vs : List Expr} {K : List (Value × Value) → Led → Prop} (h : Ex c m nw k (KDp c m v pos ks vs K)) : Dp c m nw pos (some k :: ks) (v :: vs) K :=
  ⟨fun h0 tk Q I hQ => pairTrees_cons_walk (h.run h0 tk _ I fun x n1 h1 t1 I1 hK => hK.run h1 t1 _ I1 fun y n2 h2 t2 I2 hK2 => hK2.run h2 t2 _ I2 fun r n3 h3 t3 I3 hK3 => hQ _ _ _ _ I3 hK3)⟩
/-- the pairs go into the new dictionary -/
structure Dm (w : World) (d : Addr) (o : Obj) (K : Value → Led → Prop) (vs : List (Value × Value)) (n : Led) : Prop where
  ex : ∃ g, UpdF d o n g ∧ allStrKeys vs = true ∧ ((strPairs vs).map (·.1)).Nodup ∧ ∀ o', o'.IsDictOf (sK w) (strPairs vs) → K (.ref d) (g o')
theorem Dm.mk' {d : Addr} {o : Obj} {K : Value → Led → Prop} {vs : List (Value × Value)} {g : Obj → Led} (U : UpdF d o nw g) (h1 : allStrKeys vs = true) (h2 : decide ((strPairs vs).map (·.1)).Nodup = true) (h : ∀ o', o'.IsDictOf (sK w) (strPairs vs) → K (.ref d) (g o')) : Dm w d o K vs nw := ⟨g, U, h1, of_decide_eq_true h2, h⟩
theorem Ex.dicS {ks : List (Option Expr)} {vs : List Expr} {pos : Pos} {K : Value → Led → Prop} (h1 : ks.all (·.isSome) = true) (h2 : ks.length = vs.length) (h3 : ks.isEmpty = false) (h4 : Nat.ble ks.length 15 = true) (h : ∀ d o, (∀ p ∈ nw, p.1 < d) → (d == sysModules) = false → o.IsDictOf (sK w) [] → Dp c m ((d, o) :: nw) pos ks vs (Dm w d o K)) : Ex c m nw (.Dict ks vs pos) K := by
  refine ⟨fun h0 tk Q I hQ => kdn_eval (knd := sK w) I.F I.N (TopRead.nolimit c.tr) h1 h2 (fun e => by rw [e] at h3; cases h3) (Nat.le_of_ble_eq_true h4) fun d h' o F' N' l1 lo hd => ?_⟩
  refine (h d o l1 lo hd).run h' tk _ ⟨F', N'⟩ fun vs n h2 t2 I2 hK => ?_
  obtain ⟨g, U, q1, q2, q3⟩ := hK
  obtain ⟨o1, hm, hd1⟩ : ∃ o1, (d, o1) ∈ n ∧ o1 = o := ⟨o, updF_at U, rfl⟩
  exact kdn_made_str I2.F I2.N U hd q1 q2 fun h3 o' F3 N3 hd3 => hQ _ _ _ _ ⟨F3, N3⟩ (q3 o' hd3)
/-! an int in a dictionary -/
theorem Co.inK {x : Int} {t : Tok} {a : Addr} {o : Obj} {kvs : List (Int × Value)} {b : Bool} {K : Bool → Led → Prop} (ha : (a, o) ∈ nw) (ho : o.IsDictOf (iK w) kvs) (hn : (a == sysModules) = false) (hb : (valueAt kvs x).isSome = b) (hK : K b nw) : Co c m nw .In (.int x t) (.ref a) K :=
  ⟨fun h tk Q I hQ => kda_in I.N ha ho hn (intKind_is _ _ _ _) b hb (hQ _ _ _ _ I hK)⟩
/-- a list's item set -/
theorem ki_setL_eq : ∀ {l : List Value} {k : Nat} {v : Value}, k < l.length → ki_setL l k v = some (l.set k v)
  | [], _, _, h => absurd h (Nat.not_lt_zero _)
  | x :: r, 0, v, h => rfl
  | x :: r, k + 1, v, h => by
    rw [ki_setL, ki_setL_eq (Nat.lt_of_succ_lt_succ h)]; rfl
theorem Si.lst {a : Addr} {its : List Value} {n : Nat} {k : Int} {t : Tok} {v : Value} {g : Obj → Led} {K : Led → Prop} (U : UpdF a (lstO its n) nw g) (h0 : 0 ≤ k) (h1 : k < its.length) (h2 : its.length ≤ 100000) (hK : K (g (lstO (its.set k.toNat v) n))) : Si c m nw (.ref a) (.int k t) v K :=
  ⟨fun h tk Q I hQ => ki_set (its := its.toArray) I.F I.N h0 (by omega) (ki_setL_eq (l := its) (by omega)) (upd_F U _) fun h' F' N' => hQ _ _ _ ⟨F', N'⟩ hK⟩
/-! and, or as values -/
@[reducible] noncomputable def KAndV (c : Cx w D i) (m : Fm) (e2 : Expr) (r : List Expr) (pos : Pos) (K : Value → Led → Prop) (v : Value) (n1 : Led) : Prop := ∃ b, tru v = some b ∧ Sp b (Ex c m n1 (.BoolOp .And (e2 :: r) pos) K) (K v n1)
@[reducible] noncomputable def KOrV (c : Cx w D i) (m : Fm) (e2 : Expr) (r : List Expr) (pos : Pos) (K : Value → Led → Prop) (v : Value) (n1 : Led) : Prop := ∃ b, tru v = some b ∧ Sp b (K v n1) (Ex c m n1 (.BoolOp .Or (e2 :: r) pos) K)
theorem Ex.and {e1 e2 : Expr} {r : List Expr} {pos : Pos} {K : Value → Led → Prop} (h : Ex c m nw e1 (KAndV c m e2 r pos K)) : Ex c m nw (.BoolOp .And (e1 :: e2 :: r) pos) K :=
  ⟨fun h0 tk Q I hQ => BoolOp_and (h.run h0 tk _ I fun v n1 h1 t1 I1 hK => by
    obtain ⟨b, hb, hK⟩ := hK
    refine tru_ok hb ?_
    cases b with
    | true => exact (show Ex c m n1 _ K from hK).run h1 t1 Q I1 hQ
    | false => exact hQ _ _ _ _ I1 hK)⟩
theorem Ex.or {e1 e2 : Expr} {r : List Expr} {pos : Pos} {K : Value → Led → Prop} (h : Ex c m nw e1 (KOrV c m e2 r pos K)) : Ex c m nw (.BoolOp .Or (e1 :: e2 :: r) pos) K :=
  ⟨fun h0 tk Q I hQ => BoolOp_or (h.run h0 tk _ I fun v n1 h1 t1 I1 hK => by
    obtain ⟨b, hb, hK⟩ := hK
    refine tru_ok hb ?_
    cases b with
    | true => exact hQ _ _ _ _ I1 hK
    | false => exact (show Ex c m n1 _ K from hK).run h1 t1 Q I1 hQ)⟩
theorem Ex.bo1 {o : BoolOp} {e : Expr} {pos : Pos} {K : Value → Led → Prop} (h : Ex c m nw e K) : Ex c m nw (.BoolOp o [e] pos) K :=
  ⟨fun h0 tk Q I hQ => BoolOp_one (h.run h0 tk Q I hQ)⟩
/-! products and quotients by ints that are no literals -/
theorem Bo.mul {x y : Int} {t u : Tok} {K : Value → Led → Prop} (h0 : -4294967296 ≤ y) (h1 : y ≤ 4294967296) (hK : ∀ v, K (.int (x * y) v) nw) : Bo c m nw .Mult (.int x t) (.int y u) K :=
  ⟨fun h0' tk Q I hQ => mul_int (hQ _ _ _ _ I (hK _)) (IntMulOk.of_right (intBits_le_64 (by omega) (by omega)))⟩
theorem Bo.mulF {x z q : Int} {t u : Tok} {K : Value → Led → Prop} (h0 : 0 < q) (h1 : q ≤ 4294967296) (hK : ∀ v, K (.int (x * z.fmod q) v) nw) : Bo c m nw .Mult (.int x t) (.int (z.fmod q) u) K :=
  Bo.mul (by have := Int.fmod_nonneg_of_pos z h0; omega) (by have := Int.fmod_lt_of_pos z h0; omega) hK
theorem Bo.mod {x y : Int} {t u : Tok} {K : Value → Led → Prop} (h : y ≠ 0) (hK : ∀ v, K (.int (x.fmod y) v) nw) : Bo c m nw .Mod (.int x t) (.int y u) K :=
  ⟨fun h0' tk Q I hQ => mod_int' h (hQ _ _ _ _ I (hK _))⟩
theorem Bo.fdiv {x y : Int} {t u : Tok} {K : Value → Led → Prop} (h : y ≠ 0) (h2 : y.natAbs < 1073741824) (hK : ∀ v, K (.int (x.fdiv y) v) nw) : Bo c m nw .FloorDiv (.int x t) (.int y u) K :=
  ⟨fun h0' tk Q I hQ => floordiv_int h (hQ _ _ _ _ I (hK _)) (Or.inl (PyProof.noPylong_small h2))⟩
theorem ints_plainB {its : List Value} {ns : List Int} (h : IntsAre its ns) : its.all plainB = true := by
  induction h with
  | nil => rfl
  | cons n t _ ih => rw [List.all_cons, ih]; rfl
theorem ints_split {its : List Value} {cs : List Int} (h : IntsAre its cs) (hn : (!its.isEmpty) = true) : ∃ p y t cp, its = p ++ [.int y t] ∧ cs = cp ++ [y] ∧ IntsAre p cp := by
  induction h with
  | nil => cases hn
  | cons n t r ih =>
    rename_i vs ns
    cases r with
    | nil => exact ⟨[], n, t, [], rfl, rfl, .nil⟩
    | cons n2 t2 r2 =>
      obtain ⟨p, y, t', cp, e1, e2, h⟩ := ih rfl
      exact ⟨_, y, t', _, by rw [e1]; rfl, by rw [e2]; rfl, .cons n t h⟩
end
theorem kw14 : True := by
  (k_with "m:hkv" => (first | (with_reducible assumption) | exact vA_head | exact vA_self | exact vA_nil | ((with_reducible apply vA_next); exact rfl; walk_at "hkv") | ((with_reducible apply vA_ne); exact rfl; walk_at "hkv")))
  (k_with "m:hkvB" => (first | (with_reducible assumption) | ((with_reducible apply vA_some); walk_at "hkv") | ((with_reducible apply vA_none); walk_at "hkv")))
  (k_with "m:hst" => ((with_reducible apply St.asgI); exact fun _ => rfl))
  (k_with "m:hca" => (first | ((with_reducible apply Si.lst); walk_at "hupd"; (first | (with_reducible assumption) | omega); (first | (with_reducible assumption) | omega); (first | (with_reducible assumption) | omega)) | ((with_reducible apply Si.str); walk_at "hupd"; (with_reducible assumption); (first | (with_reducible assumption) | exact Nat.le_of_ble_eq_true rfl | omega)) | ((with_reducible apply Si.int); walk_at "hupd"; (with_reducible assumption); (first | (with_reducible assumption) | exact Nat.le_of_ble_eq_true rfl | omega))))
  (k_with "m:hex" => (first | (with_reducible apply Ex.dic0) | ((with_reducible apply Ex.dicS); exact rfl; exact rfl; exact rfl; exact rfl) | (with_reducible apply Dp.nil) | (with_reducible apply Dp.cons) | ((with_reducible apply Dm.mk'); walk_at "hupd"; exact rfl; (first | exact rfl | kernel_rfl!))))
  (k_with "m:hco" => ((with_reducible apply Co.inK); walk_at "hmem"; (with_reducible assumption); (with_reducible assumption); walk_at "hkvB"))
  (k_with "m:hco" => (first | ((with_reducible apply Bo.mulF); decide; decide) | ((with_reducible apply Bo.mul); (first | (with_reducible assumption) | decide | omega); (first | (with_reducible assumption) | decide | omega)) | ((with_reducible apply Bo.mod); (first | (with_reducible assumption) | omega)) | ((with_reducible apply Bo.fdiv); (first | (with_reducible assumption) | omega); (first | (with_reducible assumption) | omega))))
  (k_with "m:hex" => (first | (with_reducible apply Ex.and) | (with_reducible apply Ex.or) | (with_reducible apply Ex.bo1)))
  trivial
/-! a for over items known one by one (unrolled) -/
/-- an object out of a ledger -/
inductive DelX (p : Addr × Obj) : Led → Led → Prop
  | head {r} : DelX p (p :: r) r
  | tail {q r r'} : DelX p r r' → DelX p (q :: r) (q :: r')
theorem DelX.mem {p : Addr × Obj} {l l' : Led} (h : DelX p l l') : p ∈ l := by
  induction h with
  | head => exact .head _
  | tail _ ih => exact .tail _ ih
theorem DelX.sub {p : Addr × Obj} {l l' : Led} (h : DelX p l l') : ∀ q ∈ l', q ∈ l := by
  induction h with
  | head => exact fun q hq => .tail _ hq
  | tail _ ih => exact fun q hq => (List.mem_cons.mp hq).elim (fun e => e ▸ .head _) fun hq => .tail _ (ih q hq)
section
variable {D : Nat} {i : Fn} {c : Cx w D i} {m : Fm} {nw : Led} {l : List Stmt} {K : Flow → Fm → Led → Prop}
structure As (c : Cx w D i) (target : Expr) (a : Itm) (m : Fm) (nw : Led) (K : Fm → Prop) : Prop where
  run : ∀ (v : Value) (h : Heap) (tk : Nat) (Q : Unit → Shared → Prop), a.Is v h → c.I m nw h → (∀ m' h' tk', c.I m' nw h' → K m' → Q () (c.st h' tk')) → wpAny (Mo w) c.A (assign target c.env v) Q c.E (c.st h tk)
theorem As.pair {es : List Expr} {k : Nat} {tp : Pos} {x y : Str} {f : Tok → Value} {v : Value} {K : Fm → Prop} (hx : namesOf i.scope es = some [x, y]) (h : ∀ t, K (puts m [x, y] [f t, v])) : As c (.Tuple es k tp) (.pair f v) m nw K := by
  refine ⟨fun u h0 tk Q hu I hQ => ?_⟩
  obtain ⟨T, t, rfl, hT⟩ := hu
  obtain ⟨n1', n2'⟩ := names_len c.env hx
  refine unpackN_ I.F I.N hT rfl (by rw [n1']; rfl) n2' fun h2 F2 N2 => ?_
  exact puts_ok es [x, y] [f t, v] m h2 _ hx rfl ⟨F2, N2⟩ fun h3 t3 I3 => hQ _ _ _ I3 (h t)
theorem As.tup {es : List Expr} {k : Nat} {tp : Pos} {xs : List Str} {a : Addr} {its : List Value} {K : Fm → Prop} (hx : namesOf i.scope es = some xs) (ha : (a, tupO its) ∈ nw) (hl : its.length = xs.length) (h : K (puts m xs its)) : As c (.Tuple es k tp) (.val (.ref a)) m nw K := by
  refine ⟨fun u h0 tk Q hu I hQ => ?_⟩
  cases hu
  obtain ⟨n1', n2'⟩ := names_len c.env hx
  refine unpackN_ I.F I.N (News.isTup I.N ha) rfl (by rw [n1', List.size_toArray, hl]) n2' fun h2 F2 N2 => ?_
  exact puts_ok es xs its m h2 _ hx hl ⟨F2, N2⟩ fun h3 t3 I3 => hQ _ _ _ I3 h
theorem As.nm {x : Str} {px : Pos} {v : Value} {K : Fm → Prop} (hx : nameLocal i.scope x = true) (h : K (setN m x v)) : As c (.Name x px) (.val v) m nw K := by
  refine ⟨fun u h0 tk Q hu I hQ => ?_⟩
  cases hu
  exact assign_Name (store_ok hx I fun h1 t1 I1 => hQ _ _ _ I1 h)
theorem As.tk {x : Str} {px : Pos} {f : Tok → Value} {K : Fm → Prop} (hx : nameLocal i.scope x = true) (h : ∀ t, K (setN m x (f t))) : As c (.Name x px) (.tok f) m nw K := by
  refine ⟨fun u h0 tk Q hu I hQ => ?_⟩
  obtain ⟨t, rfl⟩ := hu
  exact assign_Name (store_ok hx I fun h1 t1 I1 => hQ _ _ _ I1 (h t))
inductive KfX (its : Led) (kp : Addr × Obj) (R : Fm → Led → Prop) (m2 : Fm) (n2 : Led) : Prop
  | mk (n') : (R m2 n') → (kp ∈ n') → ((∀ p ∈ n', p ∈ n2)) → ((∀ p ∈ its, p ∈ n2)) → (∀ p ∈ n', ∀ q ∈ its, p.1 ≠ q.1) → KfX its kp R m2 n2
theorem KfX.mk1 {I : Addr} {o : Obj} {kp : Addr × Obj} {R : Fm → Led → Prop} {n' : Led} (d : DelX (I, o) nw n') (hk : kp ∈ n') (h : ∀ p ∈ n', p.1 ≠ I) (hR : R m n') : KfX [(I, o)] kp R m nw :=
  ⟨n', hR, hk, d.sub, fun p hp => by rw [List.mem_singleton.mp hp]; exact d.mem, fun p hp q hq => by rw [List.mem_singleton.mp hq]; exact h p hp⟩
theorem KfX.mk2 {I J : Addr} {o o' : Obj} {kp : Addr × Obj} {R : Fm → Led → Prop} {n1 n' : Led} (d : DelX (J, o) nw n1) (d' : DelX (I, o') n1 n') (hk : kp ∈ n') (h : ∀ p ∈ n', p.1 ≠ J) (h' : ∀ p ∈ n', p.1 ≠ I) (hR : R m n') : KfX [(J, o), (I, o')] kp R m nw :=
  ⟨n', hR, hk, fun p hp => d.sub p (d'.sub p hp), List.forall_mem_cons.mpr ⟨d.mem, fun p hp => by rw [List.mem_singleton.mp hp]; exact d.sub _ d'.mem⟩, fun p hp => List.forall_mem_cons.mpr ⟨h p hp, fun q hq => by rw [List.mem_singleton.mp hq]; exact h' p hp⟩⟩
noncomputable def KfF (c : Cx w D i) (l : List Stmt) (K : Flow → Fm → Led → Prop) (its : Led) (kp : Addr × Obj) (R : Fm → Led → Prop) (f : Flow) (m : Fm) (n : Led) : Prop :=
  match f with
  | .next => KfX its kp R m n
  | .cont => KfX its kp R m n
  | .brk => St c m n l K
  | .ret v => K (.ret v) m n
theorem KfF.next {its : Led} {kp : Addr × Obj} {R : Fm → Led → Prop} (h : KfX its kp R m nw) : KfF c l K its kp R .next m nw := h
theorem KfF.cont {its : Led} {kp : Addr × Obj} {R : Fm → Led → Prop} (h : KfX its kp R m nw) : KfF c l K its kp R .cont m nw := h
theorem KfF.brk {its : Led} {kp : Addr × Obj} {R : Fm → Led → Prop} (h : St c m nw l K) : KfF c l K its kp R .brk m nw := h
theorem KfF.ret {its : Led} {kp : Addr × Obj} {R : Fm → Led → Prop} {v : Value} (h : K (.ret v) m nw) : KfF c l K its kp R (.ret v) m nw := h
/-- the items that are left -/
noncomputable def Fx (c : Cx w D i) (target : Expr) (b l : List Stmt) (K : Flow → Fm → Led → Prop) (ws : List (Addr × String)) (kp : Addr × Obj) : List Itm → Fm → Led → Prop
  | [], m, n => St c m n l K
  | a :: r, m, n => AllObj ws fun its => As c target a m (its ++ n) fun m' => St c m' (its ++ n) b (KfF c l K its kp (Fx c target b l K ws kp r))
theorem Fx.nil {target : Expr} {b : List Stmt} {ws : List (Addr × String)} {kp : Addr × Obj} (h : St c m nw l K) : Fx c target b l K ws kp [] m nw := h
theorem Fx.cons1 {target : Expr} {b : List Stmt} {I : Addr} {T : String} {kp : Addr × Obj} {a : Itm} {r : List Itm} (h : ∀ o, As c target a m ((I, o) :: nw) fun m' => St c m' ((I, o) :: nw) b (KfF c l K [(I, o)] kp (Fx c target b l K [(I, T)] kp r))) : Fx c target b l K [(I, T)] kp (a :: r) m nw :=
  fun o _ => h o
theorem Fx.cons2 {target : Expr} {b : List Stmt} {I J : Addr} {T T' : String} {kp : Addr × Obj} {a : Itm} {r : List Itm} (h : ∀ o o', As c target a m ((J, o) :: (I, o') :: nw) fun m' => St c m' ((J, o) :: (I, o') :: nw) b (KfF c l K [(J, o), (I, o')] kp (Fx c target b l K [(J, T), (I, T')] kp r))) : Fx c target b l K [(J, T), (I, T')] kp (a :: r) m nw :=
  fun o _ o' _ => h o o'
theorem allObj_mono : ∀ {ws : List (Addr × String)} {P P' : Led → Prop}, (∀ its, P its → P' its) → AllObj ws P → AllObj ws P'
  | [], _, _, h, a => h _ a
  | _ :: _, _, _, h, a => fun o e => allObj_mono (fun its => h _) (a o e)
theorem Fx.rest {target : Expr} {b : List Stmt} {ws : List (Addr × String)} {kp : Addr × Obj} {h0 : Heap} {tk0 : Nat} {Q : Flow → Shared → Prop} (hQ : ∀ f m' nw' h' tk', c.I m' nw' h' → K f m' nw' → Q f (c.st h' tk')) : ∀ (xs : List Itm) (m : Fm) (n : Led), Fx c target b l K ws kp xs m n →
    ItemsRest PySem.Challenge.pw_nt0050_01 w c.A c.E c.g c.env target b (fun f s' => match f with | .next => wpAny (Mo w) c.A (execs l c.env) Q c.E s' | f => Q f s') (c.st h0 tk0) ws [kp] xs (lk m) n
  | [], m, n, hx => fun h tk F N => (show St c m n l K from hx).run h tk Q ⟨F, N⟩ hQ
  | a :: r, m, n, hx => fun v h tk hv F => by
    refine allObj_mono (fun its hA N => ?_) hx
    refine hA.run v h tk _ hv ⟨F, N⟩ fun m' h1 t1 I1 hS => ?_
    refine hS.run h1 t1 _ I1 fun f m2 n2 h2 t2 I2 hK => ?_
    have fin : KfX its kp (Fx c target b l K ws kp r) m2 n2 → UnrEndW c.g c.env.locals (c.st h tk) its (fun m' n' => SubL [kp] n' ∧ ItemsRest PySem.Challenge.pw_nt0050_01 w c.A c.E c.g c.env target b (fun f s' => match f with | .next => wpAny (Mo w) c.A (execs l c.env) Q c.E s' | f => Q f s') (c.st h0 tk0) ws [kp] r m' n') (c.st h2 t2) := by
      rintro ⟨n', q1, q2, q3, q4, q5⟩
      exact ⟨h2, t2, lk m2, n', rfl, I2.F, fun p hp => (List.mem_append.mp hp).elim (fun h => I2.N p (q4 p h)) fun h => I2.N p (q3 p h), q5, ⟨q2, trivial⟩, Fx.rest hQ r m2 n' q1⟩
    cases f with
    | next => exact fin hK
    | cont => exact fin hK
    | brk => exact (show St c m2 n2 l K from hK).run h2 t2 Q I2 hQ
    | ret v => exact hQ _ _ _ _ _ I2 hK
structure It (c : Cx w D i) (target : Expr) (b l : List Stmt) (K : Flow → Fm → Led → Prop) (m : Fm) (nw : Led) (v : Value) : Prop where
  run : ∀ (h : Heap) (tk : Nat) (Q : Flow → Shared → Prop), c.I m nw h → (∀ f m' nw' h' tk', c.I m' nw' h' → K f m' nw' → Q f (c.st h' tk')) →
    wpAny (Mo w) c.A (pyIter v) (fun it s₂ => TurnsAt PySem.Challenge.pw_nt0050_01 w c.A c.g c.env target b (fun f s' => match f with | .next => wpAny (Mo w) c.A (execs l c.env) Q c.E s' | f => Q f s') c.E it s₂) c.E (c.st h tk)
@[reducible] noncomputable def KIt (c : Cx w D i) (m : Fm) (target : Expr) (b l : List Stmt) (K : Flow → Fm → Led → Prop) (v : Value) (n : Led) : Prop := It c target b l K m n v
theorem St.forA {target e : Expr} {b : List Stmt} {pos : Pos} (hf : ∀ (L : Addr) v, foldedSetIterable e (i.env L) v = pure v) (he : Ex c m nw e (KIt c m target b l K)) : St c m nw (.For target e b [] pos :: l) K :=
  ⟨fun h0 tk Q I hQ => wpAny_execs_cons (For_turns I.F (he.run h0 tk _ I fun v n1 h1 t1 I1 hK => hK.run h1 t1 Q I1 hQ) (hf _) c.po)⟩
theorem St.forT {ts : List Expr} {k : Nat} {tp : Pos} {e : Expr} {b : List Stmt} {pos : Pos} (hf : ∀ (L : Addr) v, foldedSetIterable e (i.env L) v = pure v) (he : Ex c m nw e (KIt c m (.Tuple ts k tp) b l K)) : St c m nw (.For (.Tuple ts k tp) e b [] pos :: l) K := St.forA hf he
theorem It.lst {target : Expr} {b : List Stmt} {a : Addr} {vs : List Value} {n : Nat} (ha : (a, lstO vs n) ∈ nw) (h : ∀ I, (∀ p ∈ nw, p.1 < I) → Fx c target b l K [(I, "list_iterator")] (a, lstO vs n) (vs.map .val) m nw) : It c target b l K m nw (.ref a) :=
  ⟨fun h0 tk Q I hQ => iter_listTurns rfl I.F I.N ha rfl rfl fun J l1 => Fx.rest hQ _ m nw (h J l1)⟩
noncomputable def enI : Int → List Value → List Itm
  | _, [] => []
  | k, v :: r => .pair (fun t => .int k t) v :: enI (k + 1) r
theorem enI_eq : ∀ (vs : List Value) (k : Nat), enumItems k vs = enI k vs
  | [], _ => rfl
  | v :: r, k => congrArg _ (enI_eq r (k + 1))
theorem Fx.en {target : Expr} {b : List Stmt} {I J : Addr} {T T' : String} {kp : Addr × Obj} {k : Int} {v : Value} {r : List Value} (h : ∀ o o', As c target (.pair (fun t => .int k t) v) m ((J, o) :: (I, o') :: nw) fun m' => St c m' ((J, o) :: (I, o') :: nw) b (KfF c l K [(J, o), (I, o')] kp (Fx c target b l K [(J, T), (I, T')] kp (enI (k + 1) r)))) : Fx c target b l K [(J, T), (I, T')] kp (enI k (v :: r)) m nw :=
  fun o _ o' _ => h o o'
theorem Fx.enN {target : Expr} {b : List Stmt} {ws : List (Addr × String)} {kp : Addr × Obj} {k : Int} (h : St c m nw l K) : Fx c target b l K ws kp (enI k []) m nw := h
theorem Fx.mp {target : Expr} {b : List Stmt} {I : Addr} {T : String} {kp : Addr × Obj} {v : Value} {r : List Value} (h : ∀ o, As c target (.val v) m ((I, o) :: nw) fun m' => St c m' ((I, o) :: nw) b (KfF c l K [(I, o)] kp (Fx c target b l K [(I, T)] kp (r.map .val)))) : Fx c target b l K [(I, T)] kp ((v :: r).map .val) m nw :=
  fun o _ => h o
theorem Fx.mpN {target : Expr} {b : List Stmt} {ws : List (Addr × String)} {kp : Addr × Obj} (h : St c m nw l K) : Fx c target b l K ws kp (([] : List Value).map .val) m nw := h
inductive Ie (c : Cx w D i) (target : Expr) (b l : List Stmt) (K : Flow → Fm → Led → Prop) (m : Fm) (nw : Led) (v : Value) : Prop
  | mk (a : Addr) (vs : List Value) (n : Nat) : (v = .ref a) → ((a, lstO vs n) ∈ nw) → (∀ I J : Addr, (∀ p ∈ nw, p.1 < I) → (∀ p ∈ nw, p.1 < J) → J ≠ I → Fx c target b l K [(J, "enumerate"), (I, "list_iterator")] (a, lstO vs n) (enI 0 vs) m nw) → Ie c target b l K m nw v
theorem Ie.mkA {target : Expr} {b : List Stmt} {a : Addr} {vs : List Value} {n : Nat} (ha : (a, lstO vs n) ∈ nw) (h : ∀ I J : Addr, (∀ p ∈ nw, p.1 < I) → (∀ p ∈ nw, p.1 < J) → J ≠ I → Fx c target b l K [(J, "enumerate"), (I, "list_iterator")] (a, lstO vs n) (enI 0 vs) m nw) : Ie c target b l K m nw (.ref a) := ⟨a, vs, n, rfl, ha, h⟩
@[reducible] noncomputable def KIe (c : Cx w D i) (m : Fm) (target : Expr) (b l : List Stmt) (K : Flow → Fm → Led → Prop) (v : Value) (n : Led) : Prop := Ie c target b l K m n v
/-- for at, x in enumerate(e) -/
theorem St.forE {b : List Stmt} {ts : List Expr} {k : Nat} {tp px p pos : Pos} {e : Expr} (hg : nameGlobal i.scope (Str.ofString "enumerate") = true) (hf : ∀ (L : Addr) v, foldedSetIterable (.Call (.Name (Str.ofString "enumerate") px) [e] [] p) (i.env L) v = pure v) (hs : noStar [e] = true)
    (he : Ex c m nw e (KIe c m (.Tuple ts k tp) b l K)) : St c m nw (.For (.Tuple ts k tp) (.Call (.Name (Str.ofString "enumerate") px) [e] [] p) b [] pos :: l) K := by
  refine ⟨fun h0 tk Q I hQ => wpAny_execs_cons (For_turns I.F (Call_ ((Ex.bn (K := fun u n => u = .type "enumerate" ∧ nw = n) hg rfl ⟨rfl, rfl⟩).run h0 tk _ I fun u n1 h1 t1 I1 hu => ?_) rfl) (hf _) c.po)⟩
  obtain ⟨rfl, rfl⟩ := hu
  refine PyProof.Rows.callWith_type1 ((Exs.cons (K := fun vs n => ∃ v, vs = [v] ∧ Ie c (.Tuple ts k tp) b l K m n v) (fun env => (noStar_cons hs env).1) ⟨fun h2 t2 Q2 I2 hQ2 => he.run h2 t2 Q2 I2 fun v n2 h3 t3 I3 hK => hQ2 _ _ _ _ I3 (Exs.nil ⟨v, rfl, hK⟩)⟩).run h1 t1 _ I1 fun vs n3 h3 t3 I3 hK3 => ?_) (noStar_cons hs _).1 (noStar_any _ _ (noStar_cons hs c.env).2)
  obtain ⟨v, rfl, a, us, n, rfl, ha, hK⟩ := hK3
  exact ktu_enum rfl I3.F I3.N ha rfl rfl (enI_eq us 0) fun J l1 => Fx.rest hQ _ m n3 (hK J (J + 1) l1 (fun p hp => Nat.lt_succ_of_lt (l1 p hp)) (Nat.succ_ne_self J))
theorem Ca.lenL {a : Addr} {its : List Value} {n : Nat} {K : Value → Led → Prop} (ha : (a, lstO its n) ∈ nw) (hb : Nat.ble its.length 1000000 = true) (hK : ∀ t, K (.int its.length t) nw) : Ca c m nw (.builtin "len") [.ref a] K :=
  Ca.len ha rfl (by have := Nat.le_of_ble_eq_true hb; omega) hK
theorem len_i {l : List Value} {P : Prop} (h : Nat.ble l.length 1000 = true) (hP : P) : l.length ≤ 1000 ∧ P := ⟨Nat.le_of_ble_eq_true h, hP⟩
end
theorem kw15 : True := by
  (k_with "m:hval" => ((with_reducible apply len_i); exact rfl))
  (k_with "m:hca" => ((with_reducible apply Ca.lenL); walk_at "hmem"; exact rfl))
  (k_with "m:hdel" => (first | exact DelX.head | ((with_reducible apply DelX.tail); walk_at "hdel")))
  (k_with "m:hk" => (first | ((with_reducible show KfF _ _ _ _ _ _ _ _ _); first | (with_reducible apply KfF.next) | (with_reducible apply KfF.cont) | (with_reducible apply KfF.ret) | (with_reducible apply KfF.brk)) | ((with_reducible show Fx _ _ _ _ _ _ _ _ _ _); first | (with_reducible apply Fx.nil) | (with_reducible apply Fx.enN) | (with_reducible apply Fx.mpN) | (with_reducible apply Fx.en) | (with_reducible apply Fx.mp) | (with_reducible apply Fx.cons1) | (with_reducible apply Fx.cons2)) | ((with_reducible apply As.pair); exact rfl) | ((with_reducible apply As.tup); exact rfl; walk_at "hmem"; exact rfl) | ((with_reducible apply As.nm); exact rfl) | ((with_reducible apply As.tk); exact rfl) | ((with_reducible apply KfX.mk1); walk_at "hdel"; walk_at "hmem"; walk_at "hneR") | ((with_reducible apply KfX.mk2); walk_at "hdel"; walk_at "hdel"; walk_at "hmem"; walk_at "hneR"; walk_at "hneR")))
  (k_with "m:hst" => ((with_reducible apply St.forT); (with_unfolding_all exact fun _ _ => rfl)))
  (k_with "m:hst" => (first | ((with_reducible apply St.forE); exact rfl; (with_unfolding_all exact fun _ _ => rfl); exact rfl)))
  (k_with "m:hk" => ((with_reducible apply Ie.mkA); walk_at "hmem"))
  (k_with "m:hk" => ((with_reducible apply It.lst); walk_at "hmem"))
  trivial
theorem range_small {a b : Int} (h1 : -1000 ≤ a) (h2 : a ≤ 1000) (h3 : -1000 ≤ b) (h4 : b ≤ 1000) : Builtin.Range.small a b 1 = true := by
  unfold Builtin.Range.small Builtin.Range.rangeFitsLong Builtin.Range.rangeSize
  simp
  lia
theorem range_sz {a b : Int} {n : Nat} (h : b - a = n ∨ (b - a ≤ 0 ∧ n = 0)) : Builtin.Range.rangeSize a b 1 = (n : Int) := by
  unfold Builtin.Range.rangeSize
  simp
  lia
section
variable {prog : Program} {A : Around} {E : Value → Shared → Prop} {s : Shared} {env : Env} {h₀ : Heap} {x : Str} {body : List Stmt} {Q : Flow → Shared → Prop} {σ : Type} {Led : σ → List (Addr × Obj)} {M : σ → Str → Option Value} {P : Nat → σ → Prop} {l : Addr} {o : Obj} {m₀ : Str → Option Value}
/-- a loop over a range; (l, o) is any object that stays -/
theorem iterR (c₀ : σ) (hl : ∀ c : σ, (l, o) ∈ Led c) {r : Addr} {a b : Int} {t u v : Tok} {n : Nat} (hr : IsRange s.heap r a b 1 t u v) (hb : -1000 ≤ a ∧ a ≤ 1000 ∧ -1000 ≤ b ∧ b ≤ 1000) (hn : b - a = n ∨ (b - a ≤ 0 ∧ n = 0)) (hh : A.handled = none) (F : Fr h₀ env.locals s.heap m₀) (N : News h₀ env.locals s.heap (Led c₀)) (hm : ∀ y, y ≠ x → m₀ y = M c₀ y) (hp : P 0 c₀)
    (turn : ∀ I it i c k h tk, i < n → P i c → (∀ p ∈ Led c, p.1 ≠ I) → Fr h₀ env.locals h (fun y => if y = x then some (.int (a + (i : Int)) k) else M c y) → News h₀ env.locals h ((I, it) :: Led c) →
      wpAny (model prog w) A (execs body env) (IterPost Led M P x I it h₀ env.locals { s with heap := h, toks := tk } (i + 1) Q) E { s with heap := h, toks := tk })
    (done : ∀ c u h tk, P n c → Fr h₀ env.locals h (fun y => if y = x then u else M c y) → News h₀ env.locals h (Led c) → Q .next { s with heap := h, toks := tk }) :
    wpAny (model prog w) A (pyIter (.ref r)) (fun it s₂ => LoopAtV prog w A h₀ env x body Q E it s₂) E s := by
  have hol := (N _ (hl c₀)).1
  have hne : l ≠ s.heap.objs.size := Nat.ne_of_lt (Heap.lt_size hol)
  have hsz := range_sz hn
  refine wpAny_pyIter_range hr (range_small hb.1 hb.2.1 hb.2.2.1 hb.2.2.2) ?_
  rw [hsz]
  have W := PyProof.Rows.LCg.range_walks (prog := prog) (w := w) (I := s.heap.objs.size) hh a n
  have W' : Walks prog w A s.heap.objs.size [s.heap.objs.size, l] [s.heap.objs.size] n (fun i v => ∃ t, v = .int (a + (i : Int)) t) (fun i h => IsRangeIter h s.heap.objs.size (a + (i : Nat) * 1) ((n : Int) - (i : Nat)) 1) :=
    { sub := fun b hb => by rw [List.mem_singleton.mp hb]; exact .head _, frame := fun i h h' st hk => W.frame i h h' st fun b hb => hk b (by rw [List.mem_singleton.mp hb]; exact .head _), item := W.item, done := W.done, self := W.self }
  refine iterCore (o := o) hl c₀ F N rfl rfl W' (by show IsRangeIter _ _ _ _ _; simpa using Heap.get?_push_size _ rfl) (fun i h st => ⟨_, st⟩) hm hp (fun it i c v h tk hi hv hp' hne' F' N' => ?_) done
  obtain ⟨k, rfl⟩ := hv
  exact turn _ it i c k h tk hi hp' hne' F' N'
end
section
variable {D : Nat} {i : Fn} {c : Cx w D i} {m : Fm} {nw : Led} {l : List Stmt} {K : Flow → Fm → Led → Prop}
/-- a loop over a range of N ints from a on; q is any object that stays -/
inductive RgJ (c : Cx w D i) (x : Str) (b l : List Stmt) (K : Flow → Fm → Led → Prop) (m : Fm) (n : Led) (a : Int) (N : Nat) : Prop
  | mk (q : Addr × Obj) (J : Nat → Fm → Led → Prop) : ((∀ k m1 n1, J k m1 n1 → q ∈ n1)) → (J 0 m n) → ((∀ I it k t m1 n1, k < N → J k m1 n1 → (∀ p ∈ n1, p.1 ≠ I) → St c (setN m1 x (.int (a + (k : Int)) t)) ((I, it) :: n1) b (Kfor c I it (J (k + 1)) l K))) → (∀ m1 n1 u, J N m1 n1 → St c (setO m1 x u) n1 l K) → RgJ c x b l K m n a N
inductive RgP (c : Cx w D i) (x : Str) (b l : List Stmt) (K : Flow → Fm → Led → Prop) (m : Fm) (n : Led) (vs : List Value) : Prop
  | mk (a z : Int) (N : Nat) : (((∃ t u, vs = [.int a t, .int z u]) ∨ (a = 0 ∧ ∃ u, vs = [.int z u]))) → ((-1000 ≤ a ∧ a ≤ 1000 ∧ -1000 ≤ z ∧ z ≤ 1000)) → ((z - a = N ∨ (z - a ≤ 0 ∧ N = 0))) → (RgJ c x b l K m n a N) → RgP c x b l K m n vs
theorem RgP.two {x : Str} {b : List Stmt} {a z : Int} {t u : Tok} {N : Nat} (h1 : -1000 ≤ a ∧ a ≤ 1000 ∧ -1000 ≤ z ∧ z ≤ 1000) (h2 : z - a = N ∨ (z - a ≤ 0 ∧ N = 0)) (h : RgJ c x b l K m nw a N) : RgP c x b l K m nw [.int a t, .int z u] := ⟨a, z, N, .inl ⟨t, u, rfl⟩, h1, h2, h⟩
theorem RgP.one {x : Str} {b : List Stmt} {z : Int} {u : Tok} {N : Nat} (h1 : -1000 ≤ z ∧ z ≤ 1000) (h2 : z = N ∨ (z ≤ 0 ∧ N = 0)) (h : RgJ c x b l K m nw 0 N) : RgP c x b l K m nw [.int z u] := ⟨0, z, N, .inr ⟨rfl, u, rfl⟩, ⟨by lia, by lia, h1.1, h1.2⟩, by lia, h⟩
theorem push_range {h₀ h : Heap} {L : Addr} {m : Str → Option Value} {o : Obj} (F : Fr h₀ L h m) (N : News h₀ L h nw) : Fr h₀ L (h.push o) m ∧ News h₀ L (h.push o) nw := ⟨F.push _, fun p hp => ⟨Heap.get?_push_of_some _ (N p hp).1, (N p hp).2⟩⟩
theorem St.forR {x : Str} {px pr p pos : Pos} {e : Expr} {es : List Expr} {b : List Stmt} (hx : nameLocal i.scope x = true) (hg : nameGlobal i.scope (Str.ofString "range") = true) (hf : ∀ (L : Addr) v, foldedSetIterable (.Call (.Name (Str.ofString "range") pr) (e :: es) [] p) (i.env L) v = pure v) (hs : noStar (e :: es) = true)
    (hev : ∀ env, eval ((Expr.Name (Str.ofString "range") pr).Call (e :: es) [] p) env = (do let f ← eval (.Name (Str.ofString "range") pr) env; callWith p f [] (backTo p (starEach (e :: es) env)) (backToKw p (keywordEach [] env))))
    (he : Exs c m nw p (e :: es) fun vs n1 => RgP c x b l K m n1 vs) : St c m nw (.For (.Name x px) (.Call (.Name (Str.ofString "range") pr) (e :: es) [] p) b [] pos :: l) K := by
  have hx' : i.scope.names.lookup x = some .local := by
    simp only [nameLocal, Bool.and_eq_true, beq_iff_eq] at hx
    exact hx.2.1
  refine ⟨fun h0 tk Q I0 hQ => wpAny_execs_cons (For_invVF I0.F hx' (show (i.scope.kind == .class || i.scope.kind == .module && _) = false by rw [c.hk]; rfl) (Call_ ((Ex.bn (K := fun u n => u = .type "range" ∧ nw = n) hg rfl ⟨rfl, rfl⟩).run h0 tk _ I0 fun u n1 h1 t1 I1 hu => ?_) (hev _)) (hf _) c.po)⟩
  obtain ⟨rfl, rfl⟩ := hu
  refine PyProof.Rows.callWith_type1 (he.run h1 t1 _ I1 fun vs n3 h3 t3 I3 hK3 => ?_) (noStar_cons hs _).1 (noStar_any _ _ (noStar_cons hs c.env).2)
  obtain ⟨a, z, N, hvs, hb, hN, q, J, hl, hJ, turn, done⟩ := hK3
  have post : ∀ (I : Addr) (it : Obj) (k : Nat) (h : Heap) (tk : Nat) (u : Tok) (m1 : Fm) (n1 : Led), k < N → J k m1 n1 → c.I (setN m1 x (.int (a + (k : Int)) u)) ((I, it) :: n1) h → (∀ p ∈ n1, p.1 ≠ I) → wpAny (Mo w) c.A (execs b c.env) (IterPost (fun r : { r : Fm × Led // q ∈ r.2 } => r.1.2) (fun r => lk r.1.1) (fun k r => J k r.1.1 r.1.2) x I it c.g c.env.locals (c.st h tk) (k + 1) (fun f s' => match f with | .next => wpAny (Mo w) c.A (execs l c.env) Q c.E s' | f => Q f s')) c.E (c.st h tk) := by
    intro I it k h tk u m1 n1 hk hJ hI hne
    refine (turn I it k u m1 n1 hk hJ hne).run h tk _ hI fun f m2 n2 h2 t2 I2 hK => ?_
    have fin : Kf I it (J (k + 1)) m2 n2 → IterEnd (fun r : { r : Fm × Led // q ∈ r.2 } => r.1.2) (fun r => lk r.1.1) (fun k r => J k r.1.1 r.1.2) x I it c.g c.env.locals (c.st h tk) (k + 1) (c.st h2 t2) := by
      rintro ⟨n', e1, e2, e3, e4⟩
      exact ⟨⟨(m2, n'), hl _ _ _ e1⟩, h2, t2, _, n2, rfl, I2.F, I2.N, e2, e3, e4, fun _ _ => rfl, e1⟩
    cases f with
    | next => exact fin hK
    | cont => exact fin hK
    | brk => exact hK.run h2 t2 Q I2 hQ
    | ret v => exact hQ _ _ _ _ _ I2 hK
  have go : ∀ (r : Addr) (h4 : Heap) (t4 : Nat) (t u v : Tok), c.I m n3 h4 → IsRange h4 r a z 1 t u v → wpAny (Mo w) c.A (pyIter (.ref r)) (fun it s₂ => LoopAtV PySem.Challenge.pw_nt0050_01 w c.A c.g c.env x b (fun f s' => match f with | .next => wpAny (Mo w) c.A (execs l c.env) Q c.E s' | f => Q f s') c.E it s₂) c.E (c.st h4 t4) := by
    intro r h4 t4 t u v I4 hr
    exact iterR (σ := { r : Fm × Led // q ∈ r.2 }) (Led := fun r => r.1.2) (M := fun r => lk r.1.1) (P := fun k r => J k r.1.1 r.1.2) (l := q.1) (o := q.2) ⟨(m, n3), hl _ _ _ hJ⟩ (fun r => r.2) hr hb hN rfl I4.F I4.N (fun _ _ => rfl) hJ
      (fun I it k r u h tk hk hp hne F' N' => post I it k h tk u r.1.1 r.1.2 hk hp ⟨frTo F' fun y => lk_cons y, N'⟩ hne)
      fun r u h tk hp F' N' => (done r.1.1 r.1.2 u hp).run h tk Q ⟨frTo F' fun y => lk_setO y, N'⟩ hQ
  rcases hvs with ⟨t, u, rfl⟩ | ⟨rfl, u, rfl⟩
  · refine call_range_2 ?_
    obtain ⟨F5, N5⟩ := push_range (o := { cls := .type "range", data := .fields #[.int a t, .int z u, .int 1 t3] }) I3.F I3.N
    exact go _ _ _ _ _ _ ⟨F5, N5⟩ (Heap.get?_push_size _ rfl)
  · refine call_range_1 ?_
    obtain ⟨F5, N5⟩ := push_range (o := { cls := .type "range", data := .fields #[.int 0 t3, .int z u, .int 1 (t3 + 1)] }) I3.F I3.N
    exact go _ _ _ _ _ _ ⟨F5, N5⟩ (Heap.get?_push_size _ rfl)
/-- .. of one int -/
theorem RgJ.one {x : Str} {b : List Stmt} {a : Int} {q : Addr × Obj} (hq : q ∈ nw) (R : Led → Prop) (turn : ∀ I it t, (∀ p ∈ nw, p.1 ≠ I) → St c (setN m x (.int a t)) ((I, it) :: nw) b (Kfor c I it (fun m1 n1 => q ∈ n1 ∧ (∃ u, ∀ y, lk m1 y = lk (setO m x u) y) ∧ R n1) l K)) (done : ∀ n1 u, R n1 → St c (setO m x u) n1 l K) : RgJ c x b l K m nw a 1 :=
  ⟨q, fun k m1 n1 => match k with | 0 => m1 = m ∧ n1 = nw | _ => q ∈ n1 ∧ (∃ u, ∀ y, lk m1 y = lk (setO m x u) y) ∧ R n1, fun k m1 n1 hJ => by
    cases k with
    | zero => rw [hJ.2]; exact hq
    | succ k => exact hJ.1, ⟨rfl, rfl⟩, fun I it k t m1 n1 hk hJ hne => by
    cases k with
    | zero => obtain ⟨rfl, rfl⟩ := hJ; rw [show a + ((0 : Nat) : Int) = a from Int.add_zero a]; exact turn I it t hne
    | succ k => exact absurd hk (by lia), fun m1 n1 u hJ => by
    obtain ⟨_, ⟨u', hm⟩, hR⟩ := hJ
    exact St.frE (fun y => by rw [← lk_setO, hm y, lk_setO, setO_set]) (done n1 u hR)⟩
end
theorem kw16 : True := by
  (k_with "m:hst" => ((with_reducible apply St.forR); exact rfl; exact rfl; (with_unfolding_all exact fun _ _ => rfl); exact rfl; exact fun _ => rfl))
  trivial
/-- a class's call: its __init__ entered -/
theorem Con.init {D : Nat} {C fI : Addr} {vs : List Value} {news : Led} {R : RetT} {name qual : Str} {params : Arguments} {body : List Stmt} {scope : Scope} {dV kV doc pm cdv ct oc : Value} {an od : Option Addr} {osl : Array (Option Value)} (fm : Addr → List (Str × Value))
    (hm : makesIn (hd.heap_1 w.params) C = true) (hi : findIn (hd.heap_1 w.params) (.ref C) "__init__" = some (some (.ref fI))) (hf : isFn (hd.heap_1 w.params) (.ref fI) = true)
    (ho : List.lookup fI (hd.heap_1 w.params) = some { cls := oc, dict := od, data := Data.func (fnOf name qual params body scope dV kV doc pm an cdv ct), slots := osl })
    (hcd : codeIn (hd.heap_1 w.params) cdv qual = true)
    (hb : ∀ (x : Addr) (s : Shared), (hd.heap_1 w.params).In s.heap → BindsTo s (fnOf name qual params body scope dV kV doc pm an cdv ct) { pos := .ref x :: vs } (fm x).reverse)
    (hl : ∀ x, ((fm x).reverse.all fun y => scope.names.lookup y.1 == some .local) = true)
    (hco : scope.isCoroutine = false) (hgen : scope.isGenerator = false) (hk : scope.kind = .function)
    (hc : (scope.names.all fun x => x.2 != .cell) = true)
    (h : ∀ (c : Cx w D { name := qual, scope := scope, addr := fI, code := cdv }) (x dx : Addr) (Q : Value → Shared → Prop), (∀ p ∈ news, p.1 < dx) → dx < x → R c.k.h c.k.L c.k.m news c.k.s Q → (∀ s', Q (.ref x) s' → c.k.Q .none s') → St c (optF (fm x)) ((x, instObj C dx) :: (dx, dictOf [] 0) :: news) body c.fin) : Con w (D + 2) C vs news R := by
  intro p loose mean mg mb dp un gd cn cs a ccd cl outer A₀ base h₀ L m s Q E B F X N T hkk hd hu hret
  refine call_cls F X N hm hi hf fun x dx h1 F1 N1 l1 l2 => ?_
  refine code_def B F1 X N1 T rfl rfl hkk ho hcd (show dp + 1 < recursionLimit by omega) (hb x _ (X.keeps F1.keep)) ?_ ?_ hco hgen hk ?_
  · intro y hy
    have := List.all_eq_true.mp (hl x) y hy
    exact eq_of_beq this
  · intro g L' h₁ FG F' N' B' X' T'
    rw [List.reverse_reverse] at F'
    refine (h { k := ⟨h₀, L, m, s, fun v s' => v = .none ∧ Q (.ref x) s'⟩, p := p, loose := loose, mean := mean, mg := mg, mb := mb, g := g, L := L', dp := dp + 1 + 1, un := un + 1 + 3, gd := gd, outer := _, A0 := _, base := base, E := _, B := B', X := X', T := T', hk := hk, hd := by omega, hu := ?_, po := PassesOwn.leaving } x dx Q l1 l2 hret fun s' q => ⟨rfl, q⟩).run h₁ _ _ ⟨frTo F' fun y => lk_optF y (fm x), N'⟩ ?_
    · omega
    intro f m' nw' h' tk' I hK
    refine leaveK_ I.F I.N ?_
    intro F2 N2
    exact hK h' tk' F2 N2
  · intro x hx
    have := List.all_eq_true.mp hc x hx
    exact bne_iff_ne.mp this
section
variable {D : Nat} {i : Fn} {c : Cx w D i} {m : Fm} {nw : Led} {l : List Stmt} {K : Flow → Fm → Led → Prop}
theorem putL_new {x : Str} {v : Value} (h : Int) (k : Value) : ∀ {es : List DictEntry}, (es.any fun e => e.key.isStr x) = false → putL x h k v es = es ++ [⟨h, k, v⟩]
  | [], _ => rfl
  | e :: r, q => by
    rw [List.any_cons, Bool.or_eq_false_iff] at q
    rw [putL, if_neg (by rw [q.1]; exact Bool.false_ne_true), putL_new h k q.2]; rfl
theorem Sa.new {a C dx : Addr} {es : List DictEntry} {n : Nat} {x : Str} {v : Value} {g : Obj → Led} {K : Led → Prop} (ha : (a, instObj C dx) ∈ nw) (hd : (dx, dictOf es n) ∈ nw) (hc : atab.contains (C, x) = true) (hg : (getL x es).isSome = true) (ha' : (es.any fun e => e.key.isStr x) = false) (hl : Nat.ble (es.length + 1) 1000 = true) (U : UpdF dx (dictOf es n) nw g) (hK : ∀ t, K (g (dictOf (es ++ [⟨PyData.keyHash w.params x, .str x t, v⟩]) (n + 1)))) : Sa c m nw (.ref a) x v K := by
  refine ⟨fun h0 tk Q I hQ => ?_⟩
  obtain ⟨h1, h2, h3, h4⟩ := stab_at (P := w.params) hc
  exact set_dict I.F c.X I.N (InstAt.of_news I.N ha hd) rfl h1 h2 h3 h4 hg (by rw [putL_new _ _ ha', show putN x es n = n + 1 from if_neg (by rw [ha']; exact Bool.false_ne_true)]) (upd_F U _) (by rw [List.length_append]; exact Nat.le_of_ble_eq_true hl) fun h' F' N' => hQ _ _ _ ⟨F', N'⟩ (hK _)
end
theorem kw17 : True := by
  (k_with "m:hco" => ((with_reducible apply Sa.new); walk_at "hmem"; walk_at "hmem"; exact rfl; exact rfl; exact rfl; exact rfl; walk_at "hupd"))
  trivial
open PySem.Calls PyProof.Rows.LCg in
/-- a comprehension's turns, two names and one test -/
theorem cl_pairT {prog : Program} {A : Around} {s : Shared} {elt ct iter : Expr} {elts : List Expr} {x1} {tp : Pos} {scope : Scope} {pos : Pos} {it acc : Value} {env : Env} {R : Result → Shared → Prop} (I : Nat → Shared → Prop)
    (turn : ∀ n s, I n s → wpAny (model prog w) A (pyNext it) (fun r s₁ => match r with
      | none => R (.ok .next) s₁
      | some v => wpAny (model prog w) A (letOwnedTupleGo (.Tuple elts x1 tp) it v) (fun _ s₁' => wpAny (model prog w) A (assign (.Tuple elts x1 tp) env v) (fun _ s₂ =>
          wpAny (model prog w) A (isTrue ct env (eval ct env)) (fun ok s₃ => if ok = true then wpAny (model prog w) A (eval elt env) (fun x s₄ =>
              wpAny (model prog w) A (call (.builtin "list.append") [acc, x]) (fun _ s₅ => ∃ m, m < n ∧ I m s₅) (notedBy (model prog w) A env fun e s' => R (.error e) s') s₄) (notedBy (model prog w) A env fun e s' => R (.error e) s') s₃
            else ∃ m, m < n ∧ I m s₃) (notedBy (model prog w) A env fun e s' => R (.error e) s') s₂)
          (notedBy (model prog w) A env fun e s' => R (.error e) s') s₁') (notedBy (model prog w) A env fun e s' => R (.error e) s') s₁) (notedBy (model prog w) A env fun e s' => R (.error e) s') s)
    (n : Nat) (h : I n s) : codeAny (model prog w) A (.compLoop (.ListComp elt [⟨.Tuple elts x1 tp, iter, [ct], 0⟩] scope pos) 0 it acc env) R s := by
  refine codeAny_loop rfl I (fun n s hI => ?_) n h
  show wpAny _ A ((compTurn (.ListComp elt [⟨.Tuple elts x1 tp, iter, [ct], 0⟩] scope pos) 0 it acc env).onRaise (fun x => do noteFrame x env; theTreesLotGoes x)) _ _ s
  refine wpAny_noted ?_
  rw [compTurn_list]
  refine wpAny_bind (wpAny_standAt (wpAny_bind (wpAny_mono (turn n s hI) (fun r s₁ h₁ => ?_) fun _ _ h' => h')))
  cases r with
  | none => exact wpAny_pure h₁
  | some v =>
    refine wpAny_bind (wpAny_mono h₁ (fun _ s₁' h₁' => ?_) fun _ _ h' => h')
    refine wpAny_bind (wpAny_mono h₁' (fun _ s₂ h₂ => wpAny_bind (wpAny_mono (wpAny_tests_one h₂) (fun ok s₃ h₃ => ?_) fun _ _ h' => h')) fun _ _ h' => h')
    cases ok with
    | false => exact wpAny_pure ⟨rfl, h₃⟩
    | true => exact wpAny_bind (wpAny_bind (wpAny_mono h₃ (fun x s₄ h₄ => wpAny_bind (wpAny_mono h₄ (fun _ s₅ h₅ => wpAny_pure (wpAny_pure ⟨rfl, h₅⟩)) fun _ _ h' => h')) fun _ _ h' => h'))
section
open PySem.Calls PyProof.Rows.LCg
/-- the four objects of the turns: enumerate, its list's iterator, the comprehension's names, the list that grows -/
structure Apart4 (e i C D : Addr) (news : List (Addr × Obj)) : Prop where
  off : ∀ p ∈ news, p.1 ≠ e ∧ p.1 ≠ i ∧ p.1 ≠ C ∧ p.1 ≠ D
inductive CEnd (h₀ : Heap) (L : Addr) (m : Str → Option Value) (s₁ : Shared) (e : Addr) (oe : Obj) (i : Addr) (oi : Obj) (C : Addr) (oC : Obj) (D : Addr) (oD : Obj) (lp : Addr × Obj) (rest : Value → List (Addr × Obj) → Prop) (y : Value) (s₂ : Shared) : Prop
  | mk (h' : Heap) (tk : Nat) (news' : List (Addr × Obj)) : s₂ = { s₁ with heap := h', toks := tk } → Fr h₀ L h' m → News h₀ L h' ((e, oe) :: (i, oi) :: (C, oC) :: (D, oD) :: news') → Apart4 e i C D news' → lp ∈ news' → rest y news' → CEnd h₀ L m s₁ e oe i oi C oC D oD lp rest y s₂
theorem CEnd.imp {h₀ : Heap} {L : Addr} {m : Str → Option Value} {s₁ : Shared} {e : Addr} {oe : Obj} {i : Addr} {oi : Obj} {C : Addr} {oC : Obj} {D : Addr} {oD : Obj} {lp : Addr × Obj} {rest rest' : Value → List (Addr × Obj) → Prop} {y y' : Value} {s₂ : Shared} (h : CEnd h₀ L m s₁ e oe i oi C oC D oD lp rest y s₂) (f : ∀ n, rest y n → rest' y' n) : CEnd h₀ L m s₁ e oe i oi C oC D oD lp rest' y' s₂ := by
  obtain ⟨h', tk, n, a, b, c, d, e1, g⟩ := h
  exact ⟨h', tk, n, a, b, c, d, e1, f _ g⟩
noncomputable def CRest (prog : Program) (w : World) (A : Around) (h₀ : Heap) (L : Addr) (m : Str → Option Value) (env : Env) (ct elt : Expr) (x x₂ : Str) (scope : Scope) (cl : List (Str × Addr)) (s : Shared) (lp : Addr × Obj) (vs : List Value)
    (Fin : List Value → List (Addr × Obj) → Prop) : Nat → Nat → List Value → List (Addr × Obj) → Prop
  | 0, _, ys, news => Fin ys news
  | k + 1, i, ys, news => ∀ v t e oe it oi C oC D m₂ h tk (E' : Value → Shared → Prop), vs[i]? = some v → NsObj oC m₂ → m₂ x = some (.int i t) → m₂ x₂ = some v → Fr h₀ L h m → News h₀ L h ((e, oe) :: (it, oi) :: (C, oC) :: (D, lst ys) :: news) → Apart4 e it C D news → ((@Ne Nat e it) ∧ (@Ne Nat e C) ∧ (@Ne Nat e D) ∧ (@Ne Nat it C) ∧ (@Ne Nat it D) ∧ (@Ne Nat C D)) →
      wpAny (model prog w) A (isTrue ct (compEnvC scope cl C env) (eval ct (compEnvC scope cl C env))) (fun ok s' => if ok = true then
        wpAny (model prog w) A (eval elt (compEnvC scope cl C env)) (CEnd h₀ L m { s with heap := h, toks := tk } e oe it oi C oC D (lst ys) lp (fun y news' => CRest prog w A h₀ L m env ct elt x x₂ scope cl s lp vs Fin k (i + 1) (ys ++ [y]) news')) E' s'
        else CEnd h₀ L m { s with heap := h, toks := tk } e oe it oi C oC D (lst ys) lp (fun _ news' => CRest prog w A h₀ L m env ct elt x x₂ scope cl s lp vs Fin k (i + 1) ys news') Value.none s') E' { s with heap := h, toks := tk }
inductive SrcE (prog : Program) (w : World) (A : Around) (h₀ : Heap) (L : Addr) (m : Str → Option Value) (env : Env) (ct elt : Expr) (x x₂ : Str) (scope : Scope) (cl : List (Str × Addr)) (Fin : Shared → List Value → List (Addr × Obj) → Prop) (xv : Value) (s₁ : Shared) : Prop
  | mk (e it l : Addr) (vs : List Value) (n : Nat) (news : List (Addr × Obj)) : (xv = .ref e) → (A.handled = none) → (Fr h₀ L s₁.heap m) → (News h₀ L s₁.heap news) → ((l, lstO vs n) ∈ news) → (vs.length ≤ sizeLine) → (PySem.IsEnum s₁.heap e it 0 .none) → (s₁.heap.IsListIter it l 0) → (e ≠ it) → (h₀.get? e = none) → (h₀.get? it = none) → (L ≠ e) → (L ≠ it) → ((∀ p ∈ news, p.1 ≠ e ∧ p.1 ≠ it)) → (∀ s₂ : Shared, (∃ h, s₂ = { s₁ with heap := h }) → CRest prog w A h₀ L m env ct elt x x₂ scope cl s₂ (l, lstO vs n) vs (Fin s₂) vs.length 0 [] news) → SrcE prog w A h₀ L m env ct elt x x₂ scope cl Fin xv s₁
theorem SrcE.enum {prog : Program} {A : Around} {h₀ : Heap} {L : Addr} {m : Str → Option Value} {env : Env} {ct elt : Expr} {x x₂ : Str} {scope : Scope} {cl : List (Str × Addr)} {Fin : Shared → List Value → List (Addr × Obj) → Prop} {s : Shared} {l : Addr} {vs : List Value} {n : Nat} {news : List (Addr × Obj)} {E : Value → Shared → Prop}
    (hh : A.handled = none) (F : Fr h₀ L s.heap m) (N : News h₀ L s.heap news) (hl : (l, lstO vs n) ∈ news) (hz : vs.length ≤ sizeLine)
    (h : ∀ g, CRest prog w A h₀ L m env ct elt x x₂ scope cl { s with heap := g } (l, lstO vs n) vs (Fin { s with heap := g }) vs.length 0 [] news) :
    wpAny (model prog w) A (call (.type "enumerate") [.ref l]) (SrcE prog w A h₀ L m env ct elt x x₂ scope cl Fin) E s := by
  refine call_enumerate_list (items := vs.toArray) ⟨_, (N _ hl).1, rfl, n, rfl⟩ fun h' hE hI hsz hk => ?_
  have hLs : L < s.heap.objs.size := F.ns.lt
  exact ⟨_, _, l, vs, n, news, rfl, hh, F.keeps hk, N.grown hk, hl, hz, hE, hI, Nat.succ_ne_self _, ktu_new F (Nat.le_succ _), ktu_new F (Nat.le_refl _), Nat.ne_of_lt (Nat.lt_succ_of_lt hLs), Nat.ne_of_lt hLs, fun p hp => ⟨Nat.ne_of_lt (Nat.lt_succ_of_lt (Heap.lt_size (N p hp).1)), Nat.ne_of_lt (Heap.lt_size (N p hp).1)⟩, fun _ ⟨g, e⟩ => e ▸ h g⟩
section
variable {prog : Program} {A : Around} {E : Value → Shared → Prop} {s : Shared} {h₀ : Heap} {L : Addr} {m : Str → Option Value} {env : Env}
inductive EInv (prog : Program) (w : World) (A : Around) (h₀ : Heap) (L : Addr) (m : Str → Option Value) (env : Env) (ct elt : Expr) (x x₂ : Str) (scope : Scope) (cl : List (Str × Addr)) (s₂ : Shared) (e it l C D : Addr) (vs : List Value) (n : Nat) (Fin : List Value → List (Addr × Obj) → Prop) (k : Nat) (s' : Shared) : Prop
  | mk (h' : Heap) (tk i : Nat) (ys : List Value) (m' : Str → Option Value) (news' : List (Addr × Obj)) (eo : Value) : s' = { s₂ with heap := h', toks := tk } → i ≤ vs.length → k = vs.length + 1 - i → ys.length ≤ i → PySem.IsEnum h' e it i eo → h'.IsListIter it l i → Fr h₀ L h' m → h'.Ns C m' → News h₀ L h' ((D, lst ys) :: news') →
    Apart4 e it C D news' → (l, lstO vs n) ∈ news' → CRest prog w A h₀ L m env ct elt x x₂ scope cl s₂ (l, lstO vs n) vs Fin (vs.length - i) i ys news' → EInv prog w A h₀ L m env ct elt x x₂ scope cl s₂ e it l C D vs n Fin k s'
theorem block_E {ct elt iter : Expr} {x x₂ : Str} {px px₂ tp : Pos} {tk} {scope : Scope} {cl : List (Str × Addr)} {pos : Pos} {s₂ : Shared} {e it l : Addr} {vs : List Value} {n : Nat} {news : List (Addr × Obj)}
    {Fin : List Value → List (Addr × Obj) → Prop} {RR : Value → Addr → Result → Shared → Prop}
    (hh : A.handled = none) (hcell : ∀ y ∈ scope.names, y.2 ≠ .cell) (hkind : scope.kind = .function) (hx : scope.names.lookup x = some .local) (hx₂ : scope.names.lookup x₂ = some .local) (hxx : x ≠ x₂)
    (F : Fr h₀ L s₂.heap m) (N : News h₀ L s₂.heap news) (hl : (l, lstO vs n) ∈ news) (hsz : vs.length ≤ sizeLine) (hE : PySem.IsEnum s₂.heap e it 0 .none) (hI : s₂.heap.IsListIter it l 0) (hei : e ≠ it)
    (he₀ : h₀.get? e = none) (hi₀ : h₀.get? it = none) (hLe : L ≠ e) (hLi : L ≠ it) (off : ∀ p ∈ news, p.1 ≠ e ∧ p.1 ≠ it)
    (R : CRest prog w A h₀ L m env ct elt x x₂ scope cl s₂ (l, lstO vs n) vs Fin vs.length 0 [] news)
    (hRR : ∀ D C h tk m' ys news', Fr h₀ L h m → News h₀ L h ((D, lst ys) :: news') → Off1 D news' → h.Ns C m' → h₀.get? C = none → h₀.get? D = none → C ≠ L → D ≠ L → C ≠ D → (∀ p ∈ news', p.1 ≠ C) → Fin ys news' → RR (.ref D) C (.ok .next) { s₂ with heap := h, toks := tk }) :
    wpAny (model prog w) A (newList []) (fun acc s₃ => wpAny (model prog w) A (newFunctionEnv scope env.globals cl [] env.qual none .none (some env)) (fun cenv s₄ =>
      codeAny (model prog w) A (.compStart (.ListComp elt [⟨.Tuple [.Name x px, .Name x₂ px₂] tk tp, iter, [ct], 0⟩] scope pos) 0 (.ref e) acc { cenv with scope := relabel scope env }) (RR acc cenv.locals) s₄) E s₃) E s₂ := by
  have hle : l ≠ e := (off _ hl).1
  have hli : l ≠ it := (off _ hl).2
  have W := WalksT.enumerate (prog := prog) (w := w) hh e it l hei hle hli vs.toArray
  have hsize : vs.toArray.size = vs.length := List.size_toArray ..
  rw [hsize] at W
  have hlist : ∀ {h : Heap}, h.get? l = some (lstO vs n) → h.IsList l vs.toArray := fun q => ⟨_, q, rfl, n, rfl⟩
  refine wpAny_newObj_type (wpAny_newFunctionEnv hcell (by intro y hy; simp at hy) (fun h₁ hns₁ hsb₁ => ?_) hkind)
  dsimp only at hns₁ hsb₁ ⊢
  generalize hH2 : s₂.heap.push { cls := .type "list", dict := none, data := .seq ([] : List Value).toArray } = H2 at hns₁ hsb₁ ⊢
  have hC : H2.objs.size = s₂.heap.objs.size + 1 := by rw [← hH2, Heap.size_push]
  have hDC : s₂.heap.objs.size ≠ H2.objs.size := by rw [hC]; exact Nat.ne_of_lt (Nat.lt_succ_self _)
  have below : ∀ b, b < s₂.heap.objs.size → b ≠ H2.objs.size ∧ b ≠ s₂.heap.objs.size := fun b hb => ⟨by rw [hC]; exact Nat.ne_of_lt (Nat.lt_succ_of_lt hb), Nat.ne_of_lt hb⟩
  have helt : e < s₂.heap.objs.size := Heap.lt_size hE
  have hilt : it < s₂.heap.objs.size := by obtain ⟨_, q, _⟩ := hI; exact Heap.lt_size q
  have hllt : l < s₂.heap.objs.size := Heap.lt_size (N _ hl).1
  have old : ∀ b o, s₂.heap.get? b = some o → h₁.get? b = some o := fun b o q => hsb₁.extBut b o (below b (Heap.lt_size q)).1 (Heap.get?_push_of_some _ (hH2 ▸ Heap.get?_push_of_some _ q))
  have hacc : h₁.get? s₂.heap.objs.size = some (lst []) := hsb₁.extBut _ _ hDC (Heap.get?_push_of_some _ (hH2 ▸ Heap.get?_push_size _ rfl))
  have fresh : ∀ a, s₂.heap.objs.size ≤ a → s₂.heap.get? a = none := fun a ha => by
    cases q : s₂.heap.get? a with
    | none => rfl
    | some o' => exact absurd (Heap.lt_size q) (Nat.not_lt.mpr ha)
  have fresh₀ : ∀ a, s₂.heap.objs.size ≤ a → h₀.get? a = none := fun a ha => by
    cases q : h₀.get? a with
    | none => rfl
    | some o' => have := F.keep a o' q; rw [fresh a ha] at this; cases this
  have hD₀ : h₀.get? s₂.heap.objs.size = none := fresh₀ _ (Nat.le_refl _)
  have hC₀ : h₀.get? H2.objs.size = none := fresh₀ _ (by rw [hC]; exact Nat.le_succ _)
  have hLlt : L < s₂.heap.objs.size := F.ns.lt
  have hDL : s₂.heap.objs.size ≠ L := Ne.symm (below L hLlt).2
  have hCL : H2.objs.size ≠ L := Ne.symm (below L hLlt).1
  have heC := (below e helt).1
  have heD := (below e helt).2
  have hiC := (below it hilt).1
  have hiD := (below it hilt).2
  have hlC := (below l hllt).1
  have hlD := (below l hllt).2
  have off₀ : Apart4 e it H2.objs.size s₂.heap.objs.size news := ⟨fun p hp => ⟨(off p hp).1, (off p hp).2, (below _ (Heap.lt_size (N p hp).1)).1, (below _ (Heap.lt_size (N p hp).1)).2⟩⟩
  have hnw : ∀ {b : Addr}, b ∉ [e, it] ↔ b ≠ e ∧ b ≠ it := by intro b; simp
  have loop : ∀ s₃ : Shared, s₃ = { s₂ with heap := h₁, toks := s₂.toks + ([] : List (Str × Value)).length } →
      codeAny (model prog w) A (.compLoop (.ListComp elt [⟨.Tuple [.Name x px, .Name x₂ px₂] tk tp, iter, [ct], 0⟩] scope pos) 0 (.ref e) (.ref s₂.heap.objs.size) (compEnvC scope cl H2.objs.size env))
        (RR (.ref s₂.heap.objs.size) H2.objs.size) s₃ := by
    rintro s₃ rfl
    refine cl_pairT
      (EInv prog w A h₀ L m env ct elt x x₂ scope cl s₂ e it l H2.objs.size s₂.heap.objs.size vs n Fin) ?_ (vs.length + 1)
      ⟨h₁, _, 0, [], _, news, _, rfl, Nat.zero_le _, rfl, Nat.le_refl _, old _ _ hE, hI.at fun o q => old _ o q, F.keeps old, hns₁, fun p hp => ?_, off₀, hl, R⟩
    · rintro k s' ⟨h', tk, i, ys, m', news', eo, rfl, hi, rfl, hyl, hE', hI', F', hn', N', off', hl', R'⟩
      have hl2 := (N' _ (.tail _ hl')).1
      by_cases hlt : i < vs.length
      · obtain ⟨j, hj⟩ : ∃ j, vs.length - i = j + 1 := ⟨vs.length - i - 1, by lia⟩
        rw [hj] at R'
        refine W.item i _ _ _ hlt ⟨⟨eo, hE'⟩, hI', hlist hl2⟩ fun T vals h₂ tk₂ hPt hTn hT hMid hk₂ => ?_
        obtain ⟨t, v, hv, rfl⟩ := hPt
        have hTw := hnw.mp (W.apart i T h₂ hMid)
        refine W.go _ _ _ i T _ _ _ hMid fun h₃ hst₃ hk₃ => ?_
        have hT3 : IsTup h₃ T #[.int i t, v] := hT.at fun o q => hk₃ T o (hnw.mpr hTw) q
        refine assign_Tuple_tuple hh hT3 rfl rfl fun h₅ he => ?_
        have he' : ∀ b o, h₃.get? b = some o → h₅.get? b = some o := fun b o q => he b o (Nat.ne_of_lt (Heap.lt_size q)) q
        have up5 : ∀ b o, b ≠ e → b ≠ it → h'.get? b = some o → h₅.get? b = some o := fun b o q1 q2 q => he' _ _ (hk₃ b o (hnw.mpr ⟨q1, q2⟩) (hk₂ b o (hnw.mpr ⟨q1, q2⟩) q))
        refine assignInOrder_cons (wpAny_assign_Name (wpAny_storeName_local (lookup_relabel_local hx) (hn'.at' fun o q => up5 _ o (Ne.symm heC) (Ne.symm hiC) q) (fun h₆ hn₆ hs₆ => ?_) (by simp [compEnvC, relabel, hkind])))
        refine assignInOrder_cons (wpAny_assign_Name (wpAny_storeName_local (lookup_relabel_local hx₂) hn₆ (fun h₇ hn₇ hs₇ => ?_) (by simp [compEnvC, relabel, hkind])))
        refine assignInOrder_nil ?_
        have up7 : ∀ b o, b ≠ e → b ≠ it → b ≠ H2.objs.size → h'.get? b = some o → h₇.get? b = some o := fun b o q1 q2 q3 q => hs₇.extBut b o q3 (hs₆.extBut b o q3 (up5 b o q1 q2 q))
        have hst₇ := W.frame _ _ h₇ hst₃ fun b hb o q => hs₇.extBut b o (fun z => by subst z; rcases List.mem_cons.mp hb with z | hb; exact heC z.symm; rcases List.mem_cons.mp hb with z | hb; exact hiC z.symm; exact hlC (List.mem_singleton.mp hb).symm) (hs₆.extBut b o (fun z => by subst z; rcases List.mem_cons.mp hb with z | hb; exact heC z.symm; rcases List.mem_cons.mp hb with z | hb; exact hiC z.symm; exact hlC (List.mem_singleton.mp hb).symm) (he' b o q))
        obtain ⟨⟨eo7, hE7⟩, hI7, hL7⟩ := hst₇
        obtain ⟨oi, hoi, roi⟩ := id hI7
        obtain ⟨oC, heoC, hoC⟩ := ns_obj hn₇
        have off4 := off'.off
        have keep0 : ∀ b o, h₀.get? b = some o → b ≠ e ∧ b ≠ it ∧ b ≠ H2.objs.size := fun b o q => ⟨(fun z => by rw [z, he₀] at q; cases q), (fun z => by rw [z, hi₀] at q; cases q), (fun z => by rw [z, hC₀] at q; cases q)⟩
        have F₇ : Fr h₀ L h₇ m := ⟨F'.ns.at' fun o q => up7 _ o hLe hLi (Ne.symm hCL) q, fun b o q => let z := keep0 b o q; up7 b o z.1 z.2.1 z.2.2 (F'.keep b o q), F'.above⟩
        have N₇ : News h₀ L h₇ ((e, _) :: (it, oi) :: (H2.objs.size, oC) :: (s₂.heap.objs.size, lst ys) :: news') := fun p hp => by
          rcases List.mem_cons.mp hp with rfl | hp
          · exact ⟨hE7, Ne.symm hLe, he₀⟩
          rcases List.mem_cons.mp hp with rfl | hp
          · exact ⟨hoi, Ne.symm hLi, hi₀⟩
          rcases List.mem_cons.mp hp with rfl | hp
          · exact ⟨heoC, hCL, hC₀⟩
          have z := N' p hp
          refine ⟨?_, z.2⟩
          rcases List.mem_cons.mp hp with rfl | hp
          · exact up7 _ _ (Ne.symm heD) (Ne.symm hiD) hDC z.1
          · exact up7 _ _ (off4 p hp).1 (off4 p hp).2.1 (off4 p hp).2.2.1 z.1
        have fin : ∀ ys' news₄ h₄ tk₄, ys'.length ≤ i + 1 → Fr h₀ L h₄ m → News h₀ L h₄ ((s₂.heap.objs.size, lst ys') :: news₄) → Apart4 e it H2.objs.size s₂.heap.objs.size news₄ → (l, lstO vs n) ∈ news₄ → CRest prog w A h₀ L m env ct elt x x₂ scope cl s₂ (l, lstO vs n) vs Fin j (i + 1) ys' news₄ →
            h₄.get? e = h₇.get? e → h₄.get? it = some oi → h₄.get? H2.objs.size = some oC → ∃ k', k' < vs.length + 1 - i ∧ EInv prog w A h₀ L m env ct elt x x₂ scope cl s₂ e it l H2.objs.size s₂.heap.objs.size vs n Fin k' { s₂ with heap := h₄, toks := tk₄ } := by
          intro ys' news₄ h₄ tk₄ hy F₄ N₄ o₄ l₄ R₄ g1 g2 g3
          refine ⟨vs.length + 1 - (i + 1), by lia, h₄, tk₄, i + 1, ys', _, news₄, eo7, rfl, hlt, rfl, hy, g1.trans hE7, ⟨oi, g2, roi⟩, F₄, hoC.ns g3, N₄, o₄, l₄, ?_⟩
          rw [show vs.length - (i + 1) = j by lia]
          exact R₄
        refine wpAny_mono (R' v t e _ it oi H2.objs.size oC s₂.heap.objs.size _ h₇ _ _ (by simpa using hv) hoC (by simp [hxx]) (by simp) F₇ N₇ off' ⟨hei, heC, heD, hiC, hiD, Ne.symm hDC⟩) (fun ok s₄ h₄ => ?_) fun _ _ q => q
        cases ok with
        | true =>
          simp only [if_true] at h₄ ⊢
          refine wpAny_mono h₄ (fun y s₅ h₅ => ?_) fun _ _ q => q
          obtain ⟨h₄, tk₄, news₄, rfl, F₄, N₄, off₄, hl₄, R₄⟩ := h₅
          have zE := (N₄ _ (.head _)).1
          have zI := (N₄ _ (.tail _ (.head _))).1
          have zC := (N₄ _ (.tail _ (.tail _ (.head _)))).1
          have zD := (N₄ _ (.tail _ (.tail _ (.tail _ (.head _))))).1
          refine append_at (hsz := by show ys.toArray.size ≤ sizeLine; rw [List.size_toArray]; exact Nat.le_trans (Nat.le_trans hyl hi) hsz) zD fun h₅ hs₅ hD₅ => ?_
          have off5 := off₄.off
          refine fin (ys ++ [y]) news₄ h₅ tk₄ (by rw [List.length_append, List.length_singleton]; exact Nat.succ_le_succ hyl) (F₄.change hs₅ hDL hD₀) (fun p hp => ?_) off₄ hl₄ R₄ ((hs₅.extBut _ _ heD zE).trans hE7.symm) (hs₅.extBut _ _ hiD zI) (hs₅.extBut _ _ (Ne.symm hDC) zC)
          rcases List.mem_cons.mp hp with rfl | hp
          · exact ⟨hD₅.trans (congrArg some (lst_snoc ys y)), hDL, hD₀⟩
          · have z := N₄ p (.tail _ (.tail _ (.tail _ (.tail _ hp))))
            exact ⟨hs₅.extBut _ _ (off5 p hp).2.2.2 z.1, z.2⟩
        | false =>
          simp only [Bool.false_eq_true, if_false] at h₄ ⊢
          obtain ⟨h₅, tk₄, news₄, rfl, F₄, N₄, off₄, hl₄, R₄⟩ := h₄
          exact fin ys news₄ h₅ tk₄ (Nat.le_succ_of_le hyl) F₄ (fun p hp => N₄ p (.tail _ (.tail _ (.tail _ hp)))) off₄ hl₄ R₄ ((N₄ _ (.head _)).1.trans hE7.symm) (N₄ _ (.tail _ (.head _))).1 (N₄ _ (.tail _ (.tail _ (.head _)))).1
      · obtain rfl : i = vs.length := Nat.le_antisymm hi (Nat.not_lt.mp hlt)
        rw [Nat.sub_self] at R'
        refine W.done _ _ _ ⟨⟨eo, hE'⟩, hI', hlist hl2⟩ fun h₂ tk₂ hk₂ => ?_
        have off4 := off'.off
        have F₂ : Fr h₀ L h₂ m := ⟨F'.ns.at' fun o q => hk₂ _ o (hnw.mpr ⟨hLe, hLi⟩) q, fun b o q => hk₂ b o (hnw.mpr ⟨(fun z => by rw [z, he₀] at q; cases q), (fun z => by rw [z, hi₀] at q; cases q)⟩) (F'.keep b o q), F'.above⟩
        refine hRR _ _ h₂ tk₂ _ ys news' F₂ (fun p hp => ?_) ?_ (hn'.at' fun o q => hk₂ _ o (hnw.mpr ⟨Ne.symm heC, Ne.symm hiC⟩) q) hC₀ hD₀ hCL hDL (Ne.symm hDC) (fun p hp => (off4 p hp).2.2.1) R'
        · have z := N' p hp
          refine ⟨hk₂ _ _ (hnw.mpr ?_) z.1, z.2⟩
          rcases List.mem_cons.mp hp with rfl | hp
          · exact ⟨Ne.symm heD, Ne.symm hiD⟩
          · exact ⟨(off4 p hp).1, (off4 p hp).2.1⟩
        · clear R' N' hl'
          induction news' with
          | nil => trivial
          | cons a r ih => exact ⟨(off4 a (.head _)).2.2.2, ih ⟨fun p hp => off4 p (.tail _ hp)⟩ fun p hp => off4 p (.tail _ hp)⟩
    · rcases List.mem_cons.mp hp with rfl | hp
      · exact ⟨hacc, hDL, hD₀⟩
      · exact ⟨old _ _ (N p hp).1, (N p hp).2⟩
  exact codeAny_compStart_list (loop _ rfl) (W.self 0 _ _ _ ⟨⟨_, old _ _ hE⟩, hI.at fun o q => old _ o q, hlist (old _ _ (N _ hl).1)⟩ (loop _ rfl))
end
end
section
open PySem.Calls PyProof.Rows.LCg
end
section
open PySem.Calls PyProof.Rows.LCg
variable {prog : Program} {A : Around} {E : Value → Shared → Prop} {s : Shared} {h₀ : Heap} {L : Addr} {m : Str → Option Value} {env : Env}
theorem Assign_ListComp_E {ct elt iter : Expr} {x x₂ y : Str} {px px₂ tp py : Pos} {tk} {scope : Scope} {cl : List (Str × Addr)} {pos spos : Pos} {Q : Flow → Shared → Prop} (F₀ : Fr h₀ L s.heap m) (hLE : env.locals = L)
    (hsw : swapsWith (.ListComp elt [⟨.Tuple [.Name x px, .Name x₂ px₂] tk tp, iter, [ct], 0⟩] scope pos) (some (.Name y py)) spos.line env = pure true)
    (hclos : closureFor scope env = pure cl) (hcell : ∀ z ∈ scope.names, z.2 ≠ .cell) (hkind : scope.kind = .function)
    (hnames : ∀ z ∈ scope.names, z.2 = .local → scope.names.lookup z.1 = some .local) (hx : scope.names.lookup x = some .local) (hx₂ : scope.names.lookup x₂ = some .local) (hxx : x ≠ x₂)
    (hy : env.kindOf y = some .local) (hp : (env.scope.kind == .class || (env.scope.kind == .module && env.locals != env.globals)) = false)
    (h : wpAny (model prog w) A (eval iter env) (SrcE prog w A h₀ L m env ct elt x x₂ scope cl (fun s₂ => FinA h₀ L m s₂ y Q)) E s)
    (hs : ∀ x, foldedSetIterable iter env x = pure x := by intro _; rfl) :
    wpAny (model prog w) A (exec (.Assign [.Name y py] (.ListComp elt [⟨.Tuple [.Name x px, .Name x₂ px₂] tk tp, iter, [ct], 0⟩] scope pos) spos) env) Q E s := by
  subst hLE
  rw [exec_Assign_Name_used _ _ _ _ hsw]
  refine wpAny_bind (wpAny_standAt (wpAny_bind ?_))
  show wpAny _ A (do let _ ← comprehension (.ListComp elt [⟨.Tuple [.Name x px, .Name x₂ px₂] tk tp, iter, [ct], 0⟩] scope pos) scope env _ (newList []) false (eval iter env) (some (assign (.Name y py) env))) _ _ s
  refine wpAny_bind (wpAny_mono (wpAny_comprehension_free (use := some (assign (.Name y py) env)) (Q := fun _ s' => Q .next s') rfl hs hclos hkind hnames
    (wpAny_mono h (fun xv s₁ h₁ => ?_) fun _ _ q => q)) (fun _ s' hq => wpAny_pure (wpAny_pure hq)) fun _ _ q => q)
  obtain ⟨e, it, l, vs, n, news, rfl, hh, F, N, hl, hsz, hE, hI, hei, he₀, hi₀, hLe, hLi, off, R⟩ := h₁
  refine wpAny_pyIter_enum hE ?_
  refine block_E hh hcell hkind hx hx₂ hxx F N hl hsz hE hI hei he₀ hi₀ hLe hLi off (R _ ⟨s₁.heap, rfl⟩) ?_
  intro D C h' tk m' ys news' F' N' o1 hn hC₀ hD₀ hCL hDL hCD offC fin
  show wpAny _ A (assign (.Name y py) env (.ref D)) _ _ _
  refine wpAny_assign_Name (wpAny_storeName_local hy F'.ns (fun h₂ hn₂ hs₂ => ?_) hp)
  have hL₀ : h₀.get? env.locals = none := Heap.get?_none_of_le F'.above
  have F₂ : Fr h₀ env.locals h₂ (fun z => if z = y then some (.ref D) else m z) := ⟨hn₂, fun b o q => hs₂.extBut b o (fun z => by rw [z, hL₀] at q; cases q) (F'.keep b o q), F'.above⟩
  refine ⟨m', hn.sameBut hs₂ hCL, fun h'' hs'' => fin D h'' _ (F₂.change hs'' hCL hC₀) (fun p hp => ?_) o1⟩
  have z : h₂.get? p.1 = some p.2 := hs₂.extBut _ _ (N' p hp).2.1 (N' p hp).1
  refine ⟨hs''.extBut _ _ ?_ z, (N' p hp).2⟩
  rcases List.mem_cons.mp hp with rfl | hp
  · exact Ne.symm hCD
  · exact offC p hp
end
section
open PyProof.Rows.LCg
variable {prog : Program} {A : Around} {h₀ : Heap} {L : Addr} {m : Str → Option Value} {env : Env} {E : Value → Shared → Prop} {s : Shared}
/-- the source of a comprehension is a tuple of the ledger -/
inductive SrcTu (prog : Program) (w : World) (A : Around) (h₀ : Heap) (L : Addr) (m : Str → Option Value) (env : Env) (elt : Expr) (x : Str) (scope : Scope) (cl : List (Str × Addr)) (Fin : Shared → List Value → List (Addr × Obj) → Prop) (xv : Value) (s₁ : Shared) : Prop
  | mk (ax : Addr) (vs : List Value) (n : Nat) (news : List (Addr × Obj)) : (xv = .ref ax) → (A.handled = none) → (Fr h₀ L s₁.heap m) → (News h₀ L s₁.heap news) → ((ax, ({ cls := .type "tuple", data := .seq vs.toArray n } : Obj)) ∈ news) → (vs.length ≤ 100) → (∀ g : Heap, CompRest prog w A h₀ L m env elt x scope cl { s₁ with heap := g } (fun nw => (ax, ({ cls := .type "tuple", data := .seq vs.toArray n } : Obj)) ∈ nw) (fun i v => vs[i]? = some v) (Fin { s₁ with heap := g }) vs.length 0 [] news) → SrcTu prog w A h₀ L m env elt x scope cl Fin xv s₁
theorem Assign_ListComp_Tu {elt iter : Expr} {x y : Str} {px py : Pos} {scope : Scope} {cl : List (Str × Addr)} {pos spos : Pos} {Q : Flow → Shared → Prop} (_F : Fr h₀ L s.heap m) (hLe : env.locals = L)
    (hsw : swapsWith (.ListComp elt [⟨.Name x px, iter, [], 0⟩] scope pos) (some (.Name y py)) spos.line env = pure true)
    (hclos : closureFor scope env = pure cl) (hcell : ∀ z ∈ scope.names, z.2 ≠ .cell) (hkind : scope.kind = .function)
    (hnames : ∀ z ∈ scope.names, z.2 = .local → scope.names.lookup z.1 = some .local) (hx : scope.names.lookup x = some .local)
    (hy : env.kindOf y = some .local) (hp : (env.scope.kind == .class || (env.scope.kind == .module && env.locals != env.globals)) = false)
    (h : wpAny (model prog w) A (eval iter env) (SrcTu prog w A h₀ L m env elt x scope cl (fun s₂ => FinA h₀ L m s₂ y Q)) E s)
    (hs : ∀ x, foldedSetIterable iter env x = pure x := by intro _; rfl) :
    wpAny (model prog w) A (exec (.Assign [.Name y py] (.ListComp elt [⟨.Name x px, iter, [], 0⟩] scope pos) spos) env) Q E s := by
  subst hLe
  rw [exec_Assign_Name_used _ _ _ _ hsw]
  refine wpAny_bind (wpAny_standAt (wpAny_bind ?_))
  show wpAny _ A (do let _ ← comprehension (.ListComp elt [⟨.Name x px, iter, [], 0⟩] scope pos) scope env _ (newList []) false (eval iter env) (some (assign (.Name y py) env))) _ _ s
  refine wpAny_bind (wpAny_mono (wpAny_comprehension_free (use := some (assign (.Name y py) env)) (Q := fun _ s' => Q .next s') rfl hs hclos hkind hnames
    (wpAny_mono h (fun xv s₁ h₁ => ?_) fun _ _ e => e)) (fun _ s' hq => wpAny_pure (wpAny_pure hq)) fun _ _ e => e)
  obtain ⟨ax, vs, n, news, rfl, hh, F, N, hm, hsz, R⟩ := h₁
  have hl : s₁.heap.IsTuple ax vs.toArray := ⟨_, (N _ hm).1, rfl, n, rfl⟩
  have hlt : ax < s₁.heap.objs.size := Heap.lt_size (N _ hm).1
  refine wpAny_pyIter_tuple hl ?_
  have up : ∀ b o, s₁.heap.get? b = some o → (s₁.heap.push { cls := .type "tuple_iterator", data := .fields #[.ref ax, .int 0 0] }).get? b = some o := fun b o e => Heap.get?_push_of_some _ e
  have W : Walks prog w A s₁.heap.objs.size [s₁.heap.objs.size, ax] [s₁.heap.objs.size] vs.length (fun i v => vs[i]? = some v) (fun i h => h.IsTupleIter s₁.heap.objs.size ax i ∧ h.IsTuple ax vs.toArray) := by
    simpa using Walks.tuple (prog := prog) (w := w) hh s₁.heap.objs.size ax (Nat.ne_of_lt hlt) vs.toArray
  refine block_U W (by rw [sizeLine_eq]; omega) (fun i h st => by obtain ⟨o, e, _⟩ := st.1; exact ⟨o, e⟩)
    (fun i h h' o nw st e1 e2 _ N' hS => ⟨st.1.at fun o2 e3 => by rw [e1] at e3; cases e3; exact e2, ⟨_, (N' _ hS).1, rfl, n, rfl⟩⟩) hcell hkind hx ⟨⟨_, Heap.get?_push_size _ rfl, rfl, rfl⟩, hl.at fun o e => Heap.get?_push_of_some _ e⟩ (fun b hb => ?_)
    (F.keeps up) (N.grown up) (Nat.ne_of_lt F.ns.lt) (next_is_new F) (fun p hp => Nat.ne_of_lt (Heap.lt_size (N p hp).1)) hm (R _) ?_
  · show b < (s₁.heap.push _).objs.size
    rw [Heap.size_push]
    rcases List.mem_cons.mp hb with rfl | hb
    · exact Nat.lt_succ_self _
    · rw [List.mem_singleton.mp hb]; exact Nat.lt_succ_of_lt hlt
  · intro D C h' tk m' ys news' F' N' o1 hn hC₀ hD₀ hCL hDL hCD offC fin
    show wpAny _ A (assign (.Name y py) env (.ref D)) _ _ _
    refine wpAny_assign_Name (wpAny_storeName_local hy F'.ns (fun h₂ hn₂ hs₂ => ?_) hp)
    have hL₀ : h₀.get? env.locals = none := Heap.get?_none_of_le F'.above
    have F₂ : Fr h₀ env.locals h₂ (fun z => if z = y then some (.ref D) else m z) := ⟨hn₂, fun b o e => hs₂.extBut b o (fun q => by rw [q, hL₀] at e; cases e) (F'.keep b o e), F'.above⟩
    refine ⟨m', hn.sameBut hs₂ hCL, fun h'' hs'' => fin D h'' _ (F₂.change hs'' hCL hC₀) (fun p hp => ?_) o1⟩
    have z : h₂.get? p.1 = some p.2 := hs₂.extBut _ _ (N' p hp).2.1 (N' p hp).1
    refine ⟨hs''.extBut _ _ ?_ z, (N' p hp).2⟩
    rcases List.mem_cons.mp hp with rfl | hp
    · exact Ne.symm hCD
    · exact offC p hp
theorem SrcTu.mk' {elt : Expr} {x : Str} {scope : Scope} {cl : List (Str × Addr)} {Fin : Shared → List Value → List (Addr × Obj) → Prop} {ax : Addr} {vs : List Value} {n : Nat} {news : List (Addr × Obj)} {s₁ : Shared}
    (hh : A.handled = none) (F : Fr h₀ L s₁.heap m) (N : News h₀ L s₁.heap news) (hm : (ax, ({ cls := .type "tuple", data := .seq vs.toArray n } : Obj)) ∈ news) (hsz : vs.length ≤ 100)
    (h : ∀ g : Heap, CompRest prog w A h₀ L m env elt x scope cl { s₁ with heap := g } (fun nw => (ax, ({ cls := .type "tuple", data := .seq vs.toArray n } : Obj)) ∈ nw) (fun i v => vs[i]? = some v) (Fin { s₁ with heap := g }) vs.length 0 [] news) :
    SrcTu prog w A h₀ L m env elt x scope cl Fin (.ref ax) s₁ := ⟨ax, vs, n, news, rfl, hh, F, N, hm, hsz, h⟩
end
noncomputable abbrev RetLn (cs : List Int) : RetT := fun h₀ L m news s Q => ∀ (a : Addr) (its : List Value) (n : Nat) (h' : Heap) (tk' : Nat), IntsAre its cs → Fr h₀ L h' m → News h₀ L h' ((a, lstO its n) :: news) → (∀ p ∈ news, p.1 ≠ a) → Q (.ref a) { s with heap := h', toks := tk' }
theorem off1_ne {D : Addr} {l : List (Addr × Obj)} (h : LCg.Off1 D l) : ∀ p ∈ l, p.1 ≠ D := by
  induction l with
  | nil => intro p hp; cases hp
  | cons a r ih => exact List.forall_mem_cons.mpr ⟨h.1, ih h.2⟩
structure IterEndC {σ : Type} (Led : σ → List (Addr × Obj)) (M : σ → Str → Option Value) (P : Nat → σ → Prop) (I : Addr) (it : Obj) (h₀ : Heap) (L : Addr) (s : Shared) (i : Nat) (f : Flow) (s₂ : Shared) : Prop where
  nx : f = .next
  ex : ∃ (c : σ) (h' : Heap) (tk : Nat) (m' : Str → Option Value) (news' : List (Addr × Obj)), s₂ = { s with heap := h', toks := tk } ∧ Fr h₀ L h' m' ∧ News h₀ L h' news' ∧ (∀ p ∈ Led c, p ∈ news') ∧ (I, it) ∈ news' ∧ (∀ p ∈ Led c, p.1 ≠ I) ∧ (∀ y, m' y = M c y) ∧ P i c
theorem IterEndC.mk' {σ : Type} {Led : σ → List (Addr × Obj)} {M : σ → Str → Option Value} {P : Nat → σ → Prop} {I : Addr} {it : Obj} {h₀ : Heap} {L : Addr} {s : Shared} {i : Nat} {h' : Heap} {tk : Nat} {m' : Str → Option Value} {news' : List (Addr × Obj)}
    (F : Fr h₀ L h' m') (N : News h₀ L h' news') (c : σ) (hn : ∀ p ∈ Led c, p ∈ news') (hI : (I, it) ∈ news') (ho : ∀ p ∈ Led c, p.1 ≠ I) (hm : ∀ y, m' y = M c y) (hp : P i c) :
    IterEndC Led M P I it h₀ L s i .next { s with heap := h', toks := tk } := ⟨rfl, ⟨c, h', tk, m', news', rfl, F, N, hn, hI, ho, hm, hp⟩⟩
section
variable {prog : Program} {A : Around} {E : Value → Shared → Prop} {s : Shared} {env : Env} {h₀ : Heap} {x : Str} {px : Pos} {body : List Stmt} {Q : Flow → Shared → Prop} {σ : Type} {Led : σ → List (Addr × Obj)} {M : σ → Str → Option Value} {P : Nat → σ → Prop} {l : Addr} {vs : List Value} {m₀ : Str → Option Value}
inductive ItCInv {σ : Type} (Led : σ → List (Addr × Obj)) (M : σ → Str → Option Value) (P : Nat → σ → Prop) (i : Nat) (m : Str → Option Value) (nx : List (Addr × Obj)) : Prop
  | mk (c : σ) : nx = Led c → (∀ y, m y = M c y) → P i c → ItCInv Led M P i m nx
/-- a loop over a list of the ledger whose name is a cell -/
theorem iterLC (c₀ : σ) {k : Nat} (hl : ∀ c : σ, (l, lstO vs k) ∈ Led c) (hh : A.handled = none) (F : Fr h₀ env.locals s.heap m₀) (N : News h₀ env.locals s.heap (Led c₀)) (hm : ∀ y, m₀ y = M c₀ y) (hp : P 0 c₀)
    (turn : ∀ I it i c v (s₁ : Shared), vs[i]? = some v → P i c → (∀ p ∈ Led c, p.1 ≠ I) → Fr h₀ env.locals s₁.heap (M c) → News h₀ env.locals s₁.heap ((I, it) :: Led c) →
      wpAny (model prog w) A (assign (.Name x px) env v) (fun _ s₃ => wpAny (model prog w) A (execs body env) (IterEndC Led M P I it h₀ env.locals s₁ (i + 1)) E s₃) E s₁)
    (done : ∀ c h tk, P vs.length c → Fr h₀ env.locals h (M c) → News h₀ env.locals h (Led c) → Q .next { s with heap := h, toks := tk }) :
    wpAny (model prog w) A (pyIter (.ref l)) (fun it s₂ => LoopAtT prog w A h₀ env (.Name x px) body Q E it s₂) E s := by
  have hol := (N _ (hl c₀)).1
  have hls : s.heap.IsList l vs.toArray := ⟨_, hol, rfl, k, rfl⟩
  have hne : l ≠ s.heap.objs.size := Nat.ne_of_lt (Heap.lt_size hol)
  refine wpAny_pyIter_list hls ?_
  have W := Walks.list (prog := prog) (w := w) hh s.heap.objs.size l hne vs.toArray
  rw [show vs.toArray.size = vs.length from List.size_toArray ..] at W
  have hlt : ∀ p ∈ Led c₀, p.1 < s.heap.objs.size := fun p hp => Heap.lt_size (N p hp).1
  have hLI : env.locals ≠ s.heap.objs.size := fun e => by have := F.ns.lt; rw [e] at this; exact Nat.lt_irrefl _ this
  have hLl : env.locals ≠ l := fun e => (N _ (hl c₀)).2.1 e.symm
  have hnI : h₀.get? s.heap.objs.size = none := next_is_new F
  refine ⟨_, [s.heap.objs.size, l], [s.heap.objs.size], vs.length, _, _, m₀, Led c₀, ItCInv Led M P, rfl, W, ?_, ?_, ?_, ⟨⟨_, Heap.get?_push_size _ rfl, rfl, rfl⟩, hls.at fun o e => Heap.get?_push_of_some _ e⟩, F.push _, fun p hp => ⟨Heap.get?_push_of_some _ (N p hp).1, (N p hp).2⟩, fun i s' v Q' _ q => ?_, ⟨c₀, rfl, hm, hp⟩, ?_, ?_⟩
  · intro h
    rcases List.mem_cons.mp h with h | h
    · exact hLI h
    · exact hLl (List.mem_singleton.mp h)
  · intro b hb; rw [List.mem_singleton.mp hb]; exact hnI
  · intro p hp h; exact Nat.ne_of_lt (hlt p hp) (List.mem_singleton.mp h)
  · refine wpAny_of_eq (rfl : letOwnedTupleGo (.Name x px) (.ref _) v = pure ()) ?_
    exact q
  · rintro i v m₁ news₁ s₁ own hi hv ⟨c, rfl, hm₁, hp₁⟩ hoff hown hget hfp st F₁ N₁
    obtain ⟨it, hit, _⟩ := st.1
    have mI : (s.heap.objs.size, it) ∈ own := hfp _ (.head _) hnI it hit
    have hne : ∀ p ∈ Led c, p.1 ≠ s.heap.objs.size := fun p hp e => hoff p hp (List.mem_singleton.mpr e)
    have hlo : s₁.heap.get? l = some (lstO vs k) := (N₁ _ (List.mem_append_right _ (hl c))).1
    refine wpAny_mono (turn _ it i c v s₁ (by simpa using hv) hp₁ hne (frTo F₁ hm₁) fun p hp => ?_) (fun _ s₃ q => wpAny_mono q (fun f s₂ q => ?_) fun _ _ e => e) fun _ _ e => e
    · rcases List.mem_cons.mp hp with rfl | hp
      · exact N₁ _ (List.mem_append_left _ mI)
      · exact N₁ p (List.mem_append_right _ hp)
    · obtain ⟨rfl, ⟨c', h', tk', m', news', rfl, F', N', hn', hI', ho', hm', hp'⟩⟩ := q
      refine ⟨rfl, h', tk', m', Led c', rfl, F', fun p hp => ?_, fun p hp hq => ho' p hp (List.mem_singleton.mp hq), c', rfl, hm', hp'⟩
      rcases List.mem_append.mp hp with q | q
      · have g := hget p q
        rcases List.mem_cons.mp (hown p q) with e | e
        · have : p = (s.heap.objs.size, it) := Prod.ext e (Option.some.inj (g.symm.trans (e ▸ hit)))
          rw [this]; exact N' _ hI'
        · have e := List.mem_singleton.mp e
          have : p = (l, lstO vs k) := Prod.ext e (Option.some.inj (g.symm.trans (e ▸ hlo)))
          rw [this]; exact N' _ (hn' _ (hl c'))
      · exact N' p (hn' p q)
  · rintro h' tk m' news' F' N' _ ⟨c, rfl, hm', hp'⟩
    exact done c h' tk hp' (frTo F' hm') N'
end
/-! cells, and list comprehensions -/
noncomputable def nameCell (cs : Scope) (x : Str) : Bool := cs.kind == .function && (cs.names.lookup x == some .cell && !(x == ("__debug__" : Str)))
/-- a comprehension at work: its scope, its cells, its names' object -/
structure Cv where
  sc : Scope
  cl : List (Str × Addr)
  C : Addr
theorem lookup_relabel {env : Env} {k : NameKind} (hk : (k == NameKind.free) = false) : ∀ {names : List (Str × NameKind)} {x : Str}, names.lookup x = some k →
    (names.map fun (n, k) => if (k == NameKind.free && env.scope.kind == .function && env.kindOf n == some .cell) then (n, NameKind.cell) else (n, k)).lookup x = some k
  | [], _, h => nomatch h
  | (n, k') :: r, x, h => by
    have ih := @lookup_relabel env k hk r x
    show List.lookup x ((if (k' == NameKind.free && env.scope.kind == .function && env.kindOf n == some .cell) = true then (n, NameKind.cell) else (n, k')) :: _) = _
    cases hx : x == n with
    | true =>
      rw [List.lookup_cons, hx] at h
      cases h
      rw [hk, Bool.false_and, Bool.false_and, if_neg Bool.false_ne_true, List.lookup_cons, hx]
    | false =>
      rw [List.lookup_cons, hx] at h
      split <;> (rw [List.lookup_cons, hx]; exact ih h)
section
open PyProof.Rows.LCg PyProof.Rows.LCt
variable {D : Nat} {i : Fn} {c : Cx w D i} {m : Fm} {nw : Led}
theorem Ex.cl {x : Str} {px : Pos} {a : Addr} {o : Obj} {v : Value} {K : Value → Led → Prop} (hx : nameCell i.scope x = true) (hc : (i.cells c.L).lookup x = some a) (hm : (a, o) ∈ nw) (hd : o.data = .cell (some v)) (hK : K v nw) : Ex c m nw (.Name x px) K := by
  simp only [nameCell, Bool.and_eq_true, beq_iff_eq, Bool.not_eq_true'] at hx
  exact ⟨fun h0 tk Q I hQ => nameX_C (cl := i.cells c.L) (s := c.st h0 tk) I.N hc hm hd (hQ _ _ _ _ I hK) hx.1 hx.2.1 hx.2.2⟩
/-- a cell takes a value -/
inductive CSt (c : Cx w D i) (n : Led) (x : Str) (v : Value) (K : Led → Prop) : Prop
  | mk (a : Addr) (o : Obj) (g : Obj → Led) (v0 : Option Value) : (nameCell i.scope x = true) → ((i.cells c.L).lookup x = some a) → (UpdF a o n g) → (o.data = .cell v0) → (∀ o', o'.data = .cell (some v) → K (g o')) → CSt c n x v K
theorem CSt.mk' {x : Str} {v : Value} {a : Addr} {o : Obj} {g : Obj → Led} {v0 : Option Value} {K : Led → Prop} (hx : nameCell i.scope x = true) (hc : (i.cells c.L).lookup x = some a) (U : UpdF a o nw g) (hd : o.data = .cell v0) (h : ∀ o', o'.data = .cell (some v) → K (g o')) : CSt c nw x v K := ⟨a, o, g, v0, hx, hc, U, hd, h⟩
theorem CSt.ok {x : Str} {v : Value} {K : Led → Prop} {h0 : Heap} {tk : Nat} {Q : Unit → Shared → Prop} (hS : CSt c nw x v K) (I : c.I m nw h0) (hQ : ∀ n' h' tk', c.I m n' h' → K n' → Q () (c.st h' tk')) : wpAny (Mo w) c.A (storeName c.env x v) Q c.E (c.st h0 tk) := by
  obtain ⟨a, o, g, v0, hx, hc, U, hd, h⟩ := hS
  simp only [nameCell, Bool.and_eq_true, beq_iff_eq, Bool.not_eq_true'] at hx
  exact storeX_C (cl := i.cells c.L) (s := c.st h0 tk) I.F I.N hc U hd (fun h' o' F' N' d' => hQ _ h' _ ⟨F', N'⟩ (h o' d')) hx.1 hx.2.1
section
variable {l : List Stmt} {K : Flow → Fm → Led → Prop}
@[reducible] noncomputable def KAsgC (c : Cx w D i) (m : Fm) (x : Str) (l : List Stmt) (K : Flow → Fm → Led → Prop) (v : Value) (n : Led) : Prop := CSt c n x v (KLed c m l K)
@[reducible] noncomputable def KAsgCC2 (c : Cx w D i) (m : Fm) (y : Str) (l : List Stmt) (K : Flow → Fm → Led → Prop) (v2 : Value) (n : Led) : Prop := CSt c n y v2 (KLed c m l K)
@[reducible] noncomputable def KAsgCC (c : Cx w D i) (m : Fm) (x y : Str) (l : List Stmt) (K : Flow → Fm → Led → Prop) (vs : List Value) (n : Led) : Prop := ∃ v1 v2, vs = [v1, v2] ∧ CSt c n x v1 (KAsgCC2 c m y l K v2)
theorem St.asgC {x : Str} {px pos : Pos} {e : Expr} (hx : nameCell i.scope x = true) (hs : ∀ L, swapsWith e (some (.Name x px)) pos.line (i.env L) = pure false) (h : Ex c m nw e (KAsgC c m x l K)) : St c m nw (.Assign [.Name x px] e pos :: l) K :=
  ⟨fun h0 tk Q I hQ => wpAny_execs_cons (wpAny_Assign_Name (h.run h0 tk _ I fun v n1 h1 t1 I1 hK => hK.ok I1 fun n' h2 t2 I2 hK2 => hK2.run h2 t2 Q I2 hQ) (hs _))⟩
/-- two cells take the values of a display -/
theorem St.asgCC {x y : Str} {px py tp tp' pos : Pos} {k k' : Nat} {e1 e2 : Expr} (_hx : nameCell i.scope x = true) (hs : ∀ L, swapsWithSole [.Tuple [.Name x px, .Name y py] k tp] (.Tuple [e1, e2] k' tp') pos.line (i.env L) = pure false) (hs2 : ∀ L, swappedStores [.Tuple [.Name x px, .Name y py] k tp] (.Tuple [e1, e2] k' tp') (i.env L) = pure none)
    (h : Exs c m nw tp' [e1, e2] (KAsgCC c m x y l K)) : St c m nw (.Assign [.Tuple [.Name x px, .Name y py] k tp] (.Tuple [e1, e2] k' tp') pos :: l) K := by
  refine ⟨fun h0 tk Q I hQ => ?_⟩
  refine wpAny_execs_cons (Assign_Tuple ((Ex.tup (K := fun v n => ∃ a v1 v2 n1, v = .ref a ∧ n = (a, tupO [v1, v2]) :: n1 ∧ CSt c n1 x v1 fun n1 => CSt c n1 y v2 fun n2 => St c m n2 l K) ?_).run h0 tk _ I fun v n1 h1 t1 I1 hK => ?_) (hs _) (hs2 _))
  · exact ⟨fun h0 tk Q I hQ => h.run h0 tk Q I fun vs n1 h1 t1 I1 hK => by
      obtain ⟨v1, v2, rfl, hK⟩ := hK
      exact hQ _ _ _ _ I1 ⟨Nat.le_of_ble_eq_true rfl, fun a _ => ⟨a, v1, v2, n1, rfl, rfl, hK⟩⟩⟩
  · obtain ⟨a, v1, v2, n2, rfl, rfl, hK⟩ := hK
    refine unpackN_ I1.F I1.N (News.isTup I1.N (.head _)) rfl rfl rfl fun h2 F2 N2 => ?_
    exact assignInOrder_cons (assign_Name (hK.ok ⟨F2, cb_drop N2 fun p hp => .tail _ hp⟩ fun n3 h3 t3 I3 hK3 => assignInOrder_cons (assign_Name (hK3.ok I3 fun n4 h4 t4 I4 hK4 => assignInOrder_nil (hK4.run h4 t4 Q I4 hQ)))))
end
/-! the expressions of a comprehension -/
noncomputable abbrev Cv.env (q : Cv) (c : Cx w D i) : Env := compEnvC q.sc q.cl q.C c.env
@[reducible] noncomputable def Cx.quiet (c : Cx w D i) : Cx w D i := { c with E := fun _ _ => False, po := PassesOwn.never }
structure Ey (c : Cx w D i) (q : Cv) (m : Fm) (nw : Led) (e : Expr) (K : Value → Led → Prop) : Prop where
  run : ∀ (h : Heap) (tk : Nat) (Q : Value → Shared → Prop), c.I m nw h → (∀ v nw' h' tk', c.I m nw' h' → K v nw' → Q v (c.st h' tk')) → wpAny (Mo w) c.A (eval e (q.env c)) Q c.E (c.st h tk)
structure Ez (c : Cx w D i) (q : Cv) (m : Fm) (nw : Led) (pos : Pos) (l : List Expr) (K : List Value → Led → Prop) : Prop where
  run : ∀ (h : Heap) (tk : Nat) (Q : List Value → Shared → Prop), c.I m nw h → (∀ v nw' h' tk', c.I m nw' h' → K v nw' → Q v (c.st h' tk')) → wpAny (Mo w) c.A (spliced (backTo pos (starEach l (q.env c)))) Q c.E (c.st h tk)
structure Ty (c : Cx w D i) (q : Cv) (m : Fm) (nw : Led) (e : Expr) (K : Bool → Led → Prop) : Prop where
  run : ∀ (h : Heap) (tk : Nat) (Q : Bool → Shared → Prop), c.I m nw h → (∀ v nw' h' tk', c.I m nw' h' → K v nw' → Q v (c.st h' tk')) → wpAny (Mo w) c.A (isTrue e (q.env c) (eval e (q.env c))) Q c.E (c.st h tk)
variable {q : Cv}
theorem Ey.own {x : Str} {px : Pos} {oC : Obj} {m2 : Str → Option Value} {v : Value} {K : Value → Led → Prop} (hx : nameLocal q.sc x = true) (hm : (q.C, oC) ∈ nw) (hC : NsObj oC m2) (hv : m2 x = some v) (hK : K v nw) : Ey c q m nw (.Name x px) K := by
  simp only [nameLocal, Bool.and_eq_true, beq_iff_eq, Bool.not_eq_true'] at hx
  exact ⟨fun h0 tk Q I hQ => LCgL.ld_own I.N hm hC hv (hQ _ _ _ _ I hK) hx.1 (lookup_relabel rfl hx.2.1) hx.2.2⟩
theorem Ey.cl {x : Str} {px : Pos} {a : Addr} {o : Obj} {v : Value} {K : Value → Led → Prop} (hk : q.sc.kind = .function) (hx : ∀ L C, (compEnvC q.sc [] C (i.env L)).kindOf x = some .cell) (hd : (x == ("__debug__" : Str)) = false) (hc : q.cl.lookup x = some a) (hm : (a, o) ∈ nw) (ho : o.data = .cell (some v)) (hK : K v nw) : Ey c q m nw (.Name x px) K :=
  ⟨fun h0 tk Q I hQ => lcf_cell I.N hc hm ho (hQ _ _ _ _ I hK) hk (hx c.L q.C) hd⟩
theorem Ey.gl {x : Str} {px : Pos} {v : Value} {K : Value → Led → Prop} (hg : nameGlobal q.sc x = true) (hv : nsIn (hd.heap_1 w.params) mainGlobals x = some (some v)) (hK : K v nw) : Ey c q m nw (.Name x px) K := by
  simp only [nameGlobal, Bool.and_eq_true, beq_iff_eq, Bool.not_eq_true'] at hg
  exact ⟨fun h0 tk Q I hQ => LCgL.ld_global I.F c.X c.T hv (hQ _ _ _ _ I hK) rfl hg.1 (lookup_relabel rfl hg.2.1) hg.2.2⟩
theorem Ey.int {n : Int} {k : Nat} {pos : Pos} {K : Value → Led → Prop} (hK : ∀ t, K (.int n t) nw) : Ey c q m nw (.Constant (.int n) k pos) K :=
  ⟨fun h0 tk Q I hQ => wpAny_Constant_int (hQ _ _ _ _ I (hK _))⟩
theorem Ey.att {x y : Str} {px pos : Pos} {K : Value → Led → Prop} (h : Ey c q m nw (.Name y px) (KAtt c m x K)) : Ey c q m nw (.Attribute (.Name y px) x pos) K :=
  ⟨fun h0 tk Q I hQ => Attribute_name (h.run h0 tk _ I fun v n1 h1 t1 I1 hK => hK.run h1 t1 Q I1 hQ)⟩
@[reducible] noncomputable def KySub (c : Cx w D i) (q : Cv) (m : Fm) (e s : Expr) (K : Value → Led → Prop) (o : Value) (n : Led) : Prop := Ey c q m n s (KSub2 c m e s K o)
theorem Ey.sub {e s : Expr} {pos : Pos} {K : Value → Led → Prop} (h : Ey c q m nw e (KySub c q m e s K)) : Ey c q m nw (.Subscript e s pos) K :=
  ⟨fun h0 tk Q I hQ => Subscript_ (h.run h0 tk _ I fun o n1 h1 t1 I1 hK => hK.run h1 t1 _ I1 fun iv n2 h2 t2 I2 hK2 => hK2.run h2 t2 Q I2 hQ)⟩
theorem Ez.nil {pos : Pos} {K : List Value → Led → Prop} (hK : K [] nw) : Ez c q m nw pos [] K :=
  ⟨fun h0 tk Q I hQ => args_nil (hQ _ _ _ _ I hK)⟩
@[reducible] noncomputable def KyC (c : Cx w D i) (q : Cv) (m : Fm) (pos : Pos) (l : List Expr) (K : List Value → Led → Prop) (v : Value) (n : Led) : Prop := Ez c q m n pos l (KCv K v)
theorem Ez.cons {e : Expr} {l : List Expr} {pos : Pos} {K : List Value → Led → Prop} (hs : ∀ env, starEach (e :: l) env = (false, eval e env) :: starEach l env) (h : Ey c q m nw e (KyC c q m pos l K)) : Ez c q m nw pos (e :: l) K :=
  ⟨fun h0 tk Q I hQ => args_cons (h.run h0 tk _ I fun v n1 h1 t1 I1 h2 => h2.run h1 t1 _ I1 fun vs n2 h3 t3 I3 h4 => hQ _ _ _ _ I3 h4) (hs _)⟩
theorem Ey.call {x : Str} {px pos : Pos} {e : Expr} {es : List Expr} {f : Value} {K : Value → Led → Prop} (hg : nameGlobal q.sc x = true) (hf : ftab.lookup x = some f) (hs : noStar (e :: es) = true) (h : Ez c q m nw pos (e :: es) (KCa c m f K)) : Ey c q m nw (.Call (.Name x px) (e :: es) [] pos) K := by
  refine ⟨fun h0 tk Q I hQ => ?_⟩
  obtain ⟨hv, hp⟩ := ftab_at (P := w.params) hf
  refine Call_ ((Ey.gl (K := fun u n => u = f ∧ nw = n) hg hv ⟨rfl, rfl⟩).run h0 tk _ I fun u n1 h1 t1 I1 hu => ?_) rfl
  obtain ⟨rfl, rfl⟩ := hu
  exact callWith_K (Frag.In.keeps c.X I1.F.keep) hp (h.run h1 t1 _ I1 fun vs n1 h1 t1 I1 hK => ⟨Frag.In.keeps c.X I1.F.keep, hK.run h1 t1 Q I1 hQ⟩) (noStar_cons hs _).1 (noStar_any _ _ (noStar_cons hs (q.env c)).2)
theorem Ey.callT {x : Str} {T : String} {px pos : Pos} {e : Expr} {es : List Expr} {K : Value → Led → Prop} (hg : nameGlobal q.sc x = true) (hv : btab.lookup x = some (.type T)) (hs : noStar (e :: es) = true) (he : ∀ env, eval ((Expr.Name x px).Call (e :: es) [] pos) env = (do let f ← eval (.Name x px) env; callWith pos f [] (backTo pos (starEach (e :: es) env)) (backToKw pos (keywordEach [] env))))
    (h : Ez c q m nw pos (e :: es) (KCa c m (.type T) K)) : Ey c q m nw (.Call (.Name x px) (e :: es) [] pos) K := by
  refine ⟨fun h0 tk Q I hQ => ?_⟩
  have hm := lookup_mem hv
  have h1 := List.all_eq_true.mp btab_ok _ hm
  have h2 := List.map_inj_left.mp (btab_none w.params) _ hm
  simp only [Bool.and_eq_true, beq_iff_eq, Bool.not_eq_true', beq_eq_false_iff_ne] at h1
  simp only [nameGlobal, Bool.and_eq_true, beq_iff_eq, Bool.not_eq_true'] at hg
  exact Call_ (LCgL.ld_built I.F c.X c.T h2 h1.1 h1.2 (PyProof.Rows.callWith_type1 (h.run h0 tk _ I fun vs n3 h3 t3 I3 hK3 => hK3.run h3 t3 Q I3 hQ) (noStar_cons hs _).1 (noStar_any _ _ (noStar_cons hs (q.env c)).2)) rfl rfl hg.1 (lookup_relabel rfl hg.2.1) hg.2.2) (he _)
@[reducible] noncomputable def KyM2 (c : Cx w D i) (q : Cv) (m : Fm) (pos : Pos) (as : List Expr) (K : Value → Led → Prop) (f : Value) (first : List Value) (n : Led) : Prop := ∃ fa, f = .ref fa ∧ (mtab.any fun q => q.2 == fa) = true ∧ Ez c q m n pos as (KCw c m (.ref fa) first K)
@[reducible] noncomputable def KyM (c : Cx w D i) (q : Cv) (m : Fm) (x : Str) (pos : Pos) (as : List Expr) (K : Value → Led → Prop) (o : Value) (n : Led) : Prop := Gm c m n o x (KyM2 c q m pos as K)
theorem Ey.mcall {e a : Expr} {as : List Expr} {x : Str} {ap pos : Pos} {K : Value → Led → Prop} {pl : Env → Sem Bool}
    (he : ∀ env, eval ((e.Attribute x ap).Call (a :: as) [] pos) env = (do let ov ← eval e env; standAt ap.atName; let (f, first) ← holding [ov] (getMethod ov x (pl env)); callWith pos f first (backTo pos (starEach (a :: as) env)) [])) (hs : noStar (a :: as) = true)
    (h : Ey c q m nw e (KyM c q m x pos (a :: as) K)) : Ey c q m nw (.Call (.Attribute e x ap) (a :: as) [] pos) K :=
  ⟨fun h0 tk Q I hQ => MethodCall_ (h.run h0 tk _ I fun o n1 h1 t1 I1 hK => hK.run h1 t1 _ _ I1 fun f first n2 h2 t2 I2 hK2 => by
    obtain ⟨fa, rfl, hk, hK2⟩ := hK2
    exact callWith_K (Frag.In.keeps c.X I2.F.keep) (keep_m hk) (hK2.run h2 t2 _ I2 fun vs n3 h3 t3 I3 hK3 => ⟨Frag.In.keeps c.X I3.F.keep, (appV_eq first vs ▸ (show Ca c m _ _ (appV first vs) K from hK3)).run h3 t3 Q I3 hQ⟩) (noStar_cons hs _).1 (noStar_any _ _ (noStar_cons hs (q.env c)).2)) (he _)⟩
theorem meth_i {fa : Addr} {P : Addr → Prop} (h : (mtab.any fun q => q.2 == fa) = true) (hP : P fa) : ∃ f, Value.ref fa = .ref f ∧ (mtab.any fun q => q.2 == f) = true ∧ P f := ⟨fa, rfl, h, hP⟩
@[reducible] noncomputable def KyCo (c : Cx w D i) (q : Cv) (m : Fm) (r : Expr) (op : CmpOp) (K : Bool → Led → Prop) (x : Value) (n : Led) : Prop := Ey c q m n r (KCo2 c m op K x)
@[reducible] noncomputable def KyD (c : Cx w D i) (q : Cv) (m : Fm) (op : CmpOp) (e3 : Expr) (y : Value) (K : Bool → Led → Prop) (b : Bool) (n : Led) : Prop := Sp b (Ey c q m n e3 (KCo2 c m op K y)) (K false n)
@[reducible] noncomputable def KyC2 (c : Cx w D i) (q : Cv) (m : Fm) (op op2 : CmpOp) (e3 : Expr) (K : Bool → Led → Prop) (x y : Value) (n : Led) : Prop := Co c m n op x y (KyD c q m op2 e3 y K)
@[reducible] noncomputable def KyC1 (c : Cx w D i) (q : Cv) (m : Fm) (op op2 : CmpOp) (e2 e3 : Expr) (K : Bool → Led → Prop) (x : Value) (n : Led) : Prop := Ey c q m n e2 (KyC2 c q m op op2 e3 K x)
@[reducible] noncomputable def KyOr (c : Cx w D i) (q : Cv) (m : Fm) (l : List Expr) (pos : Pos) (K : Bool → Led → Prop) (b : Bool) (n : Led) : Prop := Sp b (K true n) (Ty c q m n (.BoolOp .Or l pos) K)
theorem Ty.co {l r : Expr} {op : CmpOp} {pos : Pos} {K : Bool → Led → Prop} (hm : behindInMarks op r = false) (h : Ey c q m nw l (KyCo c q m r op K)) : Ty c q m nw (.Compare l [op] [r] pos) K :=
  ⟨fun h0 tk Q I hQ => wpAny_isTrue_Compare1 (h.run h0 tk _ I fun x n1 h1 t1 I1 h2 => h2.run h1 t1 _ I1 fun y n2 h3 t3 I3 h4 => h4.run h3 t3 _ I3 fun b n4 h4 t4 I4 hK => wpAny_truthy_bool (hQ _ _ _ _ I4 hK)) hm⟩
theorem Ty.co2 {e1 e2 e3 : Expr} {op op' : CmpOp} {pos : Pos} {K : Bool → Led → Prop} (hm : lastMarks [op, op'] [e2, e3] = false) (h : Ey c q m nw e1 (KyC1 c q m op op' e2 e3 K)) : Ty c q m nw (.Compare e1 [op, op'] [e2, e3] pos) K := by
  refine ⟨fun h0 tk Q I hQ => isTrue_chain (h.run h0 tk _ I fun x n1 h1 t1 I1 hK1 => test_link (hK1.run h1 t1 _ I1 fun y n2 h2 t2 I2 hK2 => hK2.run h2 t2 _ I2 fun b n3 h3 t3 I3 hK3 => wpAny_truthy_bool ?_)) hm⟩
  cases b with
  | true => exact test_last ((show Ey c q m n3 e3 _ from hK3).run h3 t3 _ I3 fun z n4 h4 t4 I4 hK4 => hK4.run h4 t4 _ I4 fun b n5 h5 t5 I5 hK5 => wpAny_truthy_bool (hQ _ _ _ _ I5 hK5))
  | false => exact hQ _ _ _ _ I3 hK3
theorem Ty.not {e : Expr} {pos : Pos} {K : Bool → Led → Prop} (h : Ty c q m nw e (KNot K)) : Ty c q m nw (.UnaryOp .Not e pos) K :=
  ⟨fun h0 tk Q I hQ => isTrue_not (h.run h0 tk _ I fun b n1 h1 t1 I1 hK => hQ _ _ _ _ I1 hK)⟩
theorem Ty.or {e : Expr} {l : List Expr} {pos : Pos} {K : Bool → Led → Prop} (h : Ty c q m nw e (KyOr c q m l pos K)) : Ty c q m nw (.BoolOp .Or (e :: l) pos) K := by
  refine ⟨fun h0 tk Q I hQ => isTrue_or (h.run h0 tk _ I fun b n1 h1 t1 I1 hK => ?_)⟩
  cases b with
  | true => rw [if_pos rfl]; exact hQ _ _ _ _ I1 hK
  | false => rw [if_neg Bool.false_ne_true]; exact hK.run h1 t1 Q I1 hQ
theorem Ty.orN {pos : Pos} {K : Bool → Led → Prop} (h : K false nw) : Ty c q m nw (.BoolOp .Or [] pos) K :=
  ⟨fun h0 tk Q I hQ => isTrue_or_nil (hQ _ _ _ _ I h)⟩
theorem Ty.val {e : Expr} {K : Bool → Led → Prop} (hp : ∀ env, isTrue e env (eval e env) = (do let v ← eval e env; standAt e.pos; holding [v] (truthy v))) (h : Ey c q m nw e (KVal K)) : Ty c q m nw e K :=
  ⟨fun h0 tk Q I hQ => isTrue_plain (h.run h0 tk _ I fun v n1 h1 t1 I1 hK => hK.elim fun b hb => tru_ok hb.1 (hQ _ _ _ _ I1 hb.2)) (hp _)⟩
/-! the turns -/
/-- a turn's end -/
structure Ce (I : Addr) (oI : Obj) (C : Addr) (oC : Obj) (p : Addr × Obj) (R : Led → Prop) (n' : Led) : Prop where
  ex : ∃ n2, (∀ r ∈ (I, oI) :: (C, oC) :: p :: n2, r ∈ n') ∧ Off3 I C p.1 n2 ∧ R n2
theorem Ce.mk' {I C : Addr} {oI oC : Obj} {p : Addr × Obj} {R : Led → Prop} (n2 : Led) (hs : ∀ r ∈ (I, oI) :: (C, oC) :: p :: n2, r ∈ nw) (off : Off3 I C p.1 n2) (h : R n2) : Ce I oI C oC p R nw := ⟨n2, hs, off, h⟩
@[reducible] noncomputable def KcU (I : Addr) (oI : Obj) (C : Addr) (oC : Obj) (D : Addr) (ys : List Value) (R : List Value → Led → Prop) (y : Value) (n : Led) : Prop := Ce I oI C oC (D, lstO ys ys.length) (R (ys ++ [y])) n
@[reducible] noncomputable def KcT (c : Cx w D i) (q : Cv) (m : Fm) (elt : Expr) (I : Addr) (oI : Obj) (C : Addr) (oC : Obj) (D2 : Addr) (ys : List Value) (R : List Value → Led → Prop) (b : Bool) (n : Led) : Prop := Sp b (Ey c q m n elt (KcU I oI C oC D2 ys R)) (Ce I oI C oC (D2, lstO ys ys.length) (R ys) n)
structure BdU (c : Cx w D i) (elt : Expr) (x : Str) (sc : Scope) (cl : List (Str × Addr)) (m : Fm) (n : Nat) (P : Nat → Value → Prop) (J : Nat → List Value → Led → Prop) : Prop where
  run : ∀ j ys nw v I oI C oC D m2, j < n → J j ys nw → P j v → NsObj oC m2 → m2 x = some v → Off3 I C D nw → ((@Ne Nat I C) ∧ (@Ne Nat I D) ∧ (@Ne Nat C D)) → Ey c.quiet ⟨sc, cl, C⟩ m ((I, oI) :: (C, oC) :: (D, lstO ys ys.length) :: nw) elt (KcU I oI C oC D ys (J (j + 1)))
structure BdT (c : Cx w D i) (ct elt : Expr) (x : Str) (sc : Scope) (cl : List (Str × Addr)) (m : Fm) (n : Nat) (P : Nat → Value → Prop) (J : Nat → List Value → Led → Prop) : Prop where
  run : ∀ j ys nw v I oI C oC D m2, j < n → J j ys nw → P j v → NsObj oC m2 → m2 x = some v → Off3 I C D nw → ((@Ne Nat I C) ∧ (@Ne Nat I D) ∧ (@Ne Nat C D)) → Ty c.quiet ⟨sc, cl, C⟩ m ((I, oI) :: (C, oC) :: (D, lstO ys ys.length) :: nw) ct (KcT c.quiet ⟨sc, cl, C⟩ m elt I oI C oC D ys (J (j + 1)))
theorem BdU.rest {elt : Expr} {x : Str} {sc : Scope} {cl : List (Str × Addr)} {n : Nat} {P : Nat → Value → Prop} {J : Nat → List Value → Led → Prop} {S : Led → Prop} {Fin : List Value → Led → Prop} {s : Shared} {h0 : Heap} {tk0 : Nat} (hs : s = c.st h0 tk0) (B : BdU c elt x sc cl m n P J) (hS : ∀ j ys n, J j ys n → S n) (fin : ∀ ys nw, J n ys nw → Fin ys nw) :
    ∀ k j ys nw, j + k = n → J j ys nw → CompRest PySem.Challenge.pw_nt0050_01 w c.A c.g c.L (lk m) c.env elt x sc cl s S P Fin k j ys nw
  | 0, j, ys, nw, e, hj => fin ys nw (by rw [← e]; exact hj)
  | k + 1, j, ys, nw, e, hj => fun v I oI C oC D m2 h tk E' hv hC h1 F N off ne => by
    subst hs
    refine wpAny_mono ((B.run j ys nw v I oI C oC D m2 (by omega) hj hv hC h1 off ne).run h tk (CompEnd c.g c.L (lk m) (c.st h tk) I oI C oC D (lstO ys ys.length) S fun y n' => CompRest PySem.Challenge.pw_nt0050_01 w c.A c.g c.L (lk m) c.env elt x sc cl (c.st h0 tk0) S P Fin k (j + 1) (ys ++ [y]) n') ⟨F, N⟩ fun y n' h' tk' I' hK => ?_) (fun _ _ z => z) fun _ _ z => z.elim
    obtain ⟨n2, hs, off2, hR⟩ := hK
    exact ⟨h', tk', n2, rfl, I'.F, cb_drop I'.N hs, off2, hS _ _ _ hR, BdU.rest rfl B hS fin k (j + 1) _ _ (by omega) hR⟩
theorem BdT.rest {ct elt : Expr} {x : Str} {sc : Scope} {cl : List (Str × Addr)} {n : Nat} {P : Nat → Value → Prop} {J : Nat → List Value → Led → Prop} {S : Led → Prop} {Fin : List Value → Led → Prop} {s : Shared} {h0 : Heap} {tk0 : Nat} (hs : s = c.st h0 tk0) (B : BdT c ct elt x sc cl m n P J) (hS : ∀ j ys n, J j ys n → S n) (fin : ∀ ys nw, J n ys nw → Fin ys nw) :
    ∀ k j ys nw, j + k = n → J j ys nw → CompRestT PySem.Challenge.pw_nt0050_01 w c.A c.g c.L (lk m) c.env ct elt x sc cl s S P Fin k j ys nw
  | 0, j, ys, nw, e, hj => fin ys nw (by rw [← e]; exact hj)
  | k + 1, j, ys, nw, e, hj => fun v I oI C oC D m2 h tk E' hv hC h1 F N off ne => by
    subst hs
    refine wpAny_mono ((B.run j ys nw v I oI C oC D m2 (by omega) hj hv hC h1 off ne).run h tk _ ⟨F, N⟩ fun b n1 h1 t1 I1 hK => ?_) (fun _ _ z => z) fun _ _ z => z.elim
    have next : ∀ (R : List Value → Led → Prop) (ys' : List Value) (y : Value) (n' : Led) (h' : Heap) (tk' : Nat), Ce I oI C oC (D, lstO ys ys.length) (J (j + 1) ys') n' → c.quiet.I m n' h' → CompEnd c.g c.L (lk m) (c.st h tk) I oI C oC D (lstO ys ys.length) S (fun _ n' => CompRestT PySem.Challenge.pw_nt0050_01 w c.A c.g c.L (lk m) c.env ct elt x sc cl (c.st h0 tk0) S P Fin k (j + 1) ys' n') y (c.st h' tk') := by
      rintro R ys' y n' h' tk' ⟨n2, hs, off2, hR⟩ I'
      exact ⟨h', tk', n2, rfl, I'.F, cb_drop I'.N hs, off2, hS _ _ _ hR, BdT.rest rfl B hS fin k (j + 1) _ _ (by omega) hR⟩
    cases b with
    | true =>
      rw [if_pos rfl]
      exact wpAny_mono ((show Ey c.quiet ⟨sc, cl, C⟩ m n1 elt _ from hK).run h1 t1 _ I1 fun y n' h' tk' I' hK' => next (fun _ _ => True) _ y n' h' tk' hK' I') (fun _ _ z => z) fun _ _ z => z.elim
    | false => rw [if_neg Bool.false_ne_true]; exact next (fun _ _ => True) ys .none n1 h1 t1 hK I1
/-! the statements -/
/-- what a comprehension goes over, and where it ends -/
structure LcU (c : Cx w D i) (elt : Expr) (x : Str) (sc : Scope) (cl : List (Str × Addr)) (m : Fm) (nw : Led) (Fin : List Value → Led → Prop) (v : Value) : Prop where
  run : ∀ (h0 : Heap) (tk : Nat) (F : Shared → List Value → Led → Prop), c.I m nw h0 → (∀ h' ys n, Fin ys n → F (c.st h' tk) ys n) → CompSrc PySem.Challenge.pw_nt0050_01 w c.A c.g c.L (lk m) c.env elt x sc cl F v (c.st h0 tk)
theorem LcU.list {elt : Expr} {x : Str} {sc : Scope} {cl : List (Str × Addr)} {Fin : List Value → Led → Prop} {a : Addr} {vs : List Value} {k : Nat} (J : Nat → List Value → Led → Prop) (hl : ∀ j ys n, J j ys n → (a, lstO vs k) ∈ n) (hz : vs.length ≤ 400) (h0 : J 0 [] nw) (B : BdU c elt x sc cl m vs.length (fun j v => vs[j]? = some v) J) (fin : ∀ ys n, J vs.length ys n → Fin ys n) : LcU c elt x sc cl m nw Fin (.ref a) :=
  ⟨fun h0' tk F I hF => CompSrc.ledger (its := vs.toArray) rfl I.F I.N (hl _ _ _ h0) (by rw [List.size_toArray, sizeLine_eq]; omega) fun gh => by
    have := BdU.rest (s := c.st gh tk) (S := SrcAt c.g a vs.toArray) (Fin := F (c.st gh tk)) rfl B (fun j ys n hj => .inr ⟨_, hl _ _ _ hj, rfl, _, rfl⟩) (fun ys n hj => hF _ ys n (fin ys n hj)) vs.length 0 [] nw (Nat.zero_add _) h0
    simpa only [List.getElem?_toArray, List.size_toArray] using this⟩
theorem LcU.rg {elt : Expr} {x : Str} {sc : Scope} {cl : List (Str × Addr)} {Fin : List Value → Led → Prop} {r : Addr} {z : Int} {t u v : Tok} (J : Nat → List Value → Led → Prop) (hr : (r, ({ cls := .type "range", data := .fields #[.int 0 t, .int z u, .int 1 v] } : Obj)) ∈ nw) (hb : 0 ≤ z) (hz : z ≤ 400) {n0 : Led} (hs0 : ∀ p ∈ n0, p ∈ nw) (h0 : J 0 [] n0) (B : BdU c elt x sc cl m z.toNat (fun j v => ∃ t, v = .int (0 + (j : Int)) t) J) (fin : ∀ ys n, J z.toNat ys n → Fin ys n) : LcU c elt x sc cl m nw Fin (.ref r) :=
  ⟨fun h0' tk F I hF => CompSrc.range rfl I.F (cb_drop I.N hs0) (I.N _ hr).1 (range_small (by decide) (by decide) (by lia) (by omega)) (range_sz (.inl (by lia))) (by rw [sizeLine_eq]; lia) fun gh => BdU.rest (s := c.st gh tk) rfl B (fun _ _ _ _ => trivial) (fun ys n hj => hF _ ys n (fin ys n hj)) z.toNat 0 [] n0 (Nat.zero_add _) h0⟩
@[reducible] noncomputable def KFv (K : Value → Led → Prop) (ys : List Value) (n : Led) : Prop := ∀ D, (∀ p ∈ n, p.1 ≠ D) → K (.ref D) ((D, lstO ys ys.length) :: n)
@[reducible] noncomputable def KFs (c : Cx w D i) (m : Fm) (y : Str) (l : List Stmt) (K : Flow → Fm → Led → Prop) (ys : List Value) (n : Led) : Prop := ∀ D, (∀ p ∈ n, p.1 ≠ D) → St c (setN m y (.ref D)) ((D, lstO ys ys.length) :: n) l K
@[reducible] noncomputable def KLcU (c : Cx w D i) (m : Fm) (elt : Expr) (x : Str) (sc : Scope) (cl : List (Str × Addr)) (Fin : List Value → Led → Prop) (v : Value) (n : Led) : Prop := LcU c elt x sc cl m n Fin v
theorem Ex.lcU {elt iter : Expr} {x : Str} {px : Pos} {sc : Scope} {cl : List (Str × Addr)} {pos : Pos} {K : Value → Led → Prop} (hclos : closureFor sc c.env = pure cl) (hcell : ∀ y ∈ sc.names, y.2 ≠ .cell) (hkind : sc.kind = .function)
    (hnames : ∀ y ∈ sc.names, y.2 = .local → sc.names.lookup y.1 = some .local) (hx : sc.names.lookup x = some .local) (hs : ∀ L v, foldedSetIterable iter (i.env L) v = pure v)
    (h : Ex c m nw iter fun v n1 => LcU c elt x sc cl m n1 (KFv K) v) : Ex c m nw (.ListComp elt [⟨.Name x px, iter, [], 0⟩] sc pos) K :=
  ⟨fun h0 tk Q I hQ => ListComp_U I.F hclos hcell hkind hnames hx (h.run h0 tk _ I fun v n1 h1 t1 I1 hK => hK.run h1 t1 _ I1 fun h' ys n hf D h2 t2 F N o1 => hQ _ _ _ _ ⟨F, N⟩ (hf D (off1_ne o1))) (hs _)⟩
section
variable {l : List Stmt} {K : Flow → Fm → Led → Prop}
theorem local_kind {y : Str} (hy : nameLocal i.scope y = true) : (i.env c.L).kindOf y = some .local := by
  simp only [nameLocal, Bool.and_eq_true, beq_iff_eq, Bool.not_eq_true'] at hy
  exact hy.2.1
theorem St.lcU {elt iter : Expr} {x y : Str} {px py : Pos} {sc : Scope} {cl : List (Str × Addr)} {pos spos : Pos} (hsw : ∀ L, swapsWith (.ListComp elt [⟨.Name x px, iter, [], 0⟩] sc pos) (some (.Name y py)) spos.line (i.env L) = pure true) (hclos : closureFor sc c.env = pure cl) (hcell : ∀ y ∈ sc.names, y.2 ≠ .cell) (hkind : sc.kind = .function)
    (hnames : ∀ y ∈ sc.names, y.2 = .local → sc.names.lookup y.1 = some .local) (hx : sc.names.lookup x = some .local) (hy : nameLocal i.scope y = true) (hs : ∀ L v, foldedSetIterable iter (i.env L) v = pure v)
    (h : Ex c m nw iter fun v n1 => LcU c elt x sc cl m n1 (KFs c m y l K) v) : St c m nw (.Assign [.Name y py] (.ListComp elt [⟨.Name x px, iter, [], 0⟩] sc pos) spos :: l) K :=
  ⟨fun h0 tk Q I hQ => wpAny_execs_cons (Assign_ListComp_U I.F rfl (hsw _) hclos hcell hkind hnames hx (local_kind hy) (show (i.scope.kind == .class || (i.scope.kind == .module && _)) = false by rw [c.hk]; rfl) (h.run h0 tk _ I fun v n1 h1 t1 I1 hK => hK.run h1 t1 _ I1 fun h' ys n hf D h2 t2 F N o1 => (hf D (off1_ne o1)).run h2 t2 Q ⟨frTo F fun y => lk_cons y, N⟩ hQ) (hs _))⟩
end
/-- .. with a test -/
inductive LcT (c : Cx w D i) (ct elt : Expr) (x : Str) (sc : Scope) (cl : List (Str × Addr)) (m : Fm) (nw : Led) (Fin : List Value → Led → Prop) (v : Value) : Prop
  | mk (a : Addr) (vs : List Value) (k : Nat) (J : Nat → List Value → Led → Prop) : (v = .ref a) → ((∀ j ys n, J j ys n → (a, lstO vs k) ∈ n)) → (vs.length ≤ 400) → (J 0 [] nw) → (BdT c ct elt x sc cl m vs.length (fun j v => vs[j]? = some v) J) → (∀ ys n, J vs.length ys n → Fin ys n) → LcT c ct elt x sc cl m nw Fin v
theorem LcT.run {ct elt : Expr} {x : Str} {sc : Scope} {cl : List (Str × Addr)} {Fin : List Value → Led → Prop} {v : Value} (h : LcT c ct elt x sc cl m nw Fin v) (h0 : Heap) (tk : Nat) (F : Shared → List Value → Led → Prop) (I : c.I m nw h0) (hF : ∀ h' ys n, Fin ys n → F (c.st h' tk) ys n) : CompSrcT PySem.Challenge.pw_nt0050_01 w c.A c.g c.L (lk m) c.env ct elt x sc cl F v (c.st h0 tk) := by
  obtain ⟨a, vs, k, J, rfl, hl, hz, hJ, B, fin⟩ := h
  refine CompSrcT.ledger (its := vs.toArray) rfl I.F I.N (hl _ _ _ hJ) (by rw [List.size_toArray, sizeLine_eq]; omega) fun gh => ?_
  have := BdT.rest (s := c.st gh tk) (S := SrcAt c.g a vs.toArray) (Fin := F (c.st gh tk)) rfl B (fun j ys n hj => .inr ⟨_, hl _ _ _ hj, rfl, _, rfl⟩) (fun ys n hj => hF _ ys n (fin ys n hj)) vs.length 0 [] nw (Nat.zero_add _) hJ
  simpa only [List.getElem?_toArray, List.size_toArray] using this
theorem LcT.mk' {ct elt : Expr} {x : Str} {sc : Scope} {cl : List (Str × Addr)} {Fin : List Value → Led → Prop} {a : Addr} {vs : List Value} {k : Nat} (J : Nat → List Value → Led → Prop) (hl : ∀ j ys n, J j ys n → (a, lstO vs k) ∈ n) (hz : vs.length ≤ 400) (h0 : J 0 [] nw) (B : BdT c ct elt x sc cl m vs.length (fun j v => vs[j]? = some v) J) (fin : ∀ ys n, J vs.length ys n → Fin ys n) : LcT c ct elt x sc cl m nw Fin (.ref a) := ⟨a, vs, k, J, rfl, hl, hz, h0, B, fin⟩
theorem Ex.lcT {ct elt iter : Expr} {x : Str} {px : Pos} {sc : Scope} {cl : List (Str × Addr)} {pos : Pos} {K : Value → Led → Prop} (hclos : closureFor sc c.env = pure cl) (hcell : ∀ y ∈ sc.names, y.2 ≠ .cell) (hkind : sc.kind = .function)
    (hnames : ∀ y ∈ sc.names, y.2 = .local → sc.names.lookup y.1 = some .local) (hx : sc.names.lookup x = some .local) (hs : ∀ L v, foldedSetIterable iter (i.env L) v = pure v)
    (h : Ex c m nw iter fun v n1 => LcT c ct elt x sc cl m n1 (KFv K) v) : Ex c m nw (.ListComp elt [⟨.Name x px, iter, [ct], 0⟩] sc pos) K :=
  ⟨fun h0 tk Q I hQ => ListComp_T I.F hclos hcell hkind hnames hx (h.run h0 tk _ I fun v n1 h1 t1 I1 hK => hK.run h1 t1 _ I1 fun h' ys n hf D h2 t2 F N o1 => hQ _ _ _ _ ⟨F, N⟩ (hf D (off1_ne o1))) (hs _)⟩
section
variable {l : List Stmt} {K : Flow → Fm → Led → Prop}
theorem St.lcT {ct elt iter : Expr} {x y : Str} {px py : Pos} {sc : Scope} {cl : List (Str × Addr)} {pos spos : Pos} (hsw : ∀ L, swapsWith (.ListComp elt [⟨.Name x px, iter, [ct], 0⟩] sc pos) (some (.Name y py)) spos.line (i.env L) = pure true) (hclos : closureFor sc c.env = pure cl) (hcell : ∀ y ∈ sc.names, y.2 ≠ .cell) (hkind : sc.kind = .function)
    (hnames : ∀ y ∈ sc.names, y.2 = .local → sc.names.lookup y.1 = some .local) (hx : sc.names.lookup x = some .local) (hy : nameLocal i.scope y = true) (hs : ∀ L v, foldedSetIterable iter (i.env L) v = pure v)
    (h : Ex c m nw iter fun v n1 => LcT c ct elt x sc cl m n1 (KFs c m y l K) v) : St c m nw (.Assign [.Name y py] (.ListComp elt [⟨.Name x px, iter, [ct], 0⟩] sc pos) spos :: l) K :=
  ⟨fun h0 tk Q I hQ => wpAny_execs_cons (Assign_ListComp_T I.F rfl (hsw _) hclos hcell hkind hnames hx (local_kind hy) (show (i.scope.kind == .class || (i.scope.kind == .module && _)) = false by rw [c.hk]; rfl) (h.run h0 tk _ I fun v n1 h1 t1 I1 hK => hK.run h1 t1 _ I1 fun h' ys n hf D h2 t2 F N o1 => (hf D (off1_ne o1)).run h2 t2 Q ⟨frTo F fun y => lk_cons y, N⟩ hQ) (hs _))⟩
end
end
section
open PyProof.Rows.LCg PyProof.Rows.LCt
variable {D : Nat} {i : Fn} {c : Cx w D i} {m : Fm} {nw : Led} {l : List Stmt} {K : Flow → Fm → Led → Prop}
/-! over enumerate, with a pair of names and a test -/
structure C4 (e : Addr) (oe : Obj) (I : Addr) (oI : Obj) (C : Addr) (oC : Obj) (p : Addr × Obj) (R : Led → Prop) (n' : Led) : Prop where
  ex : ∃ n2, (∀ r ∈ (e, oe) :: (I, oI) :: (C, oC) :: p :: n2, r ∈ n') ∧ Apart4 e I C p.1 n2 ∧ R n2
theorem C4.mk' {e I C : Addr} {oe oI oC : Obj} {p : Addr × Obj} {R : Led → Prop} (n2 : Led) (hs : ∀ r ∈ (e, oe) :: (I, oI) :: (C, oC) :: p :: n2, r ∈ nw) (off : Apart4 e I C p.1 n2) (h : R n2) : C4 e oe I oI C oC p R nw := ⟨n2, hs, off, h⟩
structure BdE (c : Cx w D i) (ct elt : Expr) (x y : Str) (sc : Scope) (cl : List (Str × Addr)) (m : Fm) (vs : List Value) (J : Nat → List Value → Led → Prop) : Prop where
  run : ∀ j ys nw v t e oe I oI C oC D m2, J j ys nw → vs[j]? = some v → NsObj oC m2 → m2 x = some (.int j t) → m2 y = some v → Apart4 e I C D nw → ((@Ne Nat e I) ∧ (@Ne Nat e C) ∧ (@Ne Nat e D) ∧ (@Ne Nat I C) ∧ (@Ne Nat I D) ∧ (@Ne Nat C D)) →
    Ty c.quiet ⟨sc, cl, C⟩ m ((e, oe) :: (I, oI) :: (C, oC) :: (D, lstO ys ys.length) :: nw) ct fun b n1 => Sp b (Ey c.quiet ⟨sc, cl, C⟩ m n1 elt fun y n' => C4 e oe I oI C oC (D, lstO ys ys.length) (J (j + 1) (ys ++ [y])) n') (C4 e oe I oI C oC (D, lstO ys ys.length) (J (j + 1) ys) n1)
theorem BdE.rest {ct elt : Expr} {x y : Str} {sc : Scope} {cl : List (Str × Addr)} {vs : List Value} {J : Nat → List Value → Led → Prop} {lp : Addr × Obj} {Fin : List Value → Led → Prop} {s : Shared} {h0 : Heap} {tk0 : Nat} (hs : s = c.st h0 tk0) (B : BdE c ct elt x y sc cl m vs J) (hS : ∀ j ys n, J j ys n → lp ∈ n) (fin : ∀ ys nw, J vs.length ys nw → Fin ys nw) :
    ∀ k j ys nw, j + k = vs.length → J j ys nw → CRest PySem.Challenge.pw_nt0050_01 w c.A c.g c.L (lk m) c.env ct elt x y sc cl s lp vs Fin k j ys nw
  | 0, j, ys, nw, e, hj => fin ys nw (by rw [← e]; exact hj)
  | k + 1, j, ys, nw, ek, hj => fun v t e oe I oI C oC D m2 h tk E' hv hC h1 h2 F N off ne => by
    subst hs
    refine wpAny_mono ((B.run j ys nw v t e oe I oI C oC D m2 hj hv hC h1 h2 off ne).run h tk _ ⟨F, N⟩ fun b n1 h1 t1 I1 hK => ?_) (fun _ _ z => z) fun _ _ z => z.elim
    have next : ∀ (ys' : List Value) (y' : Value) (n' : Led) (h' : Heap) (tk' : Nat), C4 e oe I oI C oC (D, lstO ys ys.length) (J (j + 1) ys') n' → c.quiet.I m n' h' → CEnd c.g c.L (lk m) (c.st h tk) e oe I oI C oC D (lst ys) lp (fun _ n' => CRest PySem.Challenge.pw_nt0050_01 w c.A c.g c.L (lk m) c.env ct elt x y sc cl (c.st h0 tk0) lp vs Fin k (j + 1) ys' n') y' (c.st h' tk') := by
      rintro ys' y' n' h' tk' ⟨n2, hs, off2, hR⟩ I'
      exact ⟨h', tk', n2, rfl, I'.F, cb_drop I'.N hs, off2, hS _ _ _ hR, BdE.rest rfl B hS fin k (j + 1) _ _ (by omega) hR⟩
    cases b with
    | true =>
      rw [if_pos rfl]
      exact wpAny_mono ((show Ey c.quiet ⟨sc, cl, C⟩ m n1 elt _ from hK).run h1 t1 _ I1 fun y n' h' tk' I' hK' => (next _ y n' h' tk' hK' I').imp fun _ z => z) (fun _ _ z => z) fun _ _ z => z.elim
    | false => rw [if_neg Bool.false_ne_true]; exact next ys .none n1 h1 t1 hK I1
inductive LcE (c : Cx w D i) (ct elt : Expr) (x y : Str) (sc : Scope) (cl : List (Str × Addr)) (m : Fm) (nw : Led) (Fin : List Value → Led → Prop) (v : Value) : Prop
  | mk (a : Addr) (vs : List Value) (k : Nat) (J : Nat → List Value → Led → Prop) : (v = .ref a) → ((∀ j ys n, J j ys n → (a, lstO vs k) ∈ n)) → (vs.length ≤ 400) → (J 0 [] nw) → (BdE c ct elt x y sc cl m vs J) → (∀ ys n, J vs.length ys n → Fin ys n) → LcE c ct elt x y sc cl m nw Fin v
theorem LcE.mk' {ct elt : Expr} {x y : Str} {sc : Scope} {cl : List (Str × Addr)} {Fin : List Value → Led → Prop} {a : Addr} {vs : List Value} {k : Nat} (J : Nat → List Value → Led → Prop) (hl : ∀ j ys n, J j ys n → (a, lstO vs k) ∈ n) (hz : vs.length ≤ 400) (h0 : J 0 [] nw) (B : BdE c ct elt x y sc cl m vs J) (fin : ∀ ys n, J vs.length ys n → Fin ys n) : LcE c ct elt x y sc cl m nw Fin (.ref a) := ⟨a, vs, k, J, rfl, hl, hz, h0, B, fin⟩
theorem St.lcE {ct elt e1 : Expr} {x x₂ y : Str} {px px₂ tp py pe p : Pos} {tk} {sc : Scope} {cl : List (Str × Addr)} {pos spos : Pos} (hsw : ∀ L, swapsWith (.ListComp elt [⟨.Tuple [.Name x px, .Name x₂ px₂] tk tp, .Call (.Name (Str.ofString "enumerate") pe) [e1] [] p, [ct], 0⟩] sc pos) (some (.Name y py)) spos.line (i.env L) = pure true) (hclos : closureFor sc c.env = pure cl) (hcell : ∀ y ∈ sc.names, y.2 ≠ .cell) (hkind : sc.kind = .function)
    (hnames : ∀ y ∈ sc.names, y.2 = .local → sc.names.lookup y.1 = some .local) (hx : sc.names.lookup x = some .local) (hx2 : sc.names.lookup x₂ = some .local) (hxx : x ≠ x₂) (hy : nameLocal i.scope y = true) (hg : nameGlobal i.scope (Str.ofString "enumerate") = true) (hn : noStar [e1] = true) (hs : ∀ L v, foldedSetIterable (.Call (.Name (Str.ofString "enumerate") pe) [e1] [] p) (i.env L) v = pure v)
    (h : Ex c m nw e1 fun v n1 => LcE c ct elt x x₂ sc cl m n1 (KFs c m y l K) v) : St c m nw (.Assign [.Name y py] (.ListComp elt [⟨.Tuple [.Name x px, .Name x₂ px₂] tk tp, .Call (.Name (Str.ofString "enumerate") pe) [e1] [] p, [ct], 0⟩] sc pos) spos :: l) K := by
  refine ⟨fun h0 t0 Q I hQ => wpAny_execs_cons (Assign_ListComp_E I.F rfl (hsw _) hclos hcell hkind hnames hx hx2 hxx (local_kind hy) (show (i.scope.kind == .class || (i.scope.kind == .module && _)) = false by rw [c.hk]; rfl) (Call_ ((Ex.bn (K := fun u n => u = .type "enumerate" ∧ nw = n) hg rfl ⟨rfl, rfl⟩).run h0 t0 _ I fun u n1 h1 t1 I1 hu => ?_) rfl) (hs _))⟩
  obtain ⟨rfl, rfl⟩ := hu
  refine PyProof.Rows.callWith_type1 ((Exs.cons (K := fun vs n => ∃ v, vs = [v] ∧ LcE c ct elt x x₂ sc cl m n _ v) (fun env => (noStar_cons hn env).1) ⟨fun h2 t2 Q2 I2 hQ2 => h.run h2 t2 Q2 I2 fun v n2 h3 t3 I3 hK => hQ2 _ _ _ _ I3 (Exs.nil ⟨v, rfl, hK⟩)⟩).run h1 t1 _ I1 fun vs n3 h3 t3 I3 hK3 => ?_) (noStar_cons hn _).1 (noStar_any _ _ (noStar_cons hn c.env).2)
  obtain ⟨v, rfl, a, us, k, J, rfl, hl, hz, hJ, B, fin⟩ := hK3
  refine SrcE.enum (vs := us) (n := k) rfl I3.F I3.N (hl _ _ _ hJ) (by rw [sizeLine_eq]; omega) fun gh => ?_
  exact BdE.rest (s := c.st gh t3) rfl B hl (fun ys n hj D h2 t2 F N o1 => (fin ys n hj D (off1_ne o1)).run h2 t2 Q ⟨frTo F fun y => lk_cons y, N⟩ hQ) us.length 0 [] n3 (Nat.zero_add _) hJ
/-- over a tuple -/
theorem St.lcTu {elt iter : Expr} {x y : Str} {px py : Pos} {sc : Scope} {cl : List (Str × Addr)} {pos spos : Pos} (hsw : ∀ L, swapsWith (.ListComp elt [⟨.Name x px, iter, [], 0⟩] sc pos) (some (.Name y py)) spos.line (i.env L) = pure true) (hclos : closureFor sc c.env = pure cl) (hcell : ∀ y ∈ sc.names, y.2 ≠ .cell) (hkind : sc.kind = .function)
    (hnames : ∀ y ∈ sc.names, y.2 = .local → sc.names.lookup y.1 = some .local) (hx : sc.names.lookup x = some .local) (hy : nameLocal i.scope y = true) (hs : ∀ L v, foldedSetIterable iter (i.env L) v = pure v)
    (h : Ex c m nw iter fun v n1 => ∃ (a : Addr) (vs : List Value) (J : Nat → List Value → Led → Prop), v = .ref a ∧ (∀ j ys n, J j ys n → (a, tupO vs) ∈ n) ∧ vs.length ≤ 100 ∧ J 0 [] n1 ∧ BdU c elt x sc cl m vs.length (fun j v => vs[j]? = some v) J ∧ ∀ ys n, J vs.length ys n → ∀ D, (∀ p ∈ n, p.1 ≠ D) → St c (setN m y (.ref D)) ((D, lstO ys ys.length) :: n) l K) : St c m nw (.Assign [.Name y py] (.ListComp elt [⟨.Name x px, iter, [], 0⟩] sc pos) spos :: l) K := by
  refine ⟨fun h0 tk Q I hQ => wpAny_execs_cons (Assign_ListComp_Tu I.F rfl (hsw _) hclos hcell hkind hnames hx (local_kind hy) (show (i.scope.kind == .class || (i.scope.kind == .module && _)) = false by rw [c.hk]; rfl) (h.run h0 tk _ I fun v n1 h1 t1 I1 hK => ?_) (hs _))⟩
  obtain ⟨a, vs, J, rfl, hl, hz, hJ, B, fin⟩ := hK
  refine SrcTu.mk' rfl I1.F I1.N (hl _ _ _ hJ) hz fun gh => ?_
  exact BdU.rest (s := c.st gh t1) rfl B hl (fun ys n hj D h2 t2 F N o1 => (fin ys n hj D (off1_ne o1)).run h2 t2 Q ⟨frTo F fun y => lk_cons y, N⟩ hQ) vs.length 0 [] n1 (Nat.zero_add _) hJ
/-! a for over a list whose name is a cell -/
@[reducible] noncomputable def Cx.at (c : Cx w D i) (s : Shared) : Cx w D i := { c with k := { c.k with s := s } }
inductive ForC (c : Cx w D i) (x : Str) (b l : List Stmt) (K : Flow → Fm → Led → Prop) (m : Fm) (n : Led) (v : Value) : Prop
  | mk (a : Addr) (vs : List Value) (k : Nat) (J : Nat → Fm → Led → Prop) : (v = .ref a) → ((∀ k' m1 n1, J k' m1 n1 → (a, lstO vs k) ∈ n1)) → (J 0 m n) → ((∀ s I it k v m1 n1, vs[k]? = some v → J k m1 n1 → (∀ p ∈ n1, p.1 ≠ I) → CSt (c.at s) ((I, it) :: n1) x v fun n2 => St (c.at s) m1 n2 b fun f m2 n3 => f = .next ∧ Kf I it (J (k + 1)) m2 n3)) → (∀ m1 n1, J vs.length m1 n1 → St c m1 n1 l K) → ForC c x b l K m n v
theorem St.genK {c : Cx w D i} {m : Fm} {nw : Led} {l : List Stmt} {K : Flow → Fm → Led → Prop} (h : ∀ KK : Flow → Fm → Led → Prop, (∀ f m n, K f m n → KK f m n) → St c m nw l KK) : St c m nw l K := h K fun _ _ _ h => h
theorem ForC.mk' {x : Str} {b : List Stmt} {a : Addr} {vs : List Value} {k : Nat} (J : Nat → Fm → Led → Prop) (hl : ∀ k' m1 n1, J k' m1 n1 → (a, lstO vs k) ∈ n1) (h0 : J 0 m nw)
    (turn : ∀ s I it k v m1 n1, vs[k]? = some v → J k m1 n1 → (∀ p ∈ n1, p.1 ≠ I) → CSt (c.at s) ((I, it) :: n1) x v fun n2 => St (c.at s) m1 n2 b fun f m2 n3 => f = .next ∧ Kf I it (J (k + 1)) m2 n3)
    (done : ∀ m1 n1, J vs.length m1 n1 → St c m1 n1 l K) : ForC c x b l K m nw (.ref a) := ⟨a, vs, k, J, rfl, hl, h0, turn, done⟩
@[reducible] noncomputable def KForC (c : Cx w D i) (m : Fm) (x : Str) (b l : List Stmt) (K : Flow → Fm → Led → Prop) (v : Value) (n : Led) : Prop := ForC c x b l K m n v
theorem St.forC {x : Str} {px pos : Pos} {e : Expr} {b : List Stmt} (_hx : nameCell i.scope x = true) (hf : ∀ L v, foldedSetIterable e (i.env L) v = pure v) (he : Ex c m nw e (KForC c m x b l K)) : St c m nw (.For (.Name x px) e b [] pos :: l) K := by
  refine ⟨fun h0 tk Q I hQ => wpAny_execs_cons (For_invTF I.F (he.run h0 tk _ I fun v n1 h1 t1 I1 hK => ?_) (hf _) c.po)⟩
  obtain ⟨a, vs, k, J, rfl, hl, hJ, turn, done⟩ := hK
  exact iterLC (σ := { q : Fm × Led // (a, lstO vs k) ∈ q.2 }) (Led := fun q => q.1.2) (M := fun q => lk q.1.1) (P := fun k q => J k q.1.1 q.1.2) ⟨(m, n1), hl _ _ _ hJ⟩ (fun q => q.2) rfl I1.F I1.N (fun _ => rfl) hJ
    (fun It it j q v s₁ hv hp hne F' N' => assign_Name ((turn s₁ It it j v _ _ hv hp hne).ok (h0 := s₁.heap) (tk := s₁.toks) (m := q.1.1) ⟨F', N'⟩ fun n2 h2 t2 I2 hK2 => hK2.run h2 t2 _ I2 fun f m3 n3 h3 t3 I3 hK3 => by
      obtain ⟨rfl, n', e1, e2, e3, e4⟩ := hK3
      exact IterEndC.mk' I3.F I3.N ⟨(m3, n'), hl _ _ _ e1⟩ e2 e3 e4 (fun _ => rfl) e1))
    fun q h2 t2 hp F' N' => (done q.1.1 q.1.2 hp).run h2 t2 Q ⟨F', N'⟩ hQ
theorem bindL_lk {kind : Str → Option NameKind} : ∀ (bs : List (Str × Value)) (m : Fm) (y : Str), (∀ q ∈ bs, kind q.1 = some .local) → bindL kind bs (lk m) y = lk (bs.foldl (fun m q => setN m q.1 q.2) m) y
  | [], _, _, _ => rfl
  | (x, v) :: r, m, y, h => by
    rw [bindL, if_pos (h _ (.head _)), List.foldl_cons, ← bindL_lk r _ y fun q hq => h q (.tail _ hq)]
    exact congrArg (fun m => bindL kind r m y) (funext fun y => lk_cons y)
theorem bindC_none {kind : Str → Option NameKind} : ∀ (bs : List (Str × Value)) (m : Str → Option Value), (∀ q ∈ bs, kind q.1 = some .local) → bindC kind bs m = m
  | [], _, _ => rfl
  | (x, v) :: r, m, h => by rw [bindC, if_pos (h _ (.head _)), bindC_none r _ fun q hq => h q (.tail _ hq)]
/-- the way into a body with cells -/
theorem Con.enterC {f : Addr} {vs : List Value} {news : Led} {R : RetT} {name qual : Str} {params : Arguments} {body : List Stmt} {scope : Scope} {dV kV doc pm cdv ct oc : Value} {an od : Option Addr} {osl : Array (Option Value)} (bs : List (Str × Value)) (fm : Fm)
    (ho : List.lookup f (hd.heap_1 w.params) = some { cls := oc, dict := od, data := Data.func (fnOf name qual params body scope dV kV doc pm an cdv ct), slots := osl })
    (hcd : codeIn (hd.heap_1 w.params) cdv qual = true)
    (hb : ∀ s : Shared, (hd.heap_1 w.params).In s.heap → BindsTo s (fnOf name qual params body scope dV kV doc pm an cdv ct) { pos := vs } bs)
    (hl : (bs.all fun y => scope.names.lookup y.1 == some .local) = true)
    (hnd : ((cellsFrom 0 scope.names []).map (·.1)).Nodup)
    (hco : scope.isCoroutine = false) (hgen : scope.isGenerator = false) (hk : scope.kind = .function)
    (hfm : bs.foldl (fun m q => setN m q.1 q.2) [] = fm)
    (h : ∀ (c : Cx w D { name := qual, scope := scope, addr := f, code := cdv, cells := fun L => cellsFrom (L + 1) scope.names [] }) (cells : Led), CellsAre (fun _ => none) (cellsFrom (c.L + 1) scope.names []) cells → (∀ p ∈ news, p.1 < c.L) → R c.k.h c.k.L c.k.m news c.k.s c.k.Q → St c fm (cells ++ news) body c.fin) : Con w (D + 1) f vs news R := by
  intro p loose mean mg mb dp un gd cn cs a ccd cl outer A₀ base h₀ L m s Q E B F X N T hkk hd hu hret
  have hl' : ∀ q ∈ bs, scope.names.lookup q.1 = some .local := fun q hq => eq_of_beq (List.all_eq_true.mp hl q hq)
  refine wpAny_call ?_
  refine code_defC B F X N T rfl rfl hkk ho hcd (show dp < recursionLimit by omega) (hb _ (X.keeps F.keep)) (List.all_eq_true.mpr fun q hq => by rw [hl' q hq]; rfl) hnd ?_ hco hgen hk
  intro g L' h₁ tk cells FG F' N' Y B' X' T' lL
  rw [bindC_none bs _ hl'] at Y
  refine (h { k := ⟨h₀, L, m, s, Q⟩, p := p, loose := loose, mean := mean, mg := mg, mb := mb, g := g, L := L', dp := dp + 1, un := un + 3, gd := gd, outer := _, A0 := _, base := base, E := _, B := B', X := X', T := T', hk := hk, hd := by omega, hu := by lia, po := PassesOwn.leaving } cells Y lL hret).run h₁ _ _ ⟨frTo F' fun y => by rw [← hfm]; exact bindL_lk bs [] y hl', N'⟩ ?_
  intro f m' nw' h' tk' I hK
  refine leaveK_ I.F I.N ?_
  intro F2 N2
  exact hK h' tk' F2 N2
/-- .. with one cell, that holds nothing -/
theorem Con.enterC1 {f : Addr} {vs : List Value} {news : Led} {R : RetT} {name qual : Str} {params : Arguments} {body : List Stmt} {scope : Scope} {dV kV doc pm cdv ct oc : Value} {an od : Option Addr} {osl : Array (Option Value)} (bs : List (Str × Value)) (fm : Fm) (x : Str)
    (ho : List.lookup f (hd.heap_1 w.params) = some { cls := oc, dict := od, data := Data.func (fnOf name qual params body scope dV kV doc pm an cdv ct), slots := osl })
    (hcd : codeIn (hd.heap_1 w.params) cdv qual = true)
    (hb : ∀ s : Shared, (hd.heap_1 w.params).In s.heap → BindsTo s (fnOf name qual params body scope dV kV doc pm an cdv ct) { pos := vs } bs)
    (hl : (bs.all fun y => scope.names.lookup y.1 == some .local) = true)
    (hx : ∀ L, cellsFrom L scope.names [] = [(x, L)])
    (hco : scope.isCoroutine = false) (hgen : scope.isGenerator = false) (hk : scope.kind = .function)
    (hfm : bs.foldl (fun m q => setN m q.1 q.2) [] = fm)
    (h : ∀ (c : Cx w D { name := qual, scope := scope, addr := f, code := cdv, cells := fun L => [(x, L + 1)] }) (o : Obj), o.data = .cell none → (∀ p ∈ news, p.1 < c.L + 1) → R c.k.h c.k.L c.k.m news c.k.s c.k.Q → St c fm ((c.L + 1, o) :: news) body c.fin) : Con w (D + 1) f vs news R := by
  refine Con.enterC bs fm ho hcd hb hl (by rw [hx]; exact List.nodup_cons.mpr ⟨List.not_mem_nil, List.nodup_nil⟩) hco hgen hk hfm ?_
  rw [show (fun L => cellsFrom (L + 1) scope.names []) = fun L => [(x, L + 1)] from funext fun L => hx (L + 1)]
  intro c cells hcl lL hret
  rw [hx] at hcl
  obtain ⟨o, rfl, ho⟩ := hcl.one
  exact h c o ho (fun p hp => Nat.lt_succ_of_lt (lL p hp)) hret
theorem fin_Ln {news : Led} {cs : List Int} {a : Addr} {its : List Value} {n : Nat} (hret : RetLn cs c.k.h c.k.L c.k.m news c.k.s c.k.Q) (hi : IntsAre its cs) (hs : ∀ p ∈ (a, lstO its n) :: news, p ∈ nw) (hn : ∀ p ∈ news, p.1 ≠ a) : c.k.ret (.ref a) nw :=
  fun h' tk' F N => hret a its n h' tk' hi F (cb_drop N hs) hn
end
theorem kw18 : True := by
  (k_with "m:hcell" => (first | (with_reducible assumption) | exact rfl))
  (k_with "m:hex" => ((with_reducible apply Ex.cl); exact rfl; exact rfl; walk_at "hmem"; walk_at "hcell"))
  (k_with "m:hst" => (first | ((with_reducible apply St.asgC); exact rfl; exact fun _ => rfl) | ((with_reducible apply St.asgCC); exact rfl; exact fun _ => rfl; (with_unfolding_all exact fun _ => rfl)) | ((with_reducible apply St.forC); exact rfl; (with_unfolding_all exact fun _ _ => rfl))))
  (k_with "m:hst" => (first | ((with_reducible apply St.lcE); (with_unfolding_all exact fun _ => rfl); (with_unfolding_all exact rfl); decide; exact rfl; decide; exact rfl; exact rfl; decide; exact rfl; exact rfl; exact rfl; (with_unfolding_all exact fun _ _ => rfl)) | ((with_reducible apply St.lcT); (with_unfolding_all exact fun _ => rfl); (with_unfolding_all exact rfl); decide; exact rfl; decide; exact rfl; exact rfl; (with_unfolding_all exact fun _ _ => rfl)) | ((with_reducible show St _ _ _ (Stmt.Assign _ (Expr.ListComp _ [⟨_, Expr.Tuple _ _ _, _, _⟩] _ _) _ :: _) _); (with_reducible apply St.lcTu); (with_unfolding_all exact fun _ => rfl); (with_unfolding_all exact rfl); decide; exact rfl; decide; exact rfl; exact rfl; (with_unfolding_all exact fun _ _ => rfl)) | ((with_reducible apply St.lcU); (with_unfolding_all exact fun _ => rfl); (with_unfolding_all exact rfl); decide; exact rfl; decide; exact rfl; exact rfl; (with_unfolding_all exact fun _ _ => rfl))))
  (k_with "m:hex" => ((with_reducible show Ex _ _ _ (Expr.ListComp _ _ _ _) _); first | ((with_reducible apply Ex.lcT); (with_unfolding_all exact rfl); decide; exact rfl; decide; exact rfl; (with_unfolding_all exact fun _ _ => rfl)) | ((with_reducible apply Ex.lcU); (with_unfolding_all exact rfl); decide; exact rfl; decide; exact rfl; (with_unfolding_all exact fun _ _ => rfl))))
  (k_with "m:hk" => (first | ((with_reducible apply CSt.mk'); exact rfl; exact rfl; walk_at "hupd"; walk_at "hcell") | ((with_reducible show Ey _ _ _ _ _ _); first | ((with_reducible apply Ey.own); exact rfl; walk_at "hmem"; (with_reducible assumption); (with_reducible assumption)) | ((with_reducible apply Ey.int)) | ((with_reducible apply Ey.cl); exact rfl; (with_unfolding_all exact fun _ _ => rfl); exact rfl; exact rfl; walk_at "hmem"; walk_at "hcell") | ((with_reducible apply Ey.call); exact rfl; exact rfl; exact rfl) | ((with_reducible apply Ey.callT); exact rfl; exact rfl; exact rfl; exact fun _ => rfl) | ((with_reducible apply Ey.mcall); exact fun _ => rfl; exact rfl) | ((with_reducible apply Ey.att)) | ((with_reducible apply Ey.sub)) | ((with_reducible apply Ey.gl); exact rfl; k_is)) | ((with_reducible show Ez _ _ _ _ _ _ _); first | ((with_reducible apply Ez.cons); exact fun _ => rfl) | ((with_reducible apply Ez.nil))) | ((with_reducible show Ty _ _ _ _ _ _); first | ((with_reducible apply Ty.co); exact rfl) | ((with_reducible apply Ty.co2); (with_unfolding_all exact rfl)) | ((with_reducible apply Ty.not)) | ((with_reducible apply Ty.orN)) | ((with_reducible apply Ty.or)) | ((with_reducible apply Ty.val); exact fun _ => rfl))))
  (k_with "m:hval" => ((with_reducible apply meth_i); exact rfl))
  trivial
noncomputable def expand (c : Int) : List Int :=
  if isHS c then (if (c - 44032) % 28 = 0 then [4352 + (c - 44032) / 588, 4449 + (c-44032) / 28 % 21] else [4352 + (c - 44032) / 588, 4449 + (c-44032) / 28 % 21, 4519 + (c - 44032) % 28])
  else if c = 224 then [97, 768] else [c]
theorem expand_0 {c : Int} (h1 : isHS c = false) (h2 : c ≠ 224) : expand c = [c] := by unfold expand; rw [if_neg (by simp [h1]), if_neg h2]
theorem expand_2 {c : Int} (h1 : isHS c = true) (h2 : (c - 44032) % 28 = 0) : expand c = [4352 + (c - 44032) / 588, 4449 + (c-44032) / 28 % 21] := by unfold expand; rw [if_pos h1, if_pos h2]
theorem expand_3 {c : Int} (h1 : isHS c = true) (h2 : (c - 44032) % 28 ≠ 0) : expand c = [4352 + (c - 44032) / 588, 4449 + (c-44032) / 28 % 21, 4519 + (c - 44032) % 28] := by unfold expand; rw [if_pos h1, if_neg h2]
structure Syl (c a b t : Int) : Prop where
  e : c - 44032 = (a * 21 + b) * 28 + t
  a0 : 0 ≤ a
  a1 : a < 19
  b0 : 0 ≤ b
  b1 : b < 21
  t0 : 0 ≤ t
  t1 : t < 28
theorem syl_dv {q t k : Int} (hk : 0 < k) (h : 0 ≤ t) (h' : t < k) : (q * k + t) / k = q ∧ (q * k + t) % k = t := by
  rw [Int.add_comm (q * k), Int.add_mul_ediv_right _ _ (Int.ne_of_gt hk), Int.ediv_eq_zero_of_lt h h', Int.zero_add, Int.add_mul_emod_self_right, Int.emod_eq_of_lt h h']
  exact ⟨rfl, rfl⟩
theorem syl_div {q t : Int} (h : 0 ≤ t) (h' : t < 28) : (q * 28 + t) / 28 = q ∧ (q * 28 + t) % 28 = t := syl_dv (by decide) h h'
theorem syl_div2 {q t : Int} (h : 0 ≤ t) (h' : t < 21) : (q * 21 + t) / 21 = q ∧ (q * 21 + t) % 21 = t := syl_dv (by decide) h h'
theorem syl_588 (n : Int) : n / 588 = n / 28 / 21 := (Int.ediv_ediv_of_nonneg (x := n) (y := 28) (z := 21) (by decide)).symm
theorem Syl.of {c : Int} (h : isHS c = true) : ∃ a b t, Syl c a b t :=
  ⟨(c - 44032) / 28 / 21, (c - 44032) / 28 % 21, (c - 44032) % 28, (by rw [Int.mul_comm _ 21, Int.mul_comm _ 28, Int.mul_ediv_add_emod, Int.mul_ediv_add_emod]),
    Int.ediv_nonneg (Int.ediv_nonneg (isHS_t h).1 (by decide)) (by decide), Int.ediv_lt_of_lt_mul (by decide) (Int.ediv_lt_of_lt_mul (by decide) (isHS_t h).2),
    Int.emod_nonneg _ (by decide), Int.emod_lt_of_pos _ (by decide), Int.emod_nonneg _ (by decide), Int.emod_lt_of_pos _ (by decide)⟩
theorem Syl.hs {c a b t : Int} (s : Syl c a b t) : isHS c = true := by
  obtain ⟨e, a0, a1, b0, b1, t0, t1⟩ := s
  simp only [isHS, Bool.and_eq_true, decide_eq_true_eq]
  rw [e]
  clear e
  exact ⟨by omega, by omega⟩
theorem Syl.mod {c a b t : Int} (s : Syl c a b t) : (c - 44032) % 28 = t := by rw [s.e, (syl_div s.t0 s.t1).2]
theorem Syl.exp {c a b t : Int} (s : Syl c a b t) : expand c = (4352 + a) :: (4449 + b) :: (if t = 0 then [] else [4519 + t]) := by
  unfold expand
  rw [if_pos s.hs, syl_588, s.e, (syl_div s.t0 s.t1).2, (syl_div s.t0 s.t1).1, (syl_div2 s.b0 s.b1).1, (syl_div2 s.b0 s.b1).2]
  split <;> rfl
theorem add_sub_to (k m : Int) : k + (m - k) = m := by omega
theorem isHS_f {c : Int} (h : c < 44032) : isHS c = false := by
  cases e : isHS c with
  | false => rfl
  | true => exact (Int.not_le.mpr h (Int.sub_nonneg.mp (isHS_t e).1)).elim
theorem Syl.rng {k z : Int} (h : 4352 ≤ k) (h2 : k ≤ 4519) (h3 : 0 ≤ z) (h4 : z < 28) : 4352 ≤ k + z ∧ k + z < 4547 := ⟨Int.le_trans h (Int.le_add_of_nonneg_right h3), by omega⟩
theorem hs_rng {c x : Int} (h : isHS c = true) (hx : x ∈ expand c) : 4352 ≤ x ∧ x < 4547 := by
  obtain ⟨a, b, t, s⟩ := Syl.of h
  rw [s.exp] at hx
  obtain ⟨_, a0, a1, b0, b1, t0, t1⟩ := s
  rcases List.mem_cons.mp hx with rfl | hx
  · exact Syl.rng (by decide) (by decide) a0 (Int.lt_trans a1 (by decide))
  rcases List.mem_cons.mp hx with rfl | hx
  · exact Syl.rng (by decide) (by decide) b0 (Int.lt_trans b1 (by decide))
  split at hx
  · exact nomatch hx
  · obtain rfl := List.mem_singleton.mp hx
    exact Syl.rng (by decide) (by decide) t0 t1
noncomputable abbrev expN (news : Led) (fl wl ol : Addr) (fs ws os : List Value) (n1 n2 n3 : Nat) : Led := (ol, lstO os n1) :: (wl, lstO ws n2) :: (fl, lstO fs n3) :: news
noncomputable abbrev expF (c : Int) (t : Tok) (d fl wl ol : Addr) (h p q : Option Value) : Fm := [(Str.ofString "is_compat", some (.bool false)), (Str.ofString "data", some (.ref d)), (Str.ofString "code", some (.int c t)), (Str.ofString "found", some (.ref fl)), (Str.ofString "open_codes", some (.ref ol)), (Str.ofString "waiting", some (.ref wl)), (Str.ofString "here", h), (Str.ofString "parts", p), (Str.ofString "part", q)]
theorem snoc_ne (l : List Value) (v : Value) : (!(l ++ [v]).isEmpty) = true := by cases l <;> rfl
theorem snoc_plain {l : List Value} {v : Value} (h : l.all plainB = true) (hv : plainB v = true) : (l ++ [v]).all plainB = true := by simp [h, hv]
theorem c_exp (c : Int) (t : Tok) (d tp : Addr) (news : List (Addr × Obj)) (hD : DataIn w news d tp) (hc : 0 ≤ c) : Con w 9 110 [.int c t, .ref d, .bool false] news (RetL (expand c)) := by
  refine Con.enter [(Str.ofString "is_compat", .bool false), (Str.ofString "data", .ref d), (Str.ofString "code", .int c t)] (by k_is) (by k_is) rfl rfl rfl rfl rfl rfl fun c2 hret => ?_
  walk_at "hgo"
  rename_i fl lf _ wl lw ol lo
  refine Wl.pad [Str.ofString "here", Str.ofString "parts", Str.ofString "part"] ?_
  refine Wl.by fun W hW hL => ?_
  have fin : ∀ fs cs n1 n2 n3 h p q, IntsAre fs cs → cs = expand c → W (expF c t d fl wl ol h p q) (expN news fl wl ol fs [] [] n1 n2 n3) := by
    intro fs cs n1 n2 n3 h p q hi he
    refine hW _ _ ?_
    walk_at "hgo"
    exact fin_L hret (sub_t (sub_t sub_r)) lf hi he
  have atom : ∀ ws fs os n1 n2 n3 h p q v u, 0 ≤ v → isHS v = false → v ≠ 224 → ws.all plainB = true → fs.length < 10 → ws.length < 10 → (∀ n2 n3 h p, W (expF c t d fl wl ol h p q) (expN news fl wl ol (fs ++ [.int v u]) ws os n1 n2 n3)) → W (expF c t d fl wl ol h p q) (expN news fl wl ol fs (ws ++ [.int v u]) os n1 n2 n3) := by
    intro ws fs os n1 n2 n3 h p q v u h0 h1 h2 hp hf hw hn
    have e1 := snoc_ne ws (.int v u)
    have e2 := snoc_plain (v := .int v u) hp rfl
    refine hW _ _ ?_
    walk_at "hgo"
    exact hn _ _ _ _
  have last : ∀ fs n1 n2 n3 h p q, fs.length < 10 → (∀ n1 n2 h, W (expF c t d fl wl ol h p q) (expN news fl wl ol fs [] [] n1 n2 n3)) → W (expF c t d fl wl ol h p q) (expN news fl wl ol fs ([] ++ [.none]) ([] ++ [.int c t]) n1 n2 n3) := by
    intro fs n1 n2 n3 h p q hf hn
    refine hW _ _ ?_
    walk_at "hgo"
    exact hn _ _ _
  have two : ∀ n1 n2 n3 h p q u v tu tv, 0 ≤ u → u < 44032 → u ≠ 224 → 0 ≤ v → v < 44032 → v ≠ 224 → [u, v] = expand c → W (expF c t d fl wl ol h p q) (expN news fl wl ol [] (([] ++ [.none] ++ [.int v tv]) ++ [.int u tu]) ([] ++ [.int c t]) n1 n2 n3) := by
    intro n1 n2 n3 h p q u v tu tv a1 a2 a3 b1 b2 b3 he
    refine atom _ _ _ _ _ _ _ _ _ _ _ a1 (isHS_lo a2) a3 rfl (by decide) (Nat.le_of_ble_eq_true rfl) fun _ _ _ _ => ?_
    refine atom _ _ _ _ _ _ _ _ _ _ _ b1 (isHS_lo b2) b3 rfl (Nat.le_of_ble_eq_true rfl) (Nat.le_of_ble_eq_true rfl) fun _ _ _ _ => ?_
    exact last _ _ _ _ _ _ _ (Nat.le_of_ble_eq_true rfl) fun _ _ _ => fin _ _ _ _ _ _ _ _ (.cons _ _ (.cons _ _ .nil)) he
  have three : ∀ n1 n2 n3 h p q u v z tu tv tz, 0 ≤ u → u < 44032 → u ≠ 224 → 0 ≤ v → v < 44032 → v ≠ 224 → 0 ≤ z → z < 44032 → z ≠ 224 → [u, v, z] = expand c → W (expF c t d fl wl ol h p q) (expN news fl wl ol [] (([] ++ [.none] ++ [.int z tz] ++ [.int v tv]) ++ [.int u tu]) ([] ++ [.int c t]) n1 n2 n3) := by
    intro n1 n2 n3 h p q u v z tu tv tz a1 a2 a3 b1 b2 b3 d1 d2 d3 he
    refine atom _ _ _ _ _ _ _ _ _ _ _ a1 (isHS_lo a2) a3 rfl (by decide) (Nat.le_of_ble_eq_true rfl) fun _ _ _ _ => ?_
    refine atom _ _ _ _ _ _ _ _ _ _ _ b1 (isHS_lo b2) b3 rfl (Nat.le_of_ble_eq_true rfl) (Nat.le_of_ble_eq_true rfl) fun _ _ _ _ => ?_
    refine atom _ _ _ _ _ _ _ _ _ _ _ d1 (isHS_lo d2) d3 rfl (Nat.le_of_ble_eq_true rfl) (Nat.le_of_ble_eq_true rfl) fun _ _ _ _ => ?_
    exact last _ _ _ _ _ _ _ (Nat.le_of_ble_eq_true rfl) fun _ _ _ => fin _ _ _ _ _ _ _ _ (.cons _ _ (.cons _ _ (.cons _ _ .nil))) he
  cases h1 : isHS c with
  | false =>
    by_cases h2 : c = 224
    · subst h2
      obtain ⟨tq, t5, t6, t7, q1, q2⟩ := hD.tup
      show W (expF 224 t d fl wl ol none none none) (expN news fl wl ol [] ([] ++ [.int 224 t]) [] 0 0 0)
      refine hW _ _ ?_
      walk_at "hgo"
      exact hL _ _ _ (by walk_at "hsub") (two _ _ _ _ _ _ 97 768 _ _ (by decide) (by decide) (by decide) (by decide) (by decide) (by decide) (by decide))
    · exact atom [] [] [] _ _ _ _ _ _ _ _ hc h1 h2 rfl (by decide) (by decide) fun _ _ _ _ => fin _ _ _ _ _ _ _ _ (.cons _ _ .nil) (expand_0 h1 h2).symm
  | true =>
    have hb := isHS_t h1
    show W (expF c t d fl wl ol none none none) (expN news fl wl ol [] ([] ++ [.int c t]) [] 0 0 0)
    by_cases h2 : (c - 44032) % 28 = 0
    · refine hW _ _ ?_
      walk_at "hgo"
      exact hL _ _ _ (by walk_at "hsub") (two _ _ _ _ _ _ _ _ _ _ (by omega) (by omega) (by omega) (by omega) (by omega) (by omega) (expand_2 h1 h2).symm)
    · refine hW _ _ ?_
      walk_at "hgo"
      exact hL _ _ _ (by walk_at "hsub") (three _ _ _ _ _ _ _ _ _ _ _ _ (by omega) (by omega) (by omega) (by omega) (by omega) (by omega) (by omega) (by omega) (by omega) (expand_3 h1 h2).symm)
section
variable {prog : Program} {A : Around} {E : Value → Shared → Prop} {s : Shared} {a₀ : Array Keyed} {ix : Keyed → Int}
noncomputable def Jx (ix : Keyed → Int) (xs : Array Keyed) (i : Nat) : Int := match xs[i]? with
  | some p => ix p
  | none => 0
theorem Jx_congr {xs ys : Array Keyed} {i j : Nat} (h : xs[i]? = ys[j]?) : Jx ix xs i = Jx ix ys j := by unfold Jx; rw [h]
noncomputable def SL (ix : Keyed → Int) (xs : Array Keyed) (i j : Nat) : Prop := K xs i < K xs j ∨ (K xs i = K xs j ∧ Jx ix xs i < Jx ix xs j)
theorem SL_congr {xs ys : Array Keyed} {i j i' j' : Nat} (h1 : ys[i]? = xs[i']?) (h2 : ys[j]? = xs[j']?) (h : SL ix xs i' j') : SL ix ys i j := by
  unfold SL; rw [K_congr h1, K_congr h2, Jx_congr h1, Jx_congr h2]; exact h
/-- where an item of the moved array stood -/
inductive BuC (xs ys : Array Keyed) (l k i : Nat) : Prop
  | a (h : i < l) (e : ys[i]? = xs[i]?) : BuC xs ys l k i
  | b (h : i = l) (e : ys[i]? = xs[k]?) : BuC xs ys l k i
  | c (i' : Nat) (h : l ≤ i') (h2 : i' < k) (h3 : i = i' + 1) (e : ys[i]? = xs[i']?) : BuC xs ys l k i
  | d (h : k < i) (e : ys[i]? = xs[i]?) : BuC xs ys l k i
theorem bu_c {xs : Array Keyed} {k l : Nat} (hk : k < xs.size) (hl : l ≤ k) (i : Nat) : BuC xs (bubble xs k (k - l)) l k i := by
  have e := getElem?_bubble hk (k - l) (Nat.sub_le _ _) i
  rw [Nat.sub_sub_self hl] at e
  rcases Nat.lt_trichotomy i l with h | h | h
  · rw [if_neg (Nat.ne_of_lt h), if_neg fun q => Nat.lt_asymm h q.1] at e; exact .a h e
  · rw [if_pos h] at e; exact .b h e
  · rw [if_neg (Nat.ne_of_gt h)] at e
    by_cases q : i ≤ k
    · rw [if_pos ⟨h, q⟩] at e
      cases i with
      | zero => exact (Nat.not_lt_zero _ h).elim
      | succ i => exact .c i (Nat.le_of_lt_succ h) q rfl e
    · rw [if_neg fun z => q z.2] at e; exact .d (Nat.lt_of_not_le q) e
inductive MiC (xs ys : Array Keyed) (p q i : Nat) : Prop
  | inn (i' : Nat) (h1 : p ≤ i) (h2 : p ≤ i') (h : i + i' + 1 = p + q) (e : ys[i]? = xs[i']?) : MiC xs ys p q i
  | out (h : i < p ∨ q ≤ i) (e : ys[i]? = xs[i]?) : MiC xs ys p q i
theorem mi_o {xs : Array Keyed} {p q i : Nat} (hq : q ≤ xs.size) (h : i < p ∨ q ≤ i) : (mirror xs p q ((q - p) / 2))[i]? = xs[i]? := by
  rw [getElem?_mirror_all hq, if_neg fun z => h.elim (fun a => Nat.not_lt_of_le z.1 a) fun a => Nat.not_lt_of_le a z.2]
theorem mi_i {xs : Array Keyed} {p q i i' : Nat} (hq : q ≤ xs.size) (h1 : p ≤ i) (h2 : p ≤ i') (h : i + i' + 1 = p + q) : (mirror xs p q ((q - p) / 2))[i]? = xs[i']? := by
  rw [getElem?_mirror_all hq, if_pos ⟨h1, by omega⟩, show p + q - 1 - i = i' by omega]
theorem mi_c {xs : Array Keyed} {p q : Nat} (hq : q ≤ xs.size) (i : Nat) : MiC xs (mirror xs p q ((q - p) / 2)) p q i := by
  by_cases h1 : p ≤ i
  · by_cases h2 : i < q
    · have a : p ≤ p + q - 1 - i := by omega
      have b : i + (p + q - 1 - i) + 1 = p + q := by omega
      exact .inn _ h1 a b (mi_i hq h1 a b)
    · exact .out (.inr (Nat.le_of_not_lt h2)) (mi_o hq (.inr (Nat.le_of_not_lt h2)))
  · exact .out (.inl (Nat.lt_of_not_le h1)) (mi_o hq (.inl (Nat.lt_of_not_le h1)))
/-- put in order, those of one key as they stood -/
noncomputable def Srt (ix : Keyed → Int) (xs : Array Keyed) (x : Nat) : Prop := ∀ i j, i < j → j < x → SL ix xs i j
noncomputable def Dsc (ix : Keyed → Int) (xs : Array Keyed) (x : Nat) : Prop := ∀ i j, i < j → j < x → SL ix xs j i
noncomputable def Apt (ix : Keyed → Int) (xs : Array Keyed) (x : Nat) : Prop := ∀ i j, i < j → x ≤ j → j < xs.size → Jx ix xs i < Jx ix xs j
theorem SL.le {xs : Array Keyed} {i j : Nat} (h : SL ix xs i j) : K xs i ≤ K xs j := h.elim Int.le_of_lt fun q => Int.le_of_eq q.1
theorem SL.mk {xs : Array Keyed} {i j : Nat} (h : K xs i ≤ K xs j) (q : Jx ix xs i < Jx ix xs j) : SL ix xs i j := (Int.lt_or_eq_of_le h).imp_right fun e => ⟨e, q⟩
theorem Srt.to {xs : Array Keyed} {x : Nat} (h : Srt ix xs x) : SortedTo xs x := fun i j hij hj => (Nat.eq_or_lt_of_le hij).elim (fun e => e ▸ Int.le_refl _) fun e => (h i j e hj).le
theorem Apt.mono {xs : Array Keyed} {x y : Nat} (h : Apt ix xs x) (e : x ≤ y) : Apt ix xs y := fun i j hij hj hs => h i j hij (Nat.le_trans e hj) hs
theorem Apt.mirror {xs : Array Keyed} {x p q : Nat} (h : Apt ix xs x) (hq : q ≤ x) (hx : x ≤ xs.size) : Apt ix (mirror xs p q ((q - p) / 2)) x := by
  intro i j hij hj hs
  rw [mirror_size] at hs
  have hq' := Nat.le_trans hq hx
  rw [Jx_congr (mi_o hq' (.inr (Nat.le_trans hq hj)))]
  cases mi_c (p := p) hq' i with
  | inn i' h1 h2 h3 e => rw [Jx_congr e]; exact h _ _ (Nat.lt_of_lt_of_le (by omega : i' < q) (Nat.le_trans hq hj)) hj hs
  | out _ e => rw [Jx_congr e]; exact h _ _ hij hj hs
theorem Apt.bubble {xs : Array Keyed} {k l : Nat} (h : Apt ix xs k) (hl : l ≤ k) (hk : k < xs.size) : Apt ix (bubble xs k (k - l)) (k + 1) := by
  intro i j hij hj hs
  rw [bubble_size] at hs
  have hj' := Nat.le_of_lt hj
  cases bu_c hk hl j with
  | a q _ => exact (Nat.lt_asymm (Nat.lt_of_lt_of_le q hl) hj).elim
  | b q _ => exact (Nat.not_lt_of_le hl (q ▸ hj)).elim
  | c j' _ q q2 _ => subst q2; exact (Nat.not_lt_of_le q hj).elim
  | d _ e =>
    rw [Jx_congr e]
    cases bu_c hk hl i with
    | a _ e => rw [Jx_congr e]; exact h _ _ hij hj' hs
    | b _ e => rw [Jx_congr e]; exact h _ _ hj hj' hs
    | c i' _ _ q e => subst q; rw [Jx_congr e]; exact h _ _ (Nat.lt_of_succ_lt hij) hj' hs
    | d _ e => rw [Jx_congr e]; exact h _ _ hij hj' hs
theorem Srt.bubble {xs : Array Keyed} {k l : Nat} (h : Srt ix xs k) (hA : Apt ix xs k) (hl : l ≤ k) (hk : k < xs.size) (hlo : ∀ i, i < l → K xs i ≤ K xs k) (hhi : ∀ i, l ≤ i → i < k → K xs k < K xs i) : Srt ix (bubble xs k (k - l)) (k + 1) := by
  intro i j hij hj
  have hjk := Nat.le_of_lt_succ hj
  cases bu_c hk hl j with
  | a q e => cases bu_c hk hl i with
    | a _ e2 => exact SL_congr e2 e (h _ _ hij (Nat.lt_of_lt_of_le q hl))
    | b q2 _ => exact (Nat.lt_asymm q (q2 ▸ hij)).elim
    | c i' q2 _ q3 _ => subst q3; exact (Nat.lt_asymm q (Nat.lt_of_le_of_lt q2 (Nat.lt_of_succ_lt hij))).elim
    | d q2 _ => exact (Nat.not_lt_of_le hjk (Nat.lt_trans q2 hij)).elim
  | b q e => cases bu_c hk hl i with
    | a q2 e2 => exact SL_congr e2 e (SL.mk (hlo _ q2) (hA _ _ (Nat.lt_of_lt_of_le q2 hl) (Nat.le_refl _) hk))
    | b q2 _ => exact (Nat.ne_of_lt hij (q2.trans q.symm)).elim
    | c i' q2 _ q3 _ => subst q3; exact (Nat.not_lt_of_le q2 (q ▸ Nat.lt_of_succ_lt hij)).elim
    | d q2 _ => exact (Nat.not_lt_of_le hjk (Nat.lt_trans q2 hij)).elim
  | c j' q q1 q2 e => cases bu_c hk hl i with
    | a q3 e2 => exact SL_congr e2 e (h _ _ (Nat.lt_of_lt_of_le q3 q) q1)
    | b _ e2 => exact SL_congr e2 e (.inl (hhi _ q q1))
    | c i' _ _ q3 e2 => subst q2; subst q3; exact SL_congr e2 e (h _ _ (Nat.lt_of_succ_lt_succ hij) q1)
    | d q2 _ => exact (Nat.not_lt_of_le hjk (Nat.lt_trans q2 hij)).elim
  | d q _ => exact (Nat.not_lt_of_le hjk q).elim
theorem Srt.step {xs : Array Keyed} {x : Nat} (h : Srt ix xs x) (a : Apt ix xs x) (hx : x < xs.size) (hk : ¬ K xs x < K xs (x - 1)) : Srt ix xs (x + 1) := by
  intro i j hij hj
  rcases Nat.eq_or_lt_of_le (Nat.le_of_lt_succ hj) with e | e
  · subst e
    cases j with
    | zero => exact (Nat.not_lt_zero _ hij).elim
    | succ y =>
      exact SL.mk (Int.le_trans (h.to i y (Nat.le_of_lt_succ hij) (Nat.lt_succ_self _)) (Int.not_lt.mp hk)) (a _ _ hij (Nat.le_refl _) hx)
  · exact h i j hij e
theorem wpS_lt2 {st : SortSt} {i j : Nat} {Q : Option Bool → SortSt → Prop} (hB : SBase a₀ st) (h0 : IntKeys a₀) (hi : i < a₀.size) (hj : j < a₀.size)
    (h : K (arrOf st) i < K (arrOf st) j → Q (some true) st) (h' : ¬ K (arrOf st) i < K (arrOf st) j → Q (some false) st) : wpS (model prog w) A E s (ltAt' i j) Q st := by
  refine wpS_ltK hB h0 hi hj ?_
  by_cases e : K (arrOf st) i < K (arrOf st) j
  · rw [decide_eq_true e]; exact h e
  · rw [decide_eq_false e]; exact h' e
theorem wpB_ascLoop {st : SortSt} {a nrem : Nat} {Q : AscSt → SortSt → Prop} (h0 : IntKeys a₀) (hn : nrem ≤ a₀.size) (ha : 1 ≤ a) (han : a ≤ nrem) (hB : SBase a₀ st)
    (hs : Srt ix (arrOf st) a) (hA : Apt ix (arrOf st) a)
    (h : ∀ n, a ≤ n → n ≤ nrem → Srt ix (arrOf st) n → (n = nrem ∨ K (arrOf st) n < K (arrOf st) (n - 1)) → Q (none, n) st) :
    wpS (model prog w) A E s (ascLoop a nrem) Q st := by
  unfold ascLoop
  refine wpS_forRange (I := fun x c st' => st' = st ∧ c = (none, x) ∧ Srt ix (arrOf st) x) ?step ?fin ⟨rfl, rfl, hs⟩
  case fin =>
    rintro c st' ⟨rfl, rfl, hs'⟩
    rw [show max a nrem = nrem by lia] at hs' ⊢
    exact h nrem han (Nat.le_refl _) hs' (.inl rfl)
  case step =>
    rintro x c st' hax hxn ⟨rfl, rfl, hs'⟩
    dsimp only
    refine wpS_bind (wpS_lt2 hB h0 (by lia) (by lia) (fun hless => ?_) fun hless => ?_)
    · dsimp only
      rw [if_pos rfl]
      exact wpS_pure (h x hax (by lia) hs' (.inr hless))
    · dsimp only
      rw [if_neg Bool.false_ne_true]
      exact wpS_pure ⟨rfl, rfl, hs'.step (hA.mono hax) (by rw [hB.size]; lia) hless⟩
theorem Dsc.mirror {xs : Array Keyed} {n : Nat} (h : Dsc ix xs n) (hn : n ≤ xs.size) : Srt ix (mirror xs 0 n ((n - 0) / 2)) n := by
  intro i j hij hj
  refine SL_congr (mi_i hn (Nat.zero_le _) (Nat.zero_le _) (by omega : i + (n - 1 - i) + 1 = 0 + n)) (mi_i hn (Nat.zero_le _) (Nat.zero_le _) (by omega : j + (n - 1 - j) + 1 = 0 + n)) (h _ _ (by omega) (by omega))
theorem wpB_tail3 {st : SortSt} {n nrem : Nat} {Q : Option Nat → SortSt → Prop} (h0 : IntKeys a₀) (hn : nrem ≤ a₀.size) (h1 : 1 ≤ n) (hnn : n ≤ nrem) (hB : SBase a₀ st)
    (hs : Dsc ix (arrOf st) n) (hA : Apt ix (arrOf st) n) (h : ∀ m st', SBase a₀ st' → 1 ≤ m → m ≤ nrem → Srt ix (arrOf st') m → Apt ix (arrOf st') m → Q (some m) st') :
    wpS (model prog w) A E s (tail3 n nrem) Q st := by
  unfold tail3
  have hsz : n ≤ (arrOf st).size := by rw [hB.size]; lia
  refine wpS_bind (wpS_reverse ?_)
  have hB' : SBase a₀ (setArr st (mirror (arrOf st) 0 n ((n - 0) / 2))) := hB.setArr (mirror_perm _ _ _ _)
  have hA' : Apt ix (mirror (arrOf st) 0 n ((n - 0) / 2)) n := hA.mirror (Nat.le_refl _) hsz
  refine wpS_bind (wpB_ascLoop h0 hn h1 hnn hB' ?_ hA' fun m hm1 hm2 hsm _ => wpS_pure (h m _ hB' (by lia) hm2 hsm (hA'.mono hm1)))
  exact hs.mirror hsz
/-- down to the last block, whose keys are one and which stands as it stood -/
noncomputable def Blk (ix : Keyed → Int) (xs : Array Keyed) (b m : Nat) : Prop := ∀ i j, i < j → j < m →
  (b ≤ i → K xs i = K xs j ∧ Jx ix xs i < Jx ix xs j) ∧ (i < b → b ≤ j → K xs j < K xs i) ∧ (j < b → SL ix xs j i)
theorem Blk.mirror {xs : Array Keyed} {b m : Nat} (h : Blk ix xs b m) (hm : m ≤ xs.size) : Dsc ix (mirror xs b m ((m - b) / 2)) m := by
  intro i j hij hj
  cases mi_c (p := b) hm j with
  | inn j' h1 h2 h3 e => cases mi_c (p := b) hm i with
    | inn i' q1 q2 q3 e2 =>
      have h4 : j' < i' := by omega
      have h5 : i' < m := by omega
      exact SL_congr e e2 (.inr ((h _ _ h4 h5).1 h2))
    | out q e2 =>
      have q := q.resolve_right (Nat.not_le_of_lt (Nat.lt_trans hij hj))
      have h5 : j' < m := by omega
      exact SL_congr e e2 (.inl ((h _ _ (Nat.lt_of_lt_of_le q h2) h5).2.1 q h2))
  | out q e =>
    have q := q.resolve_right (Nat.not_le_of_lt hj)
    exact SL_congr e (mi_o hm (.inl (Nat.lt_trans hij q))) ((h i j hij hj).2.2 q)
theorem Blk.one {xs : Array Keyed} {m : Nat} (h : Blk ix xs m (m + 1)) : Dsc ix xs (m + 1) := by
  intro i j hij hj
  rcases Nat.eq_or_lt_of_le (Nat.le_of_lt_succ hj) with e | e
  · exact .inl ((h i j hij hj).2.1 (e ▸ hij) (Nat.le_of_eq e.symm))
  · exact (h i j hij hj).2.2 e
theorem Dsc.next {xs : Array Keyed} {y : Nat} (h : Dsc ix xs (y + 1)) (hk : K xs (y + 1) < K xs y) : Blk ix xs (y + 1) (y + 2) := by
  intro i j hij hj
  have hj' := Nat.le_of_lt_succ hj
  refine ⟨fun e => (Nat.lt_irrefl _ (Nat.lt_of_lt_of_le (Nat.lt_of_le_of_lt e hij) hj')).elim, fun e1 e2 => ?_, fun e => h i j hij e⟩
  obtain rfl := Nat.le_antisymm hj' e2
  rcases Nat.eq_or_lt_of_le (Nat.le_of_lt_succ e1) with e | e
  · rw [e]; exact hk
  · exact Int.lt_of_lt_of_le hk (h i y e (Nat.lt_succ_self _)).le
theorem blk_flip {xs : Array Keyed} {b y : Nat} (h : Blk ix xs b (y + 1)) (hb : b ≤ y) (hx : y + 1 < xs.size) (hk : K xs (y + 1) < K xs y) : Blk ix (mirror xs b (y + 1) ((y + 1 - b) / 2)) (y + 1) (y + 2) := by
  refine Dsc.next (h.mirror (Nat.le_of_lt hx)) ?_
  rw [K_congr (mi_o (Nat.le_of_lt hx) (.inr (Nat.le_refl _))), K_congr (mi_i (i := y) (i' := b) (Nat.le_of_lt hx) hb (Nat.le_refl _) (by omega))]
  rcases Nat.eq_or_lt_of_le hb with q | q
  · rw [q]; exact hk
  · rw [((h b y q (Nat.lt_succ_self _)).1 (Nat.le_refl _)).1]; exact hk
/-- one more of the same key -/
theorem Blk.more {xs : Array Keyed} {b y : Nat} (h : Blk ix xs b (y + 1)) (hA : Apt ix xs (y + 1)) (hb : b ≤ y) (hx : y + 1 < xs.size) (hk : K xs y = K xs (y + 1)) : Blk ix xs b (y + 2) := by
  intro i j hij hj
  rcases Nat.eq_or_lt_of_le (Nat.le_of_lt_succ hj) with e | e
  · subst e
    refine ⟨fun e => ⟨?_, hA _ _ hij (Nat.le_refl _) hx⟩, fun e1 e2 => ?_, fun e => (Nat.not_lt_of_le hb (Nat.lt_of_succ_lt e)).elim⟩
    · rcases Nat.eq_or_lt_of_le (Nat.le_of_lt_succ hij) with q | q
      · rw [q]; exact hk
      · exact ((h i y q (Nat.lt_succ_self _)).1 e).1.trans hk
    · rw [← hk]; exact (h i y (Nat.lt_of_lt_of_le e1 hb) (Nat.lt_succ_self _)).2.1 e1 hb
  · exact h i j hij e
inductive DscI (ix : Keyed → Int) (a₀ : Array Keyed) (x : Nat) (c : DescSt) (st : SortSt) : Prop
  | mk (neq y b : Nat) (hx : x = y + 1) (hc : c = (none, x, neq)) (hb : b + neq = y) (hB : SBase a₀ st) (hs : Blk ix (arrOf st) b x) (hA : Apt ix (arrOf st) x) : DscI ix a₀ x c st
theorem wpB_descLoop {st : SortSt} {y nrem : Nat} {Q : DescSt → SortSt → Prop} (h0 : IntKeys a₀) (hn : nrem ≤ a₀.size) (hnn : y + 1 ≤ nrem) (hB : SBase a₀ st)
    (hs : Blk ix (arrOf st) y (y + 1)) (hA : Apt ix (arrOf st) (y + 1))
    (h : ∀ b neq st', SBase a₀ st' → b + neq + 1 ≤ nrem → Blk ix (arrOf st') b (b + neq + 1) → Apt ix (arrOf st') (b + neq + 1) → Q (none, b + neq + 1, neq) st') :
    wpS (model prog w) A E s (descLoop (y + 1) nrem) Q st := by
  unfold descLoop
  refine wpS_forRange (I := DscI ix a₀) ?step ?fin ⟨0, y, y, rfl, rfl, rfl, hB, hs, hA⟩
  case fin =>
    rintro c st' ⟨neq, y', b, hx, rfl, rfl, hB', hs', hA'⟩
    rw [Nat.max_eq_right hnn] at hx hs' hA' ⊢
    subst hx
    exact h _ _ _ hB' (Nat.le_refl _) hs' hA'
  case step =>
    rintro x c st' hax hxn ⟨neq, y', b, rfl, rfl, hb, hB', hs', hA'⟩
    clear hs hA hB
    dsimp only
    have hxa : y' + 1 < a₀.size := Nat.lt_of_lt_of_le hxn hn
    have hsz : y' + 1 < (arrOf st').size := by rw [hB'.size]; exact hxa
    rw [Nat.add_sub_cancel]
    have hya := Nat.lt_of_succ_lt hxa
    refine wpS_bind (wpS_lt2 hB' h0 hxa hya (fun hless => ?_) fun hless => ?_)
    · dsimp only
      by_cases hneq : neq > 0
      · rw [if_pos rfl, if_pos hneq, show y' + 1 - (neq + 1) = b from by omega]
        refine wpS_bind (wpS_reverse (wpS_pure ⟨0, y' + 1, y' + 1, rfl, rfl, rfl, hB'.setArr (mirror_perm _ _ _ _), ?_, (hA'.mirror (Nat.le_refl _) (Nat.le_of_lt hsz)).mono (Nat.le_succ _)⟩))
        exact blk_flip hs' (Nat.le.intro hb) hsz hless
      · obtain rfl := Nat.eq_zero_of_not_pos hneq
        subst hb
        rw [if_pos rfl, if_neg hneq]
        exact wpS_pure ⟨0, b + 0 + 1, b + 0 + 1, rfl, rfl, rfl, hB', Dsc.next hs'.one hless, hA'.mono (Nat.le_succ _)⟩
    · dsimp only
      rw [if_neg Bool.false_ne_true]
      refine wpS_bind (wpS_lt2 hB' h0 hya hxa (fun hlarger => ?_) fun hlarger => ?_)
      · dsimp only
        rw [if_pos rfl]
        subst hb
        exact wpS_pure (h _ _ _ hB' (Nat.le_of_lt hxn) hs' hA')
      · dsimp only
        rw [if_neg Bool.false_ne_true]
        exact wpS_pure ⟨neq + 1, y' + 1, b, rfl, rfl, congrArg (· + 1) hb, hB', hs'.more hA' (Nat.le.intro hb) hsz (Int.le_antisymm (Int.not_lt.mp hless) (Int.not_lt.mp hlarger)), hA'.mono (Nat.le_succ _)⟩
theorem wpB_descPart {st : SortSt} {n nrem : Nat} {Q : Option Nat → SortSt → Prop} (h0 : IntKeys a₀) (hn : nrem ≤ a₀.size) (hnn : n + 1 ≤ nrem) (hB : SBase a₀ st)
    (hs : Blk ix (arrOf st) n (n + 1)) (hA : Apt ix (arrOf st) (n + 1)) (h : ∀ m st', SBase a₀ st' → 1 ≤ m → m ≤ nrem → Srt ix (arrOf st') m → Apt ix (arrOf st') m → Q (some m) st') :
    wpS (model prog w) A E s (descPart n nrem) Q st := by
  unfold descPart
  refine wpS_bind (wpS_lift (wpAny_rule ⟨rfl, ?_⟩))
  refine wpS_bind (wpB_descLoop h0 hn hnn hB hs hA fun b neq st' hB' hm2 hs' hA' => ?_)
  dsimp only
  have hsz : b + neq + 1 ≤ (arrOf st').size := by rw [hB'.size]; exact Nat.le_trans hm2 hn
  by_cases hneq : neq > 0
  · rw [if_pos hneq, show b + neq + 1 - (neq + 1) = b from by omega]
    exact wpS_bind (wpS_reverse (wpB_tail3 h0 hn (Nat.succ_pos _) hm2 (hB'.setArr (mirror_perm _ _ _ _)) (hs'.mirror hsz) (hA'.mirror (Nat.le_refl _) hsz) h))
  · obtain rfl := Nat.eq_zero_of_not_pos hneq
    rw [if_neg hneq]
    exact wpB_tail3 h0 hn (Nat.succ_pos _) hm2 hB' hs'.one hA' h
theorem wpB_countRun {st : SortSt} {nrem : Nat} {Q : Option Nat → SortSt → Prop} (h0 : IntKeys a₀) (hn : nrem ≤ a₀.size) (h1 : 1 ≤ nrem) (hB : SBase a₀ st) (hA : Apt ix (arrOf st) 0)
    (h : ∀ m st', SBase a₀ st' → 1 ≤ m → m ≤ nrem → Srt ix (arrOf st') m → Apt ix (arrOf st') m → Q (some m) st') :
    wpS (model prog w) A E s (countRun' 0 nrem) Q st := by
  rw [countRun0_eq]
  refine wpS_bind (wpB_ascLoop h0 hn (Nat.le_refl 1) h1 hB (fun i j hij hj => (Nat.not_lt_zero _ (Nat.lt_of_lt_of_le hij (Nat.le_of_lt_succ hj))).elim) (hA.mono (Nat.zero_le _)) fun n hn1 hn2 hsn hor => ?_)
  have hAn : Apt ix (arrOf st) n := hA.mono (Nat.zero_le _)
  dsimp only
  by_cases hnn : n = nrem
  · rw [if_pos (by simpa using hnn)]
    exact wpS_pure (h n st hB hn1 hn2 hsn hAn)
  · rw [if_neg (by simpa using hnn)]
    have hlt : K (arrOf st) n < K (arrOf st) (n - 1) := hor.resolve_left hnn
    have hn3 : n < nrem := Nat.lt_of_le_of_ne hn2 hnn
    clear hor hnn
    cases n with
    | zero => exact (Nat.not_lt_zero _ hn1).elim
    | succ y =>
    rw [Nat.add_sub_cancel] at hlt ⊢
    have hxa := Nat.lt_of_lt_of_le hn3 hn
    have hsz : y + 1 < (arrOf st).size := by rw [hB.size]; exact hxa
    by_cases hgt : y + 1 > 1
    · rw [if_pos hgt]
      refine wpS_bind (wpS_lt2 hB h0 (Nat.zero_lt_of_lt hxa) (Nat.lt_of_succ_lt hxa) (fun hrose => ?_) fun hrose => ?_)
      · dsimp only
        rw [if_pos rfl]
        exact wpS_pure (h _ st hB hn1 hn2 hsn hAn)
      · dsimp only
        rw [if_neg Bool.false_ne_true]
        have hall : Blk ix (arrOf st) 0 (y + 1) := fun i j hij hj => by
          have a1 := hsn.to 0 i (Nat.zero_le _) (Nat.lt_trans hij hj)
          have a2 := hsn.to j y (Nat.le_of_lt_succ hj) (Nat.lt_succ_self _)
          refine ⟨fun _ => (hsn i j hij hj).resolve_left fun q => hrose (Int.lt_of_lt_of_le (Int.lt_of_le_of_lt a1 q) a2), fun e => (Nat.not_lt_zero _ e).elim, fun e => (Nat.not_lt_zero _ e).elim⟩
        exact wpS_bind (wpS_reverse (wpB_descPart h0 hn hn3 (hB.setArr (mirror_perm _ _ _ _)) (blk_flip hall (Nat.zero_le _) hsz hlt) ((hAn.mirror (Nat.le_refl _) (Nat.le_of_lt hsz)).mono (Nat.le_succ _)) h))
    · rw [if_neg hgt]
      obtain rfl : y = 0 := Nat.eq_zero_of_not_pos fun q => hgt (Nat.succ_lt_succ q)
      refine wpB_descPart h0 hn hn3 hB ?_ (hA.mono (Nat.zero_le _)) h
      exact Dsc.next (fun i j hij hj => (Nat.not_lt_zero _ (Nat.lt_of_lt_of_le hij (Nat.le_of_lt_succ hj))).elim) hlt
inductive BinI (ix : Keyed → Int) (a₀ : Array Keyed) (n k : Nat) (c : Option Bool × Unit) (st : SortSt) : Prop
  | mk (hc : c = (none, ())) (hB : SBase a₀ st) (hk : k ≤ n) (hs : Srt ix (arrOf st) k) (hA : Apt ix (arrOf st) k) : BinI ix a₀ n k c st
inductive HalfI (st0 : SortSt) (k x : Nat) (c : Option Bool × Nat × Nat) (st : SortSt) : Prop
  | mk (l r : Nat) (hc : c = (none, l, r)) (e : st = st0) (h1 : l ≤ r) (h2 : r ≤ k) (h3 : r + x ≤ k + l) (hlo : ∀ i, i < l → K (arrOf st0) i ≤ K (arrOf st0) k) (hhi : ∀ i, r ≤ i → i < k → K (arrOf st0) k < K (arrOf st0) i) : HalfI st0 k x c st
theorem HalfI.two {l r k x : Nat} (h : l < r) (h3 : r + x ≤ k + l) : ∃ m, (l + r) / 2 = m ∧ l ≤ m ∧ m < r ∧ m + (x + 1) ≤ k + l ∧ r + (x + 1) ≤ k + (m + 1) :=
  ⟨_, rfl, by omega, by omega, by omega, by omega⟩
inductive HalfE (st0 : SortSt) (k : Nat) (c : Option Bool × Nat × Nat) (st : SortSt) : Prop
  | mk (l : Nat) (hc : c = (none, l, l)) (e : st = st0) (h2 : l ≤ k) (hlo : ∀ i, i < l → K (arrOf st0) i ≤ K (arrOf st0) k) (hhi : ∀ i, l ≤ i → i < k → K (arrOf st0) k < K (arrOf st0) i) : HalfE st0 k c st
theorem wpB_binarySort {st : SortSt} {n ok : Nat} {Q : Bool → SortSt → Prop} (h0 : IntKeys a₀) (hn : n ≤ a₀.size) (hok : ok ≤ n) (h1 : 1 ≤ ok) (hB : SBase a₀ st) (hs : Srt ix (arrOf st) ok) (hA : Apt ix (arrOf st) ok)
    (h : ∀ st', SBase a₀ st' → Srt ix (arrOf st') n → Q true st') : wpS (model prog w) A E s (binarySort' 0 n ok) Q st := by
  rw [binarySort'_eq]
  simp only [Nat.zero_add]
  rw [Nat.max_eq_left h1]
  refine wpS_bind (wpS_mono (wpS_forRange (I := BinI ix a₀ n) (Q := BinI ix a₀ n n) ?step ?fin ⟨rfl, hB, hok, hs, hA⟩) ?post)
  case post =>
    rintro c st' ⟨rfl, hB', _, hs', _⟩
    exact wpS_pure (h st' hB' hs')
  case fin =>
    intro c st' hh
    rwa [Nat.max_eq_right hok] at hh
  case step =>
    rintro k c st' hak hkn ⟨rfl, hB', _, hs', hA'⟩
    clear hs hA hB h hak h1 hok
    have hk : k < a₀.size := Nat.lt_of_lt_of_le hkn hn
    refine wpS_bind (wpS_mono (wpS_forRange (I := HalfI st' k) (Q := HalfE st' k) ?istep ?ifin ?iinit) ?ipost)
    case iinit => exact ⟨0, k, rfl, rfl, Nat.zero_le _, Nat.le_refl _, Nat.le_refl _, fun i hi => (Nat.not_lt_zero _ hi).elim, fun i h1 h2 => (Nat.not_lt_of_le h1 h2).elim⟩
    case ifin =>
      rintro c st'' ⟨l, r, rfl, rfl, hlr, hrk, hm, hlo, hhi⟩
      rw [Nat.max_eq_right (Nat.zero_le _), Nat.add_comm k l] at hm
      obtain rfl := Nat.le_antisymm hlr (Nat.le_of_add_le_add_right hm)
      exact ⟨l, rfl, rfl, hrk, hlo, hhi⟩
    case istep =>
      rintro x c st'' _ hxk ⟨l, r, rfl, rfl, hlr, hrk, hm, hlo, hhi⟩
      dsimp only
      by_cases hge : l ≥ r
      · rw [if_pos hge]
        obtain rfl := Nat.le_antisymm hlr hge
        exact wpS_pure ⟨l, rfl, rfl, hrk, hlo, hhi⟩
      · rw [if_neg hge]
        obtain ⟨m, e, m1, m2, m3, m4⟩ := HalfI.two (Nat.lt_of_not_le hge) hm
        have hmk := Nat.lt_of_lt_of_le m2 hrk
        rw [e]
        refine wpS_bind (wpS_lt2 hB' h0 hk (Nat.lt_trans hmk hk) (fun hless => ?_) fun hless => ?_)
        · dsimp only
          rw [if_pos rfl]
          exact wpS_pure ⟨l, m, rfl, rfl, m1, Nat.le_of_lt hmk, m3, hlo, fun i h1 h2 => Int.lt_of_lt_of_le hless (hs'.to _ _ h1 h2)⟩
        · dsimp only
          rw [if_neg Bool.false_ne_true]
          exact wpS_pure ⟨m + 1, r, rfl, rfl, m2, hrk, m4, fun i h1 => Int.le_trans (hs'.to i m (Nat.le_of_lt_succ h1) hmk) (Int.not_lt.mp hless), hhi⟩
    case ipost =>
      rintro c st'' ⟨l, rfl, rfl, hlk, hlo, hhi⟩
      show wpS _ _ _ _ (do moveDown' k l; pure (ForInStep.yield (none, ()))) _ _
      rw [moveDown'_eq]
      have hks : k < (arrOf st'').size := by rw [hB'.size]; exact hk
      exact wpS_bind (wpS_modify (wpS_pure ⟨rfl, hB'.setArr (bubble_perm _ _ _), hkn, hs'.bubble hA' hlk hks hlo hhi, hA'.bubble hlk hks⟩))
theorem wpB_sortRuns {st : SortSt} {Q : Unit → SortSt → Prop} (h0 : IntKeys a₀) (hB : SBase a₀ st) (hA : Apt ix (arrOf st) 0) (h2 : 2 ≤ a₀.size) (h64 : a₀.size < 64)
    (h : ∀ st', (arrOf st').Perm a₀ → failedOf st' = none → Srt ix (arrOf st') a₀.size → Q () st') : wpS (model prog w) A E s sortRuns' Q st := by
  have hmr : minRun' a₀.size a₀.size 0 = a₀.size := by
    obtain ⟨f, hf⟩ : ∃ f, a₀.size = f + 1 := ⟨a₀.size - 1, by lia⟩
    have : minRun' (f + 1) a₀.size 0 = a₀.size := by rw [minRun'_succ, if_pos h64]; rfl
    rwa [← hf] at this
  have fin : ∀ st', SBase a₀ st' → Srt ix (arrOf st') a₀.size → SDone a₀ (setPending st' ((pendingOf st').push (0, a₀.size, 0))) := fun st' b q => b.done q.to
  rw [sortRuns'_eq]
  refine wpS_bind (wpS_get ?_)
  dsimp only
  rw [hB.size, hmr]
  refine wpS_bind (wpS_mono (wpS_forRange
    (I := fun x c st' => (x = 0 ∧ c = (none, 0) ∧ st' = st) ∨ (1 ≤ x ∧ c = (none, a₀.size) ∧ SDone a₀ st' ∧ Srt ix (arrOf st') a₀.size))
    (Q := fun c st' => c = (none, a₀.size) ∧ SDone a₀ st' ∧ Srt ix (arrOf st') a₀.size) ?step ?fin (.inl ⟨rfl, rfl, rfl⟩)) ?post)
  case fin =>
    rintro c st' (⟨hx, _, _⟩ | ⟨_, hc, hD⟩)
    · lia
    · exact ⟨hc, hD⟩
  case step =>
    rintro x c st' _ hx (⟨rfl, rfl, rfl⟩ | ⟨hx1, rfl, hD⟩)
    · dsimp only
      rw [if_neg (by lia)]
      rw [Nat.sub_zero, Nat.min_self, Nat.zero_add]
      refine wpS_bind (wpB_countRun h0 (Nat.le_refl _) (by lia) hB hA fun m st2 hB2 hm1 hm2 hs2 hA2 => ?_)
      dsimp only
      by_cases hlt : m < a₀.size
      · rw [if_pos hlt]
        refine wpS_bind (wpS_lift (wpAny_rule ⟨rfl, ?_⟩))
        refine wpS_bind (wpB_binarySort h0 (Nat.le_refl _) hm2 hm1 hB2 hs2 hA2 fun st3 hB3 hs3 => ?_)
        simp only [Bool.not_true, Bool.false_eq_true, if_false]
        refine wpS_bind (wpS_get ?_)
        have hb : (pendingOf st3).back? = none := by rw [hB3.pend]; rfl
        rw [hb]
        dsimp only
        exact wpS_bind (wpS_modify (wpS_pure (.inr ⟨by lia, (by first | rfl | rw [Nat.zero_add]), fin _ hB3 hs3, hs3⟩)))
      · rw [if_neg hlt]
        have hm : m = a₀.size := by lia
        subst hm
        refine wpS_bind (wpS_get ?_)
        have hb : (pendingOf st2).back? = none := by rw [hB2.pend]; rfl
        rw [hb]
        dsimp only
        exact wpS_bind (wpS_modify (wpS_pure (.inr ⟨by lia, (by first | rfl | rw [Nat.zero_add]), fin _ hB2 hs2, hs2⟩)))
    · dsimp only
      rw [if_pos (Nat.le_refl _)]
      exact wpS_pure ⟨rfl, hD⟩
  case post =>
    rintro c st' ⟨rfl, hD, hS⟩
    dsimp only
    refine wpS_bind (wpS_mono (wpS_forRange (I := fun _ c st'' => st'' = st' ∧ c = (none, ())) (Q := fun c st'' => st'' = st' ∧ c = (none, ())) ?_ (fun _ _ hh => hh) ⟨rfl, rfl⟩) ?_)
    · rintro x c st'' _ _ ⟨rfl, rfl⟩
      refine wpS_bind (wpS_get ?_)
      rw [if_pos (by rw [hD.2.2.1]; exact Nat.le_refl 1)]
      exact wpS_pure ⟨rfl, rfl⟩
    · rintro c st'' ⟨rfl, rfl⟩
      exact wpS_pure (h _ hD.1 hD.2.1 hS)
end
noncomputable def adr : Value → Int
  | .ref a => (a : Int)
  | _ => 0
noncomputable def ixA (p : Keyed) : Int := adr p.2
/-- what a sort by int keys leaves of refs that stand by their addresses -/
noncomputable def StOut (kz : List Int) (vs out : List Value) : Prop :=
  ∃ ps : List (Int × Value), ps.Perm (kz.zip vs) ∧ out = ps.map Prod.snd ∧ ps.Pairwise (fun p q => p.1 < q.1 ∨ (p.1 = q.1 ∧ adr p.2 < adr q.2))
theorem st_out {keys : Array Value} {vs : List Value} {kz : List Int} (hk : IntsAre keys.toList kz) {xs : Array Keyed} (hp : xs.Perm (keys.zip vs.toArray)) (hs : Srt ixA xs xs.size) :
    StOut kz vs (xs.map (·.2)).toList := by
  have hl : xs.toList.Perm (keys.toList.zip vs) := by rw [← ksk_zip]; exact Array.perm_iff_toList_perm.mp hp
  have h1 : (xs.toList.map (fun p : Keyed => (numOf p.1, p.2))).Perm (kz.zip vs) := by
    have e2 : (keys.toList.zip vs).map (fun p : Keyed => (numOf p.1, p.2)) = kz.zip vs := by
      rw [← hk.nums, List.zip_map_left]
      exact List.map_congr_left fun ⟨x, y⟩ _ => rfl
    rw [← e2]
    exact hl.map _
  refine ⟨_, h1, by rw [Array.toList_map, List.map_map]; rfl, ?_⟩
  rw [List.pairwise_iff_getElem]
  intro i j hi hj hij
  have hi' : i < xs.size := by simpa using hi
  have hj' : j < xs.size := by simpa using hj
  have q := hs i j hij hj'
  unfold SL at q
  rw [K_eq hi', K_eq hj'] at q
  have e1 : Jx ixA xs i = adr xs[i].2 := by unfold Jx; rw [getElem?_pos xs i hi']; rfl
  have e2 : Jx ixA xs j = adr xs[j].2 := by unfold Jx; rw [getElem?_pos xs j hj']; rfl
  rw [e1, e2] at q
  simpa using q
theorem st_apt {keys : Array Value} {vs : List Value} (hsz : keys.size = vs.length) (hv : vs.Pairwise (fun a b => adr a < adr b)) : Apt ixA (keys.zip vs.toArray) 0 := by
  intro i j hij _ hj
  have hzs : (keys.zip vs.toArray).size = vs.length := by rw [Array.size_zip, hsz, List.size_toArray, Nat.min_self]
  have hj' : j < vs.length := by lia
  have e : ∀ k (hk : k < vs.length), Jx ixA (keys.zip vs.toArray) k = adr vs[k] := fun k hk => by
    unfold Jx
    rw [getElem?_pos _ k (by lia)]
    simp [ixA]
  rw [e i (by lia), e j hj']
  exact List.pairwise_iff_getElem.mp hv i j (by lia) hj' hij
section
variable {prog : Program} {A : Around} {E : Value → Shared → Prop} {s : Shared} {h₀ : Heap} {L : Addr} {m : Str → Option Value} {news : List (Addr × Obj)} {a kS l : Addr} {vs : List Value} {kz : List Int} {keys : Array Value} {e e1 : Nat} {P : PySem.Fin → Shared → Prop} {Q : Value → Shared → Prop}
theorem st_tail {st : SortSt} (F : Fr h₀ L s.heap m) (N : News h₀ L s.heap (news ++ [(kS, seqObj "list" keys e), (a, seqObj "list" #[] e1)])) (hka : kS ≠ a) (hnk : ∀ p ∈ news, p.1 ≠ kS) (hna : ∀ p ∈ news, p.1 ≠ a)
    (hk : IntsAre keys.toList kz) (hlen : kz.length = vs.length) (h64 : vs.length < 64) (hp : (arrOf st).Perm (keys.zip vs.toArray)) (hs : Srt ixA (arrOf st) (arrOf st).size) (hfl : failedOf st = none)
    (h : ∀ h' tk out c, Fr h₀ L h' m → News h₀ L h' ((a, seqObj "list" out c) :: news) → StOut kz vs out.toList → P (.done (.ret .none)) { s with heap := h', toks := tk }) :
    wpAny (model prog w) A (ksk_tail a false e1 (.ref kS) st) P E s := by
  have nk := N (kS, seqObj "list" keys e) (List.mem_append_right _ (.head _))
  have na := N (a, seqObj "list" #[] e1) (List.mem_append_right _ (.tail _ (.head _)))
  have Nn : News h₀ L s.heap news := fun p hp => N p (List.mem_append_left _ hp)
  have hsz : keys.size = vs.length := by
    have h1 := hk.length
    rw [Array.length_toList] at h1
    lia
  have hout : ((arrOf st).map (·.2)).size = vs.length := by rw [Array.size_map, hp.size_eq, Array.size_zip, hsz, List.size_toArray, Nat.min_self]
  have s1 := Heap.SameBut.update s.heap kS (Obj.mapSeq fun _ => (#[] : Array Value))
  have na1 : (s.heap.update kS (Obj.mapSeq fun _ => (#[] : Array Value))).get? a = some (seqObj "list" #[] e1) := (s1.2 a hka.symm).trans na.1
  have s2 := Heap.SameBut.update (s.heap.update kS (Obj.mapSeq fun _ => (#[] : Array Value))) a (Obj.mapSeq fun _ => (arrOf st).map (·.2))
  obtain ⟨c2, hc2⟩ : ∃ c2, ((s.heap.update kS (Obj.mapSeq fun _ => (#[] : Array Value))).update a (Obj.mapSeq fun _ => (arrOf st).map (·.2))).get? a = some (seqObj "list" ((arrOf st).map (·.2)) c2) :=
    ⟨_, get?_update_seq na1 fun _ => (arrOf st).map (·.2)⟩
  have N2 := ksk_news (ksk_news Nn s1 hnk) s2 hna
  unfold ksk_tail
  try dsimp only
  refine wpAny_bind (listUpdate_at nk.1 rfl ?_ (by rw [hsz, sizeLine_eq]; lia) (Nat.zero_le _))
  refine wpAny_bind (wpAny_letGo ?_)
  refine wpAny_bind (seqEpoch_at na1 rfl ?_)
  refine wpAny_bind (listUpdate_at na1 rfl ?_ (Nat.zero_le _) (Nat.le_trans (Nat.le_of_eq hout) (by rw [sizeLine_eq]; lia)))
  rw [hfl]
  simp only [bne_self_eq_false, Bool.false_eq_true, if_false]
  refine wpAny_pure (h _ _ _ c2 (ksk_fr (ksk_fr F s1 nk.2.1 nk.2.2) s2 na.2.1 na.2.2) (List.forall_mem_cons.mpr ⟨⟨hc2, na.2⟩, N2⟩) (st_out hk hp hs))
theorem st_end (F : Fr h₀ L s.heap m) (N : News h₀ L s.heap (news ++ [(kS, seqObj "list" keys e), (a, seqObj "list" #[] e1)])) (hka : kS ≠ a) (hnk : ∀ p ∈ news, p.1 ≠ kS) (hna : ∀ p ∈ news, p.1 ≠ a)
    (hk : IntsAre keys.toList kz) (hlen : kz.length = vs.length) (h64 : vs.length < 64) (hv : vs.Pairwise (fun a b => adr a < adr b))
    (h : ∀ h' tk out c, Fr h₀ L h' m → News h₀ L h' ((a, seqObj "list" out c) :: news) → StOut kz vs out.toList → P (.done (.ret .none)) { s with heap := h', toks := tk }) :
    wpAny (model prog w) A (ksk_end a false vs.toArray e1 (.ref kS) keys) P E s := by
  have hsz : keys.size = vs.length := by
    have h1 := hk.length
    rw [Array.length_toList] at h1
    lia
  have hzs : (keys.zip vs.toArray).size = vs.length := by rw [Array.size_zip, hsz, List.size_toArray, Nat.min_self]
  unfold ksk_end
  simp only [Bool.false_eq_true, if_false]
  by_cases h2 : vs.toArray.size < 2
  · rw [if_pos h2, if_pos h2]
    refine wpAny_bind (wpAny_pure ?_)
    rw [StateT.run_pure]
    refine wpAny_bind (wpAny_pure ?_)
    try dsimp only
    refine st_tail (st := SortSt.mk' general' (keys.zip vs.toArray) #[] 7 none) F N hka hnk hna hk hlen h64 (Array.Perm.refl _) ?_ rfl h
    intro i j hij hj
    have hj2 : j < (keys.zip vs.toArray).size := hj
    rw [hzs] at hj2
    rw [List.size_toArray] at h2
    lia
  · rw [if_neg h2, if_neg h2]
    rw [List.size_toArray] at h2
    rw [ksk_kind hk (by rw [hsz]; lia)]
    refine wpAny_bind (wpAny_pure ?_)
    refine wpAny_bind (wpAny_mono (wpB_sortRuns (ix := ixA) (a₀ := keys.zip vs.toArray) (st := SortSt.mk' oneType' (keys.zip vs.toArray) #[] 7 none)
      (Q := fun _ st' => (arrOf st').Perm (keys.zip vs.toArray) ∧ failedOf st' = none ∧ Srt ixA (arrOf st') (keys.zip vs.toArray).size)
      (ksk_intKeys hk) ⟨Array.Perm.refl _, rfl, rfl, rfl⟩ (st_apt hsz hv) (by rw [hzs]; lia) (by rw [hzs]; exact h64) fun st' a1 a2 a3 => ⟨a1, a2, a3⟩) ?_ fun _ _ e => e)
    rintro ⟨⟨⟩, st'⟩ s' ⟨rfl, hp, hf, hs⟩
    try dsimp only
    exact st_tail F N hka hnk hna hk hlen h64 hp (by rw [hp.size_eq]; exact hs) hf h
theorem st_rest {f : Value} (F : Fr h₀ L s.heap m) (N : News h₀ L s.heap (news ++ [(kS, seqObj "list" #[] 0), (a, seqObj "list" #[] e1)])) (hka : kS ≠ a) (hnk : ∀ p ∈ news, p.1 ≠ kS) (hna : ∀ p ∈ news, p.1 ≠ a)
    (hlen : kz.length = vs.length) (h64 : vs.length < 64) (hv : vs.Pairwise (fun a b => adr a < adr b))
    (turn : ∀ (i : Nat) (v : Value) (k : Int), vs[i]? = some v → kz[i]? = some k → ∀ (h : Heap) (tk : Nat) (own : List (Addr × Obj)), Fr h₀ L h m → News h₀ L h (news ++ own) →
      wpAny (model prog w) A (call f [v]) (KskEnd h₀ L m (news ++ own) k { s with heap := h, toks := tk }) (fun _ _ => False) { s with heap := h, toks := tk })
    (h : ∀ h' tk out c, Fr h₀ L h' m → News h₀ L h' ((a, seqObj "list" out c) :: news) → StOut kz vs out.toList → P (.done (.ret .none)) { s with heap := h', toks := tk }) :
    wpAny (model prog w) A (ksk_rest a f false vs.toArray e1 (.ref kS)) P E s := by
  unfold ksk_rest
  refine wpAny_bind (wpAny_rule ?_)
  first
    | rw [List.forIn_toArray]
    | (rw [← Array.forIn_toList]; simp only [List.toList_toArray])
  refine wpAny_bind (ksk_fold (fun i s' => ∃ h' tk kA e, s' = { s with heap := h', toks := tk } ∧ Fr h₀ L h' m ∧ News h₀ L h' (news ++ [(kS, seqObj "list" kA e), (a, seqObj "list" #[] e1)]) ∧ IntsAre kA.toList (kz.take i)) vs 0 s
    ⟨s.heap, s.toks, #[], 0, rfl, F, N, by simpa using IntsAre.nil⟩ ?step ?done)
  case step =>
    rintro j x s' hx ⟨h', tk, kA, e, rfl, F', N', hk⟩
    simp only [Nat.zero_add] at hk ⊢
    have hj : j < vs.length := (List.getElem?_eq_some_iff.mp hx).1
    obtain ⟨k, hkj⟩ : ∃ k, kz[j]? = some k := ⟨_, List.getElem?_eq_getElem (by lia)⟩
    have hz : kA.size ≤ vs.length := by
      have h1 := hk.length
      rw [Array.length_toList, List.length_take] at h1
      lia
    refine wpAny_bind (wpAny_attempt (wpAny_mono (turn j x k hx hkj h' tk _ F' N') (fun v s'' he => ?_) fun _ _ hF => hF.elim))
    obtain ⟨g, tk2, t2, rfl, rfl, F2, N2⟩ := he
    try dsimp only
    have nk := N2 (kS, seqObj "list" kA e) (List.mem_append_right _ (.head _))
    have na := N2 (a, seqObj "list" #[] e1) (List.mem_append_right _ (.tail _ (.head _)))
    have s1 := Heap.SameBut.update g kS (Obj.mapSeq (·.push (.int k t2)))
    obtain ⟨c2, hc2⟩ : ∃ c2, (g.update kS (Obj.mapSeq (·.push (.int k t2)))).get? kS = some (seqObj "list" (kA.push (.int k t2)) c2) := ⟨_, get?_update_seq nk.1 (·.push (.int k t2))⟩
    have ek : kz.take (j + 1) = kz.take j ++ [k] := by rw [List.take_add_one, hkj]; simp
    have ea : (kA.push (Value.int k t2)).toList = kA.toList ++ [Value.int k t2] := by simp
    refine wpAny_bind (listUpdate_at nk.1 rfl ?_ (by rw [sizeLine_eq]; lia) (Nat.le_trans (Nat.le_of_eq (Array.size_push ..)) (by rw [sizeLine_eq]; lia)))
    refine wpAny_pure ⟨rfl, _, _, kA.push (.int k t2), c2, rfl, ksk_fr F2 s1 nk.2.1 nk.2.2, fun p hp => ?_, by rw [ea, ek]; exact ksk_snoc hk⟩
    rcases List.mem_append.mp hp with hp | hp
    · exact ksk_news (fun q hq => N2 q (List.mem_append_left _ hq)) s1 hnk p hp
    · rcases List.mem_cons.mp hp with rfl | hp
      · exact ⟨hc2, nk.2⟩
      · rw [List.mem_singleton.mp hp]
        exact ⟨(s1.2 a hka.symm).trans na.1, na.2⟩
  case done =>
    rintro s' ⟨h', tk, kA, e, rfl, F', N', hk⟩
    have hk' : IntsAre kA.toList kz := by
      have e3 : kz.take (0 + vs.length) = kz := List.take_of_length_le (by lia)
      rw [e3] at hk
      exact hk
    have nk := N' (kS, seqObj "list" kA e) (List.mem_append_right _ (.head _))
    try dsimp only
    refine wpAny_bind (listItems_at nk.1 rfl ?_)
    exact st_end F' N' hka hnk hna hk' hlen h64 hv fun h3 tk3 out c F3 N3 k3 => h h3 tk3 out c F3 N3 k3
theorem st_sort {f : Value} {n : Nat} (F : Fr h₀ L s.heap m) (N : News h₀ L s.heap news) (ho : s.heap.get? a = some (seqObj "list" vs.toArray n)) (haL : a ≠ L) (ha0 : h₀.get? a = none) (hna : ∀ p ∈ news, p.1 ≠ a)
    (hlen : kz.length = vs.length) (h64 : vs.length < 64) (hv : vs.Pairwise (fun a b => adr a < adr b))
    (turn : ∀ (i : Nat) (v : Value) (k : Int), vs[i]? = some v → kz[i]? = some k → ∀ (h : Heap) (tk : Nat) (own : List (Addr × Obj)), Fr h₀ L h m → News h₀ L h (news ++ own) →
      wpAny (model prog w) A (call f [v]) (KskEnd h₀ L m (news ++ own) k { s with heap := h, toks := tk }) (fun _ _ => False) { s with heap := h, toks := tk })
    (h : ∀ h' tk out c, Fr h₀ L h' m → News h₀ L h' ((a, seqObj "list" out c) :: news) → StOut kz vs out.toList → P (.done (.ret .none)) { s with heap := h', toks := tk }) :
    wpAny (model prog w) A (ksk_tree a f false) P E s := by
  have ha : a < s.heap.objs.size := Heap.lt_size ho
  have s1 := Heap.SameBut.update s.heap a (Obj.mapSeq fun _ => (#[] : Array Value))
  obtain ⟨e1, ho1⟩ : ∃ e1, (s.heap.update a (Obj.mapSeq fun _ => (#[] : Array Value))).get? a = some (seqObj "list" #[] e1) := ⟨_, get?_update_seq ho fun _ => #[]⟩
  have F1 := ksk_fr F s1 haL ha0
  have N1 := ksk_news N s1 hna
  have hkS : ((s.heap.update a (Obj.mapSeq fun _ => (#[] : Array Value))).push (seqObj "tuple" vs.toArray 0)).objs.size = s.heap.objs.size + 1 := by rw [size_push', Heap.size_update]
  have hLk : L < ((s.heap.update a (Obj.mapSeq fun _ => (#[] : Array Value))).push (seqObj "tuple" vs.toArray 0)).objs.size := (F1.push _).ns.lt
  unfold ksk_tree
  refine wpAny_bind (listItems_at ho rfl ?_)
  refine wpAny_bind (listUpdate_at ho rfl ?_ (by rw [List.size_toArray, sizeLine_eq]; lia) (Nat.zero_le _))
  refine wpAny_bind (seqEpoch_at ho1 rfl ?_)
  refine wpAny_bind (wpAny_newTuple ?_ (by show vs.length ≤ _; rw [sizeLine_eq]; lia))
  refine wpAny_bind (wpAny_newList ?_ (Nat.zero_le _))
  refine wpAny_holding ?_
  refine st_rest (s := { s with heap := ((s.heap.update a (Obj.mapSeq fun _ => (#[] : Array Value))).push (seqObj "tuple" vs.toArray 0)).push (seqObj "list" #[] 0) }) (kS := ((s.heap.update a (Obj.mapSeq fun _ => (#[] : Array Value))).push (seqObj "tuple" vs.toArray 0)).objs.size)
    ((F1.push _).push _) (fun p hp => ?_) (by rw [hkS]; exact Nat.ne_of_gt (Nat.lt_succ_of_lt ha)) (fun p hp => by rw [hkS]; exact Nat.ne_of_lt (Nat.lt_succ_of_lt (Heap.lt_size (N p hp).1))) hna hlen h64 hv turn h
  rcases List.mem_append.mp hp with hp | hp
  · exact ⟨Heap.get?_push_of_some _ (Heap.get?_push_of_some _ (N1 p hp).1), (N1 p hp).2⟩
  · rcases List.mem_cons.mp hp with rfl | hp
    · exact ⟨Heap.get?_push_size _ rfl, Nat.ne_of_gt hLk, Heap.get?_none_of_le (Nat.le_trans F.above (Nat.le_of_lt hLk))⟩
    · rw [List.mem_singleton.mp hp]
      exact ⟨Heap.get?_push_of_some _ (Heap.get?_push_of_some _ ho1), haL, ha0⟩
theorem st_sorted {f : Value} {kw : List (Str × Value)} (F : Fr h₀ L s.heap m) (N : News h₀ L s.heap news) (hl : s.heap.IsList l vs.toArray) (hlen : kz.length = vs.length) (h64 : vs.length < 64) (hv : vs.Pairwise (fun a b => adr a < adr b))
    (ha1 : argsOk "sorted" ⟨[.ref l], kw⟩) (ha2 : ∀ x, argsOk "list.sort" ⟨[.ref x], kw⟩) (ht : ∀ x, Builtin.«list.sort» ⟨[.ref x], kw⟩ = ksk_tree x f false)
    (turn : ∀ (i : Nat) (v : Value) (k : Int), vs[i]? = some v → kz[i]? = some k → ∀ (h : Heap) (tk : Nat) (own : List (Addr × Obj)), Fr h₀ L h m → News h₀ L h (news ++ own) →
      wpAny (model prog w) A.in1.in1 (call f [v]) (KskEnd h₀ L m (news ++ own) k { s with heap := h, toks := tk }) (fun _ _ => False) { s with heap := h, toks := tk })
    (h : ∀ D h' tk out c, Fr h₀ L h' m → News h₀ L h' ((D, seqObj "list" out c) :: news) → (∀ q ∈ news, q.1 < D) → StOut kz vs out.toList → Q (.ref D) { s with heap := h', toks := tk }) :
    wpAny (model prog w) A (call (.builtin "sorted") [.ref l] kw) Q E s := by
  refine call_function_entry_kw kind_sorted plain_sorted entry_sorted ha1 ?_
  unfold Builtin.«sorted»
  refine wpAny_bind (m := checkCount "sorted" 1 1 _) (wpAny_pure ?_)
  refine wpAny_bind (collect_list hl ?_ (by rw [sizeLine_eq]; lia))
  refine wpAny_bind (wpAny_newList ?_ (by rw [sizeLine_eq]; lia))
  have hsz : ((s.heap.push (seqObj "list" #[] 0)).update s.heap.objs.size (Obj.mapSeq (· ++ vs.toArray))).objs.size = s.heap.objs.size + 1 := by
    rw [Heap.size_update, size_push']
  have hoL : (((s.heap.push (seqObj "list" #[] 0)).update s.heap.objs.size (Obj.mapSeq (· ++ vs.toArray))).push (seqObj "list" vs.toArray 0)).get? (s.heap.objs.size + 1) = some (seqObj "list" vs.toArray 0) := by
    rw [← hsz]; exact Heap.get?_push_size _ rfl
  have keep : ∀ b o, s.heap.get? b = some o → (((s.heap.push (seqObj "list" #[] 0)).update s.heap.objs.size (Obj.mapSeq (· ++ vs.toArray))).push (seqObj "list" vs.toArray 0)).get? b = some o := fun b o q => by
    have hlt : b < s.heap.objs.size := Heap.lt_size q
    rw [Heap.get?_push_ne _ _ _ (by rw [hsz]; exact Nat.ne_of_lt (Nat.lt_succ_of_lt hlt)), Heap.get?_update_ne _ _ _ _ (Nat.ne_of_lt hlt), Heap.get?_push_ne _ _ _ (Nat.ne_of_lt hlt)]
    exact q
  have hL : L < s.heap.objs.size := F.ns.lt
  show wpAny _ _ _ _ _ { s with heap := ((s.heap.push (seqObj "list" #[] 0)).update s.heap.objs.size (Obj.mapSeq (· ++ vs.toArray))).push (seqObj "list" vs.toArray 0) }
  rw [hsz]
  refine wpAny_bind (wpAny_holding (wpAny_call_entry_kw slot_list_sort ⟨_, hoL, rfl⟩ entry_list_sort ?body (ha2 _)))
  case body =>
    have ht' := ht (s.heap.objs.size + 1)
    show wpAny (model prog w) A.in1.in1 (Builtin.«list.sort» ⟨[.ref (s.heap.objs.size + 1)], kw⟩) _ _ _
    rw [ht']
    refine st_sort (s := { s with heap := ((s.heap.push (seqObj "list" #[] 0)).update s.heap.objs.size (Obj.mapSeq (· ++ vs.toArray))).push (seqObj "list" vs.toArray 0) })
      (F.kept keep) (N.grown keep) hoL (Nat.ne_of_gt (Nat.lt_succ_of_lt hL)) (Heap.get?_none_of_le (Nat.le_trans F.above (Nat.le_succ_of_le (Nat.le_of_lt hL))))
      (fun p hp => Nat.ne_of_lt (Nat.lt_succ_of_lt (Heap.lt_size (N p hp).1))) hlen h64 hv turn fun h' tk out c F' N' k' => ⟨_, rfl, ?_⟩
    exact wpAny_pure ⟨_, rfl, h _ h' tk out c F' N' (fun q hq => Nat.lt_succ_of_lt (Heap.lt_size (N q hq).1)) k'⟩
end
/-- a contract of a def that comes to form_sorted: its lambda's code lies in the table 119 of the code 121 -/
noncomputable def ConC (w : World) (D : Nat) (f : Addr) (vs : List Value) (news : List (Addr × Obj)) (R : RetT) : Prop :=
  ∀ (p : Program) (loose : List Str) (mean : ExcName → Option Value) (mg mb : Str → Option Value)
    (dp un : Nat) (gd : Option (List Code)) (cn : Str) (cs : Scope) (a : Addr) (ccd : Value) (cl : List (Str × Addr)) (outer : List Env) (A₀ : Around) (base h₀ : Heap) (L : Addr) (m : Str → Option Value) (s : Shared) (Q E : Value → Shared → Prop),
    CodeHd h₀ 121 119 → Below A₀ base outer h₀ → Fr h₀ L s.heap m → (hd.heap_1 w.params).In h₀ → News h₀ L s.heap news → Top p loose mean mg mb h₀ → cs.kind = .function →
    dp + D < recursionLimit → un + 100 * D + 200 < cLine → R h₀ L m news s Q →
      wpAny (model PySem.Challenge.pw_nt0050_01 w) (ktrTop dp un gd cn cs L a ccd cl outer) (call (.ref f) vs) Q E s
/-- the rows of a run: class, the tuple's address, code -/
structure RunL (news : List (Addr × Obj)) (its : List Value) (ts : List (Int × Addr × Int)) : Prop where
  its_eq : its = ts.map fun x => .ref x.2.1
  mem : ∀ x ∈ ts, ∃ t1 t2, (x.2.1, tupO [.int x.1 t1, .int x.2.2 t2]) ∈ news
  up : ts.Pairwise fun x y => x.2.1 < y.2.1
/-- put a row in: ahead of those of a greater class -/
noncomputable def insR {α : Type} (a : Int × α) : List (Int × α) → List (Int × α)
  | [] => [a]
  | b :: r => if a.1 ≤ b.1 then a :: b :: r else b :: insR a r
noncomputable def isort {α : Type} : List (Int × α) → List (Int × α)
  | [] => []
  | a :: r => insR a (isort r)
theorem insR_perm {α : Type} (a : Int × α) : ∀ l : List (Int × α), (insR a l).Perm (a :: l)
  | [] => List.Perm.refl _
  | b :: r => by
    unfold insR
    split
    · exact List.Perm.refl _
    · exact ((insR_perm a r).cons b).trans (List.Perm.swap a b r)
theorem isort_perm {α : Type} : ∀ l : List (Int × α), (isort l).Perm l
  | [] => List.Perm.refl _
  | a :: r => (insR_perm a (isort r)).trans ((isort_perm r).cons a)
theorem insR_map {α β : Type} (f : α → β) (a : Int × α) : ∀ l : List (Int × α), insR (a.1, f a.2) (l.map fun p => (p.1, f p.2)) = (insR a l).map fun p => (p.1, f p.2)
  | [] => rfl
  | b :: r => by
    simp only [List.map_cons, insR]
    split
    · rfl
    · rw [List.map_cons, insR_map f a r]
theorem isort_map {α β : Type} (f : α → β) : ∀ l : List (Int × α), isort (l.map fun p => (p.1, f p.2)) = (isort l).map fun p => (p.1, f p.2)
  | [] => rfl
  | a :: r => by rw [List.map_cons, isort, isort_map f r, isort]; exact insR_map f a _
theorem perm_uniq {α : Type} {R : α → α → Prop} (hR : ∀ a b, R a b → R b a → False) : ∀ {l l' : List α}, l.Perm l' → l.Pairwise R → l'.Pairwise R → l = l'
  | [], l', hp, _, _ => (List.perm_nil.mp hp.symm).symm
  | a :: r, [], hp, _, _ => absurd hp.length_eq (by simp)
  | a :: r, b :: r', hp, h1, h2 => by
    have hp0 := hp
    have e : a = b := by
      rcases List.mem_cons.mp (hp.mem_iff.mp (List.mem_cons_self ..)) with e | e
      · exact e
      · rcases List.mem_cons.mp (hp.mem_iff.mpr (List.mem_cons_self ..)) with e' | e'
        · exact e'.symm
        · exact (hR _ _ ((List.pairwise_cons.mp h1).1 b e') ((List.pairwise_cons.mp h2).1 a e)).elim
    subst e
    rw [perm_uniq hR (List.perm_cons a |>.mp hp0) (List.pairwise_cons.mp h1).2 (List.pairwise_cons.mp h2).2]
/-- by class, those of one class by their addresses -/
noncomputable def LexA (p q : Int × Addr × Int) : Prop := p.1 < q.1 ∨ (p.1 = q.1 ∧ p.2.1 < q.2.1)
theorem insR_lex (a : Int × Addr × Int) : ∀ l : List (Int × Addr × Int), (∀ b ∈ l, a.2.1 < b.2.1) → l.Pairwise LexA → (insR a l).Pairwise LexA
  | [], _, _ => by simp [insR]
  | b :: r, h, hl => by
    unfold insR
    have hb := List.pairwise_cons.mp hl
    split
    · rename_i hab
      refine List.pairwise_cons.mpr ⟨fun x hx => ?_, hl⟩
      have hlt := h x hx
      have hle : a.1 ≤ x.1 := by
        rcases List.mem_cons.mp hx with rfl | hx
        · exact hab
        · rcases hb.1 x hx with q | q
          · lia
          · lia
      rcases Int.lt_or_eq_of_le hle with q | q
      · exact .inl q
      · exact .inr ⟨q, hlt⟩
    · rename_i hab
      refine List.pairwise_cons.mpr ⟨fun x hx => ?_, insR_lex a r (fun c hc => h c (.tail _ hc)) hb.2⟩
      rcases List.mem_cons.mp ((insR_perm a r).mem_iff.mp hx) with rfl | hx
      · exact .inl (by lia)
      · exact hb.1 x hx
theorem isort_lex : ∀ l : List (Int × Addr × Int), l.Pairwise (fun x y => x.2.1 < y.2.1) → (isort l).Pairwise LexA
  | [], _ => by simp [isort]
  | a :: r, h => by
    have hc := List.pairwise_cons.mp h
    exact insR_lex a _ (fun b hb => hc.1 b ((isort_perm r).mem_iff.mp hb)) (isort_lex r hc.2)
theorem RunL.sorted {news : List (Addr × Obj)} {its out : List Value} {ts : List (Int × Addr × Int)} (hr : RunL news its ts) (h : StOut (ts.map (·.1)) its out) :
    out = (isort ts).map (fun x => Value.ref x.2.1) := by
  obtain ⟨ps, hp, rfl, hs⟩ := h
  have e : (ts.map (·.1)).zip its = ts.map (fun x => (x.1, Value.ref x.2.1)) := by
    rw [hr.its_eq, List.zip_map']
  rw [e] at hp
  have hq : ((isort ts).map (fun x => (x.1, Value.ref x.2.1))).Pairwise (fun p q => p.1 < q.1 ∨ (p.1 = q.1 ∧ adr p.2 < adr q.2)) := by
    rw [List.pairwise_map]
    refine (isort_lex ts hr.up).imp fun {x y} h => ?_
    rcases h with h | ⟨h1, h2⟩
    · exact .inl h
    · exact .inr ⟨h1, by simpa [adr] using h2⟩
  have := perm_uniq (fun a b h1 h2 => by lia) (hp.trans ((isort_perm ts).symm.map _)) hs hq
  rw [this, List.map_map]; rfl
section
variable {prog : Program} {A : Around} {h₀ : Heap} {L : Addr} {m : Str → Option Value} {env : Env}
open LCg LCp in
theorem compP_snd {x x₂ : Str} {px : Pos} {scope : Scope} {cl : List (Str × Addr)} {s : Shared} {S : List (Addr × Obj) → Prop} {Fin : List Value → List (Addr × Obj) → Prop} {out : Array Value} {news : List (Addr × Obj)} {codes : List Int} {addrs : List Addr}
    (hout : out.toList = addrs.map .ref) (hm : ∀ (i : Nat) (t : Addr), addrs[i]? = some t → ∃ k c t1 t2, codes[i]? = some c ∧ (t, tupO [.int k t1, .int c t2]) ∈ news) (hS : S news)
    (hk : ∀ C, (compEnvC scope cl C env).scope.kind = .function) (hl : ∀ C, (compEnvC scope cl C env).kindOf x₂ = some .local) (fin : ∀ ys, IntsAre ys codes → Fin ys news) (hlen : codes.length = out.size) (hd : (x₂ == ("__debug__" : Str)) = false) :
    ∀ k i ys, i + k = out.size → IntsAre ys (codes.take i) → CompRestP prog w A h₀ L m env (.Name x₂ px) x x₂ scope cl s S (fun i v => out[i]? = some v) Fin k i ys news
  | 0, i, ys, e, hy => CompRestP.zero (fin ys (by rw [List.take_of_length_le (by lia)] at hy; exact hy))
  | k + 1, i, ys, e, hy => CompRestP.succ fun v hv => by
    have hv' : (addrs.map Value.ref)[i]? = some v := by rw [← hout]; simpa using hv
    rw [List.getElem?_map, Option.map_eq_some_iff] at hv'
    obtain ⟨t, ht, rfl⟩ := hv'
    obtain ⟨kk, c, t1, t2, hc, hmem⟩ := hm i t ht
    refine ⟨t, _, _, _, 0, rfl, hmem, rfl, rfl, fun I oI C oC D m₂ h tk E' hC hx hx₂ F N off ne => ?_⟩
    refine PySem.W.LCgL.ld_own N (by simp) hC hx₂ ?_ (hk C) (hl C) hd
    refine CompEnd.intro F N news (fun p hp => hp) off hS (compP_snd hout hm hS hk hl fin hlen hd k (i + 1) _ (by lia) ?_)
    rw [List.take_add_one, hc]
    exact ksk_snoc hy
end
/-- the lambda's table: empty, or with its code -/
noncomputable def LamL (T : List (Addr × Obj)) : Prop := T = [(119, tabObj #[])] ∨ ∃ (c : Addr) (oc : Obj) (vs : Array Value) (t : Tok), T = [(119, tabObj (#[] ++ #[rawInt 102, rawInt 53, .ref c])), (c, oc)] ∧ oc.data = .fields vs ∧ vs[1]? = some (.str (Str.ofString "form_sorted" ++ Str.ofString ".<locals>." ++ Str.ofString "<lambda>") t)
theorem LamL.mem {T : List (Addr × Obj)} (h : LamL T) : ∃ o, (119, o) ∈ T := by
  rcases h with rfl | ⟨c, oc, vs, t, rfl, _⟩
  · exact ⟨_, .head _⟩
  · exact ⟨_, .head _⟩
/-- no address of the one list is one of the other's -/
noncomputable def Dis (T l : List (Addr × Obj)) : Prop := ∀ p ∈ T, ∀ q ∈ l, p.1 ≠ q.1
theorem Dis.nil {T : List (Addr × Obj)} : Dis T [] := fun _ _ _ h => nomatch h
theorem Dis.cons {T l : List (Addr × Obj)} {x : Addr × Obj} (h : ∀ p ∈ T, p.1 ≠ x.1) (r : Dis T l) : Dis T (x :: l) := fun p hp => List.forall_mem_cons.mpr ⟨h p hp, r p hp⟩
theorem Dis.head {T l : List (Addr × Obj)} {x : Addr × Obj} (h : Dis T (x :: l)) : ∀ p ∈ T, p.1 ≠ x.1 := fun p hp => h p hp x (.head _)
theorem Dis.tail {T l : List (Addr × Obj)} {x : Addr × Obj} (h : Dis T (x :: l)) : Dis T l := fun p hp q hq => h p hp q (.tail _ hq)
theorem Dis.sub {T l l' : List (Addr × Obj)} (h : Dis T l) (hs : ∀ p ∈ l', p ∈ l) : Dis T l' := fun p hp q hq => h p hp q (hs q hq)
theorem LamL.at {T : List (Addr × Obj)} (h : LamL T) {l : List (Addr × Obj)} (hd : Dis T l) : ∀ p ∈ l, p.1 ≠ 119 := fun p hp e => let ⟨o, ho⟩ := h.mem; hd _ ho p hp e.symm
noncomputable abbrev RetLT (T : List (Addr × Obj)) (cs : List Int) : RetT := fun h₀ L m news s Q => ∀ (a : Addr) (its : List Value) (n : Nat) (T' : List (Addr × Obj)) (h' : Heap) (tk' : Nat), LamL T' → Dis T' news → IntsAre its cs → Fr h₀ L h' m → News h₀ L h' ((a, lstO its n) :: (T' ++ news)) → (∀ p ∈ T' ++ news, p.1 ≠ a) → Q (.ref a) { s with heap := h', toks := tk' }
theorem kw19 : True := by
  (k_with "m:eval ListComp" => (k_here; lcp_look; k_dflt (refine LCp.ListComp_P (F₀ := by k_asm) (by with_unfolding_all rfl) (by decide) (by rfl) (by decide) (by rfl) (by rfl) (by decide) ?_)))
  trivial
local macro_rules | `(tactic| k_room) => `(tactic| walk_at "k_room")
theorem kw20 : True := by
  (k_with "m:k_room" => (ktr_room))
  (k_with "m:call builtin:sorted" => (k_here; fail "sorted here"))
  trivial
theorem c_fs0 (l : Addr) (its : List Value) (n : Nat) (ts : List (Int × Addr × Int)) (news : List (Addr × Obj)) (hl : (l, lstO its n) ∈ news) (hr : RunL news its ts) (h60 : ts.length < 60) (h9 : ∀ p ∈ news, p.1 ≠ 119) :
    ConC w 5 122 [.ref l] ((119, tabObj #[]) :: news) (fun h₀ L m _ s Q => RetLT [(119, tabObj #[])] ((isort ts).map (·.2.2)) h₀ L m news s Q) := by
  intro p loose mean mg mb dp un gd cn cs a ccd cl outer A₀ base h₀ L m s Q E hC B F X N T hk hd hu hret
  have hMk := kstMark
  refine wpAny_call ?_
  k_dflt cell_enter
  rename Fr _ _ _ _ => F1
  rename Fr h₀ L _ _ => FG1
  have hC1 := hC.keeps FG1.keep
  replace F1 := frTo (m' := fun y => List.lookup y [(Str.ofString "run", Value.ref l)]) F1 (fun _ => rfl)
  iterate 10 (first | ((fail_if_success (with_reducible show wpAny _ _ (call (Value.builtin _) _ _) _ _ _)); (first | walk1 | (dsimp only; walk1))) | skip)
  iterate 10 (first | ((fail_if_success (with_reducible show wpAny _ _ (call (Value.builtin _) _ _) _ _ _)); (first | walk1 | (dsimp only; walk1))) | skip)
  rename Fr _ _ _ _ => F2
  rename News _ _ _ _ => N2
  have hvs : its.Pairwise (fun a b => adr a < adr b) := by
    rw [hr.its_eq, List.pairwise_map]
    exact hr.up.imp fun h => by simpa [adr] using h
  with_unfolding_all refine' st_sorted (kw := [(Str.ofString "key", .ref _)]) (f := .ref _) (kz := ts.map (·.1)) (vs := its) F2 N2 ?hl ?hlen ?h64 hvs (ksk_s1 _ _) (fun x => ksk_l1 _ _) (fun x => ksk_t1 _ _) ?turn ?cont
  case hl => exact ⟨_, (N2 (l, lstO its n) (by k_mem)).1, rfl, n, rfl⟩
  case hlen => rw [hr.its_eq]; simp
  case h64 => rw [hr.its_eq]; simp; lia
  case turn =>
    intro i v k hv hk' h tk own F3 N3
    clear F2 N2
    have hx : ∃ x, x ∈ ts ∧ v = .ref x.2.1 ∧ k = x.1 := by
      rw [hr.its_eq, List.getElem?_map, Option.map_eq_some_iff] at hv
      obtain ⟨x, hx, rfl⟩ := hv
      rw [List.getElem?_map, hx] at hk'
      exact ⟨x, List.mem_of_getElem? hx, rfl, (Option.some.inj hk').symm⟩
    obtain ⟨x, hx, rfl, rfl⟩ := hx
    obtain ⟨t1, t2, hm⟩ := hr.mem x hx
    have hm' : (x.2.1, tupO [.int x.1 t1, .int x.2.2 t2]) ∈ news ++ own := List.mem_append_left _ hm
    simp only [List.cons_append] at N3
    refine wpAny_call ?_
    k_dflt kla_enter
    k_steps
  case cont =>
    intro D h' tk out c F3 N3 hlt hst
    clear F2 N2
    have hout := hr.sorted hst
    have hsz : out.size = ts.length := by rw [← Array.length_toList, hout, List.length_map, (isort_perm ts).length_eq]
    refine LCp.SrcLP.ledger (k := c) (its := out) (by rfl) (by k_asm) (by k_asm) (by k_mem) ?_ ?_
    · rw [hsz, sizeLine_eq]; lia
    · intro g
      refine compP_snd (codes := (isort ts).map (·.2.2)) (addrs := (isort ts).map (·.2.1)) ?_ ?_ ?_ (fun _ => rfl) (fun _ => rfl) ?_ ?_ (by decide) out.size 0 [] (Nat.zero_add _) IntsAre.nil
      · rw [hout, List.map_map]; rfl
      · intro i t ht
        rw [List.getElem?_map, Option.map_eq_some_iff] at ht
        obtain ⟨x, hx, rfl⟩ := ht
        obtain ⟨t1, t2, hm⟩ := hr.mem x ((isort_perm ts).mem_iff.mp (List.mem_of_getElem? hx))
        exact ⟨x.1, x.2.2, t1, t2, by rw [List.getElem?_map, hx]; rfl, by k_mem⟩
      · exact Or.inr ⟨_, by k_mem, rfl, _, rfl⟩
      · intro ys hy
        clear F3 N3
        k_steps
        rename (_ ≠ _ ∧ _ ≠ _ ∧ _) => o2
        obtain ⟨-, -, o3, o4, o5⟩ := o2
        exact hret _ ys ys.length [(119, _), (_, _)] _ _ (.inr ⟨_, _, _, _, rfl, by assumption, by assumption⟩) (List.forall_mem_cons.mpr ⟨fun q hq e => h9 q hq e.symm, List.forall_mem_cons.mpr ⟨fun q hq => Ne.symm (Nat.ne_of_lt (lt_of_allLt (And.right (by assumption)) q hq)), fun _ h => nomatch h⟩⟩) hy (by k_asm) (cb_drop (by k_asm) (by kcj_all)) (off1_ne (l := _ :: _ :: news) ⟨o4, o3, o5⟩)
      · rw [hsz, List.length_map, (isort_perm ts).length_eq]
theorem c_fs1 (l : Addr) (its : List Value) (n : Nat) (ts : List (Int × Addr × Int)) (news : List (Addr × Obj)) (hl : (l, lstO its n) ∈ news) (hr : RunL news its ts) (h60 : ts.length < 60) (h9 : ∀ p ∈ news, p.1 ≠ 119)
    (c₁ : Addr) (oc₁ : Obj) (vs₁ : Array Value) (t₁ : Tok) (hc1 : ∀ q ∈ news, c₁ ≠ q.1) (hd1 : oc₁.data = .fields vs₁) (hd2 : vs₁[1]? = some (.str (Str.ofString "form_sorted" ++ Str.ofString ".<locals>." ++ Str.ofString "<lambda>") t₁)) :
    ConC w 5 122 [.ref l] ((119, tabObj (#[] ++ #[rawInt 102, rawInt 53, .ref c₁])) :: (c₁, oc₁) :: news) (fun h₀ L m _ s Q => RetLT [(119, tabObj (#[] ++ #[rawInt 102, rawInt 53, .ref c₁])), (c₁, oc₁)] ((isort ts).map (·.2.2)) h₀ L m news s Q) := by
  intro p loose mean mg mb dp un gd cn cs a ccd cl outer A₀ base h₀ L m s Q E hC B F X N T hk hd hu hret
  have hMk := kstMark
  refine wpAny_call ?_
  k_dflt cell_enter
  rename Fr _ _ _ _ => F1
  rename Fr h₀ L _ _ => FG1
  have hC1 := hC.keeps FG1.keep
  replace F1 := frTo (m' := fun y => List.lookup y [(Str.ofString "run", Value.ref l)]) F1 (fun _ => rfl)
  iterate 10 (first | ((fail_if_success (with_reducible show wpAny _ _ (call (Value.builtin _) _ _) _ _ _)); (first | walk1 | (dsimp only; walk1))) | skip)
  iterate 10 (first | ((fail_if_success (with_reducible show wpAny _ _ (call (Value.builtin _) _ _) _ _ _)); (first | walk1 | (dsimp only; walk1))) | skip)
  rename Fr _ _ _ _ => F2
  rename News _ _ _ _ => N2
  have hvs : its.Pairwise (fun a b => adr a < adr b) := by
    rw [hr.its_eq, List.pairwise_map]
    exact hr.up.imp fun h => by simpa [adr] using h
  with_unfolding_all refine' st_sorted (kw := [(Str.ofString "key", .ref _)]) (f := .ref _) (kz := ts.map (·.1)) (vs := its) F2 N2 ?hl ?hlen ?h64 hvs (ksk_s1 _ _) (fun x => ksk_l1 _ _) (fun x => ksk_t1 _ _) ?turn ?cont
  case hl => exact ⟨_, (N2 (l, lstO its n) (by k_mem)).1, rfl, n, rfl⟩
  case hlen => rw [hr.its_eq]; simp
  case h64 => rw [hr.its_eq]; simp; lia
  case turn =>
    intro i v k hv hk' h tk own F3 N3
    clear F2 N2
    have hx : ∃ x, x ∈ ts ∧ v = .ref x.2.1 ∧ k = x.1 := by
      rw [hr.its_eq, List.getElem?_map, Option.map_eq_some_iff] at hv
      obtain ⟨x, hx, rfl⟩ := hv
      rw [List.getElem?_map, hx] at hk'
      exact ⟨x, List.mem_of_getElem? hx, rfl, (Option.some.inj hk').symm⟩
    obtain ⟨x, hx, rfl, rfl⟩ := hx
    obtain ⟨t1, t2, hm⟩ := hr.mem x hx
    have hm' : (x.2.1, tupO [.int x.1 t1, .int x.2.2 t2]) ∈ news ++ own := List.mem_append_left _ hm
    simp only [List.cons_append] at N3
    refine wpAny_call ?_
    k_dflt kla_enter
    k_steps
  case cont =>
    intro D h' tk out c F3 N3 hlt hst
    clear F2 N2
    have hout := hr.sorted hst
    have hsz : out.size = ts.length := by rw [← Array.length_toList, hout, List.length_map, (isort_perm ts).length_eq]
    refine LCp.SrcLP.ledger (k := c) (its := out) (by rfl) (by k_asm) (by k_asm) (by k_mem) ?_ ?_
    · rw [hsz, sizeLine_eq]; lia
    · intro g
      refine compP_snd (codes := (isort ts).map (·.2.2)) (addrs := (isort ts).map (·.2.1)) ?_ ?_ ?_ (fun _ => rfl) (fun _ => rfl) ?_ ?_ (by decide) out.size 0 [] (Nat.zero_add _) IntsAre.nil
      · rw [hout, List.map_map]; rfl
      · intro i t ht
        rw [List.getElem?_map, Option.map_eq_some_iff] at ht
        obtain ⟨x, hx, rfl⟩ := ht
        obtain ⟨t1, t2, hm⟩ := hr.mem x ((isort_perm ts).mem_iff.mp (List.mem_of_getElem? hx))
        exact ⟨x.1, x.2.2, t1, t2, by rw [List.getElem?_map, hx]; rfl, by k_mem⟩
      · exact Or.inr ⟨_, by k_mem, rfl, _, rfl⟩
      · intro ys hy
        clear F3 N3
        k_steps
        rename (_ ≠ _ ∧ _ ≠ _ ∧ _) => o2
        obtain ⟨-, -, o4, o3, o5⟩ := o2
        exact hret _ ys ys.length [(119, _), (_, _)] _ _ (.inr ⟨_, _, _, _, rfl, hd1, hd2⟩) (List.forall_mem_cons.mpr ⟨fun q hq e => h9 q hq e.symm, List.forall_mem_cons.mpr ⟨hc1, fun _ h => nomatch h⟩⟩) hy (by k_asm) (cb_drop (by k_asm) (by kcj_all)) (off1_ne (l := _ :: _ :: news) ⟨o4, o3, o5⟩)
      · rw [hsz, List.length_map, (isort_perm ts).length_eq]
theorem c_fs (l : Addr) (arr : Array Value) (n : Nat) (ts : List (Int × Addr × Int)) (T news : List (Addr × Obj)) (hT : LamL T) (hl : (l, listOf arr n) ∈ news) (hr : RunL news arr.toList ts) (h60 : ts.length < 60) (hdis : Dis T news) :
    ConC w 5 122 [.ref l] (T ++ news) (fun h₀ L m _ s Q => RetLT T ((isort ts).map (·.2.2)) h₀ L m news s Q) := by
  have h9 := hT.at hdis
  rcases hT with rfl | ⟨c, oc, vs, t, rfl, h1, h2⟩
  · exact c_fs0 l arr.toList n ts news hl hr h60 h9
  · exact c_fs1 l arr.toList n ts news hl hr h60 h9 c oc vs t (fun q hq => hdis _ (.tail _ (.head _)) q hq) h1 h2
/-- a ledger l with the table's part T in it, r without it, g with another such part -/
inductive Shf (T news : List (Addr × Obj)) : List (Addr × Obj) → List (Addr × Obj) → (List (Addr × Obj) → List (Addr × Obj)) → Prop
  | nil : Shf T news (T ++ news) news (fun T' => T' ++ news)
  | cons {x : Addr × Obj} {l r : List (Addr × Obj)} {g : List (Addr × Obj) → List (Addr × Obj)} : Shf T news l r g → Shf T news (x :: l) (x :: r) (fun T' => x :: g T')
theorem Shf.sub {T news l r : List (Addr × Obj)} {g : List (Addr × Obj) → List (Addr × Obj)} (S : Shf T news l r g) : ∀ p ∈ T ++ r, p ∈ l := by
  induction S with
  | nil => exact fun p hp => hp
  | cons _ ih =>
    intro p hp
    rcases List.mem_append.mp hp with h | h
    · exact .tail _ (ih p (List.mem_append_left _ h))
    · rcases List.mem_cons.mp h with rfl | h
      · exact .head _
      · exact .tail _ (ih p (List.mem_append_right _ h))
theorem Shf.sub' {T T' news l r : List (Addr × Obj)} {g : List (Addr × Obj) → List (Addr × Obj)} (S : Shf T news l r g) : ∀ p ∈ g T', p ∈ T' ++ r := by
  induction S with
  | nil => exact fun p hp => hp
  | cons _ ih =>
    intro p hp
    rcases List.mem_cons.mp hp with rfl | h
    · exact List.mem_append_right _ (.head _)
    · rcases List.mem_append.mp (ih p h) with h | h
      · exact List.mem_append_left _ h
      · exact List.mem_append_right _ (.tail _ h)
noncomputable abbrev RetLS (r : List (Addr × Obj)) (g : List (Addr × Obj) → List (Addr × Obj)) (cs : List Int) : RetT := fun h₀ L m news s Q => ∀ (a : Addr) (its : List Value) (n : Nat) (T' : List (Addr × Obj)) (h' : Heap) (tk' : Nat), LamL T' → Dis T' r → IntsAre its cs → Fr h₀ L h' m → News h₀ L h' ((a, lstO its n) :: g T') → (∀ p ∈ g T', p.1 ≠ a) → Q (.ref a) { s with heap := h', toks := tk' }
theorem ConC.lift {D : Nat} {f : Addr} {vs : List Value} {cs : List Int} {T news l r : List (Addr × Obj)} {g : List (Addr × Obj) → List (Addr × Obj)} (S : Shf T news l r g)
    (C : ConC w D f vs (T ++ r) (fun h₀ L m _ s Q => RetLT T cs h₀ L m r s Q)) : ConC w D f vs l (RetLS r g cs) := by
  intro p loose mean mg mb dp un gd cn cs' a ccd cl outer A₀ base h₀ L m s Q E hC B F X N T' hk hd hu hret
  refine C p loose mean mg mb dp un gd cn cs' a ccd cl outer A₀ base h₀ L m s Q E hC B F X (cb_drop N S.sub) T' hk hd hu ?_
  intro a its n T2 h' tk' hT hdis hi F' N' hne
  refine hret a its n T2 h' tk' hT hdis hi F' (cb_drop N' ?_) fun p hp => hne p (S.sub' p hp)
  intro p hp
  rcases List.mem_cons.mp hp with rfl | hp
  · exact .head _
  · exact .tail _ (S.sub' p hp)
theorem ConC.use {D : Nat} {f : Addr} {vs : List Value} {news : List (Addr × Obj)} {R : RetT} (C : ConC w D f vs news R) {p : Program} {loose : List Str} {mean : ExcName → Option Value} {mg mb : Str → Option Value}
    {dp un : Nat} {gd : Option (List Code)} {cn : Str} {cs : Scope} {a : Addr} {ccd : Value} {cl : List (Str × Addr)} {outer : List Env} {A₀ : Around} {base h₀ : Heap} {L : Addr} {m : Str → Option Value} {s : Shared} {Q E : Value → Shared → Prop}
    (hC : CodeHd h₀ 121 119) (B : Below A₀ base outer h₀) (F : Fr h₀ L s.heap m) (X : (hd.heap_1 w.params).In h₀) (N : News h₀ L s.heap news) (T : Top p loose mean mg mb h₀) (hk : cs.kind = .function)
    (hd : dp + D < recursionLimit) (hu : un + 100 * D + 200 < cLine) (hR : R h₀ L m news s Q) :
      wpAny (model PySem.Challenge.pw_nt0050_01 w) (ktrTop dp un gd cn cs L a ccd cl outer) (call (.ref f) vs) Q E s :=
  C p loose mean mg mb dp un gd cn cs a ccd cl outer A₀ base h₀ L m s Q E hC B F X N T hk hd hu hR
theorem RunL.mono {news news' : List (Addr × Obj)} {its : List Value} {ts : List (Int × Addr × Int)} (h : RunL news its ts) (hs : ∀ p ∈ news, p ∈ news') : RunL news' its ts :=
  ⟨h.its_eq, fun x hx => let ⟨t1, t2, m⟩ := h.mem x hx; ⟨t1, t2, hs _ m⟩, h.up⟩
theorem ConC.enterB {D : Nat} {f : Addr} {vs : List Value} {news : Led} {R : RetT} {name qual : Str} {params : Arguments} {body : List Stmt} {scope : Scope} {dV kV doc pm cdv ct oc : Value} {an od : Option Addr} {osl : Array (Option Value)} (fm : List (Str × Value))
    (ho : List.lookup f (hd.heap_1 w.params) = some { cls := oc, dict := od, data := Data.func (fnOf name qual params body scope dV kV doc pm an cdv ct), slots := osl })
    (hcd : codeIn (hd.heap_1 w.params) cdv qual = true)
    (hb : ∀ s : Shared, (hd.heap_1 w.params).In s.heap → BindsTo s (fnOf name qual params body scope dV kV doc pm an cdv ct) { pos := vs } fm.reverse)
    (hl : (fm.reverse.all fun y => scope.names.lookup y.1 == some .local) = true)
    (hco : scope.isCoroutine = false) (hgen : scope.isGenerator = false) (hk : scope.kind = .function)
    (hc : (scope.names.all fun x => x.2 != .cell) = true)
    (h : ∀ c : Cx w D { name := qual, scope := scope, addr := f, code := cdv }, CodeHd c.g 121 119 → R c.k.h c.k.L c.k.m news c.k.s c.k.Q → St c (optF fm) news body c.fin) : ConC w (D + 1) f vs news R := by
  intro p loose mean mg mb dp un gd cn cs a ccd cl outer A₀ base h₀ L m s Q E hC B F X N T hkk hd hu hret
  refine wpAny_call ?_
  refine code_def B F X N T rfl rfl hkk ho hcd (show dp < recursionLimit by lia) (hb _ (X.keeps F.keep)) ?_ ?_ hco hgen hk ?_
  · intro y hy
    have := List.all_eq_true.mp hl y hy
    exact eq_of_beq this
  · intro g L' h₁ FG F' N' B' X' T'
    rw [List.reverse_reverse] at F'
    refine (h { k := ⟨h₀, L, m, s, Q⟩, p := p, loose := loose, mean := mean, mg := mg, mb := mb, g := g, L := L', dp := dp + 1, un := un + 3, gd := gd, outer := _, A0 := _, base := base, E := _, B := B', X := X', T := T', hk := hk, hd := by lia, hu := by lia, po := PassesOwn.leaving } (hC.keeps FG.keep) hret).run h₁ _ _ ⟨frTo F' fun y => lk_optF y fm, N'⟩ ?_
    intro f m' nw' h' tk' I hK
    refine leaveK_ I.F I.N ?_
    intro F2 N2
    exact hK h' tk' F2 N2
  · intro x hx
    have := List.all_eq_true.mp hc x hx
    exact bne_iff_ne.mp this
theorem ConC.enter {D : Nat} {f : Addr} {vs : List Value} {news : Led} {R : RetT} {name qual : Str} {params : Arguments} {body : List Stmt} {scope : Scope} {dV kV doc pm cdv ct oc : Value} {an od : Option Addr} {osl : Array (Option Value)} (fm : List (Str × Value))
    (ho : List.lookup f (hd.heap_1 w.params) = some { cls := oc, dict := od, data := Data.func (fnOf name qual params body scope dV kV doc pm an cdv ct), slots := osl })
    (hcd : codeIn (hd.heap_1 w.params) cdv qual = true)
    (hb : bindArgs (fnOf name qual params body scope dV kV doc pm an cdv ct) { pos := vs } = pure fm.reverse)
    (hl : (fm.reverse.all fun y => scope.names.lookup y.1 == some .local) = true)
    (hco : scope.isCoroutine = false) (hgen : scope.isGenerator = false) (hk : scope.kind = .function)
    (hc : (scope.names.all fun x => x.2 != .cell) = true)
    (h : ∀ c : Cx w D { name := qual, scope := scope, addr := f, code := cdv }, CodeHd c.g 121 119 → R c.k.h c.k.L c.k.m news c.k.s c.k.Q → St c (optF fm) news body c.fin) : ConC w (D + 1) f vs news R :=
  ConC.enterB fm ho hcd (fun _ _ => BindsTo.of_eq hb) hl hco hgen hk hc h
section
variable {D : Nat} {i : Fn} {c : Cx w D i} {m : Fm} {nw : Led}
theorem Ca.conC {f : Addr} {vs : List Value} {K : Value → Led → Prop} {D' : Nat} {R : RetT} (hC : CodeHd c.g 121 119) (C : ConC w D' f vs nw R) (hD : Nat.ble D' D = true)
    (hR : ∀ (h : Heap) (tk : Nat) (Q : Value → Shared → Prop), (∀ v nw' h' tk', Fr c.g c.L h' (lk m) → News c.g c.L h' nw' → K v nw' → Q v (c.st h' tk')) → R c.g c.L (lk m) nw (c.st h tk) Q) : Ca c m nw (.ref f) vs K := by
  refine ⟨fun h0 tk Q I hQ => ?_⟩
  have hD := Nat.le_of_ble_eq_true hD
  have h1 := c.hd
  have h2 := c.hu
  exact ConC.use C hC c.B I.F c.X I.N c.T c.hk (by lia) (by lia) (hR h0 tk Q fun v nw' h' tk' F N hK => hQ _ _ _ _ ⟨F, N⟩ hK)
/-- .. a contract with the table's part in the ledger -/
theorem Ca.conT {f : Addr} {vs : List Value} {K : Value → Led → Prop} {D' : Nat} {cs : List Int} {T news r : Led} {g : Led → Led} (S : Shf T news nw r g) (hC : CodeHd c.g 121 119) (C : ConC w D' f vs (T ++ r) (fun h₀ L m _ s Q => RetLT T cs h₀ L m r s Q)) (hD : Nat.ble D' D = true)
    (hK : ∀ a its n T', LamL T' → Dis T' r → IntsAre its cs → (∀ p ∈ g T', p.1 ≠ a) → K (.ref a) ((a, lstO its n) :: g T')) : Ca c m nw (.ref f) vs K :=
  Ca.conC hC (ConC.lift S C) hD fun _ _ _ hQ a its n T' h' tk' hT hd hi F N hne => hQ _ _ _ _ F N (hK a its n T' hT hd hi hne)
theorem Ca.fs {K : Value → Led → Prop} {l : Addr} {its : List Value} {n : Nat} {ts : List (Int × Addr × Int)} {T news r : Led} {g : Led → Led} (hC : CodeHd c.g 121 119) (S : Shf T news nw r g) (hD : Nat.ble 5 D = true) (hT : LamL T) (hl : (l, lstO its n) ∈ r) (hr : RunL r its ts) (h60 : ts.length < 60) (hdis : Dis T r)
    (hK : ∀ a its n T', LamL T' → Dis T' r → IntsAre its ((isort ts).map (·.2.2)) → its.length ≤ 400 → (∀ p ∈ g T', p.1 ≠ a) → K (.ref a) ((a, lstO its n) :: g T')) : Ca c m nw (.ref 122) [.ref l] K :=
  Ca.conT S hC (c_fs l its.toArray n ts T r hT hl (by rw [List.toList_toArray]; exact hr) h60 hdis) hD fun a its n T' q1 q2 q3 q4 => hK a its n T' q1 q2 q3 (by have := q3.length; rw [List.length_map, (isort_perm ts).length_eq] at this; lia) q4
theorem ne_mem {n : Led} {x y : Addr} {o : Obj} (l : ∀ p ∈ n, p.1 ≠ y) (h : (x, o) ∈ n) : x ≠ y := l _ h
theorem ne_memS {n : Led} {x y : Addr} {o : Obj} (l : ∀ p ∈ n, p.1 ≠ y) (h : (x, o) ∈ n) : y ≠ x := (l _ h).symm
theorem ne_subR {n r : Led} {y : Addr} (l : ∀ p ∈ n, p.1 ≠ y) (h : ∀ p ∈ r, p ∈ n) : ∀ p ∈ r, p.1 ≠ y := fun p hp => l p (h p hp)
theorem ne_dis {T l : Led} {x : Addr} {o : Obj} (h : Dis T l) (hm : (x, o) ∈ l) : ∀ p ∈ T, p.1 ≠ x := fun p hp => h p hp _ hm
theorem ne_app {l l' : Led} {x : Addr} (h : ∀ p ∈ l, p.1 ≠ x) (h' : ∀ p ∈ l', p.1 ≠ x) : ∀ p ∈ l ++ l', p.1 ≠ x := List.forall_mem_append.mpr ⟨h, h'⟩
theorem sub_l {T l : Led} : ∀ p ∈ T, p ∈ T ++ l := fun _ h => List.mem_append_left _ h
theorem sub_rr {T l : Led} : ∀ p ∈ l, p ∈ T ++ l := fun _ h => List.mem_append_right _ h
theorem sub_ra {T l r : Led} (h : ∀ p ∈ r, p ∈ l) : ∀ p ∈ r, p ∈ T ++ l := fun p hp => List.mem_append_right _ (h p hp)
theorem Dis.cons' {T l : Led} {a : Addr} {o : Obj} (h : ∀ p ∈ T, p.1 ≠ a) (r : Dis T l) : Dis T ((a, o) :: l) := Dis.cons (x := (a, o)) h r
end
theorem kw21 : True := by
  (k_with "m:hdis" => (first | (with_reducible assumption) | exact Dis.nil | ((with_reducible apply Dis.cons'); walk_at "hneR"; walk_at "hdis")))
  (k_with "m:hsub" => (first | exact sub_l | exact sub_rr | ((with_reducible apply sub_ra); walk_at "hsub")))
  (k_with "m:hmem" => (exact List.mem_append_right _ (by (with_reducible assumption))))
  (k_with "m:hne" => (first | ((with_reducible apply ne_mem); (with_reducible assumption); walk_at "hmem") | ((with_reducible apply ne_memS); (with_reducible assumption); walk_at "hmem")))
  (k_with "m:hneR" => (first | ((with_reducible apply ne_subR); (with_reducible assumption); walk_at "hsub") | ((with_reducible apply ne_dis); (with_reducible assumption); walk_at "hmem") | ((with_reducible apply ne_app); walk_at "hneR"; walk_at "hneR")))
  (k_with "m:hshf" => (first | exact Shf.nil | ((with_reducible apply Shf.cons); walk_at "hshf")))
  (k_with "m:hca" => ((with_reducible apply Ca.fs); (with_reducible assumption); walk_at "hshf"; exact rfl; (with_reducible assumption); walk_at "hmem"; (first | (with_reducible assumption) | exact RunL.mono (by assumption) (by walk_at "hsub")); (first | (with_reducible assumption) | omega); walk_at "hdis"))
  trivial
theorem updF_upd {d : Addr} {o : Obj} {l : List (Addr × Obj)} {g : Obj → List (Addr × Obj)} (U : UpdF d o l g) (o' : Obj) : Upd d o o' l (g o') := by
  induction U with
  | head h => exact Upd.head h
  | tail h _ ih => exact Upd.tail h ih
theorem not_long {n : Nat} {b : Bool} (h : n ≤ 1000) : ¬(b && Builtin.List.listTooLong n) = true := by
  have : Builtin.List.listTooLong n = false := by
    unfold Builtin.List.listTooLong
    exact decide_eq_false (by rw [sizeLine_eq]; lia)
  rw [this, Bool.and_false]; exact Bool.false_ne_true
theorem lx_extend {prog : Program} {A : Around} {E : Value → Shared → Prop} {s : Shared} {h₀ : Heap} {L D b : Addr} {m : Str → Option Value} {news : List (Addr × Obj)} {g : Obj → List (Addr × Obj)} {arr : Array Value} {vs : List Value} {n n2 : Nat} {Q : Value → Shared → Prop}
    (F : Fr h₀ L s.heap m) (N : News h₀ L s.heap news) (hb : (b, lstO vs n2) ∈ news) (U : UpdF D (listOf arr n) news g) (h1 : arr.size ≤ 400) (h2 : vs.length ≤ 400)
    (h : ∀ h' n', Fr h₀ L h' m → News h₀ L h' (g (listOf (arr ++ vs.toArray) n')) → Q .none { s with heap := h' }) : wpAny (model prog w) A (call (.builtin "list.extend") [.ref D, .ref b]) Q E s := by
  have e4 : vs.toArray.size = vs.length := List.size_toArray ..
  by_cases h0 : vs = []
  · subst h0
    refine kxn_extend (its := arr) (n := n) F N hb rfl (updF_upd U _) (not_long (by lia)) (by rw [Array.length_toList, sizeLine_eq]; lia) (by rw [sizeLine_eq]; lia) fun h' F' N' => h h' n F' ?_
    rw [show arr ++ ([] : List Value).toArray = arr by simp]; exact N'
  · refine kl_extend (its := arr) (n := n) (l := arr.toList ++ vs) F N hb (by simp) (by simpa using h0) (updF_upd U _) (not_long (by lia)) (by rw [Array.length_toList, sizeLine_eq]; lia) (by rw [sizeLine_eq]; lia) fun h' F' N' => h h' (n + 1) F' ?_
    rw [show arr ++ vs.toArray = (arr.toList ++ vs).toArray by apply Array.toList_inj.mp; simp]; exact N'
section
variable {D : Nat} {i : Fn} {c : Cx w D i} {m : Fm} {nw : Led}
theorem Gm.extend {a : Addr} {its : List Value} {n : Nat} {K : Value → List Value → Led → Prop} (ha : (a, lstO its n) ∈ nw) (hK : K (.builtin "list.extend") [.ref a] nw) : Gm c m nw (.ref a) (Str.ofString "extend") K :=
  ⟨fun h tk pl Q I hQ => kl_method I.N ha PySem.F.slot_list_extend PySem.F.type_list_extend (hQ _ _ _ _ _ I hK)⟩
theorem Ca.extend {a b : Addr} {its vs : List Value} {n n2 : Nat} {g : Obj → Led} {K : Value → Led → Prop} (U : UpdF a (lstO its n) nw g) (hb : (b, lstO vs n2) ∈ nw) (h1 : its.length ≤ 400) (h2 : vs.length ≤ 400) (hK : ∀ n', K .none (g (lstO (its ++ vs) n'))) : Ca c m nw (.builtin "list.extend") [.ref a, .ref b] K :=
  ⟨fun h tk Q I hQ => lx_extend (arr := its.toArray) I.F I.N hb U (by rw [List.size_toArray]; exact h1) h2 fun h' n' F' N' => hQ _ _ _ _ ⟨F', by rw [List.append_toArray] at N'; exact N'⟩ (hK n')⟩
end
theorem kw22 : True := by
  (k_with "m:hca" => ((with_reducible apply Gm.extend); walk_at "hmem"))
  (k_with "m:hca" => ((with_reducible apply Ca.extend); walk_at "hupd"; walk_at "hmem"; (first | assumption | omega); (first | assumption | omega)))
  trivial
/-- what ordered makes: the run so far, and what follows -/
noncomputable def ordGo (run : List (Int × Int)) : List Int → List Int
  | [] => (isort run).map (·.2)
  | c :: r => if 0 < cls c then ordGo (run ++ [(cls c, c)]) r else (isort run).map (·.2) ++ c :: ordGo [] r
theorem ints_at {vs : List Value} {ns : List Int} {i : Nat} {v : Value} (h : IntsAre vs ns) (e : vs[i]? = some v) : ∃ c t, ns[i]? = some c ∧ v = .int c t := by
  induction h generalizing i with
  | nil => cases e
  | cons n t r ih =>
    cases i with
    | zero => exact ⟨n, t, rfl, (Option.some.inj e).symm⟩
    | succ i => exact ih e
theorem drop_at {ns : List Int} {i : Nat} {c : Int} (h : ns[i]? = some c) : ns.drop i = c :: ns.drop (i + 1) := by
  obtain ⟨h1, h2⟩ := List.getElem?_eq_some_iff.mp h
  rw [List.drop_eq_getElem_cons h1, h2]
theorem ints_app {vs vs' : List Value} {ns ns' : List Int} (h : IntsAre vs ns) (h' : IntsAre vs' ns') : IntsAre (vs ++ vs') (ns ++ ns') := by
  induction h with
  | nil => exact h'
  | cons n t r ih => exact .cons n t ih
structure OrdP (news nw T : Led) (wf ru : Addr) (cs : List Int) (i : Nat) (fa ra : List Value) (ts : List (Int × Addr × Int)) (out : List Int) : Prop where
  lam : LamL T
  sub : ∀ p ∈ news, p ∈ nw
  dis : Dis T nw
  disf : ∀ p ∈ T, p.1 ≠ wf
  disr : ∀ p ∈ T, p.1 ≠ ru
  nwf : ∀ p ∈ nw, p.1 ≠ wf
  nwr : ∀ p ∈ nw, p.1 ≠ ru
  wr : wf ≠ ru
  run : RunL nw ra ts
  fints : IntsAre fa out
  eq : out ++ ordGo (ts.map fun x => (x.1, x.2.2)) (cs.drop i) = ordGo [] cs
  len : out.length + ts.length ≤ i
theorem RunL.push {nw : Led} {ra : List Value} {ts : List (Int × Addr × Int)} {k c : Int} {D : Addr} {t1 t2 : Tok} (h : RunL nw ra ts) (hD : ∀ p ∈ nw, p.1 < D) :
    RunL ((D, tupO [.int k t1, .int c t2]) :: nw) (ra ++ [.ref D]) (ts ++ [(k, D, c)]) := by
  refine ⟨by rw [h.its_eq]; simp, fun x hx => ?_, ?_⟩
  · rcases List.mem_append.mp hx with hx | hx
    · obtain ⟨u1, u2, m⟩ := h.mem x hx
      exact ⟨u1, u2, .tail _ m⟩
    · rw [List.mem_singleton.mp hx]
      exact ⟨t1, t2, .head _⟩
  · refine List.pairwise_append.mpr ⟨h.up, List.pairwise_singleton _ _, fun x hx y hy => ?_⟩
    obtain ⟨u1, u2, m⟩ := h.mem x hx
    rw [List.mem_singleton.mp hy]
    exact hD _ m
theorem isort2 (ts : List (Int × Addr × Int)) : (isort (ts.map fun x => (x.1, x.2.2))).map (·.2) = (isort ts).map (·.2.2) := by
  rw [isort_map (fun x : Addr × Int => x.2) ts, List.map_map]; rfl
theorem OrdP.step1 {news nw T : Led} {wf ru D : Addr} {cs : List Int} {i : Nat} {fa ra : List Value} {ts : List (Int × Addr × Int)} {out : List Int} {c : Int} {t1 t2 : Tok}
    (h : OrdP news nw T wf ru cs i fa ra ts out) (hc : cs[i]? = some c) (hw : 0 < cls c) (hD : ∀ p ∈ T ++ nw, p.1 < D) (hDw : wf < D) (hDr : ru < D) :
    OrdP news ((D, tupO [.int (cls c) t1, .int c t2]) :: nw) T wf ru cs (i + 1) fa (ra ++ [.ref D]) (ts ++ [(cls c, D, c)]) out := by
  obtain ⟨k1, k2, k3, k4, k5, k6, k7, k8, k9, k10, k11, k12⟩ := h
  refine ⟨k1, fun p hp => .tail _ (k2 p hp), Dis.cons (fun p hp => Nat.ne_of_lt (hD p (List.mem_append_left _ hp))) k3, k4, k5, List.forall_mem_cons.mpr ⟨Nat.ne_of_gt hDw, k6⟩, List.forall_mem_cons.mpr ⟨Nat.ne_of_gt hDr, k7⟩, k8, k9.push fun p hp => hD p (List.mem_append_right _ hp), k10, ?_, ?_⟩
  · rw [← k11, drop_at hc, ordGo, if_pos hw, List.map_append]; rfl
  · rw [List.length_append, List.length_singleton]; lia
theorem OrdP.step2 {news nw T T' : Led} {wf ru ru' : Addr} {cs : List Int} {i : Nat} {fa ra : List Value} {ts : List (Int × Addr × Int)} {out : List Int} {c : Int} {t1 : Tok} {vs : List Value}
    (h : OrdP news nw T wf ru cs i fa ra ts out) (hc : cs[i]? = some c) (hw : ¬ 0 < cls c) (hT : LamL T') (hd : Dis T' nw) (hTw : ∀ p ∈ T', p.1 ≠ wf) (hD : ∀ p ∈ T' ++ nw, p.1 < ru') (hDw : wf < ru') (hi : IntsAre vs ((isort ts).map (·.2.2))) :
    OrdP news nw T' wf ru' cs (i + 1) (fa ++ vs ++ [.int c t1]) [] [] (out ++ (isort ts).map (·.2.2) ++ [c]) := by
  obtain ⟨k1, k2, k3, k4, k5, k6, k7, k8, k9, k10, k11, k12⟩ := h
  refine ⟨hT, k2, hd, hTw, fun p hp => Nat.ne_of_lt (hD p (List.mem_append_left _ hp)), k6, fun p hp => Nat.ne_of_lt (hD p (List.mem_append_right _ hp)), Nat.ne_of_lt hDw, ⟨rfl, (fun x hx => nomatch hx), List.Pairwise.nil⟩, ints_app (ints_app k10 hi) (.cons c t1 .nil), ?_, ?_⟩
  · rw [← k11, drop_at hc, ordGo, if_neg hw, isort2]
    simp
  · rw [List.length_append, List.length_append, List.length_map, (isort_perm ts).length_eq, List.length_singleton, List.length_nil]; lia
noncomputable abbrev ordF (l d wf ru : Addr) (u v : Option Value) : Fm := [(Str.ofString "data", some (.ref d)), (Str.ofString "text", some (.ref l)), (Str.ofString "run", some (.ref ru)), (Str.ofString "found", some (.ref wf)), (Str.ofString "code", u), (Str.ofString "weight", v)]
theorem lk_set {m m' : Fm} {x : Str} {v : Option Value} {m2 : Fm} (h : ∀ y, lk m y = lk m' y) (e : setO m' x v = m2) (y : Str) : lk (setO m x v) y = lk m2 y := by
  rw [← e, ← lk_setO, ← lk_setO, h]
theorem sub_a {l l' r : Led} (h : ∀ p ∈ l, p ∈ r) (h' : ∀ p ∈ l', p ∈ r) : ∀ p ∈ l ++ l', p ∈ r := List.forall_mem_append.mpr ⟨h, h'⟩
inductive OrdJ (news : Led) (l d wf : Addr) (cs : List Int) (k : Nat) (m : Fm) (n : Led) : Prop
  | mk (fa : List Value) (fn : Nat) (ru : Addr) (ra : List Value) (rn : Nat) (T nw : Led) (ts : List (Int × Addr × Int)) (out : List Int) (u v : Option Value) : ((∀ y, lk m y = lk (ordF l d wf ru u v) y)) → (n = (ru, lstO ra rn) :: (wf, lstO fa fn) :: (T ++ nw)) → (OrdP news nw T wf ru cs k fa ra ts out) → OrdJ news l d wf cs k m n
theorem OrdJ.ex {news : Led} {l d wf : Addr} {cs : List Int} {k : Nat} {m : Fm} {n : Led} (h : OrdJ news l d wf cs k m n) : OrdJ news l d wf cs k m n := h
theorem OrdJ.mk' {news nw T : Led} {l d wf ru : Addr} {cs : List Int} {k : Nat} {m : Fm} {fa ra : List Value} {fn rn : Nat} {ts : List (Int × Addr × Int)} {out : List Int} (u v : Option Value) (hm : ∀ y, lk m y = lk (ordF l d wf ru u v) y) (P : OrdP news nw T wf ru cs k fa ra ts out) : OrdJ news l d wf cs k m ((ru, lstO ra rn) :: (wf, lstO fa fn) :: (T ++ nw)) := ⟨fa, fn, ru, ra, rn, T, nw, ts, out, u, v, hm, rfl, P⟩
theorem c_ord (l : Addr) (its : List Value) (n : Nat) (cs : List Int) (d tp : Addr) (T news : List (Addr × Obj)) (hT : LamL T) (hl : (l, lstO its n) ∈ news) (hi : IntsAre its cs) (hpos : ∀ c ∈ cs, 0 ≤ c) (hlen : cs.length < 50) (hD : DataIn w news d tp) (hdis : Dis T news) :
    ConC w 9 117 [.ref l, .ref d] (T ++ news) (fun h₀ L m _ s Q => RetLT T (ordGo [] cs) h₀ L m news s Q) := by
  refine ConC.enter [(Str.ofString "data", .ref d), (Str.ofString "text", .ref l)] (by k_is) (by k_is) rfl rfl rfl rfl rfl rfl fun c2 hC hret => ?_
  have hl0 : (l, lstO its n) ∈ T ++ news := List.mem_append_right _ hl
  walk_at "hgo"
  rename_i wf hlt ru hru
  have hTw : ∀ p ∈ T, p.1 < wf := fun p hp => hlt p (List.mem_append_left _ hp)
  have hNw : ∀ p ∈ news, p.1 < wf := fun p hp => hlt p (List.mem_append_right _ hp)
  have hwr : wf < ru := hru _ (.head _)
  refine ForP.mk' (vs := its) (o := lstO its n) (OrdJ news l d wf cs) .li (fun k m1 n1 hJ => ?_) ⟨[], 0, ru, [], 0, T, news, [], [], none, none, fun y => lk_padF y [Str.ofString "code", Str.ofString "weight"] _, rfl, ⟨hT, fun p hp => hp, hdis, fun p hp => Nat.ne_of_lt (hTw p hp), fun p hp => Nat.ne_of_lt (Nat.lt_trans (hTw p hp) hwr), fun p hp => Nat.ne_of_lt (hNw p hp), fun p hp => Nat.ne_of_lt (Nat.lt_trans (hNw p hp) hwr), Nat.ne_of_lt hwr, ⟨rfl, (fun x hx => nomatch hx), List.Pairwise.nil⟩, IntsAre.nil, rfl, Nat.le_refl _⟩⟩ (fun I it k v m1 n1 hk hJ hne => ?_) (fun m1 n1 u9 hJ => ?_)
  · obtain ⟨fa, fn, ru', ra, rn, T1, nw, ts, out, u, v, hm, rfl, P⟩ := hJ.ex
    exact .tail _ (.tail _ (List.mem_append_right _ (P.sub _ hl)))
  · obtain ⟨fa, fn, ru', ra, rn, T1, nw, ts, out, u, x, hm, rfl, P⟩ := hJ.ex
    obtain ⟨k1, k2, k3, k4, k5, k6, k7, k8, k9, k10, k11, k12⟩ := id P
    obtain ⟨c, t1, hc, rfl⟩ := ints_at hi hk
    have hc0 : 0 ≤ c := hpos c (List.mem_of_getElem? hc)
    have hci : k < cs.length := (List.getElem?_eq_some_iff.mp hc).1
    have hD' : DataIn w (T1 ++ nw) d tp := hD.mono fun p hp => List.mem_append_right _ (k2 p hp)
    have hra0 : ra.length = ts.length := by rw [k9.its_eq, List.length_map]
    have hfa0 : fa.length = out.length := k10.length
    have hra : ra.length ≤ 100000 := by lia
    have hfa : fa.length ≤ 400 := by lia
    have h60 : ts.length < 60 := by lia
    have hTwf : ∀ p ∈ T1 ++ nw, p.1 ≠ wf := List.forall_mem_append.mpr ⟨k4, k6⟩
    have hTru : ∀ p ∈ T1 ++ nw, p.1 ≠ ru' := List.forall_mem_append.mpr ⟨k5, k7⟩
    obtain ⟨q1, q2⟩ := List.forall_mem_cons.mp hne
    obtain ⟨q2, q3⟩ := List.forall_mem_cons.mp q2
    dsimp only at q1 q2
    have hTI : ∀ p ∈ T1, p.1 ≠ I := fun p hp => q3 p (List.mem_append_left _ hp)
    refine St.frE (lk_set (m2 := ordF l d wf ru' (some (.int c t1)) x) hm rfl) ?_
    clear hm
    walk_at "hgo"
    · rename (∀ p ∈ (I, it) :: _, p.1 < _) => lD
      have hD9 := List.forall_mem_cons.mp lD
      have hD8 := List.forall_mem_cons.mp hD9.2
      have hD7 := List.forall_mem_cons.mp hD8.2
      exact Kf.mk' (OrdJ.mk' _ _ (fun _ => rfl) (P.step1 hc (by assumption) hD7.2 hD7.1 hD8.1)) (sub_m (by walk_at "hmem") (sub_m (by walk_at "hmem") (sub_a (fun p hp => .tail _ (.tail _ (.tail _ (.tail _ (List.mem_append_left _ hp))))) (sub_m (.head _) fun p hp => .tail _ (.tail _ (.tail _ (.tail _ (List.mem_append_right _ hp))))))))
        (.tail _ (.head _)) (ne_cons q1 (ne_cons q2 (ne_app hTI (ne_cons (Nat.ne_of_gt hD9.1) fun p hp => q3 p (List.mem_append_right _ hp)))))
    · rename (∀ p ∈ (_, lstO _ _) :: (I, it) :: _, p.1 < _) => lD
      rename Dis _ ((I, it) :: _) => dT
      rename LamL _ => lT
      have hD9 := List.forall_mem_cons.mp (List.forall_mem_cons.mp lD).2
      have hD8 := List.forall_mem_cons.mp (List.forall_mem_cons.mp hD9.2).2
      exact Kf.mk' (OrdJ.mk' _ _ (fun _ => rfl) (P.step2 hc (by assumption) lT dT.tail.tail.tail dT.tail.tail.head hD8.2 hD8.1 (by assumption))) (sub_m (.head _) (sub_m (by walk_at "hmem") fun p hp => .tail _ (.tail _ (.tail _ (.tail _ (.tail _ hp))))))
        (.tail _ (.tail _ (.head _))) (ne_cons (Nat.ne_of_gt hD9.1) (ne_cons q2 (ne_app dT.head fun p hp => q3 p (List.mem_append_right _ hp))))
  · obtain ⟨fa, fn, ru', ra, rn, T1, nw, ts, out, u, x, hm, rfl, P⟩ := hJ.ex
    obtain ⟨k1, k2, k3, k4, k5, k6, k7, k8, k9, k10, k11, k12⟩ := id P
    have hil := hi.length
    rw [hil, List.drop_length] at k11
    have hfa0 : fa.length = out.length := k10.length
    have hfa : fa.length ≤ 400 := by lia
    have h60 : ts.length < 60 := by lia
    refine St.frE (lk_set (m2 := ordF l d wf ru' u9 x) hm rfl) ?_
    clear hm
    walk_at "hgo"
    rename Dis _ ((ru', _) :: _) => dT
    rename LamL _ => lT
    rename IntsAre _ (List.map _ _) => hi9
    exact fun h' tk' F N => hret wf _ _ _ h' tk' lT (dT.tail.tail.sub k2) (by rw [← k11, ordGo, isort2]; exact ints_app k10 hi9) F (cb_drop N (sub_m (by walk_at "hmem") fun p hp => .tail _ (.tail _ (.tail _ (List.forall_mem_append.mpr ⟨fun p hp => List.mem_append_left _ hp, fun p hp => List.mem_append_right _ (k2 p hp)⟩ p hp))))) (ne_app dT.tail.head fun p hp => k6 p (k2 p hp))
section
variable {D : Nat} {i : Fn} {c : Cx w D i} {m : Fm} {nw : Led}
theorem Ca.ord {K : Value → Led → Prop} {l d tp : Addr} {its : List Value} {n : Nat} {cs : List Int} {T news r : Led} {g : Led → Led} (hC : CodeHd c.g 121 119) (S : Shf T news nw r g) (hD : Nat.ble 9 D = true) (hT : LamL T) (hl : (l, lstO its n) ∈ r) (hi : IntsAre its cs) (hpos : ∀ c ∈ cs, 0 ≤ c) (hlen : cs.length < 50) (hDt : DataIn w r d tp) (hdis : Dis T r)
    (hK : ∀ a its n T', LamL T' → Dis T' r → IntsAre its (ordGo [] cs) → (∀ p ∈ g T', p.1 ≠ a) → K (.ref a) ((a, lstO its n) :: g T')) : Ca c m nw (.ref 117) [.ref l, .ref d] K :=
  Ca.conT S hC (c_ord l its n cs d tp T r hT hl hi hpos hlen hDt hdis) hD hK
end
theorem kw23 : True := by
  (k_with "m:hca" => ((with_reducible apply Ca.ord); (with_reducible assumption); walk_at "hshf"; exact rfl; (with_reducible assumption); walk_at "hmem"; (with_reducible assumption); (with_reducible assumption); (first | (with_reducible assumption) | omega); (first | (with_reducible assumption) | exact DataIn.mono (by assumption) (by walk_at "hsub")); walk_at "hdis"))
  trivial
theorem mem_skip {x y : Addr × Obj} {l : List (Addr × Obj)} : ∀ p ∈ x :: l, p ∈ x :: y :: l := fun p hp => by
  rcases List.mem_cons.mp hp with rfl | h
  · exact .head _
  · exact .tail _ (.tail _ h)
noncomputable def decP (cs : List Int) : List Int := ordGo [] (cs.flatMap expand)
theorem expand_len (c : Int) : (expand c).length ≤ 3 := by
  unfold expand
  split
  · split <;> simp
  · split <;> simp
theorem flat_len (f : Int → List Int) (h : ∀ c, (f c).length ≤ 3) : ∀ cs : List Int, (cs.flatMap f).length ≤ 3 * cs.length
  | [] => Nat.le_refl _
  | c :: r => by
    rw [List.flatMap_cons, List.length_append, List.length_cons]
    have := h c
    have := flat_len f h r
    lia
theorem expand_pos {c : Int} (h : 0 ≤ c) : ∀ x ∈ expand c, 0 ≤ x := by
  intro x hx
  cases h1 : isHS c with
  | true => exact Int.le_trans (by decide) (hs_rng h1 hx).1
  | false =>
    by_cases h2 : c = 224
    · subst h2
      have : expand 224 = [97, 768] := by decide
      rw [this] at hx
      simp only [List.mem_cons, List.not_mem_nil, or_false] at hx
      lia
    · rw [expand_0 h1 h2] at hx
      rw [List.mem_singleton.mp hx]; exact h
section
variable {D : Nat} {i : Fn} {c : Cx w D i} {m : Fm} {nw : Led}
theorem Ca.exp {K : Value → Led → Prop} {n : Int} {t : Tok} {d tp : Addr} {b : Bool} (hd : Nat.ble 9 D = true) (hb : b = false) (hD : DataIn w nw d tp) (hc : 0 ≤ n) (hK : ∀ a its k, IntsAre its (expand n) → its.length ≤ 400 → (∀ p ∈ nw, p.1 < a) → K (.ref a) ((a, lstO its k) :: nw)) : Ca c m nw (.ref 110) [.int n t, .ref d, .bool b] K := hb ▸
  Ca.L (c_exp n t d tp nw hD hc) hd fun a its k h l => hK a its k h (Nat.le_trans (Nat.le_of_eq h.length) (Nat.le_trans (expand_len n) (by decide))) l
end
theorem kw24 : True := by
  (k_with "m:hca" => ((with_reducible apply Ca.exp); exact rfl; exact rfl; (first | (with_reducible assumption) | exact DataIn.mono (by assumption) (by walk_at "hsub")); (first | (with_reducible assumption) | omega)))
  trivial
theorem fin_LT {D : Nat} {i : Fn} {c : Cx w D i} {nw T T' news : Led} {cs : List Int} {a : Addr} {its : List Value} {n : Nat} (hret : RetLT T cs c.k.h c.k.L c.k.m news c.k.s c.k.Q) (hT : LamL T') (hd : Dis T' news) (hi : IntsAre its cs) (hs : ∀ p ∈ (a, lstO its n) :: (T' ++ news), p ∈ nw) (hne : ∀ p ∈ T' ++ news, p.1 ≠ a) : c.k.ret (.ref a) nw :=
  fun h' tk' F N => hret a its n T' h' tk' hT hd hi F (cb_drop N hs) hne
inductive DecJ (news : Led) (l d wf : Addr) (cs : List Int) (k : Nat) (m : Fm) (n : Led) : Prop
  | mk (fs : List Value) (fn : Nat) (u : Option Value) : ((∀ y, lk m y = lk [(Str.ofString "is_compat", some (.bool false)), (Str.ofString "data", some (.ref d)), (Str.ofString "text", some (.ref l)), (Str.ofString "found", some (.ref wf)), (Str.ofString "code", u)] y)) → (n = (wf, lstO fs fn) :: news) → (IntsAre fs ((cs.take k).flatMap expand)) → DecJ news l d wf cs k m n
theorem DecJ.ex {news : Led} {l d wf : Addr} {cs : List Int} {k : Nat} {m : Fm} {n : Led} (h : DecJ news l d wf cs k m n) : DecJ news l d wf cs k m n := h
theorem c_dec (l : Addr) (its : List Value) (n : Nat) (cs : List Int) (d tp : Addr) (T news : List (Addr × Obj)) (hT : LamL T) (hl : (l, lstO its n) ∈ news) (hi : IntsAre its cs) (hpos : ∀ c ∈ cs, 0 ≤ c) (hlen : cs.length < 16) (hD : DataIn w news d tp) (hdis : Dis T news) :
    ConC w 12 130 [.ref l, .ref d, .bool false] (T ++ news) (fun h₀ L m _ s Q => RetLT T (decP cs) h₀ L m news s Q) := by
  refine ConC.enterB [(Str.ofString "is_compat", .bool false), (Str.ofString "data", .ref d), (Str.ofString "text", .ref l)] (by k_is) (by k_is) (fun _ X => binds_K X rfl (by k_is) rfl rfl rfl) rfl rfl rfl rfl rfl fun c2 hC hret => ?_
  have hl0 : (l, lstO its n) ∈ T ++ news := List.mem_append_right _ hl
  have hD' : DataIn w (T ++ news) d tp := hD.mono fun p hp => List.mem_append_right _ hp
  walk_at "hgo"
  rename_i wf l1
  have hne : ∀ p ∈ T ++ news, p.1 ≠ wf := fun p hp => Nat.ne_of_lt (l1 p hp)
  refine ForP.mk' (vs := its) (o := lstO its n) (DecJ (T ++ news) l d wf cs) .li (fun k m1 n1 hJ => ?_) ⟨[], 0, none, fun y => lk_padF y [Str.ofString "code"] _, rfl, .nil⟩ (fun I it k v m1 n1 hk hJ hne => ?_) (fun m1 n1 u9 hJ => ?_)
  · obtain ⟨fs, fn, u, hm, rfl, hP⟩ := hJ.ex
    exact .tail _ hl0
  · obtain ⟨fs, fn, u, hm, rfl, hP⟩ := hJ.ex
    obtain ⟨c, t1, hc, rfl⟩ := ints_at hi hk
    have hc0 : 0 ≤ c := hpos c (List.mem_of_getElem? hc)
    have hfl := flat_len expand expand_len (cs.take k)
    have hfa : fs.length ≤ 400 := by rw [hP.length]; rw [List.length_take] at hfl; lia
    obtain ⟨q1, q2⟩ := List.forall_mem_cons.mp hne
    refine St.frE (lk_set hm rfl) ?_
    clear hm
    walk_at "hgo"
    rename IntsAre _ (expand c) => hi9
    exact Kf.mk' (n' := (wf, _) :: (T ++ news)) ⟨_, _, _, fun _ => rfl, rfl, by rw [List.take_add_one, hc, List.flatMap_append]; exact ints_app hP (by simpa using hi9)⟩ (sub_t (sub_t sub_r)) (.tail _ (.head _)) (ne_cons q1 q2)
  · obtain ⟨fs, fn, u, hm, rfl, hP⟩ := hJ.ex
    rw [hi.length, List.take_length] at hP
    have hfl := flat_len expand expand_len cs
    have h50 : (cs.flatMap expand).length < 50 := by lia
    have hps : ∀ c ∈ cs.flatMap expand, 0 ≤ c := fun x hx => by
      obtain ⟨c, hc, hx⟩ := List.mem_flatMap.mp hx
      exact expand_pos (hpos c hc) x hx
    have hTl := fun p hp => Nat.ne_of_lt (l1 p (List.mem_append_left news hp))
    refine St.frE (lk_set hm rfl) ?_
    clear hm hD'
    walk_at "hgo"
    rename Dis _ (_ :: _) => dT
    rename LamL _ => lT
    rename IntsAre _ (ordGo _ _) => hi9
    rename (∀ p ∈ (wf, _) :: _, p.1 ≠ _) => ne9
    exact fin_LT hret lT dT.tail hi9 mem_skip fun p hp => ne9 p (.tail _ hp)
section
variable {D : Nat} {i : Fn} {c : Cx w D i} {m : Fm} {nw : Led}
theorem Ca.dec {K : Value → Led → Prop} {l d tp : Addr} {its : List Value} {n : Nat} {cs : List Int} {T news r : Led} {g : Led → Led} (hC : CodeHd c.g 121 119) (S : Shf T news nw r g) (hD : Nat.ble 12 D = true) (hT : LamL T) (hl : (l, lstO its n) ∈ r) (hi : IntsAre its cs) (hpos : ∀ c ∈ cs, 0 ≤ c) (hlen : cs.length < 16) (hDt : DataIn w r d tp) (hdis : Dis T r)
    (hK : ∀ a its n T', LamL T' → Dis T' r → IntsAre its (decP cs) → (∀ p ∈ g T', p.1 ≠ a) → K (.ref a) ((a, lstO its n) :: g T')) : Ca c m nw (.ref 130) [.ref l, .ref d, .bool false] K :=
  Ca.conT S hC (c_dec l its n cs d tp T r hT hl hi hpos hlen hDt hdis) hD hK
end
theorem kw25 : True := by
  (k_with "m:hca" => ((with_reducible apply Ca.dec); (with_reducible assumption); walk_at "hshf"; exact rfl; (with_reducible assumption); walk_at "hmem"; (with_reducible assumption); (with_reducible assumption); (first | (with_reducible assumption) | omega); (first | (with_reducible assumption) | exact DataIn.mono (by assumption) (by walk_at "hsub")); walk_at "hdis"))
  trivial
theorem TupTab.mono {prog : Program} {K : Type} [DecidableEq K] {knd : KeyKind prog w K} {enc : K → PyData} {news news' : List (Addr × Obj)} {d : Addr} {D : List (PyData × PyData)} (T : TupTab knd enc news d D) (hs : ∀ p ∈ news, p ∈ news') : TupTab knd enc news' d D := by
  obtain ⟨lo, o, es, ep, xs, hm, hc, hd, he, hn, hk, hf⟩ := T
  exact ⟨lo, o, es, ep, xs, hs _ hm, hc, hd, he, hn, fun x hx => (hk x hx).elim fun okx q => ⟨okx, hs _ q.1, q.2⟩, hf⟩
noncomputable def pairD : List (PyData × PyData) := [(encTuple PyData.int [97, 768], .int 224)]
/-- the composer in the ledger -/
inductive CompoIn (w : World) (news : List (Addr × Obj)) (k : Addr) : Prop
  | mk (kx pd sd : Addr) (os : Obj) (t1 t2 : Tok) : ((k, instObj 175 kx) ∈ news) → ((kx, dictOf [⟨PyData.keyHash w.params (Str.ofString "pairs"), .str (Str.ofString "pairs") t1, .ref pd⟩, ⟨PyData.keyHash w.params (Str.ofString "seconds"), .str (Str.ofString "seconds") t2, .ref sd⟩] 2) ∈ news) → (TupTab (intKind PySem.Challenge.pw_nt0050_01 w) PyData.int news pd pairD) → ((sd, os) ∈ news) → (os.IsDictOf (intKind PySem.Challenge.pw_nt0050_01 w) [((768 : Int), Value.bool true)]) → ((sd == sysModules) = false) → CompoIn w news k
theorem CompoIn.ex {w : World} {news : List (Addr × Obj)} {k : Addr} (h : CompoIn w news k) : CompoIn w news k := h
theorem CompoIn.mono {news news' : List (Addr × Obj)} {k : Addr} (h : CompoIn w news k) (hs : ∀ p ∈ news, p ∈ news') : CompoIn w news' k := by
  obtain ⟨kx, pd, sd, os, t1, t2, a, b, c, d, e, f⟩ := h
  exact ⟨kx, pd, sd, os, t1, t2, hs _ a, hs _ b, TupTab.mono c hs, hs _ d, e, f⟩
noncomputable def cpair (a b : Int) : Option Int := match hpair a b with | some q => some q | none => if a = 97 ∧ b = 768 then some 224 else none
theorem cpair_some {a b q : Int} (h : hpair a b = some q) : cpair a b = some q := by unfold cpair; rw [h]
theorem cpair_none {a b : Int} (h : hpair a b = none) : cpair a b = if a = 97 ∧ b = 768 then some 224 else none := by unfold cpair; rw [h]
theorem pair_at {a b : Int} : PySem.Spec.lookup (encTuple PyData.int [a, b]) pairD = if a = 97 ∧ b = 768 then some (PyData.int 224) else none := by
  have e : PySem.Spec.same (encTuple PyData.int [97, 768]) (encTuple PyData.int [a, b]) = decide ([97, 768] = [a, b]) := same_encTuple PyProof.V.same_int _ _
  unfold pairD
  simp only [PySem.Spec.lookup, e, decide_eq_true_eq, List.cons.injEq, and_true]
  by_cases h : a = 97 ∧ b = 768
  · rw [if_pos h, if_pos ⟨h.1.symm, h.2.symm⟩]
  · rw [if_neg h, if_neg fun q => h ⟨q.1.symm, q.2.symm⟩]
theorem sec_at {n : Int} : (valueAt [((768 : Int), Value.bool true)] n).isSome = (n == 768) := by
  by_cases h : n = 768
  · subst h; rfl
  · have : ¬ (768 : Int) = n := fun e => h e.symm
    simp [valueAt, this, h]
theorem flat_pair {v : Value} {a b : Int} (h : hpair a b = none) (hv : PyProof.V.Flat v ((PySem.Spec.lookup (encTuple PyData.int [a, b]) pairD).getD PyData.none)) : ∃ t, v = oInt (cpair a b) t := by
  rw [pair_at] at hv
  rw [cpair_none h]
  by_cases q : a = 97 ∧ b = 768
  · rw [if_pos q] at hv ⊢
    obtain ⟨t, rfl⟩ := PyProof.V.Flat.int_inv hv
    exact ⟨t, rfl⟩
  · rw [if_neg q] at hv ⊢
    rw [PyProof.V.Flat.none_inv hv]
    exact ⟨0, rfl⟩
theorem c_pairS (n k : Int) (t u : Tok) (q : Int) (h : hpair n k = some q) (news : List (Addr × Obj)) : Con w 2 89 [.int n t, .int k u] news (RetV fun t => .int q t) :=
  (c_pair n k t u news).mono fun h₀ L m s Q hR => by rw [h]; exact hR
theorem c_pairN (n k : Int) (t u : Tok) (h : hpair n k = none) (news : List (Addr × Obj)) : Con w 2 89 [.int n t, .int k u] news (RetV fun t => .none) :=
  (c_pair n k t u news).mono fun h₀ L m s Q hR => by rw [h]; exact hR
section
variable {D : Nat} {i : Fn} {c : Cx w D i} {m : Fm} {nw : Led}
theorem Cx.un1 (c : Cx w D i) : c.A.units + 1 < cLine := by have := c.hu; show c.un + 1 < cLine; omega
theorem tk2 {x y : Int} {t u : Tok} : TupKeyObj (iK w) [x, y] (tupO [.int x t, .int y u]) := TupKeyObj.made (ItemsAre.cons (intKind_is _ _ _ _) (ItemsAre.cons (intKind_is _ _ _ _) ItemsAre.nil))
theorem Gm.tget {d : Addr} {T : List (PyData × PyData)} {K : Value → List Value → Led → Prop} (h : TupTab (iK w) PyData.int nw d T) (hK : K (.builtin "dict.get") [.ref d] nw) : Gm c m nw (.ref d) (Str.ofString "get") K :=
  ⟨fun _ tk pl Q I hQ => getMethod_tupTab_get I.N h (hQ _ _ _ _ _ I hK)⟩
theorem Ca.tget {d a : Addr} {x y : Int} {t u : Tok} {T : List (PyData × PyData)} {K : Value → Led → Prop} (h : TupTab (iK w) PyData.int nw d T) (ha : (a, tupO [.int x t, .int y u]) ∈ nw) (hK : ∀ v, PyProof.V.Flat v ((PySem.Spec.lookup (encTuple PyData.int [x, y]) T).getD PyData.none) → K v nw) : Ca c m nw (.builtin "dict.get") [.ref d, .ref a, .none] K :=
  ⟨fun _ tk Q I hQ => call_get2_tupTab PyProof.V.same_int c.un1 I.N h ha tk2 PyProof.V.Flat.none fun v hv => hQ _ _ _ _ I (hK v hv)⟩
theorem Ca.pairS {n k q : Int} {t u : Tok} {K : Value → Led → Prop} (e : hpair n k = some q) (hd : Nat.ble 2 D = true) (hK : ∀ t, K (.int q t) nw) : Ca c m nw (.ref 89) [.int n t, .int k u] K := Ca.V (c_pairS n k t u q e nw) hd hK
theorem Ca.pairN {n k : Int} {t u : Tok} {K : Value → Led → Prop} (e : hpair n k = none) (hd : Nat.ble 2 D = true) (hK : ∀ _ : Tok, K .none nw) : Ca c m nw (.ref 89) [.int n t, .int k u] K := Ca.V (c_pairN n k t u e nw) hd hK
end
theorem kw26 : True := by
  (k_with "m:htab" => (first | (with_reducible assumption) | exact TupTab.mono (by assumption) (by walk_at "hsub")))
  (k_with "m:hca" => ((with_reducible apply Gm.tget); walk_at "htab"))
  (k_with "m:hca" => ((with_reducible apply Ca.tget); walk_at "htab"; walk_at "hmem"))
  (k_with "m:hca" => (first | ((with_reducible apply Ca.pairS); (with_reducible assumption); exact rfl) | ((with_reducible apply Ca.pairN); (with_reducible assumption); exact rfl)))
  trivial
theorem c_cpair (k : Addr) (n b : Int) (t u : Tok) (news : List (Addr × Obj)) (hC : CompoIn w news k) : Con w 4 165 [.ref k, .int n t, .int b u] news (RetV fun t => oInt (cpair n b) t) := by
  obtain ⟨kx, pd, sd, os, t1, t2, c1, c2, c3, c4, c5, c6⟩ := hC
  refine Con.enter [(Str.ofString "other", .int b u), (Str.ofString "one", .int n t), (Str.ofString "self", .ref k)] (by k_is) (by k_is) rfl rfl rfl rfl rfl rfl fun c2 hret => ?_
  cases e : hpair n b with
  | some q =>
    walk_at "hgo"
    exact fin_V hret _ (by rw [cpair_some e]; rfl) sub_r
  | none =>
    walk_at "hgo"
    rename PyProof.V.Flat _ _ => hv9
    obtain ⟨t9, e9⟩ := flat_pair e hv9
    exact fin_V hret t9 e9 (sub_t sub_r)
noncomputable def isSec (n : Int) : Bool := decide (n = 768 ∨ (4449 ≤ n ∧ n < 4470) ∨ (4519 < n ∧ n < 4547))
theorem isSec_or (n : Int) : isSec n = ((n == 768) || (((CP.le 4449 n).b && (CP.lt n (4449 + 21)).b) || ((CP.lt 4519 n).b && (CP.lt n (4519 + 28)).b))) := by
  unfold isSec
  rw [Bool.eq_iff_iff, decide_eq_true_eq, Bool.or_eq_true, Bool.or_eq_true, Bool.and_eq_true, Bool.and_eq_true, CP.bP, CP.bP, CP.bP, CP.bP, beq_iff_eq]
  exact Iff.rfl
theorem c_second (k : Addr) (n : Int) (t : Tok) (news : List (Addr × Obj)) (hC : CompoIn w news k) : Con w 4 172 [.ref k, .int n t] news (RetV fun _ => .bool (isSec n)) := by
  obtain ⟨kx, pd, sd, os, t1, t2, c1, c2, c3, c4, c5, c6⟩ := hC
  have hs := sec_at (n := n)
  refine Con.enter [(Str.ofString "code", .int n t), (Str.ofString "self", .ref k)] (by k_is) (by k_is) rfl rfl rfl rfl rfl rfl fun c2 hret => ?_
  walk_at "hgo"
  · rename _ = true => h1
    exact fin_V hret t (congrArg Value.bool (by rw [isSec_or, h1]; rfl)) sub_r
  · rename (_ && _) = true => h2
    rename _ = false => h1
    exact fin_V hret t (congrArg Value.bool (by rw [isSec_or, h1, h2]; rfl)) sub_r
  · rename (_ && _) = false => h2
    rename (_ == _) = false => h1
    exact fin_V hret t (congrArg Value.bool (by rw [isSec_or, h1, h2]; rfl)) sub_r
section
variable {D : Nat} {i : Fn} {c : Cx w D i} {m : Fm} {nw : Led}
theorem Gm.compo {k f : Addr} {x : Str} {K : Value → List Value → Led → Prop} (h : CompoIn w nw k) (hf : mtab.lookup (175, x) = some f) (hx : [Str.ofString "pair", Str.ofString "is_second"].contains x = true) (hK : K (.ref f) [.ref k] nw) : Gm c m nw (.ref k) x K := by
  obtain ⟨kx, pd, sd, os, t1, t2, c1, c2, _⟩ := h
  refine Gm.own c1 c2 hf ?_ hK
  have := List.contains_iff_mem.mp hx
  simp only [List.mem_cons, List.not_mem_nil, or_false] at this
  rcases this with rfl | rfl <;> rfl
theorem Ca.cpair {k : Addr} {n b : Int} {t u : Tok} {K : Value → Led → Prop} (hd : Nat.ble 4 D = true) (h : CompoIn w nw k) (hK : ∀ t, K (oInt (cpair n b) t) nw) : Ca c m nw (.ref 165) [.ref k, .int n t, .int b u] K := Ca.V (c_cpair k n b t u nw h) hd hK
theorem Ca.second {k : Addr} {n : Int} {t : Tok} {K : Value → Led → Prop} (hd : Nat.ble 4 D = true) (h : CompoIn w nw k) (hK : ∀ _ : Tok, K (.bool (isSec n)) nw) : Ca c m nw (.ref 172) [.ref k, .int n t] K := Ca.V (c_second k n t nw h) hd hK
end
theorem kw27 : True := by
  (k_with "m:hco9" => (first | (with_reducible assumption) | exact CompoIn.mono (by assumption) (by walk_at "hsub")))
  (k_with "m:hca" => (first | ((with_reducible apply Gm.compo); walk_at "hco9"; exact rfl; exact rfl) | ((with_reducible apply Ca.cpair); exact rfl; walk_at "hco9") | ((with_reducible apply Ca.second); exact rfl; walk_at "hco9")))
  trivial
structure StI (led : List (Addr × Obj)) (cs : List Int) (i : Nat) (ys : List Value) (nw : List (Addr × Obj)) : Prop where
  ex : nw = led ∧ IntsAre ys (cs.take i)
theorem StI.yes {led : List (Addr × Obj)} {cs : List Int} {i : Nat} {c : Int} {ys : List Value} {t : Tok} (hc : cs[i]? = some c) (hy : IntsAre ys (cs.take i)) : StI led cs (i + 1) (ys ++ [.int c t]) led :=
  ⟨⟨rfl, by rw [List.take_add_one, hc]; exact ints_app hy (.cons _ t .nil)⟩⟩
/-- the deck's dictionary and its cells -/
inductive DkOk (w : World) (k : Nat) (da ca : Addr) (o : Obj) (its : List Value) : Prop
  | mk (mx tu : Int) (mt tt : Tok) (cs : List Int) : (o.IsDictOf (PySem.strKind PySem.Challenge.pw_nt0050_01 w) [(Str.ofString "cells", .ref ca), (Str.ofString "mixed", .int mx mt), (Str.ofString "turn", .int tu tt)]) → ((da == sysModules) = false) → (IntsAre its cs) → (cs.length ≤ 64) → (0 ≤ mx) → (mx < 2147483587) → (0 ≤ tu) → (tu ≤ k) → DkOk w k da ca o its
theorem DkOk.ex {w : World} {k : Nat} {da ca : Addr} {o : Obj} {its : List Value} (h : DkOk w k da ca o its) : DkOk w k da ca o its := h
noncomputable abbrev RetDk (w : World) : RetT := fun h₀ L m news s Q => ∀ (da ca : Addr) (o : Obj) (its : List Value) (n : Nat) (h' : Heap) (tk' : Nat), DkOk w 0 da ca o its → Fr h₀ L h' m → News h₀ L h' ((da, o) :: (ca, lstO its n) :: news) → (∀ p ∈ news, p.1 < da) → da < ca → Q (.ref da) { s with heap := h', toks := tk' }
section
variable {D : Nat} {i : Fn} {c : Cx w D i} {m : Fm} {nw : Led}
theorem pick_to {its : List Value} : kms_pick its none (some 24) = its.take 24 := by
  show (its.drop 0).take (min 24 its.length - 0) = _
  rw [List.drop_zero, Nat.sub_zero, List.take_eq_take_iff]
  lia
/-- the first 24 of a list of the caller's -/
theorem Ex.sl24 {e : Expr} {p q pos : Pos} {k : Nat} {a : Addr} {its : List Value} {K : Value → Led → Prop} (hS : c.g.IsList a its.toArray) (hz : its.length ≤ 100000) (he : Ex c m nw e fun v n => v = .ref a ∧ n = nw)
    (hs : ∀ l r, subscripted (.Slice none (some (.Constant (.int 24) k q)) none p) false (.ref l) (.ref r) = operate [.ref r, .ref l] (getItem (.ref l) (.ref r))) (h : ∀ D, (∀ p ∈ nw, p.1 < D) → K (.ref D) ((D, lstO (its.take 24) 0) :: nw)) : Ex c m nw (.Subscript e (.Slice none (some (.Constant (.int 24) k q)) none p) pos) K := by
  refine ⟨fun h0 tk Q I hQ => Subscript_ (he.run h0 tk _ I fun v n1 h1 t1 I1 hK => wpAny_Slice (evalPart_none_step (evalPart_some_step (wpAny_Constant_int (evalPart_none_step ?_)))))⟩
  obtain ⟨rfl, rfl⟩ := hK
  refine kba_turn (value' := .Name (Str.ofString "x") ⟨0, 0, 0, 0⟩) (fun _ => rfl) ?_
  exact kms_slice_lit (its := its.toArray) I1.F I1.N (stays_list I1.F.keep hS) .none (.int ..) (by simpa using pick_to) (fun D h' F' N' l => hQ _ _ _ _ ⟨F', N'⟩ (h D l)) (hs _ _) (fun _ => rfl) (by rw [List.size_toArray, sizeLine_eq]; lia)
/-- a list backwards -/
theorem Ex.revL {x : Str} {p1 p2 p3 p4 p5 : Pos} {k n : Nat} {a : Addr} {its : List Value} {K : Value → Led → Prop} (hx : nameLocal i.scope x = true) (hv : lk m x = some (.ref a)) (ha : (a, lstO its n) ∈ nw) (hz : its.length ≤ 100000) (hK : ∀ D, (∀ p ∈ nw, p.1 < D) → K (.ref D) ((D, lstO its.reverse 0) :: nw)) :
    Ex c m nw (.Subscript (.Name x p1) (.Slice none none (some (.UnaryOp .USub (.Constant (.int 1) k p2) p3)) p4) p5) K := by
  refine ⟨fun h0 tk Q I hQ => ?_⟩
  refine Subscript_ (ldq hx I.F hv (wpAny_Slice (evalPart_none_step (evalPart_none_step (evalPart_some_step (UnaryOp_ (wpAny_Constant_int (neg_int ?_))))))))
  exact krv_lit (s := { heap := h0, gens := c.k.s.gens, drawn := c.k.s.drawn, toks := _, os := c.k.s.os }) I.F I.N (⟨_, (I.N _ ha).1, rfl, n, rfl⟩) (.int ..) rfl (fun D h' F' N' l => hQ _ _ _ _ ⟨F', N'⟩ (hK D l)) (by with_unfolding_all rfl) (by intro _; with_unfolding_all rfl) (by rw [List.size_toArray, sizeLine_eq]; lia)
theorem Ca.intI {n : Int} {t : Tok} {K : Value → Led → Prop} (hK : K (.int n t) nw) : Ca c m nw (.type "int") [.int n t] K := ⟨fun h tk Q I hQ => call_int_int (hQ _ _ _ _ I hK)⟩
end
theorem kw28 : True := by
  (k_with "m:hex" => ((with_reducible apply Ex.revL); exact rfl; exact rfl; walk_at "hmem"; (with_reducible assumption)))
  trivial
inductive DkJ (D scr : Addr) (zs : List Value) (news : Led) (k : Nat) (m : Fm) (n : Led) : Prop
  | mk (mx : Int) (t : Tok) (u : Option Value) : ((∀ y, lk m y = lk [(Str.ofString "script", some (.ref scr)), (Str.ofString "mixed", some (.int mx t)), (Str.ofString "cells", some (.ref D)), (Str.ofString "cell", u)] y)) → (n = (D, lstO zs zs.length) :: news) → (0 ≤ mx) → (mx < 2147483587) → DkJ D scr zs news k m n
theorem DkJ.ex {D scr : Addr} {zs : List Value} {news : Led} {k : Nat} {m : Fm} {n : Led} (h : DkJ D scr zs news k m n) : DkJ D scr zs news k m n := h
theorem c_deck (scr : Addr) (vals : List Value) (ns : List Int) (hi : IntsAre vals ns) (hlen : ns.length < 64) (news : List (Addr × Obj)) :
    Con w 6 428 [.ref scr] news (fun h₀ L m news s Q => h₀.IsList scr vals.toArray ∧ RetDk w h₀ L m news s Q) := by
  refine Con.enterG [(Str.ofString "script", .ref scr)] (by k_is) (by k_is) (fun _ X => BindsTo.of_eq rfl) rfl rfl rfl rfl rfl fun c hG hR => ?_
  obtain ⟨hS, hret⟩ := hR
  replace hS := hG _ _ hS
  have hvl := hi.length
  have hz2 : vals.length ≤ 100000 := by lia
  have ht := hi.take 24
  have htl : (vals.take 24).length ≤ 400 := by rw [List.length_take]; lia
  repeat' ((fail_if_success (with_reducible show Ex _ _ _ (Expr.Subscript _ _ _) _)); walk_at "h1")
  refine Ex.sl24 hS hz2 (Ex.nm rfl rfl ⟨rfl, rfl⟩) (by with_unfolding_all exact fun _ _ => rfl) fun D0 hD0 => ?_
  refine LcU.list (vs := vals.take 24) (k := 0) (StI ((D0, lstO (vals.take 24) 0) :: news) (ns.take 24)) (fun j ys n hJ => by rw [hJ.ex.1]; exact .head _) htl ⟨⟨rfl, by rw [List.take_zero]; exact .nil⟩⟩ ⟨fun j ys nw v I oI C oC D m2 hj hJ hv2 hC h1 off ne => ?_⟩ fun ys n hJ D hD => ?_
  · obtain ⟨rfl, hy⟩ := hJ.ex
    obtain ⟨c2, t2, hc2, rfl⟩ := ints_at ht hv2
    walk_at "hgo"
    exact Ca.intI (Ce.mk' _ sub_r off (StI.yes hc2 hy))
  · obtain ⟨rfl, hy⟩ := hJ.ex
    rw [ht.length, List.take_length] at hy
    have hyl := hy.length
    rw [List.length_take] at hyl
    have hz3 : ys.length ≤ 100000 := by lia
    walk_at "hgo"
    refine ForP.mk' (vs := ys) (o := lstO ys ys.length) (DkJ D scr ys _) .li (fun k m1 n1 hJ => by obtain ⟨_, _, _, _, rfl, _⟩ := hJ.ex; exact .head _) ⟨1717, _, none, fun y => lk_padF y [Str.ofString "cell"] _, rfl, by decide, by decide⟩ (fun I it k v m1 n1 hv hJ hI => ?_) fun m1 n1 u hJ => ?_
    · obtain ⟨mx, t, u, hm, rfl, k1, k2⟩ := hJ.ex
      obtain ⟨c2, t2, hc2, rfl⟩ := ints_at hy hv
      refine St.frE (lk_set hm rfl) ?_
      clear hm
      walk_at "hgo"
      exact Kf.mk' ⟨_, _, _, fun _ => rfl, rfl, Int.fmod_nonneg_of_pos _ (by decide), Int.fmod_lt_of_pos _ (by decide)⟩ (sub_t sub_r) (.head _) hI
    · obtain ⟨mx, t, u', hm, rfl, k1, k2⟩ := hJ.ex
      refine St.frE (lk_set hm rfl) ?_
      clear hm
      walk_at "hgo"
      rename Obj.IsDictOf _ _ (strPairs _) => hd9
      rename ((_ == sysModules) = false) => hs9
      rename (∀ p : Addr × Obj, p ∈ (D, _) :: _ → p.1 < _) => l9
      rename (∀ p : Addr × Obj, p ∈ (_, _) :: (D, _) :: _ → p.1 < _) => l8
      exact fun h' tk' F N => hret _ _ _ _ _ h' tk' ⟨mx, 0, t, _, _, hd9, hs9, hy.reverse, by rw [List.length_reverse, List.length_take]; lia, k1, k2, Int.le_refl _, Int.le_refl _⟩ F (cb_drop N (List.forall_mem_cons.mpr ⟨.tail _ (.head _), List.forall_mem_cons.mpr ⟨.head _, fun p hp => .tail _ (.tail _ (.tail _ (.tail _ hp)))⟩⟩)) (fun p hp => l9 p (.tail _ (.tail _ hp))) (l8 _ (.head _))
theorem upd2_split {da ca : Addr} {od oc : Obj} {l : List (Addr × Obj)} {g : Obj → List (Addr × Obj)} {g2 : Obj → Obj → List (Addr × Obj)} (U : UpdF da od l g) (V : ∀ o, UpdF ca oc (g o) (g2 o)) (hne : da ≠ ca) :
    ∃ r : List (Addr × Obj), (∀ p ∈ (da, od) :: (ca, oc) :: r, p ∈ l) ∧ (∀ p ∈ r, p.1 ≠ da) ∧ (∀ p ∈ r, p.1 ≠ ca) ∧ (∀ q ∈ l, q.1 ≠ da → q.1 ≠ ca → q ∈ r) ∧ ∀ o o', ∀ p ∈ g2 o o', p ∈ (da, o) :: (ca, o') :: r := by
  obtain ⟨pre, post, rfl, hg, a, b⟩ := U.split
  have hq : ∀ q ∈ pre ++ post, q.1 ≠ da := fun q hq => by
    rcases List.mem_append.mp hq with h | h
    · exact a q h
    · exact b q h
  have key : ∀ o, ∀ q, q ∈ g o ↔ q = (da, o) ∨ q ∈ pre ++ post := fun o q => by
    rw [hg]; simp only [List.mem_append, List.mem_cons]
    constructor
    · rintro (h | h | h)
      · exact .inr (.inl h)
      · exact .inl h
      · exact .inr (.inr h)
    · rintro (h | h | h)
      · exact .inr (.inl h)
      · exact .inl h
      · exact .inr (.inr h)
  refine ⟨(pre ++ post).filter (fun p => decide ((p.1 : Nat) ≠ ca)), fun p hp => ?_, fun p hp => hq p (List.mem_filter.mp hp).1, fun p hp => of_decide_eq_true (List.mem_filter.mp hp).2, fun q h1 h2 h3 => List.mem_filter.mpr ⟨?_, decide_eq_true h3⟩, fun o o' p hp => ?_⟩
  · rcases List.mem_cons.mp hp with rfl | hp
    · exact List.mem_append_right _ (.head _)
    · rcases List.mem_cons.mp hp with rfl | hp
      · obtain ⟨p1, p2, e1, e2, _⟩ := (V od).split
        have : (ca, oc) ∈ g od := by rw [e1]; exact List.mem_append_right _ (.head _)
        rw [← hg]; exact this
      · have h1 := (List.mem_filter.mp hp).1
        rcases List.mem_append.mp h1 with h | h
        · exact List.mem_append_left _ h
        · exact List.mem_append_right _ (.tail _ h)
  · rcases List.mem_append.mp h1 with h | h
    · exact List.mem_append_left _ h
    · rcases List.mem_cons.mp h with rfl | h
      · exact (h2 rfl).elim
      · exact List.mem_append_right _ h
  · obtain ⟨p1, p2, e1, e2, x1, x2⟩ := (V o).split
    rw [e2] at hp
    have h9 : p = (ca, o') ∨ (p ∈ g o ∧ p.1 ≠ ca) := by
      rcases List.mem_append.mp hp with h | h
      · exact .inr ⟨by rw [e1]; exact List.mem_append_left _ h, x1 p h⟩
      · rcases List.mem_cons.mp h with h | h
        · exact .inl h
        · exact .inr ⟨by rw [e1]; exact List.mem_append_right _ (.tail _ h), x2 p h⟩
    rcases h9 with rfl | ⟨h, h'⟩
    · exact .tail _ (.head _)
    · rcases (key o p).mp h with rfl | h
      · exact .head _
      · exact .tail _ (.tail _ (List.mem_filter.mpr ⟨h, decide_eq_true h'⟩))
noncomputable abbrev RetDw (w : World) (k : Nat) (da ca : Addr) (b : Int) : RetT := fun h₀ L m news s Q => ∀ (r : Int) (t : Tok) (o : Obj) (its : List Value) (n : Nat) (h' : Heap) (tk' : Nat), 0 ≤ r → r < b → DkOk w k da ca o its → Fr h₀ L h' m → News h₀ L h' ((da, o) :: (ca, lstO its n) :: news) → Q (.int r t) { s with heap := h', toks := tk' }
theorem not_emp {l : List Value} (h : l.isEmpty = false) : (!l.isEmpty) = true := by rw [h]; rfl
theorem fin_Dw {D : Nat} {i : Fn} {c : Cx w D i} {nw news : Led} {k : Nat} {da ca : Addr} {b r : Int} {t : Tok} {o : Obj} {its : List Value} {n : Nat} (hret : RetDw w k da ca b c.k.h c.k.L c.k.m news c.k.s c.k.Q) (hs : ∀ p ∈ (da, o) :: (ca, lstO its n) :: news, p ∈ nw) (h0 : 0 ≤ r) (h1 : r < b) (hk : DkOk w k da ca o its) : c.k.ret (.int r t) nw :=
  fun h' tk' F N => hret r t o its n h' tk' h0 h1 hk F (cb_drop N hs)
theorem dk_ok {k : Nat} {da ca : Addr} {o : Obj} {its : List Value} {mx tu : Int} {mt tt : Tok} {cs : List Int} (h1 : o.IsDictOf (sK w) [(Str.ofString "cells", .ref ca), (Str.ofString "mixed", .int mx mt), (Str.ofString "turn", .int (tu + 1) tt)]) (h2 : (da == sysModules) = false) (h3 : IntsAre its cs) (h4 : cs.length ≤ 64) (h5 : 0 ≤ mx) (h6 : mx < 2147483587) (h7 : 0 ≤ tu) (h8 : tu ≤ k) : DkOk w (k + 1) da ca o its :=
  ⟨mx, tu + 1, mt, tt, cs, h1, h2, h3, h4, h5, h6, by lia, by lia⟩
theorem c_draw0 (da ca : Addr) (od : Obj) (its : List Value) (n : Nat) (k : Nat) (hk9 : k < 100) (hD : DkOk w k da ca od its) (b : Int) (t : Tok) (hb : 0 < b) (hb2 : b < 1000000) (news : List (Addr × Obj)) (hdc : da ≠ ca) (hn1 : ∀ p ∈ news, p.1 ≠ da) (hn2 : ∀ p ∈ news, p.1 ≠ ca) :
    Con w 3 435 [.ref da, .int b t] ((da, od) :: (ca, lstO its n) :: news) (fun h₀ L m _ s Q => RetDw w (k + 1) da ca b h₀ L m news s Q) := by
  refine Con.enter [(Str.ofString "below", .int b t), (Str.ofString "deck", .ref da)] (by k_is) (by k_is) rfl rfl rfl rfl rfl rfl fun c2 hret => ?_
  have hdc' := hdc.symm
  obtain ⟨mx, tu, mt, tt, cs, d1, d2, d3, d4, d5, d6, d7, d8⟩ := hD
  have hpl := ints_plainB d3
  have ht1 : -4294967296 ≤ tu + 1 := by lia
  have ht2 : tu + 1 ≤ 4294967296 := by lia
  have hb3 : b ≠ 0 := by lia
  have hb4 : b.natAbs < 1073741824 := by lia
  have dk : ∀ {o : Obj} {its : List Value} {cs : List Int} {t' : Tok}, o.IsDictOf (sK w) [(Str.ofString "cells", .ref ca), (Str.ofString "mixed", .int mx mt), (Str.ofString "turn", .int (tu + 1) t')] → IntsAre its cs → cs.length ≤ 64 → DkOk w (k + 1) da ca o its := fun q1 q2 q3 => dk_ok q1 d2 q2 q3 d5 d6 d7 d8
  walk_at "hgo"
  · exact fin_Dw hret sub_r (Int.fmod_nonneg_of_pos _ hb) (Int.fmod_lt_of_pos _ hb) (dk (by assumption) d3 d4)
  · obtain ⟨p, y, ty, cp, rfl, rfl, hp⟩ := ints_split d3 (not_emp (by assumption))
    have hl2 : cp.length + 1 ≤ 64 := by rwa [List.length_append] at d4
    have hl3 := hp.length
    have hl4 : p.length < 100000 := by lia
    have hl5 : p.length ≤ 100000 := Nat.le_of_lt hl4
    walk_at "hgo"
    · exact fin_Dw hret sub_r (Int.fmod_nonneg_of_pos _ hb) (Int.fmod_lt_of_pos _ hb) (dk (by assumption) (ints_app hp (.cons _ _ .nil)) (by rw [List.length_append]; exact hl2))
    · exact fin_Dw hret sub_r (Int.fmod_nonneg_of_pos _ hb) (Int.fmod_lt_of_pos _ hb) (dk (by assumption) hp (Nat.le_of_lt hl2))
noncomputable abbrev RetDg (w : World) (k : Nat) (da ca : Addr) (b : Int) (g2 : Obj → Obj → List (Addr × Obj)) : RetT := fun h₀ L m _ s Q => ∀ (r : Int) (t : Tok) (o : Obj) (its : List Value) (n : Nat) (h' : Heap) (tk' : Nat), 0 ≤ r → r < b → DkOk w k da ca o its → Fr h₀ L h' m → News h₀ L h' (g2 o (lstO its n)) → Q (.int r t) { s with heap := h', toks := tk' }
theorem c_draw (da ca : Addr) (od : Obj) (its : List Value) (n : Nat) (k : Nat) (hk9 : k < 100) (hD : DkOk w k da ca od its) (b : Int) (t : Tok) (hb : 0 < b) (hb2 : b < 1000000) (l : List (Addr × Obj)) (g : Obj → List (Addr × Obj)) (g2 : Obj → Obj → List (Addr × Obj)) (U : UpdF da od l g) (V : ∀ o, UpdF ca (lstO its n) (g o) (g2 o)) (hne : da ≠ ca) :
    Con w 3 435 [.ref da, .int b t] l (RetDg w (k + 1) da ca b g2) := by
  obtain ⟨r, h1, h2, h3, h4, h5⟩ := upd2_split U V hne
  intro p loose mean mg mb dp un gd cn cs a ccd cl outer A₀ base h₀ L m s Q E B F X N T hk hd hu hret
  exact c_draw0 da ca od its n k hk9 hD b t hb hb2 r hne h2 h3 p loose mean mg mb dp un gd cn cs a ccd cl outer A₀ base h₀ L m s Q E B F X (cb_drop N h1) T hk hd hu
    fun r t o its n h' tk' a1 a2 a3 F' N' => hret r t o its n h' tk' a1 a2 a3 F' (cb_drop N' (h5 _ _))
section
variable {D : Nat} {i : Fn} {c : Cx w D i} {m : Fm} {nw : Led}
theorem Ca.draw {da ca : Addr} {od : Obj} {its : List Value} {n k : Nat} {b : Int} {t : Tok} {g : Obj → Led} {g2 : Obj → Obj → Led} {K : Value → Led → Prop} (hD : DkOk w k da ca od its) (U : UpdF da od nw g) (V : ∀ o, UpdF ca (lstO its n) (g o) (g2 o)) (hne : da ≠ ca) (hk : Nat.ble k 99 = true) (hb : 0 < b) (hb2 : b < 1000000) (hd : Nat.ble 3 D = true) (hK : ∀ r t o its n, 0 ≤ r → r < b → DkOk w (k + 1) da ca o its → K (.int r t) (g2 o (lstO its n))) : Ca c m nw (.ref 435) [.ref da, .int b t] K :=
  Ca.con (c_draw da ca od its n k (Nat.lt_succ_of_le (Nat.le_of_ble_eq_true hk)) hD b t hb hb2 nw g g2 U V hne) hd fun _ _ _ hQ r t o its n h' tk' a1 a2 a3 F N => hQ _ _ _ _ F N (hK r t o its n a1 a2 a3)
end
theorem kw29 : True := by
  (k_with "m:hca" => ((with_reducible apply Ca.draw); (with_reducible assumption); walk_at "hupd"; (first | (with_reducible assumption) | ((refine fun _ => ?_); walk_at "hupd")); (with_reducible assumption); (first | (with_reducible assumption) | exact rfl); (first | (with_reducible assumption) | decide); (first | (with_reducible assumption) | decide); exact rfl))
  trivial
theorem pickU {A : Around} {E : Value → Shared → Prop} {s : Shared} {prog : Program} {value slice : PySem.Expr} {l : Addr} {vs : List Value} {k : Int} {u : Tok} {Q : Value → Shared → Prop} (hl : s.heap.IsList l vs.toArray)
    (h0 : 0 ≤ k) (h1 : k < vs.length) (h2 : vs.length < 1000) (h : ∀ v ∈ vs, Q v s)
    (hs : subscripted slice false (.ref l) (.int k u) = operate [.ref l, .int k u] (getItem (.ref l) (.int k u)) := by with_unfolding_all rfl) :
    wpAny (model prog w) A (subscriptTail value slice (.ref l) (.int k u)) Q E s := by
  have hlt : k.toNat < vs.length := by omega
  exact tail_any hl.typeIs slot_list_getitem.lookup (wpAny_getItem_list hl h0 (by omega) (x := vs[k.toNat]) (by simp [hlt]) (h _ (List.getElem_mem _))) hs
noncomputable abbrev RetPk (w : World) (k : Nat) (da ca : Addr) (vs : List Value) (g2 : Obj → Obj → List (Addr × Obj)) : RetT := fun h₀ L m _ s Q => ∀ (v : Value) (o : Obj) (its : List Value) (n : Nat) (h' : Heap) (tk' : Nat), v ∈ vs → DkOk w k da ca o its → Fr h₀ L h' m → News h₀ L h' (g2 o (lstO its n)) → Q v { s with heap := h', toks := tk' }
section
variable {D : Nat} {i : Fn} {c : Cx w D i} {m : Fm} {nw : Led}
theorem Ca.lenB {l : Addr} {vs : List Value} {K : Value → Led → Prop} (hS : ∀ h₀, (hd.heap_1 w.params).In h₀ → h₀.IsList l vs.toArray) (h2 : vs.length < 1000) (hK : ∀ t, K (.int (vs.length : Int) t) nw) : Ca c m nw (.builtin "len") [.ref l] K :=
  ⟨fun h tk Q I hQ => len_list (stays_list I.F.keep (hS _ c.X)) (by rw [List.size_toArray]; omega) (by rw [List.size_toArray]; exact hQ _ _ _ _ I (hK _))⟩
theorem Su.base {value slice : Expr} {l : Addr} {vs : List Value} {k : Int} {u : Tok} {K : Value → Led → Prop} (hs : ∀ l k u, subscripted slice false (.ref l) (.int k u) = operate [.ref l, .int k u] (getItem (.ref l) (.int k u))) (hS : ∀ h₀, (hd.heap_1 w.params).In h₀ → h₀.IsList l vs.toArray) (h0 : 0 ≤ k) (h1 : k < vs.length) (h2 : vs.length < 1000) (hK : ∀ v ∈ vs, K v nw) : Su c m nw value slice (.ref l) (.int k u) K :=
  ⟨fun h tk Q I hQ => pickU (stays_list I.F.keep (hS _ c.X)) h0 h1 h2 (fun v hv => hQ _ _ _ _ I (hK v hv)) (hs _ _ _)⟩
end
theorem kw30 : True := by
  (k_with "m:hca" => (first | ((with_reducible apply Ca.lenB); (with_reducible assumption); (with_reducible assumption)) | ((with_reducible apply Su.base); (with_unfolding_all exact fun _ _ _ => rfl); (with_reducible assumption); (with_reducible assumption); (with_reducible assumption); (with_reducible assumption))))
  trivial
theorem c_pick (da ca : Addr) (od : Obj) (its : List Value) (n : Nat) (k : Nat) (hk9 : k < 100) (hD : DkOk w k da ca od its) (sa : Addr) (vs : List Value) (hv0 : 0 < vs.length) (hv1 : vs.length < 1000) (hS : ∀ h₀, (hd.heap_1 w.params).In h₀ → h₀.IsList sa vs.toArray) (l : List (Addr × Obj)) (g : Obj → List (Addr × Obj)) (g2 : Obj → Obj → List (Addr × Obj)) (U : UpdF da od l g) (V : ∀ o, UpdF ca (lstO its n) (g o) (g2 o)) (hne : da ≠ ca) :
    Con w 5 442 [.ref da, .ref sa] l (RetPk w (k + 1) da ca vs g2) := by
  have hv2 : (0 : Int) < vs.length := Int.ofNat_lt.mpr hv0
  have hv3 : (vs.length : Int) < 1000000 := by omega
  have hk8 : Nat.ble k 99 = true := Nat.ble_eq.mpr (Nat.le_of_lt_succ hk9)
  refine Con.enter [(Str.ofString "some", .ref sa), (Str.ofString "deck", .ref da)] (by k_is) (by k_is) rfl rfl rfl rfl rfl rfl fun c2 hret => ?_
  walk_at "hgo"
  exact fun h' tk' F N => hret _ _ _ _ h' tk' (by assumption) (by assumption) F N
section
variable {D : Nat} {i : Fn} {c : Cx w D i} {m : Fm} {nw : Led}
theorem Ca.pick {da ca sa : Addr} {od : Obj} {its vs : List Value} {n k : Nat} {g : Obj → Led} {g2 : Obj → Obj → Led} {K : Value → Led → Prop} (hD : DkOk w k da ca od its) (hS : ∀ h₀, (hd.heap_1 w.params).In h₀ → h₀.IsList sa vs.toArray) (hv0 : 0 < vs.length) (hv1 : vs.length < 1000) (U : UpdF da od nw g) (V : ∀ o, UpdF ca (lstO its n) (g o) (g2 o)) (hne : da ≠ ca) (hk : Nat.ble k 99 = true) (hd : Nat.ble 5 D = true) (hK : ∀ v ∈ vs, ∀ o its n, DkOk w (k + 1) da ca o its → K v (g2 o (lstO its n))) : Ca c m nw (.ref 442) [.ref da, .ref sa] K :=
  Ca.con (c_pick da ca od its n k (Nat.lt_succ_of_le (Nat.le_of_ble_eq_true hk)) hD sa vs hv0 hv1 hS nw g g2 U V hne) hd fun _ _ _ hQ v o its n h' tk' a1 a2 F N => hQ _ _ _ _ F N (hK v a1 o its n a2)
end
theorem kw31 : True := by
  (k_with "m:hca" => ((with_reducible apply Ca.pick); (with_reducible assumption); (with_reducible assumption); (first | (with_reducible assumption) | decide); (first | (with_reducible assumption) | decide); walk_at "hupd"; (first | (with_reducible assumption) | ((refine fun _ => ?_); walk_at "hupd")); (with_reducible assumption); (first | (with_reducible assumption) | exact rfl); exact rfl))
  trivial
inductive DdJ (w : World) (kv0 : List (Str × Value)) (names : List Str) (V : Value → Prop) (i : Nat) (o : Obj) : Prop
  | mk (kv : List (Str × Value)) : (o.IsDictOf (PySem.strKind PySem.Challenge.pw_nt0050_01 w) kv) → (kv.length ≤ kv0.length + i) → ((∀ x ∈ names.take i, ∃ v, valueAt kv x = some v ∧ V v)) → (∀ x, x ∉ names → valueAt kv x = valueAt kv0 x) → DdJ w kv0 names V i o
theorem DdJ.ex {w : World} {kv0 : List (Str × Value)} {names : List Str} {V : Value → Prop} {i : Nat} {o : Obj} (h : DdJ w kv0 names V i o) : DdJ w kv0 names V i o := h
theorem DdJ.zero {kv0 : List (Str × Value)} {names : List Str} {V : Value → Prop} {o : Obj} (h : o.IsDictOf (PySem.strKind PySem.Challenge.pw_nt0050_01 w) kv0) : DdJ w kv0 names V 0 o :=
  ⟨kv0, h, Nat.le_refl _, (by intro x hx; rw [List.take_zero] at hx; cases hx), fun x _ => rfl⟩
theorem DdJ.step {kv0 kv : List (Str × Value)} {names : List Str} {V : Value → Prop} {i : Nat} {o' : Obj} {x : Str} {v : Value} (hx : names[i]? = some x) (hv : V v) (h2 : kv.length ≤ kv0.length + i) (h3 : ∀ x ∈ names.take i, ∃ v, valueAt kv x = some v ∧ V v) (h4 : ∀ x, x ∉ names → valueAt kv x = valueAt kv0 x)
    (hd : o'.IsDictOf (PySem.strKind PySem.Challenge.pw_nt0050_01 w) (stored kv x v)) : DdJ w kv0 names V (i + 1) o' :=
  ⟨_, hd, by have := stored_length_le kv x v; omega, fun y hy => by
    rw [valueAt_stored]
    by_cases e : y = x
    · exact ⟨v, by rw [if_pos e], hv⟩
    · rw [if_neg e]
      rw [List.take_add_one, hx] at hy
      rcases List.mem_append.mp hy with hy | hy
      · exact h3 y hy
      · exact (e (List.mem_singleton.mp hy)).elim, fun y hy => by
    rw [valueAt_stored, if_neg (fun e => hy (by rw [e]; exact List.mem_of_getElem? hx)), h4 y hy]⟩
theorem strs_at {vs : List Value} {ns : List Str} {i : Nat} {v : Value} (h : StrsAre vs ns) (e : vs[i]? = some v) : ∃ c t, ns[i]? = some c ∧ v = .str c t := by
  induction h generalizing i with
  | nil => cases e
  | cons n t r ih =>
    cases i with
    | zero => exact ⟨n, t, rfl, (Option.some.inj e).symm⟩
    | succ i => exact ih e
/-- what the defaults tell of the names that the law asks -/
structure DdOk (kv : List (Str × Value)) : Prop where
  ex : valueAt kv (Str.ofString "ex") = some (.bool false)
  ep : valueAt kv (Str.ofString "ep") = some (.bool false)
  incb : ∃ t, valueAt kv (Str.ofString "incb") = some (.str (Str.ofString "None") t)
  ccc : ∃ t, valueAt kv (Str.ofString "ccc") = some (.int 0 t)
  gcb : ∃ t, valueAt kv (Str.ofString "gcb") = some (.str (Str.ofString "Other") t)
  dm : valueAt kv (Str.ofString "dm") = some .none
noncomputable abbrev RetDd (w : World) : RetT := fun h₀ L m news s Q => ∀ (dd : Addr) (o : Obj) (kv : List (Str × Value)) (h' : Heap) (tk' : Nat), o.IsDictOf (PySem.strKind PySem.Challenge.pw_nt0050_01 w) kv → kv.length ≤ 100 → (dd == sysModules) = false → DdOk kv → Fr h₀ L h' m → News h₀ L h' ((dd, o) :: news) → (∀ p ∈ news, p.1 < dd) → Q (.ref dd) { s with heap := h', toks := tk' }
theorem updF_ex {d : Addr} {o : Obj} {l : Led} {g : Obj → Led} (U : UpdF d o l g) : ∀ {ex : Led}, (∀ p ∈ ex, p.1 ≠ d) → UpdF d o (ex ++ l) (fun o' => ex ++ g o')
  | [], _ => U
  | q :: r, h => .tail (h q (.head _)) (updF_ex U fun p hp => h p (.tail _ hp))
noncomputable abbrev ddF (dd : Addr) (q : Option Value) : Fm := [(Str.ofString "found", some (.ref dd)), (Str.ofString "name", q)]
theorem ddF_set {dd : Addr} {q v : Option Value} {m : Fm} (h : ∀ y, lk m y = lk (ddF dd q) y) (y : Str) : lk (setO m (Str.ofString "name") v) y = lk (ddF dd v) y := by
  rw [show ddF dd v = setO (ddF dd q) (Str.ofString "name") v from rfl, ← lk_setO, ← lk_setO, h]
theorem dd_for {D : Nat} {i : Fn} {c : Cx w D i} {dd T : Addr} {vs : List Value} {names : List Str} (hv : StrsAre vs names) (V : Value → Prop) {e : Expr} {l : List Stmt} {K : Flow → Fm → Led → Prop} {o0 : Obj} {kv0 : List (Str × Value)} {q0 : Option Value} {m0 : Fm} {news : Led} {p1 p2 p3 p4 : Pos}
    (hx1 : nameLocal i.scope (Str.ofString "found") = true) (hx2 : nameLocal i.scope (Str.ofString "name") = true) (hs : ∀ L, swapsWith e (some (.Subscript (.Name (Str.ofString "found") p1) (.Name (Str.ofString "name") p2) p3)) p4.line (i.env L) = pure false)
    (he : ∀ (m : Fm) (n : Led) (K' : Value → Led → Prop), (∀ v ex, V v → (∀ p ∈ ex, ∀ q ∈ n, q.1 ≠ p.1) → K' v (ex ++ n)) → Ex c m n e K')
    (h0 : o0.IsDictOf (sK w) kv0) (hl : kv0.length + names.length ≤ 1000) (hT : T ≠ dd) (hn : ∀ p ∈ news, p.1 ≠ dd)
    (hm : ∀ y, lk m0 y = lk (ddF dd q0) y) (done : ∀ q o, DdJ w kv0 names V names.length o → St c (ddF dd q) ((dd, o) :: news) l K) :
    ForP c (Str.ofString "name") [.Assign [.Subscript (.Name (Str.ofString "found") p1) (.Name (Str.ofString "name") p2) p3] e p4] l K m0 ((T, tupO vs) :: (dd, o0) :: news) (.ref T) := by
  refine ForP.mk' (fun k m1 n1 => ∃ q o, (∀ y, lk m1 y = lk (ddF dd q) y) ∧ n1 = (T, tupO vs) :: (dd, o) :: news ∧ DdJ w kv0 names V k o) .tu (fun k m1 n1 hJ => by obtain ⟨q, o, _, rfl, hJ⟩ := hJ; exact .head _) ⟨q0, o0, hm, rfl, DdJ.zero h0⟩ (fun I it k v m1 n1 hk hJ hne => ?_) (fun m1 n1 u hJ => ?_)
  · obtain ⟨q, o, hq, rfl, ⟨kv, i1, i2, i3, i4⟩⟩ := hJ
    obtain ⟨x, t, hx, rfl⟩ := strs_at hv hk
    have hlt := (List.getElem?_eq_some_iff.mp hx).1
    have hI := hne _ (.tail _ (.head _))
    refine St.frE (ddF_set (v := some (.str x t)) hq) (St.asgI hs (he _ _ _ fun v ex hV hex => Ex.nm hx1 rfl (Ex.nm hx2 rfl (Si.str (updF_ex (.tail (Ne.symm hI) (.tail hT (.head hn))) fun p hp => (hex p hp _ (.tail _ (.tail _ (.head _)))).symm) i1 (by omega) fun o' hd' => St.nil ?_))))
    refine Kfor.next (Kf.mk' (n' := (T, tupO vs) :: (dd, o') :: news) ⟨_, o', fun _ => rfl, rfl, DdJ.step hx hV i2 i3 i4 hd'⟩ (fun p hp => List.mem_append_right _ (.tail _ hp)) (List.mem_append_right _ (.head _)) ?_)
    exact List.forall_mem_cons.mpr ⟨hne _ (.head _), List.forall_mem_cons.mpr ⟨hI, fun p hp => hne p (.tail _ (.tail _ hp))⟩⟩
  · obtain ⟨q, o, hq, rfl, hJ⟩ := hJ
    rw [hv.length] at hJ
    exact St.frE (ddF_set hq) (St.drop (fun p hp => .tail _ hp) (done u o hJ))
theorem dd_val {D : Nat} {i : Fn} {c : Cx w D i} {e : Expr} {V : Value → Prop} {k : Nat → Value} {kt : Nat → Nat} (h : ∀ (m : Fm) t, ev i.scope (lk m) 9 e t = some (k t, kt t)) (hV : ∀ t, V (k t)) (m : Fm) (n : Led) (K' : Value → Led → Prop) (hK : ∀ v ex, V v → (∀ p ∈ ex, ∀ q ∈ n, q.1 ≠ p.1) → K' v (ex ++ n)) : Ex c m n e K' :=
  Ex.ev (h m) fun t => hK _ [] (hV t) (fun _ h => nomatch h)
theorem dd_tup {D : Nat} {i : Fn} {c : Cx w D i} {k : Nat} {p : Pos} (m : Fm) (n : Led) (K' : Value → Led → Prop) (hK : ∀ v ex, (fun _ => True) v → (∀ p ∈ ex, ∀ q ∈ n, q.1 ≠ p.1) → K' v (ex ++ n)) : Ex c m n (.Tuple [] k p) K' :=
  Ex.tupE (fun _ => rfl) (fun _ => rfl) fun _ a l => hK _ [(a, tupO [])] trivial fun p hp q hq => by rw [List.mem_singleton.mp hp]; exact Nat.ne_of_lt (l q hq)
theorem c_dd (news : List (Addr × Obj)) : Con w 3 381 [] news (RetDd w) := by
  refine Con.enter [] (by k_is) (by k_is) rfl rfl rfl rfl rfl rfl fun c2 hret => ?_
  walk_at "hgo"
  rename (∀ p ∈ news, p.1 < _) => l1
  rename Obj.IsDictOf _ _ (strPairs _) => hd0
  rename (_ == sysModules) = false => q1
  have hn : ∀ p ∈ news, p.1 ≠ _ := fun p hp => Nat.ne_of_lt (l1 p hp)
  refine dd_for (names := [Str.ofString "gcb", Str.ofString "wb", Str.ofString "sb"]) (.cons _ _ (.cons _ _ (.cons _ _ (.nil)))) (fun v => ∃ t, v = .str (Str.ofString "Other") t) rfl rfl (fun _ => rfl) (dd_val (fun _ _ => rfl) fun _ => ⟨_, rfl⟩) hd0 (Nat.le_of_ble_eq_true rfl) (by walk_at "hne") hn (fun y => lk_padF y [Str.ofString "name"] _) fun q o hJ => ?_
  obtain ⟨kv0, i1, i20, i30, i40⟩ := hJ.ex
  have b0 : kv0.length ≤ 11 := i20
  walk_at "hgo"
  refine dd_for (names := [Str.ofString "ex", Str.ofString "sd", Str.ofString "cased", Str.ofString "ci", Str.ofString "ep", Str.ofString "di", Str.ofString "ids", Str.ofString "idc", Str.ofString "xids", Str.ofString "xidc", Str.ofString "pat_syn", Str.ofString "pat_ws", Str.ofString "idst"]) (.cons _ _ (.cons _ _ (.cons _ _ (.cons _ _ (.cons _ _ (.cons _ _ (.cons _ _ (.cons _ _ (.cons _ _ (.cons _ _ (.cons _ _ (.cons _ _ (.cons _ _ (.nil)))))))))))))) (fun v => v = .bool false) rfl rfl (fun _ => rfl) (dd_val (fun _ _ => rfl) fun _ => rfl) i1 (Nat.le_trans (Nat.add_le_add_right b0 _) (Nat.le_of_ble_eq_true rfl)) (by walk_at "hne") hn (fun _ => rfl) fun q o hJ => ?_
  obtain ⟨kv1, i1, i21, i31, i41⟩ := hJ.ex
  have b1 : kv1.length ≤ 24 := Nat.le_trans i21 (Nat.add_le_add_right b0 _)
  walk_at "hgo"
  refine dd_for (names := [Str.ofString "dm", Str.ofString "uc", Str.ofString "lc", Str.ofString "tc", Str.ofString "cf", Str.ofString "bm", Str.ofString "bpb", Str.ofString "scx", Str.ofString "nt", Str.ofString "nv", Str.ofString "name", Str.ofString "conf", Str.ofString "nfkc_cf"]) (.cons _ _ (.cons _ _ (.cons _ _ (.cons _ _ (.cons _ _ (.cons _ _ (.cons _ _ (.cons _ _ (.cons _ _ (.cons _ _ (.cons _ _ (.cons _ _ (.cons _ _ (.nil)))))))))))))) (fun v => v = .none) rfl rfl (fun _ => rfl) (dd_val (fun _ _ => rfl) fun _ => rfl) i1 (Nat.le_trans (Nat.add_le_add_right b1 _) (Nat.le_of_ble_eq_true rfl)) (by walk_at "hne") hn (fun _ => rfl) fun q o hJ => ?_
  obtain ⟨kv2, i1, i22, i32, i42⟩ := hJ.ex
  have b2 : kv2.length ≤ 37 := Nat.le_trans i22 (Nat.add_le_add_right b1 _)
  walk_at "hgo"
  refine dd_for (names := [Str.ofString "suc", Str.ofString "slc", Str.ofString "stc", Str.ofString "alias"]) (.cons _ _ (.cons _ _ (.cons _ _ (.cons _ _ (.nil))))) (fun _ => True) rfl rfl (fun _ => rfl) dd_tup i1 (Nat.le_trans (Nat.add_le_add_right b2 _) (Nat.le_of_ble_eq_true rfl)) (by walk_at "hne") hn (fun _ => rfl) fun q o hJ => ?_
  obtain ⟨kv3, i1, i23, i33, i43⟩ := hJ.ex
  have b3 : kv3.length ≤ 41 := Nat.le_trans i23 (Nat.add_le_add_right b2 _)
  walk_at "hgo"
  rename Obj.IsDictOf _ _ (stored _ _ _) => hd9
  refine fun h' tk' F N => hret _ _ _ h' tk' hd9 (Nat.le_trans (stored_length_le _ _ _) (Nat.le_trans (Nat.succ_le_succ b3) (Nat.le_of_ble_eq_true rfl))) q1 ?_ F (cb_drop N (sub_t (sub_t sub_r))) l1
  have e5 : ∀ x, x ≠ Str.ofString "idna" → ∀ v, valueAt (stored kv3 (Str.ofString "idna") v) x = valueAt kv3 x := fun x hx v => by rw [valueAt_stored, if_neg hx]
  refine ⟨?_, ?_, ?_, ?_, ?_, ?_⟩
  · obtain ⟨v, a, rfl⟩ := i31 (Str.ofString "ex") (by decide +kernel)
    rw [e5 _ (by decide +kernel), i43 _ (by decide +kernel), i42 _ (by decide +kernel)]; exact a
  · obtain ⟨v, a, rfl⟩ := i31 (Str.ofString "ep") (by decide +kernel)
    rw [e5 _ (by decide +kernel), i43 _ (by decide +kernel), i42 _ (by decide +kernel)]; exact a
  · rw [e5 _ (by decide +kernel), i43 _ (by decide +kernel), i42 _ (by decide +kernel), i41 _ (by decide +kernel), i40 _ (by decide +kernel)]; exact ⟨_, by with_unfolding_all rfl⟩
  · rw [e5 _ (by decide +kernel), i43 _ (by decide +kernel), i42 _ (by decide +kernel), i41 _ (by decide +kernel), i40 _ (by decide +kernel)]; exact ⟨_, by with_unfolding_all rfl⟩
  · obtain ⟨v, a, t, rfl⟩ := i30 (Str.ofString "gcb") (by decide +kernel)
    rw [e5 _ (by decide +kernel), i43 _ (by decide +kernel), i42 _ (by decide +kernel), i41 _ (by decide +kernel)]; exact ⟨t, a⟩
  · obtain ⟨v, a, rfl⟩ := i32 (Str.ofString "dm") (by decide +kernel)
    rw [e5 _ (by decide +kernel), i43 _ (by decide +kernel)]; exact a
theorem insR_comm {α : Type} (a b : Int × α) (h : a.1 ≠ b.1) : ∀ l : List (Int × α), insR a (insR b l) = insR b (insR a l)
  | [] => by
    simp only [insR]
    by_cases h1 : a.1 ≤ b.1
    · rw [if_pos h1, if_neg (by lia)]
    · rw [if_neg h1, if_pos (by lia)]
  | c :: r => by
    have ih := insR_comm a b h r
    by_cases h1 : a.1 ≤ c.1 <;> by_cases h2 : b.1 ≤ c.1 <;> by_cases h3 : a.1 ≤ b.1
    all_goals first
      | (exfalso; lia)
      | (have h4 : ¬ b.1 ≤ a.1 := by lia
         simp only [insR, h1, h2, h3, h4, if_true, if_false, ih])
      | (have h4 : b.1 ≤ a.1 := by lia
         simp only [insR, h1, h2, h3, h4, if_true, if_false, ih])
theorem isort_foldr {α : Type} : ∀ r s : List (Int × α), isort (r ++ s) = r.foldr insR (isort s)
  | [], s => rfl
  | a :: r, s => by rw [List.cons_append, isort, isort_foldr r s, List.foldr_cons]
theorem isort_foldr0 {α : Type} (r : List (Int × α)) : isort r = r.foldr insR [] := by
  have := isort_foldr r []
  rwa [List.append_nil] at this
theorem foldr_insR {α : Type} (a : Int × α) (t : List (Int × α)) : ∀ l : List (Int × α), (insR a l).foldr insR t = insR a (l.foldr insR t)
  | [] => rfl
  | b :: r => by
    by_cases h : a.1 ≤ b.1
    · rw [insR, if_pos h, List.foldr_cons]
    · rw [insR, if_neg h, List.foldr_cons, foldr_insR a t r, List.foldr_cons, insR_comm b a (by lia)]
theorem foldr_isort {α : Type} (t : List (Int × α)) : ∀ r : List (Int × α), (isort r).foldr insR t = r.foldr insR t
  | [] => rfl
  | a :: r => by rw [isort, foldr_insR, foldr_isort t r, List.foldr_cons]
/-- two runs that sort alike whatever follows -/
noncomputable def Rq {α : Type} (r r' : List (Int × α)) : Prop := ∀ t, r.foldr insR t = r'.foldr insR t
theorem Rq.isort {α : Type} (r : List (Int × α)) : Rq (isort r) r := fun t => foldr_isort t r
theorem Rq.snoc {α : Type} {r r' : List (Int × α)} (h : Rq r r') (x : List (Int × α)) : Rq (r ++ x) (r' ++ x) := fun t => by
  rw [List.foldr_append, List.foldr_append, h]
theorem Rq.swap {α : Type} (r : List (Int × α)) {a b : Int × α} (h : a.1 ≠ b.1) : Rq (r ++ [a] ++ [b]) (r ++ [b] ++ [a]) := fun t => by
  simp only [List.foldr_append, List.foldr_cons, List.foldr_nil]
  rw [insR_comm a b h]
theorem Rq.eq {α : Type} {r r' : List (Int × α)} (h : Rq r r') : Mine.isort r = Mine.isort r' := by
  rw [isort_foldr0 r, isort_foldr0 r']; exact h []
theorem ordGo_rq : ∀ (l : List Int) {r r' : List (Int × Int)}, Rq r r' → ordGo r l = ordGo r' l
  | [], r, r', h => by rw [ordGo, ordGo, h.eq]
  | c :: l, r, r', h => by
    rw [ordGo, ordGo]
    split
    · exact ordGo_rq l (h.snoc _)
    · rw [h.eq]
noncomputable def key (c : Int) : Int × Int := (cls c, c)
theorem ordGo_swap {a b : Int} (h : cls a ≠ cls b) (ha : 0 < cls a) (hb : 0 < cls b) (s : List Int) : ∀ (p : List Int) (r : List (Int × Int)), ordGo r (p ++ a :: b :: s) = ordGo r (p ++ b :: a :: s)
  | [], r => by
    simp only [List.nil_append, ordGo, if_pos ha, if_pos hb]
    exact ordGo_rq s (Rq.swap r h)
  | c :: p, r => by
    simp only [List.cons_append, ordGo]
    split
    · exact ordGo_swap h ha hb s p _
    · rw [ordGo_swap h ha hb s p]
theorem ordGo_push : ∀ (qs : List Int) (r : List (Int × Int)) (y : List Int), (∀ q ∈ qs, 0 < cls q) → ordGo r (qs ++ y) = ordGo (r ++ qs.map key) y
  | [], r, y, _ => by simp
  | q :: qs, r, y, h => by
    rw [List.cons_append, ordGo, if_pos (h q (.head _)), ordGo_push qs _ y (fun x hx => h x (.tail _ hx))]
    simp [key]
theorem key_map {l : List (Int × Int)} (h : ∀ p ∈ l, p.1 = cls p.2) : (l.map (·.2)).map key = l := by
  rw [List.map_map]
  conv => rhs; rw [← List.map_id l]
  exact List.map_congr_left fun p hp => by simp [key, ← h p hp]
theorem ordGo_idem (y : List Int) : ∀ (l rs : List Int), (∀ q ∈ rs, 0 < cls q) → ordGo (rs.map key) (l ++ y) = ordGo [] (ordGo (rs.map key) l ++ y)
  | [], rs, h => by
    have hm : ∀ p ∈ isort (rs.map key), p.1 = cls p.2 := fun p hp => by
      obtain ⟨c, _, rfl⟩ := List.mem_map.mp ((isort_perm _).mem_iff.mp hp); rfl
    have hp : ∀ q ∈ (isort (rs.map key)).map (·.2), 0 < cls q := fun q hq => by
      obtain ⟨p, hp, rfl⟩ := List.mem_map.mp hq
      obtain ⟨c, hc, rfl⟩ := List.mem_map.mp ((isort_perm _).mem_iff.mp hp)
      exact h c hc
    rw [List.nil_append, ordGo, ordGo_push _ _ _ hp, List.nil_append, key_map hm]
    exact (ordGo_rq y (Rq.isort _)).symm
  | c :: l, rs, h => by
    have e : rs.map key ++ [(cls c, c)] = (rs ++ [c]).map key := by simp [key]
    by_cases hc : 0 < cls c
    · rw [List.cons_append, ordGo, if_pos hc, ordGo, if_pos hc, e]
      exact ordGo_idem y l (rs ++ [c]) (fun q hq => by
        rcases List.mem_append.mp hq with hq | hq
        · exact h q hq
        · rw [List.mem_singleton.mp hq]; exact hc)
    · have hm : ∀ p ∈ isort (rs.map key), p.1 = cls p.2 := fun p hp => by
        obtain ⟨c, _, rfl⟩ := List.mem_map.mp ((isort_perm _).mem_iff.mp hp); rfl
      have hp : ∀ q ∈ (isort (rs.map key)).map (·.2), 0 < cls q := fun q hq => by
        obtain ⟨p, hp, rfl⟩ := List.mem_map.mp hq
        obtain ⟨c, hc, rfl⟩ := List.mem_map.mp ((isort_perm _).mem_iff.mp hp)
        exact h c hc
      have ih := ordGo_idem y l [] (fun q hq => nomatch hq)
      rw [List.map_nil] at ih
      rw [List.cons_append, ordGo, if_neg hc, ordGo, if_neg hc, ih, List.append_assoc, ordGo_push _ _ _ hp, List.nil_append, key_map hm, List.cons_append, ordGo, if_neg hc, (Rq.isort (rs.map key)).eq]
theorem N_idem (x y : List Int) : ordGo [] (x ++ y) = ordGo [] (ordGo [] x ++ y) := ordGo_idem y x [] (fun q hq => nomatch hq)
theorem cls_cases (c : Int) : cls c = 0 ∨ cls c = 220 ∨ cls c = 230 := by
  unfold cls; split
  · exact .inr (.inr rfl)
  · split
    · exact .inr (.inl rfl)
    · exact .inl rfl
/-- classes in order: none below its forerunner, but 0 -/
noncomputable def okC : Int → List Int → Prop
  | _, [] => True
  | ah, k :: r => ¬ (0 < k ∧ k < ah) ∧ okC k r
theorem isort_id {α : Type} : ∀ {l : List (Int × α)}, l.Pairwise (fun p q => p.1 ≤ q.1) → isort l = l
  | [], _ => rfl
  | [a], _ => rfl
  | a :: b :: r, h => by
    have hp := List.pairwise_cons.mp h
    rw [isort, isort_id hp.2, insR, if_pos (hp.1 b (.head _))]
theorem ordGo_ok : ∀ (l rs : List Int) (ah : Int), rs.Pairwise (fun a b => cls a ≤ cls b) → (∀ q ∈ rs, 0 < cls q ∧ cls q ≤ ah) → okC ah (l.map cls) → ordGo (rs.map key) l = rs ++ l
  | [], rs, ah, hp, _, _ => by
    rw [ordGo, isort_id (by rw [List.pairwise_map]; exact hp), List.map_map, List.append_nil]
    exact (List.map_congr_left fun c _ => rfl).trans (List.map_id rs)
  | c :: l, rs, ah, hp, hr, ho => by
    obtain ⟨h1, h2⟩ := ho
    rw [ordGo]
    by_cases hc : 0 < cls c
    · rw [if_pos hc]
      have e : rs.map key ++ [(cls c, c)] = (rs ++ [c]).map key := by simp [key]
      rw [e, ordGo_ok l (rs ++ [c]) (cls c) ?_ ?_ h2, List.append_assoc]; rfl
      · refine List.pairwise_append.mpr ⟨hp, List.pairwise_singleton _ _, fun x hx y hy => ?_⟩
        rw [List.mem_singleton.mp hy]
        have := hr x hx
        lia
      · intro q hq
        rcases List.mem_append.mp hq with hq | hq
        · have := hr q hq; lia
        · rw [List.mem_singleton.mp hq]; lia
    · rw [if_neg hc, isort_id (by rw [List.pairwise_map]; exact hp), List.map_map]
      have e := ordGo_ok l [] (cls c) List.Pairwise.nil (fun q hq => nomatch hq) h2
      rw [List.map_nil, List.nil_append] at e
      rw [e]
      congr 1
      exact (List.map_congr_left fun c _ => rfl).trans (List.map_id rs)
theorem N_ok {l : List Int} (h : okC 0 (l.map cls)) : ordGo [] l = l := by
  have := ordGo_ok l [] 0 List.Pairwise.nil (fun q hq => nomatch hq) h
  rwa [List.map_nil, List.nil_append] at this
theorem insR_srt {α : Type} (a : Int × α) : ∀ {l : List (Int × α)}, l.Pairwise (fun p q => p.1 ≤ q.1) → (insR a l).Pairwise (fun p q => p.1 ≤ q.1)
  | [], _ => by simp [insR]
  | b :: r, h => by
    have hb := List.pairwise_cons.mp h
    unfold insR
    split
    · rename_i hab
      refine List.pairwise_cons.mpr ⟨fun x hx => ?_, h⟩
      rcases List.mem_cons.mp hx with rfl | hx
      · exact hab
      · exact Int.le_trans hab (hb.1 x hx)
    · rename_i hab
      refine List.pairwise_cons.mpr ⟨fun x hx => ?_, insR_srt a hb.2⟩
      rcases List.mem_cons.mp ((insR_perm a r).mem_iff.mp hx) with rfl | hx
      · lia
      · exact hb.1 x hx
theorem isort_srt {α : Type} : ∀ l : List (Int × α), (isort l).Pairwise (fun p q => p.1 ≤ q.1)
  | [] => List.Pairwise.nil
  | a :: r => insR_srt a (isort_srt r)
theorem okC_app {tl : List Int} (ht : ∀ k, okC k tl) : ∀ (qs : List Int) (ah : Int), qs.Pairwise (· ≤ ·) → (∀ q ∈ qs, ah ≤ q) → okC ah (qs ++ tl)
  | [], ah, _, _ => ht ah
  | q :: qs, ah, hp, h => by
    have hq := List.pairwise_cons.mp hp
    exact ⟨fun x => by have := h q (.head _); lia, okC_app ht qs q hq.2 hq.1⟩
theorem ordGo_okC : ∀ (l rs : List Int), (∀ q ∈ rs, 0 < cls q) → ∀ ah, ah ≤ 0 → okC ah ((ordGo (rs.map key) l).map cls)
  | [], rs, h, ah, ha => by
    have := okC_app (tl := []) (fun _ => trivial) ((isort (rs.map key)).map (·.1)) ah (by rw [List.pairwise_map]; exact isort_srt _) (fun q hq => by
      obtain ⟨p, hp, rfl⟩ := List.mem_map.mp hq
      obtain ⟨c, hc, rfl⟩ := List.mem_map.mp ((isort_perm _).mem_iff.mp hp)
      have := h c hc
      simp only [key]; lia)
    rw [List.append_nil] at this
    rw [ordGo, List.map_map]
    rw [show List.map (cls ∘ fun x => x.2) (isort (rs.map key)) = (isort (rs.map key)).map (·.1) from List.map_congr_left fun p hp => by
      obtain ⟨c, hc, rfl⟩ := List.mem_map.mp ((isort_perm _).mem_iff.mp hp); rfl]
    exact this
  | c :: l, rs, h, ah, ha => by
    rw [ordGo]
    by_cases hc : 0 < cls c
    · rw [if_pos hc, show rs.map key ++ [(cls c, c)] = (rs ++ [c]).map key by simp [key]]
      exact ordGo_okC l (rs ++ [c]) (fun q hq => by
        rcases List.mem_append.mp hq with hq | hq
        · exact h q hq
        · rw [List.mem_singleton.mp hq]; exact hc) ah ha
    · rw [if_neg hc, List.map_append, List.map_map, List.map_cons]
      rw [show List.map (cls ∘ fun x => x.2) (isort (rs.map key)) = (isort (rs.map key)).map (·.1) from List.map_congr_left fun p hp => by
        obtain ⟨c, hc, rfl⟩ := List.mem_map.mp ((isort_perm _).mem_iff.mp hp); rfl]
      have ht : ∀ k, okC k (cls c :: (ordGo [] l).map cls) := fun k => ⟨fun x => hc x.1, by
        have := ordGo_okC l [] (fun q hq => nomatch hq) (cls c) (by lia)
        rwa [List.map_nil] at this⟩
      refine okC_app ht _ ah (by rw [List.pairwise_map]; exact isort_srt _) (fun q hq => ?_)
      obtain ⟨p, hp, rfl⟩ := List.mem_map.mp hq
      obtain ⟨c, hc, rfl⟩ := List.mem_map.mp ((isort_perm _).mem_iff.mp hp)
      have := h c hc
      simp only [key]; lia
theorem N_okC (l : List Int) : okC 0 ((ordGo [] l).map cls) := ordGo_okC l [] (fun q hq => nomatch hq) 0 (Int.le_refl _)
theorem ordGo_mem : ∀ (l : List Int) (r : List (Int × Int)) (x : Int), x ∈ ordGo r l ↔ x ∈ r.map (·.2) ∨ x ∈ l
  | [], r, x => by
    rw [ordGo, List.mem_map, List.mem_map]
    simp [(isort_perm r).mem_iff]
  | c :: l, r, x => by
    rw [ordGo]
    split
    · rw [ordGo_mem l]; simp [or_assoc]
    · rw [List.mem_append, List.mem_cons, ordGo_mem l, List.mem_map, List.mem_map]
      simp [(isort_perm r).mem_iff]
theorem N_mem {l : List Int} {x : Int} : x ∈ ordGo [] l ↔ x ∈ l := by rw [ordGo_mem]; simp
theorem ordGo_length : ∀ (l : List Int) (r : List (Int × Int)), (ordGo r l).length = r.length + l.length
  | [], r => by rw [ordGo, List.length_map, (isort_perm r).length_eq]; exact (Nat.add_zero _).symm
  | c :: l, r => by
    rw [ordGo]
    split
    · rw [ordGo_length l, List.length_append, List.length_singleton, List.length_cons]; lia
    · rw [List.length_append, List.length_cons, ordGo_length l, List.length_map, (isort_perm r).length_eq, List.length_nil, List.length_cons]; lia
section
variable {D : Nat} {i : Fn} {c : Cx w D i} {m : Fm} {nw : Led}
theorem kda_notin {prog : Program} {K : Type} [DecidableEq K] {knd : KeyKind prog w K} {A : Around} {E : Value → Shared → Prop} {s : Shared} {h₀ : Heap} {L d : Addr} {news : List (Addr × Obj)} {o : Obj} {kvs : List (K × Value)} {k : K} {key : Value} {Q : Value → Shared → Prop}
    (N : News h₀ L s.heap news) (hp : (d, o) ∈ news) (hd : o.IsDictOf knd kvs) (lo : (d == sysModules) = false) (hkey : knd.is k key = true) (b : Bool) (hb : (valueAt kvs k).isSome = b) (h : Q (.bool (!b)) { s with toks := s.toks + 1 }) :
    wpAny (model prog w) A (compareOp .NotIn key (.ref d)) Q E s := wpAny_notIn_of hkey lo (kda_dict N hp hd).mapOf (by rw [hb]; exact h)
theorem Co.ninD {x : Str} {t : Tok} {a : Addr} {o : Obj} {kvs : List (Str × Value)} {b : Bool} {K : Bool → Led → Prop} (ha : (a, o) ∈ nw) (ho : o.IsDictOf (sK w) kvs) (hn : (a == sysModules) = false) (hb : (valueAt kvs x).isSome = b) (hK : K (!b) nw) : Co c m nw .NotIn (.str x t) (.ref a) K :=
  ⟨fun h tk Q I hQ => kda_notin I.N ha ho hn (strKind_is _ _ _ _) b hb (hQ _ _ _ _ I hK)⟩
end
theorem kw32 : True := by
  (k_with "m:hco" => ((with_reducible apply Co.ninD); walk_at "hmem"; (with_reducible assumption); (with_reducible assumption); walk_at "hkvB"))
  trivial
theorem c_mapofM (d x : Addr) (nm : Str) (tn : Tok) (news : List (Addr × Obj)) (hq : DataM w news d nm x) : Con w 3 416 [.ref d, .str nm tn] news (RetV fun _ => .ref x) := by
  obtain ⟨b, B, a6⟩ := hq.ex
  have q1 := B.a1
  have q2 := B.a2
  have q3 := B.a3
  have q4 := B.a4
  have q5 := B.a5
  refine Con.enter [(Str.ofString "name", .str nm tn), (Str.ofString "self", .ref d)] (by k_is) (by k_is) rfl rfl rfl rfl rfl rfl fun c2 hret => ?_
  walk_at "hgo"
  exact fin_V hret 0 rfl sub_r
theorem c_mapof (d tp : Addr) (tn : Tok) (news : List (Addr × Obj)) (hD : DataIn w news d tp) :
    Con w 3 416 [.ref d, .str (Str.ofString "dm") tn] news (fun h₀ L m news s Q => ∀ xm, RMap w news xm .none [0, 224, 225] [.none, .ref tp, .none] → RetV (fun _ => .ref xm) h₀ L m news s Q) := by
  obtain ⟨xc, xg, xm, c0, c1, c2, c3, c4, g0, g1, g2, g3, g4, dc, dg, m1, m2, m3, r1, r2, r3⟩ := hD.m
  exact (c_mapofM d xm _ tn news m3).mono fun _ _ _ _ _ hR => hR xm r3
theorem ints3 {its : List Value} {a b c : Int} (h : IntsAre its [a, b, c]) : ∃ t0 t1 t2, its = [.int a t0, .int b t1, .int c t2] := by
  cases h with | cons _ t0 r => cases r with | cons _ t1 r => cases r with | cons _ t2 r => cases r; exact ⟨_, _, _, rfl⟩
noncomputable abbrev RetRows (tp : Addr) : RetT := fun h₀ L m news s Q => ∀ (a T0 T1 T2 : Addr) (t0 t1 t2 t3 t4 t5 : Tok) (n : Nat) (h' : Heap) (tk' : Nat), Fr h₀ L h' m →
  News h₀ L h' ((a, lstO [.ref T0, .ref T1, .ref T2] n) :: (T2, tupO [.int 225 t4, .int 1114111 t5, .none]) :: (T1, tupO [.int 224 t2, .int 224 t3, .ref tp]) :: (T0, tupO [.int 0 t0, .int 223 t1, .none]) :: news) → a < T0 → T0 < T1 → T1 < T2 → (∀ p ∈ news, p.1 < a) → Q (.ref a) { s with heap := h', toks := tk' }
theorem fin_rows {D : Nat} {i : Fn} {c : Cx w D i} {tp : Addr} {news : Led} (hret : RetRows tp c.k.h c.k.L c.k.m news c.k.s c.k.Q) {a T0 T1 T2 : Addr} {t0 t1 t2 t3 t4 t5 : Tok} {n : Nat} (h0 : ∀ p ∈ news, p.1 < a) (h1 : a < T0) (h2 : T0 < T1) (h3 : T1 < T2) :
    c.k.ret (.ref a) ((T2, tupO [.int 225 t4, .int 1114111 t5, .none]) :: (T1, tupO [.int 224 t2, .int 224 t3, .ref tp]) :: (T0, tupO [.int 0 t0, .int 223 t1, .none]) :: (a, lstO [.ref T0, .ref T1, .ref T2] n) :: news) :=
  fun h' tk' F N => hret a T0 T1 T2 t0 t1 t2 t3 t4 t5 n h' tk' F (cb_drop N (sub_m (.tail _ (.tail _ (.tail _ (.head _)))) (sub_c (sub_c (sub_c (sub_t sub_r)))))) h1 h2 h3 h0
theorem c_rows (x tp : Addr) (news : List (Addr × Obj)) (hw : RMap w news x .none [0, 224, 225] [.none, .ref tp, .none]) :
    Con w 3 374 [.ref x] news (RetRows tp) := by
  obtain ⟨r, R⟩ := hw.ex
  have r1 := R.a
  have r2 := R.b
  have r3 := R.c
  have r4 := R.d
  have r5 := R.e
  obtain ⟨i0, i1, i2, e⟩ := ints3 r5
  rw [e] at r3
  refine Con.enter [(Str.ofString "range_map", .ref x)] (by k_is) (by k_is) rfl rfl rfl rfl rfl rfl fun c2 hret => ?_
  walk_at "hgo"
  exact fin_rows hret (by assumption) (by walk_at "hlt") (by walk_at "hlt") (by walk_at "hlt")
theorem Ca.mapof {D : Nat} {i : Fn} {c : Cx w D i} {m : Fm} {nw : Led} {d tp : Addr} {tn : Tok} {K : Value → Led → Prop} (hd : Nat.ble 3 D = true) (hD : DataIn w nw d tp) (hK : ∀ xm, RMap w nw xm .none [0, 224, 225] [.none, .ref tp, .none] → K (.ref xm) nw) : Ca c m nw (.ref 416) [.ref d, .str (Str.ofString "dm") tn] K :=
  Ca.con (c_mapof d tp tn nw hD) hd fun _ _ _ hQ xm h t h' tk' F N => hQ _ _ _ _ F N (hK xm h)
theorem Ca.rows {D : Nat} {i : Fn} {c : Cx w D i} {m : Fm} {nw : Led} {x tp : Addr} {K : Value → Led → Prop} (hd : Nat.ble 3 D = true) (hw : RMap w nw x .none [0, 224, 225] [.none, .ref tp, .none])
    (hK : ∀ (a T0 T1 T2 : Addr) (t0 t1 t2 t3 t4 t5 : Tok) (n : Nat), a < T0 → T0 < T1 → T1 < T2 → (∀ p ∈ nw, p.1 < a) → K (.ref a) ((a, lstO [.ref T0, .ref T1, .ref T2] n) :: (T2, tupO [.int 225 t4, .int 1114111 t5, .none]) :: (T1, tupO [.int 224 t2, .int 224 t3, .ref tp]) :: (T0, tupO [.int 0 t0, .int 223 t1, .none]) :: nw)) : Ca c m nw (.ref 374) [.ref x] K :=
  Ca.con (c_rows x tp nw hw) hd fun _ _ _ hQ a T0 T1 T2 t0 t1 t2 t3 t4 t5 n h' tk' F N l0 l1 l2 l3 => hQ _ _ _ _ F N (hK a T0 T1 T2 t0 t1 t2 t3 t4 t5 n l0 l1 l2 l3)
theorem kw33 : True := by
  (k_with "m:hca" => ((with_reducible apply Ca.mapof); exact rfl; (first | (with_reducible assumption) | exact DataIn.mono (by assumption) (by walk_at "hsub"))))
  (k_with "m:hca" => ((with_reducible apply Ca.rows); exact rfl; (first | (with_reducible assumption) | exact RMap.mono (by assumption) (by walk_at "hsub"))))
  trivial
/-- the tuple ('', (97, 768)) in the ledger -/
noncomputable def TpIn (news : List (Addr × Obj)) (tp : Addr) : Prop := ∃ (tq : Addr) (t5 t6 t7 : Tok), (tp, tupO [.str (Str.ofString "") t5, .ref tq]) ∈ news ∧ (tq, tupO [.int 97 t6, .int 768 t7]) ∈ news
theorem TpIn.mono {news news' : List (Addr × Obj)} {tp : Addr} (h : TpIn news tp) (hs : ∀ p ∈ news, p ∈ news') : TpIn news' tp :=
  let ⟨tq, a, b, c, m1, m2⟩ := h; ⟨tq, a, b, c, hs _ m1, hs _ m2⟩
noncomputable def tpD : PyData := .tuple [.str (Str.ofString ""), .tuple [.int 97, .int 768]]
theorem TpIn.reads {h₀ : Heap} {L : Addr} {h : Heap} {news : List (Addr × Obj)} {tp : Addr} (x : TpIn news tp) (N : News h₀ L h news) : ∃ as, Reads h (.ref tp) tpD as := by
  obtain ⟨tq, a, b, c, m1, m2⟩ := x
  exact ⟨_, .tuple (N _ m1).1 rfl rfl (.cons (.str _ _) (.cons (.tuple (N _ m2).1 rfl rfl (.cons (.int _ _) (.cons (.int _ _) .nil))) .nil))⟩
section
variable {D : Nat} {i : Fn} {c : Cx w D i} {m : Fm} {nw : Led}
theorem Co.tpN {tp : Addr} {K : Bool → Led → Prop} (x : TpIn nw tp) (hK : K false nw) : Co c m nw .Eq (.ref tp) .none K :=
  ⟨fun h tk Q I hQ => by
    obtain ⟨as, r⟩ := x.reads I.N
    exact eq_dataH r .none (by decide +kernel) (by decide +kernel) (by have := c.hu; show c.un + 64 < cLine; omega) (hQ _ _ _ _ I hK)⟩
theorem Co.Ntp {tp : Addr} {K : Bool → Led → Prop} (x : TpIn nw tp) (hK : K false nw) : Co c m nw .Eq .none (.ref tp) K :=
  ⟨fun h tk Q I hQ => by
    obtain ⟨as, r⟩ := x.reads I.N
    exact eq_dataH .none r (by decide +kernel) (by decide +kernel) (by have := c.hu; show c.un + 64 < cLine; omega) (hQ _ _ _ _ I hK)⟩
end
/-- no bool -/
structure Nb (w : World) (nw : Led) (v : Value) : Prop where
  run : ∀ {D : Nat} {i : Fn} (c : Cx w D i) (m : Fm) (K : Value → Led → Prop), K (.bool false) nw → Ca c m nw (.builtin "isinstance") [v, .type "bool"] K
theorem nb_int {nw : Led} {x : Int} {t : Tok} : Nb w nw (.int x t) := ⟨fun _ _ _ hK => ⟨fun _ _ _ I hQ => IsiPair.int_bool (hQ _ _ _ _ I hK)⟩⟩
theorem nb_str {nw : Led} {x : Str} {t : Tok} : Nb w nw (.str x t) := ⟨fun _ _ _ hK => ⟨fun _ _ _ I hQ => IsiPair.str_bool (hQ _ _ _ _ I hK)⟩⟩
theorem nb_none {nw : Led} : Nb w nw .none := ⟨fun _ _ _ hK => ⟨fun _ _ _ I hQ => IsiPair.NoneType_bool (hQ _ _ _ _ I hK)⟩⟩
theorem nb_tup {nw : Led} {a : Addr} {its : List Value} (h : (a, tupO its) ∈ nw) : Nb w nw (.ref a) := ⟨fun _ _ _ hK => ⟨fun _ _ _ I hQ => IsiPair.tuple_bool (I.N _ h).1 rfl (hQ _ _ _ _ I hK)⟩⟩
theorem c_like (u v : Value) (b : Bool) (news : List (Addr × Obj)) (hE : ∀ {D : Nat} {i : Fn} (c : Cx w D i) (m : Fm) (K : Bool → Led → Prop), K b news → Co c m news .Eq u v K) (h1 : Nb w news u) (h2 : Nb w news v) : Con w 2 320 [u, v] news (RetV fun _ => .bool b) := by
  refine Con.enter [(Str.ofString "other", v), (Str.ofString "one", u)] (by k_is) (by k_is) rfl rfl rfl rfl rfl rfl fun c hret => ?_
  refine St.ret (Ex.and (Ex.co rfl (Ex.nm rfl rfl (Ex.nm rfl rfl (hE c _ _ ⟨b, rfl, ?_⟩)))))
  cases b with
  | false => exact fin_V hret 0 rfl sub_r
  | true =>
    refine Sp.t ?_
    walk_at "hgo"
    refine Ex.bn rfl rfl ?_
    walk_at "hgo"
    refine h1.run c _ _ ?_
    walk_at "hgo"
    refine Ex.bn rfl rfl ?_
    walk_at "hgo"
    refine h2.run c _ _ ?_
    refine ⟨fun h tk Q I hQ => (SeqAt.RcAt.bool_bool false false) _ _ _ _ (hQ _ _ _ _ I ?_)⟩
    exact fin_V hret 0 rfl sub_r
theorem c_like_nn (news : List (Addr × Obj)) : Con w 2 320 [.none, .none] news (RetV fun _ => .bool true) :=
  c_like _ _ _ news (fun c m K hK => ⟨fun h tk Q I hQ => EqNone.eq_none_none (hQ _ _ _ _ I hK)⟩) nb_none nb_none
theorem c_like_tn (tp : Addr) (news : List (Addr × Obj)) (ht : TpIn news tp) : Con w 2 320 [.ref tp, .none] news (RetV fun _ => .bool false) := by
  obtain ⟨tq, t5, t6, t7, h1, h2⟩ := id ht
  exact c_like _ _ _ news (fun c m K hK => Co.tpN ht hK) (nb_tup h1) nb_none
theorem c_like_nt (tp : Addr) (news : List (Addr × Obj)) (ht : TpIn news tp) : Con w 2 320 [.none, .ref tp] news (RetV fun _ => .bool false) := by
  obtain ⟨tq, t5, t6, t7, h1, h2⟩ := id ht
  exact c_like _ _ _ news (fun c m K hK => Co.Ntp ht hK) nb_none (nb_tup h1)
theorem c_like_ii (x y : Int) (t u : Tok) (b : Bool) (hb : (x == y) = b) (news : List (Addr × Obj)) : Con w 2 320 [.int x t, .int y u] news (RetV fun _ => .bool b) :=
  c_like _ _ _ news (fun c m K hK => Co.int (cp := .eq x y) rfl (by rw [show (CP.eq x y).b = b from hb]; exact hK)) nb_int nb_int
theorem c_like_ss (x y : Str) (t u : Tok) (b : Bool) (hb : (x == y) = b) (news : List (Addr × Obj)) : Con w 2 320 [.str x t, .str y u] news (RetV fun _ => .bool b) :=
  c_like _ _ _ news (fun c m K hK => Co.bl (b := b) (by subst hb; rfl) hK) nb_str nb_str
/-- two values of a map are (are not) like one another -/
noncomputable def LikeC (w : World) (nd : List (Addr × Obj)) (u v : Value) (b : Bool) : Prop := ∀ news, (∀ p ∈ nd, p ∈ news) → Con w 2 320 [u, v] news (RetV fun _ => .bool b)
theorem c_halfL (l : Addr) (its : List Value) (n : Nat) (ns : List Int) (x : Int) (t : Tok) (news : List (Addr × Obj)) (hm : (l, lstO its n) ∈ news) (hi : IntsAre its ns) (r : Int) (hs : ns.length < 100) (hsort : ns.Pairwise (· < ·)) (hr : (((ns.filter (fun y => decide (y ≤ x))).length : Nat) : Int) - 1 = r) :
    Con w 1 61 [.ref l, .int x t] news (RetV fun t => .int r t) := by
  subst hr; exact c_half l its n ns x t news hm hi hs hsort
noncomputable abbrev rmD (w : World) (t1 t2 t3 : Tok) (dv : Value) (ls lv : Addr) : Obj := dictOf [⟨PyData.keyHash w.params (Str.ofString "default"), .str (Str.ofString "default") t1, dv⟩, ⟨PyData.keyHash w.params (Str.ofString "starts"), .str (Str.ofString "starts") t2, .ref ls⟩, ⟨PyData.keyHash w.params (Str.ofString "values"), .str (Str.ofString "values") t3, .ref lv⟩] 3
noncomputable abbrev RetPt (w : World) (g : Obj → List (Addr × Obj)) (l : List (Addr × Obj)) (ex : Addr) (t1 t2 t3 : Tok) (dv : Value) (ns : List Int) (vs : List Value) : RetT := fun h₀ L m _ s Q => ∀ (ls lv : Addr) (its : List Value) (n1 n2 : Nat) (h' : Heap) (tk' : Nat), IntsAre its ns → Fr h₀ L h' m → News h₀ L h' ((lv, lstO vs n2) :: (ls, lstO its n1) :: g (rmD w t1 t2 t3 dv ls lv)) → ls < lv → (∀ p ∈ l, p.1 < ls) → Q .none { s with heap := h', toks := tk' }
theorem fin_Pt {D : Nat} {i : Fn} {c : Cx w D i} {m : Fm} {nw : Led} {g : Obj → Led} {l : Led} {ex : Addr} {t1 t2 t3 : Tok} {dv : Value} {ns : List Int} {vs : List Value} (hret : RetPt w g l ex t1 t2 t3 dv ns vs c.k.h c.k.L c.k.m l c.k.s c.k.Q) {ls lv : Addr} {its : List Value} {n1 n2 : Nat} (hs : ∀ p ∈ (lv, lstO vs n2) :: (ls, lstO its n1) :: g (rmD w t1 t2 t3 dv ls lv), p ∈ nw) (hi : IntsAre its ns) (h1 : ls < lv) (h2 : ∀ p ∈ l, p.1 < ls) : c.fin .next m nw :=
  fun h' tk' F N => hret ls lv its n1 n2 h' tk' hi F (cb_drop N hs) h1 h2
theorem Ca.half {D : Nat} {i : Fn} {c : Cx w D i} {m : Fm} {nw : Led} {l : Addr} {its : List Value} {n : Nat} {ns : List Int} {x r : Int} {t : Tok} {K : Value → Led → Prop} (hd : Nat.ble 1 D = true) (hm : (l, lstO its n) ∈ nw) (hi : IntsAre its ns) (hr : (((ns.filter (fun y => decide (y ≤ x))).length : Nat) : Int) - 1 = r) (hs : Nat.ble (ns.length + 1) 100 = true) (hsort : ns.Pairwise (· < ·)) (hK : ∀ t, K (.int r t) nw) : Ca c m nw (.ref 61) [.ref l, .int x t] K :=
  Ca.V (c_halfL l its n ns x t nw hm hi r (Nat.le_of_ble_eq_true hs) hsort hr) hd hK
theorem Ca.like {D : Nat} {i : Fn} {c : Cx w D i} {m : Fm} {nw nd : Led} {u v : Value} {b : Bool} {K : Value → Led → Prop} (hd : Nat.ble 2 D = true) (h : LikeC w nd u v b) (hs : ∀ p ∈ nd, p ∈ nw) (hK : Tok → K (.bool b) nw) : Ca c m nw (.ref 320) [u, v] K := Ca.V (h nw hs) hd hK
theorem kw34 : True := by
  (k_with "m:hca" => ((with_reducible apply Ca.half); exact rfl; walk_at "hmem"; (with_reducible assumption); (with_reducible assumption); exact rfl; (with_reducible assumption)))
  (k_with "m:hca" => ((with_reducible apply Ca.like); exact rfl; (with_reducible assumption); (first | exact hn0 | exact hn1 _ | walk_at "hsub")))
  trivial
theorem c_rputA (x ex ls lv : Addr) (t1 t2 t3 : Tok) (dv u v : Value) (u0 : Tok) (n1 n2 : Nat) (c : Int) (t t' : Tok) (hc : 0 < c) (hc2 : c < 5000) (nd : List (Addr × Obj)) (hlk0 : LikeC w nd u v false) (l : List (Addr × Obj)) (g : Obj → List (Addr × Obj)) (U : UpdF ex (rmD w t1 t2 t3 dv ls lv) l g)
    (hx : (x, instObj 363 ex) ∈ l) (h1 : (ls, lstO [.int 0 u0] n1) ∈ l) (h2 : (lv, lstO [u] n2) ∈ l) (hnd : ∀ p ∈ nd, p ∈ l ∧ p.1 ≠ ex) (hxe : x ≠ ex) (hse : ls ≠ ex) (hve : lv ≠ ex) :
    Con w 8 348 [.ref x, .int c t, .int c t', v] l (RetPt w g l ex t1 t2 t3 dv [0, c, c + 1] [u, v, u]) := by
  have hexm := updF_at U
  have hn0 : ∀ p ∈ nd, p ∈ l := fun p hp => (hnd p hp).1
  have hn1 : ∀ o, ∀ p ∈ nd, p ∈ g o := fun o p hp => updF_keep U (hnd p hp).1 (hnd p hp).2 o
  refine Con.enter [(Str.ofString "value", v), (Str.ofString "last", .int c t'), (Str.ofString "first", .int c t), (Str.ofString "self", .ref x)] (by k_is) (by k_is) rfl rfl rfl rfl rfl rfl fun c2 hret => ?_
  have hi0 : IntsAre [.int 0 u0] [0] := .cons _ _ (.nil)
  have hs0 : ([0] : List Int).Pairwise (· < ·) := by decide
  have hf1 : (((([0] : List Int).filter (fun y => decide (y ≤ c - 1))).length : Nat) : Int) - 1 = 0 := by
    have e0 : decide ((0 : Int) ≤ c - 1) = true := decide_eq_true (by lia)
    simp only [List.filter_cons, e0, if_true, if_false, Bool.false_eq_true, List.filter_nil]; rfl
  have hf2 : (((([0] : List Int).filter (fun y => decide (y ≤ c + 1))).length : Nat) : Int) - 1 = 0 := by
    have e0 : decide ((0 : Int) ≤ c + 1) = true := decide_eq_true (by lia)
    simp only [List.filter_cons, e0, if_true, if_false, Bool.false_eq_true, List.filter_nil]; rfl
  walk_at "hgo"
  · exact absurd (show (c : Int) < c from by assumption) (Int.lt_irrefl c)
  · exact fin_Pt hret (sub_c (sub_t (sub_t (sub_t (sub_c (sub_t (sub_t (sub_t (sub_t (sub_t sub_r)))))))))) (.cons _ _ (.cons _ _ (.cons _ _ .nil))) (by walk_at "hlt") (by walk_at "hlt")
theorem c_rputB (x ex ls lv : Addr) (t1 t2 t3 : Tok) (dv u v y : Value) (u0 u1 u2 : Tok) (n1 n2 : Nat) (t t' : Tok) (nd : List (Addr × Obj)) (hlk0 : LikeC w nd u y false) (hlk1 : LikeC w nd v y true) (l : List (Addr × Obj)) (g : Obj → List (Addr × Obj)) (U : UpdF ex (rmD w t1 t2 t3 dv ls lv) l g)
    (hx : (x, instObj 363 ex) ∈ l) (h1 : (ls, lstO [.int 0 u0, .int 768 u1, .int 769 u2] n1) ∈ l) (h2 : (lv, lstO [u, v, u] n2) ∈ l) (hnd : ∀ p ∈ nd, p ∈ l ∧ p.1 ≠ ex) (hxe : x ≠ ex) (hse : ls ≠ ex) (hve : lv ≠ ex) :
    Con w 8 348 [.ref x, .int 769 t, .int 769 t', y] l (RetPt w g l ex t1 t2 t3 dv [0, 768, 770] [u, v, u]) := by
  have hexm := updF_at U
  have hn0 : ∀ p ∈ nd, p ∈ l := fun p hp => (hnd p hp).1
  have hn1 : ∀ o, ∀ p ∈ nd, p ∈ g o := fun o p hp => updF_keep U (hnd p hp).1 (hnd p hp).2 o
  refine Con.enter [(Str.ofString "value", y), (Str.ofString "last", .int 769 t'), (Str.ofString "first", .int 769 t), (Str.ofString "self", .ref x)] (by k_is) (by k_is) rfl rfl rfl rfl rfl rfl fun c2 hret => ?_
  have hi0 : IntsAre [.int 0 u0, .int 768 u1, .int 769 u2] [0, 768, 769] := .cons _ _ (.cons _ _ (.cons _ _ (.nil)))
  have hs0 : ([0, 768, 769] : List Int).Pairwise (· < ·) := by decide
  have hf1 : (((([0, 768, 769] : List Int).filter (fun y => decide (y ≤ 769 - 1))).length : Nat) : Int) - 1 = 1 := by decide
  have hf2 : (((([0, 768, 769] : List Int).filter (fun y => decide (y ≤ 769 + 1))).length : Nat) : Int) - 1 = 2 := by decide
  walk_at "hgo"
  · exact absurd (show (769 : Int) < 769 from by assumption) (Int.lt_irrefl 769)
  · exact fin_Pt hret (sub_c (sub_t (sub_t (sub_t (sub_c (sub_t (sub_t (sub_t (sub_t (sub_t (sub_t (sub_t sub_r)))))))))))) (.cons _ _ (.cons _ _ (.cons _ _ .nil))) (by walk_at "hlt") (by walk_at "hlt")
theorem c_rputC (x ex ls lv : Addr) (t1 t2 t3 : Tok) (dv u v y : Value) (u0 u1 u2 : Tok) (n1 n2 : Nat) (t t' : Tok) (nd : List (Addr × Obj)) (hlk0 : LikeC w nd u y false) (l : List (Addr × Obj)) (g : Obj → List (Addr × Obj)) (U : UpdF ex (rmD w t1 t2 t3 dv ls lv) l g)
    (hx : (x, instObj 363 ex) ∈ l) (h1 : (ls, lstO [.int 0 u0, .int 768 u1, .int 770 u2] n1) ∈ l) (h2 : (lv, lstO [u, v, u] n2) ∈ l) (hnd : ∀ p ∈ nd, p ∈ l ∧ p.1 ≠ ex) (hxe : x ≠ ex) (hse : ls ≠ ex) (hve : lv ≠ ex) :
    Con w 8 348 [.ref x, .int 803 t, .int 803 t', y] l (RetPt w g l ex t1 t2 t3 dv [0, 768, 770, 803, 804] [u, v, u, y, u]) := by
  have hexm := updF_at U
  have hn0 : ∀ p ∈ nd, p ∈ l := fun p hp => (hnd p hp).1
  have hn1 : ∀ o, ∀ p ∈ nd, p ∈ g o := fun o p hp => updF_keep U (hnd p hp).1 (hnd p hp).2 o
  refine Con.enter [(Str.ofString "value", y), (Str.ofString "last", .int 803 t'), (Str.ofString "first", .int 803 t), (Str.ofString "self", .ref x)] (by k_is) (by k_is) rfl rfl rfl rfl rfl rfl fun c2 hret => ?_
  have hi0 : IntsAre [.int 0 u0, .int 768 u1, .int 770 u2] [0, 768, 770] := .cons _ _ (.cons _ _ (.cons _ _ (.nil)))
  have hs0 : ([0, 768, 770] : List Int).Pairwise (· < ·) := by decide
  have hf1 : (((([0, 768, 770] : List Int).filter (fun y => decide (y ≤ 803 - 1))).length : Nat) : Int) - 1 = 2 := by decide
  have hf2 : (((([0, 768, 770] : List Int).filter (fun y => decide (y ≤ 803 + 1))).length : Nat) : Int) - 1 = 2 := by decide
  walk_at "hgo"
  · exact absurd (show (803 : Int) < 803 from by assumption) (Int.lt_irrefl 803)
  · exact fin_Pt hret (sub_c (sub_t (sub_t (sub_t (sub_c (sub_t (sub_t (sub_t (sub_t (sub_t sub_r)))))))))) (.cons _ _ (.cons _ _ (.cons _ _ (.cons _ _ (.cons _ _ .nil))))) (by walk_at "hlt") (by walk_at "hlt")
noncomputable abbrev dtD (w : World) (t1 t2 t3 t4 : Tok) (dd dm : Addr) (v3 v4 : Value) : Obj := dictOf [⟨PyData.keyHash w.params (Str.ofString "defaults"), .str (Str.ofString "defaults") t1, .ref dd⟩, ⟨PyData.keyHash w.params (Str.ofString "maps"), .str (Str.ofString "maps") t2, .ref dm⟩, ⟨PyData.keyHash w.params (Str.ofString "properties"), .str (Str.ofString "properties") t3, v3⟩, ⟨PyData.keyHash w.params (Str.ofString "words"), .str (Str.ofString "words") t4, v4⟩] 4
/-- the data object: its parts in the ledger, but for the maps' dictionary -/
inductive DtIn (w : World) (l : List (Addr × Obj)) (d dd dm : Addr) (kvd : List (Str × Value)) : Prop
  | mk (dx : Addr) (t1 t2 t3 t4 : Tok) (v3 v4 : Value) (od : Obj) : ((d, instObj 419 dx) ∈ l) → ((dx, dtD w t1 t2 t3 t4 dd dm v3 v4) ∈ l) → ((dd, od) ∈ l) → (od.IsDictOf (PySem.strKind PySem.Challenge.pw_nt0050_01 w) kvd) → ((dd == sysModules) = false) → ((dm == sysModules) = false) → (d ≠ dm) → (dx ≠ dm) → (dd ≠ dm) → DtIn w l d dd dm kvd
theorem DtIn.ex {w : World} {l : List (Addr × Obj)} {d dd dm : Addr} {kvd : List (Str × Value)} (h : DtIn w l d dd dm kvd) : DtIn w l d dd dm kvd := h
theorem DtIn.mono {l l' : List (Addr × Obj)} {d dd dm : Addr} {kvd : List (Str × Value)} (h : DtIn w l d dd dm kvd) (hs : ∀ p ∈ l, p ∈ l') : DtIn w l' d dd dm kvd := by
  obtain ⟨dx, t1, t2, t3, t4, v3, v4, od, a, b, c, e1, e2, e3, e4, e5, e6⟩ := h
  exact ⟨dx, t1, t2, t3, t4, v3, v4, od, hs _ a, hs _ b, hs _ c, e1, e2, e3, e4, e5, e6⟩
noncomputable abbrev RetMn (w : World) (g : Obj → List (Addr × Obj)) (l : List (Addr × Obj)) (name : Str) (kvm : List (Str × Value)) (u : Value) : RetT := fun h₀ L m _ s Q => ∀ (x ex ls lv : Addr) (om : Obj) (t0 t1 t2 t3 : Tok) (n1 n2 : Nat) (h' : Heap) (tk' : Nat), om.IsDictOf (PySem.strKind PySem.Challenge.pw_nt0050_01 w) (stored kvm name (.ref x)) → Fr h₀ L h' m →
  News h₀ L h' ((lv, lstO [u] n2) :: (ls, lstO [.int 0 t0] n1) :: (x, instObj 363 ex) :: (ex, rmD w t1 t2 t3 u ls lv) :: g om) → ls < lv → x < ls → ex < x → (∀ p ∈ l, p.1 < ex) → Q (.ref x) { s with heap := h', toks := tk' }
noncomputable abbrev RetRi (w : World) (u : Value) : RetT := fun h₀ L m news s Q => ∀ (ex x ls lv : Addr) (t0 t1 t2 t3 : Tok) (n1 n2 : Nat) (h' : Heap) (tk' : Nat), Fr h₀ L h' m → News h₀ L h' ((lv, lstO [u] n2) :: (ls, lstO [.int 0 t0] n1) :: (x, instObj 363 ex) :: (ex, rmD w t1 t2 t3 u ls lv) :: news) →
  (∀ p ∈ news, p.1 < ex) → (∀ p ∈ (ex, rmD w t1 t2 t3 u ls lv) :: news, p.1 < x) → (∀ p ∈ (x, instObj 363 ex) :: (ex, rmD w t1 t2 t3 u ls lv) :: news, p.1 < ls) → (∀ p ∈ (ls, lstO [.int 0 t0] n1) :: (x, instObj 363 ex) :: (ex, rmD w t1 t2 t3 u ls lv) :: news, p.1 < lv) → Q (.ref x) { s with heap := h', toks := tk' }
theorem lt_consR {n : Led} {x y : Addr} {o : Obj} (e : x < y) (h : ∀ p ∈ n, p.1 < y) : ∀ p ∈ (x, o) :: n, p.1 < y := List.forall_mem_cons.mpr ⟨e, h⟩
theorem lt_trR {n : Led} {a b : Addr} (h : ∀ p ∈ n, p.1 < a) (e : a < b) : ∀ p ∈ n, p.1 < b := fun p hp => Nat.lt_trans (h p hp) e
theorem kw35 : True := by
  (k_with "m:hltR" => (first | (with_reducible assumption) | ((with_reducible apply lt_sub); (with_reducible assumption); walk_at "hsub") | ((with_reducible apply lt_consR); walk_at "hlt"; walk_at "hltR")))
  trivial
theorem c_rinit (u : Value) (news : Led) : Con w 2 363 [u] news (RetRi w u) := by
  refine Con.init (fun x => [(Str.ofString "default", u), (Str.ofString "self", .ref x)]) (by k_is) (by k_is) (by k_is) (by k_is) (by k_is) (fun _ _ _ => BindsTo.of_eq rfl) (fun _ => rfl) rfl rfl rfl rfl fun c2 x ex Q l1 l2 hret hQ => ?_
  have hex : ex ≠ x := Nat.ne_of_lt l2
  have hnx : ∀ p ∈ news, p.1 ≠ ex := fun p hp => Nat.ne_of_lt (l1 p hp)
  walk_at "hgo"
  exact fun h' tk' F N => hQ _ (hret _ _ _ _ _ _ _ _ _ _ h' tk' F N l1 (lt_consR l2 (lt_trR l1 l2)) (by walk_at "hltR") (by walk_at "hltR"))
theorem Ca.rinit {D : Nat} {i : Fn} {c : Cx w D i} {m : Fm} {nw : Led} {u : Value} {K : Value → Led → Prop} (hd : Nat.ble 2 D = true) (hK : ∀ (ex x ls lv : Addr) (t0 t1 t2 t3 : Tok) (n1 n2 : Nat), (∀ p ∈ nw, p.1 < ex) → (∀ p ∈ (ex, rmD w t1 t2 t3 u ls lv) :: nw, p.1 < x) → (∀ p ∈ (x, instObj 363 ex) :: (ex, rmD w t1 t2 t3 u ls lv) :: nw, p.1 < ls) → (∀ p ∈ (ls, lstO [.int 0 t0] n1) :: (x, instObj 363 ex) :: (ex, rmD w t1 t2 t3 u ls lv) :: nw, p.1 < lv) →
    K (.ref x) ((lv, lstO [u] n2) :: (ls, lstO [.int 0 t0] n1) :: (x, instObj 363 ex) :: (ex, rmD w t1 t2 t3 u ls lv) :: nw)) : Ca c m nw (.ref 363) [u] K :=
  Ca.con (c_rinit u nw) hd fun _ _ _ hQ ex x ls lv t0 t1 t2 t3 n1 n2 h' tk' F N l1 l2 l3 l4 => hQ _ _ _ _ F N (hK ex x ls lv t0 t1 t2 t3 n1 n2 l1 l2 l3 l4)
theorem kw36 : True := by
  (k_with "m:hca" => ((with_reducible apply Ca.rinit); exact rfl))
  trivial
theorem fin_Mn {D : Nat} {i : Fn} {c : Cx w D i} {g : Obj → Led} {l nw : Led} {name : Str} {kvm : List (Str × Value)} {u : Value} (hret : RetMn w g l name kvm u c.k.h c.k.L c.k.m l c.k.s c.k.Q) {x ex ls lv : Addr} {om : Obj} {t0 t1 t2 t3 : Tok} {n1 n2 : Nat} (h1 : om.IsDictOf (sK w) (stored kvm name (.ref x))) (hs : ∀ p ∈ (lv, lstO [u] n2) :: (ls, lstO [.int 0 t0] n1) :: (x, instObj 363 ex) :: (ex, rmD w t1 t2 t3 u ls lv) :: g om, p ∈ nw) (l1 : ls < lv) (l2 : x < ls) (l3 : ex < x) (l4 : ∀ p ∈ l, p.1 < ex) : c.k.ret (.ref x) nw :=
  fun h' tk' F N => hret x ex ls lv om t0 t1 t2 t3 n1 n2 h' tk' h1 F (cb_drop N hs) l1 l2 l3 l4
theorem c_mapN (d dd dm : Addr) (kvd kvm : List (Str × Value)) (u : Value) (name : Str) (tn : Tok) (om : Obj) (l : List (Addr × Obj)) (g : Obj → List (Addr × Obj)) (U : UpdF dm om l g) (hd0 : DtIn w l d dd dm kvd) (hom : om.IsDictOf (PySem.strKind PySem.Challenge.pw_nt0050_01 w) kvm) (hz : kvm.length < 10) (h1 : valueAt kvm name = none) (h2 : valueAt kvd name = some u) :
    Con w 5 416 [.ref d, .str name tn] l (RetMn w g l name kvm u) := by
  obtain ⟨dx, t1, t2, t3, t4, v3, v4, od, a1, a2, a3, a4, a5, a6, a7, a8, a9⟩ := hd0
  have hm := updF_at U
  have hz1 : kvm.length ≤ 1000 := by omega
  refine Con.enter [(Str.ofString "name", .str name tn), (Str.ofString "self", .ref d)] (by k_is) (by k_is) rfl rfl rfl rfl rfl rfl fun c2 hret => ?_
  walk_at "hgo"
  exact fin_Mn hret (by assumption) sub_r (by walk_at "hlt") (by walk_at "hlt") (by walk_at "hlt") (by assumption)
theorem c_mapO (d dd dm : Addr) (kvd kvm : List (Str × Value)) (x : Addr) (name : Str) (tn : Tok) (om : Obj) (l : List (Addr × Obj)) (hm : (dm, om) ∈ l) (hd0 : DtIn w l d dd dm kvd) (hom : om.IsDictOf (PySem.strKind PySem.Challenge.pw_nt0050_01 w) kvm) (h1 : valueAt kvm name = some (.ref x)) :
    Con w 5 416 [.ref d, .str name tn] l (RetV fun _ => .ref x) := by
  obtain ⟨dx, t1, t2, t3, t4, v3, v4, od, a1, a2, a3, a4, a5, a6, a7, a8, a9⟩ := hd0
  refine Con.enter [(Str.ofString "name", .str name tn), (Str.ofString "self", .ref d)] (by k_is) (by k_is) rfl rfl rfl rfl rfl rfl fun c2 hret => ?_
  walk_at "hgo"
  exact fin_V hret 0 rfl sub_r
theorem updF_lt {d : Addr} {o : Obj} {l : Led} {g : Obj → Led} (U : UpdF d o l g) {y : Addr} (h : ∀ p ∈ l, p.1 < y) (o' : Obj) : ∀ p ∈ g o', p.1 < y := by
  induction U with
  | head _ => exact List.forall_mem_cons.mpr ⟨show d < y from h (d, o) List.mem_cons_self, fun p hp => h p (.tail _ hp)⟩
  | tail _ _ ih => exact List.forall_mem_cons.mpr ⟨h _ List.mem_cons_self, ih fun p hp => h p (.tail _ hp)⟩
theorem Gm.dt {D : Nat} {i : Fn} {c : Cx w D i} {m : Fm} {nw : Led} {d dd dm f : Addr} {x : Str} {kvd : List (Str × Value)} {K : Value → List Value → Led → Prop} (h : DtIn w nw d dd dm kvd) (hf : mtab.lookup (419, x) = some f) (hx : [Str.ofString "get", Str.ofString "map_of", Str.ofString "put"].contains x = true) (hK : K (.ref f) [.ref d] nw) : Gm c m nw (.ref d) x K := by
  obtain ⟨dx, t1, t2, t3, t4, v3, v4, od, a1, a2, _⟩ := h
  refine Gm.own a1 a2 hf ?_ hK
  have := List.contains_iff_mem.mp hx
  simp only [List.mem_cons, List.not_mem_nil, or_false] at this
  rcases this with rfl | rfl | rfl <;> rfl
theorem kw37 : True := by
  (k_with "m:hca" => ((with_reducible apply Gm.dt (by first | (with_reducible assumption) | exact DtIn.mono (by assumption) (by walk_at "hsub"))); exact rfl; exact rfl))
  trivial
noncomputable abbrev RetDpN (w : World) (g : Obj → List (Addr × Obj)) (l : List (Addr × Obj)) (name : Str) (kvm : List (Str × Value)) (u v : Value) (c : Int) : RetT := fun h₀ L m _ s Q => ∀ (x ex ls lv : Addr) (om : Obj) (its : List Value) (t1 t2 t3 : Tok) (n1 n2 : Nat) (h' : Heap) (tk' : Nat), om.IsDictOf (PySem.strKind PySem.Challenge.pw_nt0050_01 w) (stored kvm name (.ref x)) → IntsAre its [0, c, c + 1] → Fr h₀ L h' m →
  News h₀ L h' ((lv, lstO [u, v, u] n2) :: (ls, lstO its n1) :: (x, instObj 363 ex) :: (ex, rmD w t1 t2 t3 u ls lv) :: g om) → ls < lv → x < ls → ex < x → (∀ p ∈ l, p.1 < ex) → Q .none { s with heap := h', toks := tk' }
theorem c_dputN (d dd dm : Addr) (kvd kvm : List (Str × Value)) (u v : Value) (name : Str) (tn : Tok) (om : Obj) (c : Int) (t t' : Tok) (hc : 0 < c) (hc2 : c < 5000) (nd : List (Addr × Obj)) (hlk : LikeC w nd u v false) (l : List (Addr × Obj)) (g : Obj → List (Addr × Obj)) (U : UpdF dm om l g) (hd0 : DtIn w l d dd dm kvd) (hom : om.IsDictOf (PySem.strKind PySem.Challenge.pw_nt0050_01 w) kvm) (hz : kvm.length < 10) (h1 : valueAt kvm name = none) (h2 : valueAt kvd name = some u) (hnd : ∀ p ∈ nd, p ∈ l ∧ p.1 ≠ dm) :
    Con w 14 402 [.ref d, .str name tn, .int c t, .int c t', v] l (RetDpN w g l name kvm u v c) := by
  refine Con.enter [(Str.ofString "value", v), (Str.ofString "last", .int c t'), (Str.ofString "first", .int c t), (Str.ofString "name", .str name tn), (Str.ofString "self", .ref d)] (by k_is) (by k_is) rfl rfl rfl rfl rfl rfl fun c2 hret => ?_
  have a7 : d ≠ dm := by obtain ⟨dx, t1, t2, t3, t4, v3, v4, od, a1, a2, a3, a4, a5, a6, a7, a8, a9⟩ := hd0; exact a7
  walk_at "hgo"
  refine Ca.con (c_mapN d dd dm kvd kvm u name _ om l g U hd0 hom hz h1 h2) rfl fun _ _ _ hQ x ex ls lv om9 t0 t1 t2 t3 n1 n2 h' tk' q1 F N o1 o2 o3 l1 => hQ _ _ _ _ F N ?_
  have lg := updF_lt U l1 om9
  have hxe : x ≠ ex := Nat.ne_of_gt o3
  have hse : ls ≠ ex := Nat.ne_of_gt (Nat.lt_trans o3 o2)
  have hve : lv ≠ ex := Nat.ne_of_gt (Nat.lt_trans o3 (Nat.lt_trans o2 o1))
  have hge : ∀ p ∈ g om9, p.1 ≠ ex := fun p hp => Nat.ne_of_lt (lg p hp)
  walk_at "hgo"
  refine Ca.con (c_rputA x ex ls lv t1 t2 t3 u u v t0 n1 n2 c _ _ hc hc2 nd hlk _ (fun o => (lv, lstO [u] n2) :: (ls, lstO [.int 0 t0] n1) :: (x, instObj 363 ex) :: (ex, o) :: g om9) (by walk_at "hupd") (by walk_at "hmem") (by walk_at "hmem") (by walk_at "hmem") (fun p9 hp9 => ⟨.tail _ (.tail _ (.tail _ (.tail _ (updF_keep U (hnd p9 hp9).1 (hnd p9 hp9).2 _)))), hge _ (updF_keep U (hnd p9 hp9).1 (hnd p9 hp9).2 om9)⟩) hxe hse hve) rfl fun _ _ _ hQ ls2 lv2 its n3 n4 h' tk' hi8 F N o4 l2 => hQ _ _ _ _ F N ?_
  walk_at "hgo"
  exact fun h' tk' F N => hret x ex ls2 lv2 om9 its t1 t2 t3 _ _ h' tk' q1 hi8 F (cb_drop N (sub_c (sub_c (sub_t (sub_t sub_r))))) o4 (l2 _ (.tail _ (.tail _ (.head _)))) o3 l1
noncomputable abbrev RetDpO (w : World) (g : Obj → List (Addr × Obj)) (l : List (Addr × Obj)) (t1 t2 t3 : Tok) (dv : Value) (ns : List Int) (vs : List Value) : RetT := fun h₀ L m _ s Q => ∀ (ls lv : Addr) (its : List Value) (n1 n2 : Nat) (h' : Heap) (tk' : Nat), IntsAre its ns → Fr h₀ L h' m → News h₀ L h' ((lv, lstO vs n2) :: (ls, lstO its n1) :: g (rmD w t1 t2 t3 dv ls lv)) → ls < lv → (∀ p ∈ l, p.1 < ls) → Q .none { s with heap := h', toks := tk' }
theorem c_dputB (d dd dm x ex ls lv : Addr) (kvd kvm : List (Str × Value)) (t1 t2 t3 : Tok) (dv u v y : Value) (u0 u1 u2 : Tok) (n1 n2 : Nat) (name : Str) (tn : Tok) (om : Obj) (t t' : Tok) (nd : List (Addr × Obj)) (hlk0 : LikeC w nd u y false) (hlk1 : LikeC w nd v y true) (l : List (Addr × Obj)) (g : Obj → List (Addr × Obj)) (U : UpdF ex (rmD w t1 t2 t3 dv ls lv) l g)
    (hd0 : DtIn w l d dd dm kvd) (hm : (dm, om) ∈ l) (hom : om.IsDictOf (PySem.strKind PySem.Challenge.pw_nt0050_01 w) kvm) (hv : valueAt kvm name = some (.ref x)) (hx : (x, instObj 363 ex) ∈ l) (h1 : (ls, lstO [.int 0 u0, .int 768 u1, .int 769 u2] n1) ∈ l) (h2 : (lv, lstO [u, v, u] n2) ∈ l) (hnd : ∀ p ∈ nd, p ∈ l ∧ p.1 ≠ ex) (hxe : x ≠ ex) (hse : ls ≠ ex) (hve : lv ≠ ex) :
    Con w 14 402 [.ref d, .str name tn, .int 769 t, .int 769 t', y] l (RetDpO w g l t1 t2 t3 dv [0, 768, 770] [u, v, u]) := by
  have hex := updF_at U
  refine Con.enter [(Str.ofString "value", y), (Str.ofString "last", .int 769 t'), (Str.ofString "first", .int 769 t), (Str.ofString "name", .str name tn), (Str.ofString "self", .ref d)] (by k_is) (by k_is) rfl rfl rfl rfl rfl rfl fun c2 hret => ?_
  walk_at "hgo"
  refine Ca.V (c_mapO d dd dm kvd kvm x name _ om l hm hd0 hom hv) rfl fun _ => ?_
  walk_at "hgo"
  refine Ca.con (c_rputB x ex ls lv t1 t2 t3 dv u v y u0 u1 u2 n1 n2 _ _ nd hlk0 hlk1 l g U hx h1 h2 hnd hxe hse hve) rfl fun _ _ _ hQ ls2 lv2 its n3 n4 h' tk' hi8 F N o4 l2 => hQ _ _ _ _ F N ?_
  walk_at "hgo"
  exact fun h' tk' F N => hret ls2 lv2 its n3 n4 h' tk' hi8 F N o4 l2
theorem c_dputC (d dd dm x ex ls lv : Addr) (kvd kvm : List (Str × Value)) (t1 t2 t3 : Tok) (dv u v y : Value) (u0 u1 u2 : Tok) (n1 n2 : Nat) (name : Str) (tn : Tok) (om : Obj) (t t' : Tok) (nd : List (Addr × Obj)) (hlk0 : LikeC w nd u y false) (l : List (Addr × Obj)) (g : Obj → List (Addr × Obj)) (U : UpdF ex (rmD w t1 t2 t3 dv ls lv) l g)
    (hd0 : DtIn w l d dd dm kvd) (hm : (dm, om) ∈ l) (hom : om.IsDictOf (PySem.strKind PySem.Challenge.pw_nt0050_01 w) kvm) (hv : valueAt kvm name = some (.ref x)) (hx : (x, instObj 363 ex) ∈ l) (h1 : (ls, lstO [.int 0 u0, .int 768 u1, .int 770 u2] n1) ∈ l) (h2 : (lv, lstO [u, v, u] n2) ∈ l) (hnd : ∀ p ∈ nd, p ∈ l ∧ p.1 ≠ ex) (hxe : x ≠ ex) (hse : ls ≠ ex) (hve : lv ≠ ex) :
    Con w 14 402 [.ref d, .str name tn, .int 803 t, .int 803 t', y] l (RetDpO w g l t1 t2 t3 dv [0, 768, 770, 803, 804] [u, v, u, y, u]) := by
  have hex := updF_at U
  refine Con.enter [(Str.ofString "value", y), (Str.ofString "last", .int 803 t'), (Str.ofString "first", .int 803 t), (Str.ofString "name", .str name tn), (Str.ofString "self", .ref d)] (by k_is) (by k_is) rfl rfl rfl rfl rfl rfl fun c2 hret => ?_
  walk_at "hgo"
  refine Ca.V (c_mapO d dd dm kvd kvm x name _ om l hm hd0 hom hv) rfl fun _ => ?_
  walk_at "hgo"
  refine Ca.con (c_rputC x ex ls lv t1 t2 t3 dv u v y u0 u1 u2 n1 n2 _ _ nd hlk0 l g U hx h1 h2 hnd hxe hse hve) rfl fun _ _ _ hQ ls2 lv2 its n3 n4 h' tk' hi8 F N o4 l2 => hQ _ _ _ _ F N ?_
  walk_at "hgo"
  exact fun h' tk' F N => hret ls2 lv2 its n3 n4 h' tk' hi8 F N o4 l2
/-- a ledger whose addresses fall -/
noncomputable def SrtL (l : List (Addr × Obj)) : Prop := l.Pairwise (fun p q => q.1 < p.1)
noncomputable def updL (l : List (Addr × Obj)) (a : Addr) (o : Obj) : List (Addr × Obj) := l.map (fun p => if (p.1 : Nat) = a then (a, o) else p)
theorem srt_fun : ∀ {l : List (Addr × Obj)}, SrtL l → ∀ {p q : Addr × Obj}, p ∈ l → q ∈ l → p.1 = q.1 → p = q
  | [], _, _, _, h, _, _ => nomatch h
  | x :: r, h, p, q, hp, hq, e => by
    obtain ⟨h1, h2⟩ := List.pairwise_cons.mp h
    rcases List.mem_cons.mp hp with h3 | h3 <;> rcases List.mem_cons.mp hq with h4 | h4
    · rw [h3, h4]
    · exact absurd e (Nat.ne_of_gt (h3 ▸ h1 q h4))
    · exact absurd e.symm (Nat.ne_of_gt (h4 ▸ h1 p h3))
    · exact srt_fun h2 h3 h4 e
theorem updL_id {a : Addr} {o : Obj} : ∀ {l : List (Addr × Obj)}, (∀ p ∈ l, p.1 ≠ a) → updL l a o = l
  | [], _ => rfl
  | p :: r, h => by
    have ih := updL_id (a := a) (o := o) (l := r) (fun q hq => h q (.tail _ hq))
    unfold updL at ih ⊢
    rw [List.map_cons, if_neg (h p (.head _)), ih]
theorem updF_app {a : Addr} {o : Obj} (news : List (Addr × Obj)) : ∀ {l : List (Addr × Obj)}, SrtL l → (a, o) ∈ l → (∀ p ∈ news, p.1 < a) → UpdF a o (l ++ news) (fun o' => updL l a o' ++ news)
  | [], _, h, _ => nomatch h
  | p :: r, h, hm, hn => by
    obtain ⟨h1, h2⟩ := List.pairwise_cons.mp h
    by_cases e : p.1 = a
    · have : p = (a, o) := srt_fun h (.head _) hm e
      subst this
      have hr : ∀ q ∈ r, q.1 ≠ a := fun q hq => Nat.ne_of_lt (h1 q hq)
      have e2 : (fun o' => updL ((a, o) :: r) a o' ++ news) = fun o' => (a, o') :: (r ++ news) := by
        funext o'
        have := updL_id (o := o') hr
        unfold updL at this ⊢
        rw [List.map_cons, if_pos rfl, this]; rfl
      rw [e2]
      exact .head fun q hq => by
        rcases List.mem_append.mp hq with hq | hq
        · exact hr q hq
        · exact Nat.ne_of_lt (hn q hq)
    · have hm2 : (a, o) ∈ r := by
        rcases List.mem_cons.mp hm with rfl | hm
        · exact absurd rfl e
        · exact hm
      have e2 : (fun o' => updL (p :: r) a o' ++ news) = fun o' => p :: (updL r a o' ++ news) := by
        funext o'; unfold updL; rw [List.map_cons, if_neg e]; rfl
      rw [e2]
      exact .tail e (updF_app news h2 hm2 hn)
theorem updL_addr {a : Addr} {o : Obj} {l : List (Addr × Obj)} {p : Addr × Obj} (h : p ∈ updL l a o) : ∃ q ∈ l, q.1 = p.1 := by
  obtain ⟨q, hq, rfl⟩ := List.mem_map.mp h
  refine ⟨q, hq, ?_⟩
  split
  · assumption
  · rfl
theorem updL_srt {a : Addr} {o : Obj} : ∀ {l : List (Addr × Obj)}, SrtL l → SrtL (updL l a o)
  | [], _ => List.Pairwise.nil
  | p :: r, h => by
    obtain ⟨h1, h2⟩ := List.pairwise_cons.mp h
    have : updL (p :: r) a o = (if (p.1 : Nat) = a then (a, o) else p) :: updL r a o := rfl
    rw [this]
    refine List.pairwise_cons.mpr ⟨fun q hq => ?_, updL_srt h2⟩
    obtain ⟨q', hq', e⟩ := updL_addr hq
    rw [← e]
    split
    · rename_i e2; show q'.1 < a; rw [← e2]; exact h1 q' hq'
    · exact h1 q' hq'
theorem updL_mem {a : Addr} {o : Obj} {l : List (Addr × Obj)} {p : Addr × Obj} (h : p ∈ l) (e : p.1 ≠ a) : p ∈ updL l a o := List.mem_map.mpr ⟨p, h, if_neg e⟩
theorem updL_self {a : Addr} {o o' : Obj} {l : List (Addr × Obj)} (h : (a, o) ∈ l) : (a, o') ∈ updL l a o' := List.mem_map.mpr ⟨_, h, if_pos rfl⟩
/-- the data object's parts, below β -/
inductive DtB (w : World) (l : List (Addr × Obj)) (d dd dm : Addr) (kvd : List (Str × Value)) (β : Nat) : Prop
  | mk (dx dp dw : Addr) (t1 t2 t3 t4 : Tok) (od : Obj) : ((d, instObj 419 dx) ∈ l) → ((dx, dtD w t1 t2 t3 t4 dd dm (.ref dp) (.ref dw)) ∈ l) → ((dd, od) ∈ l) → (od.IsDictOf (PySem.strKind PySem.Challenge.pw_nt0050_01 w) kvd) → ((dd == sysModules) = false) → ((dm == sysModules) = false) → (d ≠ dm) → (dx ≠ dm) → (dd ≠ dm) → (d < β) → (dx < β) → (dd < β) → (dm < β) → DtB w l d dd dm kvd β
theorem DtB.ex {w : World} {l : List (Addr × Obj)} {d dd dm : Addr} {kvd : List (Str × Value)} {β : Nat} (h : DtB w l d dd dm kvd β) : DtB w l d dd dm kvd β := h
theorem DtB.dt {l : List (Addr × Obj)} {d dd dm : Addr} {kvd : List (Str × Value)} {β : Nat} (h : DtB w l d dd dm kvd β) : DtIn w l d dd dm kvd := by
  obtain ⟨dx, dp, dw, t1, t2, t3, t4, od, a, b, c, e, f, g, i, j, k, _⟩ := h
  exact ⟨dx, t1, t2, t3, t4, _, _, od, a, b, c, e, f, g, i, j, k⟩
theorem DtB.upd {l l' : List (Addr × Obj)} {d dd dm a : Addr} {kvd : List (Str × Value)} {β : Nat} (h : DtB w l d dd dm kvd β) (ha : a = dm ∨ β ≤ a) (hs : ∀ p ∈ l, p.1 ≠ a → p ∈ l') : DtB w l' d dd dm kvd β := by
  obtain ⟨dx, dp, dw, t1, t2, t3, t4, od, a1, b, c, e, f, g, i, j, k, x1, x2, x3, x4⟩ := h
  have hn : ∀ z : Nat, z ≠ dm → z < β → z ≠ a := fun z h1 h2 h3 => by
    rcases ha with ha | ha
    · exact h1 (h3.trans ha)
    · omega
  exact ⟨dx, dp, dw, t1, t2, t3, t4, od, hs _ a1 (hn d i x1), hs _ b (hn dx j x2), hs _ c (hn dd k x3), e, f, g, i, j, k, x1, x2, x3, x4⟩
/-- one map of the data -/
inductive MapS (w : World) (l : List (Addr × Obj)) (x ex : Addr) (dv : Value) (ns : List Int) (vs : List Value) : Prop
  | mk (t1 t2 t3 : Tok) (ls lv : Addr) (its : List Value) (n1 n2 : Nat) : ((x, instObj 363 ex) ∈ l) → ((ex, rmD w t1 t2 t3 dv ls lv) ∈ l) → ((ls, lstO its n1) ∈ l) → ((lv, lstO vs n2) ∈ l) → (IntsAre its ns) → MapS w l x ex dv ns vs
theorem MapS.ex {w : World} {l : List (Addr × Obj)} {x ex : Addr} {dv : Value} {ns : List Int} {vs : List Value} (h : MapS w l x ex dv ns vs) : MapS w l x ex dv ns vs := h
theorem MapS.rmap {l : List (Addr × Obj)} {x ex : Addr} {dv : Value} {ns : List Int} {vs : List Value} (h : MapS w l x ex dv ns vs) : RMap w l x dv ns vs := by
  obtain ⟨t1, t2, t3, ls, lv, its, n1, n2, a, b, c, d, e⟩ := h
  exact ⟨⟨⟨ex, ls, lv, t1, t2, t3, its, n1, n2⟩, a, b, c, d, e⟩⟩
theorem lst_ne {l : List (Addr × Obj)} (hs : SrtL l) {a b : Addr} {its : List Value} {n : Nat} {o : Obj} (ha : (a, lstO its n) ∈ l) (hb : (b, o) ∈ l) (ho : o.cls ≠ .type "list") : a ≠ b := fun e => by
  have := srt_fun hs ha hb e
  have h2 : lstO its n = o := congrArg Prod.snd this
  exact ho (h2 ▸ rfl)
/-- a map stays at the change of another object, that is no list -/
theorem MapS.upd {l l' : List (Addr × Obj)} {x ex a : Addr} {o : Obj} {dv : Value} {ns : List Int} {vs : List Value} (h : MapS w l x ex dv ns vs) (hl : SrtL l) (ha : (a, o) ∈ l) (ho : o.cls ≠ .type "list") (h1 : x ≠ a) (h2 : ex ≠ a) (hs : ∀ p ∈ l, p.1 ≠ a → p ∈ l') : MapS w l' x ex dv ns vs := by
  obtain ⟨t1, t2, t3, ls, lv, its, n1, n2, a1, b, c, d, e⟩ := h
  exact ⟨t1, t2, t3, ls, lv, its, n1, n2, hs _ a1 h1, hs _ b h2, hs _ c (lst_ne hl c ha ho), hs _ d (lst_ne hl d ha ho), e⟩
theorem Ex.call0 {D : Nat} {i : Fn} {c : Cx w D i} {m : Fm} {nw : Led} {x : Str} {px pos : Pos} {f : Value} {K : Value → Led → Prop} (hg : nameGlobal i.scope x = true) (hf : ftab.lookup x = some f) (h : Ca c m nw f [] K) : Ex c m nw (.Call (.Name x px) [] [] pos) K := by
  refine ⟨fun h0 tk Q I hQ => ?_⟩
  obtain ⟨hv, hp⟩ := ftab_at (P := w.params) hf
  simp only [nameGlobal, Bool.and_eq_true, beq_iff_eq, Bool.not_eq_true'] at hg
  exact Call_ (nameX_K I.F c.X c.tr hv ((Cw.fn0 (first := []) hp h).run h0 tk Q I hQ) hg.1 hg.2.1 hg.2.2)
theorem Ca.dd {D : Nat} {i : Fn} {c : Cx w D i} {m : Fm} {nw : Led} {K : Value → Led → Prop} (hd : Nat.ble 3 D = true) (hK : ∀ dd o kv, o.IsDictOf (sK w) kv → kv.length ≤ 100 → (dd == sysModules) = false → DdOk kv → (∀ p ∈ nw, p.1 < dd) → K (.ref dd) ((dd, o) :: nw)) : Ca c m nw (.ref 381) [] K :=
  Ca.con (c_dd nw) hd fun _ _ _ hQ dd o kv h' tk' h1 h2 h3 h4 F N l => hQ _ _ _ _ F N (hK dd o kv h1 h2 h3 h4 l)
theorem kw38 : True := by
  (k_with "m:hca" => ((with_reducible apply Ca.dd); exact rfl))
  (k_with "m:hcall" => ((with_reducible apply Ex.call0); exact rfl; exact rfl))
  trivial
noncomputable abbrev RetD0 (w : World) : RetT := fun h₀ L m news s Q => ∀ (d dx dd dm dp dw : Addr) (t1 t2 t3 t4 : Tok) (od om o1 o2 : Obj) (kvd : List (Str × Value)) (h' : Heap) (tk' : Nat), od.IsDictOf (PySem.strKind PySem.Challenge.pw_nt0050_01 w) kvd → kvd.length ≤ 100 → (dd == sysModules) = false → DdOk kvd → om.IsDictOf (PySem.strKind PySem.Challenge.pw_nt0050_01 w) [] → (dm == sysModules) = false →
  Fr h₀ L h' m → News h₀ L h' ((dw, o2) :: (dp, o1) :: (dm, om) :: (dd, od) :: (d, instObj 419 dx) :: (dx, dtD w t1 t2 t3 t4 dd dm (.ref dp) (.ref dw)) :: news) → dp < dw → dm < dp → dd < dm → d < dd → dx < d → (∀ p ∈ news, p.1 < dx) → Q (.ref d) { s with heap := h', toks := tk' }
theorem c_data0 (news : List (Addr × Obj)) : Con w 16 419 [] news (RetD0 w) := by
  refine Con.init (fun x => [(Str.ofString "self", .ref x)]) (by k_is) (by k_is) (by k_is) (by k_is) (by k_is) (fun _ _ _ => BindsTo.of_eq rfl) (fun _ => rfl) rfl rfl rfl rfl fun c2 x dx Q l1 l2 hret hQ => ?_
  have hex : dx ≠ x := Nat.ne_of_lt l2
  have hnx : ∀ p ∈ news, p.1 ≠ dx := fun p hp => Nat.ne_of_lt (l1 p hp)
  walk_at "hgo"
  exact fun h' tk' F N => hQ _ (hret x dx _ _ _ _ _ _ _ _ _ _ _ _ _ h' tk' (by assumption) (by assumption) (by assumption) (by assumption) (by assumption) (by assumption) F N (by walk_at "hlt") (by walk_at "hlt") (by walk_at "hlt") (by walk_at "hlt") l2 l1)
structure DS (w : World) (news ds : List (Addr × Obj)) (T d dd dm : Addr) (kvd kvm : List (Str × Value)) : Prop where
  srt : SrtL ds
  low : ∀ p ∈ news, ∀ q ∈ ds, p.1 < q.1
  dt : DtB w ds d dd dm kvd T
  om : ∃ om, (dm, om) ∈ ds ∧ om.IsDictOf (PySem.strKind PySem.Challenge.pw_nt0050_01 w) kvm
theorem dict_cls {o : Obj} {kvs : List (Str × Value)} (h : o.IsDictOf (PySem.strKind PySem.Challenge.pw_nt0050_01 w) kvs) : o.cls ≠ .type "list" := by
  obtain ⟨es, ep, ⟨e, _⟩, _⟩ := h
  rw [e]; intro h; exact absurd (Value.type.inj h) (by decide)
theorem DS.low2 {news ds : List (Addr × Obj)} {T d dd dm : Addr} {kvd kvm : List (Str × Value)} (h : DS w news ds T d dd dm kvd kvm) {a : Addr} {o : Obj} (ha : (a, o) ∈ ds) : ∀ p ∈ news, p.1 < a := fun p hp => h.low p hp _ ha
theorem srt_cons {x : Addr × Obj} {l : List (Addr × Obj)} (h : SrtL l) (hx : ∀ p ∈ l, p.1 < x.1) : SrtL (x :: l) := List.pairwise_cons.mpr ⟨hx, h⟩
theorem upd_lt {l : List (Addr × Obj)} {a b : Addr} {o : Obj} (h : ∀ p ∈ l, p.1 < b) : ∀ p ∈ updL l a o, p.1 < b := fun p hp => by
  obtain ⟨q, hq, e⟩ := updL_addr hp
  rw [← e]; exact h q hq
theorem cons_lt {x : Addr × Obj} {l : List (Addr × Obj)} {b : Addr} (hx : x.1 < b) (h : ∀ p ∈ l, p.1 < b) : ∀ p ∈ x :: l, p.1 < b := List.forall_mem_cons.mpr ⟨hx, h⟩
theorem lt_of_lt {l : List (Addr × Obj)} {a b : Addr} (h : ∀ p ∈ l, p.1 < a) (hab : a < b) : ∀ p ∈ l, p.1 < b := fun p hp => Nat.lt_trans (h p hp) hab
/-- what stays: a subset but for one address -/
theorem DS.putN {news ds : List (Addr × Obj)} {T d dd dm : Addr} {kvd kvm kvm' : List (Str × Value)} (h : DS w news ds T d dd dm kvd kvm) {x ex ls lv : Addr} {o1 o2 o3 o4 om' : Obj} (hm : om'.IsDictOf (PySem.strKind PySem.Challenge.pw_nt0050_01 w) kvm')
    (e1 : ls < lv) (e2 : x < ls) (e3 : ex < x) (e4 : ∀ p ∈ ds ++ news, p.1 < ex) : DS w news ((lv, o1) :: (ls, o2) :: (x, o3) :: (ex, o4) :: updL ds dm om') T d dd dm kvd kvm' := by
  obtain ⟨h1, h2, h4, om, h5, h6⟩ := h
  have e5 : ∀ p ∈ ds, p.1 < ex := fun p hp => e4 p (List.mem_append_left _ hp)
  have u := upd_lt (a := dm) (o := om') e5
  have hs : ∀ p ∈ ds, p.1 ≠ dm → p ∈ (lv, o1) :: (ls, o2) :: (x, o3) :: (ex, o4) :: updL ds dm om' := fun p hp hne => .tail _ (.tail _ (.tail _ (.tail _ (updL_mem hp hne))))
  refine ⟨srt_cons (srt_cons (srt_cons (srt_cons (updL_srt h1) u) (cons_lt e3 (lt_of_lt u e3))) (cons_lt e2 (cons_lt (Nat.lt_trans e3 e2) (lt_of_lt u (Nat.lt_trans e3 e2))))) (cons_lt e1 (cons_lt (Nat.lt_trans e2 e1) (cons_lt (Nat.lt_trans e3 (Nat.lt_trans e2 e1)) (lt_of_lt u (Nat.lt_trans e3 (Nat.lt_trans e2 e1)))))), ?_, h4.upd (.inl rfl) hs, om', .tail _ (.tail _ (.tail _ (.tail _ (updL_self h5)))), hm⟩
  intro p hp q hq
  have ep := e4 p (List.mem_append_right _ hp)
  rcases List.mem_cons.mp hq with rfl | hq
  · exact Nat.lt_trans ep (Nat.lt_trans e3 (Nat.lt_trans e2 e1))
  rcases List.mem_cons.mp hq with rfl | hq
  · exact Nat.lt_trans ep (Nat.lt_trans e3 e2)
  rcases List.mem_cons.mp hq with rfl | hq
  · exact Nat.lt_trans ep e3
  rcases List.mem_cons.mp hq with rfl | hq
  · exact ep
  obtain ⟨q', hq', e⟩ := updL_addr hq
  rw [← e]; exact h2 p hp q' hq'
theorem DS.putO {news ds : List (Addr × Obj)} {T d dd dm : Addr} {kvd kvm : List (Str × Value)} (h : DS w news ds T d dd dm kvd kvm) {ex ls lv : Addr} {o1 o2 o4 o5 : Obj} (hx : (ex, o5) ∈ ds) (ht : T < ex) 
    (e1 : ls < lv) (e4 : ∀ p ∈ ds ++ news, p.1 < ls) : DS w news ((lv, o1) :: (ls, o2) :: updL ds ex o4) T d dd dm kvd kvm := by
  obtain ⟨h1, h2, h4, om, h5, h6⟩ := h
  have e5 : ∀ p ∈ ds, p.1 < ls := fun p hp => e4 p (List.mem_append_left _ hp)
  have u := upd_lt (a := ex) (o := o4) e5
  have hs : ∀ p ∈ ds, p.1 ≠ ex → p ∈ (lv, o1) :: (ls, o2) :: updL ds ex o4 := fun p hp hne => .tail _ (.tail _ (updL_mem hp hne))
  have hdm : dm ≠ ex := by
    obtain ⟨dx, dp, dw, t1, t2, t3, t4, od, a1, b, c, e, f, g, i, j, k, x1, x2, x3, x4⟩ := h4
    intro e9; have x5 : dm < T := x4; rw [e9] at x5; exact Nat.lt_irrefl _ (Nat.lt_trans ht x5)
  refine ⟨srt_cons (srt_cons (updL_srt h1) u) (cons_lt e1 (lt_of_lt u e1)), ?_, h4.upd (.inr (Nat.le_of_lt ht)) hs, om, hs _ h5 hdm, h6⟩
  intro p hp q hq
  have ep := e4 p (List.mem_append_right _ hp)
  rcases List.mem_cons.mp hq with rfl | hq
  · exact Nat.lt_trans ep e1
  rcases List.mem_cons.mp hq with rfl | hq
  · exact ep
  obtain ⟨q', hq', e⟩ := updL_addr hq
  rw [← e]; exact h2 p hp q' hq'

inductive DSn (w : World) (news ds : List (Addr × Obj)) (T d dd dm : Addr) (kvd : List (Str × Value)) (ns : List Int) (uc ug : Value) (vc vg : List Value) : Prop
  | mk (xc exc xg exg : Addr) : (DS w news ds T d dd dm kvd [(Str.ofString "ccc", .ref xc), (Str.ofString "gcb", .ref xg)]) → (T < exc) → (exc < xc) → (xc < exg) → (exg < xg) → (MapS w ds xc exc uc ns vc) → (MapS w ds xg exg ug ns vg) → DSn w news ds T d dd dm kvd ns uc ug vc vg
theorem DSn.ex {w : World} {news ds : List (Addr × Obj)} {T d dd dm : Addr} {kvd : List (Str × Value)} {ns : List Int} {uc ug : Value} {vc vg : List Value} (h : DSn w news ds T d dd dm kvd ns uc ug vc vg) : DSn w news ds T d dd dm kvd ns uc ug vc vg := h
noncomputable abbrev sO : Str := Str.ofString "Other"
noncomputable abbrev sE : Str := Str.ofString "Extend"
/-- the data's ledger after i turns -/
noncomputable def DP (w : World) (news : List (Addr × Obj)) (T d dd dm : Addr) (kvd : List (Str × Value)) (a0 b0 : Tok) (i : Nat) (ds : List (Addr × Obj)) : Prop :=
  (i = 0 ∧ DS w news ds T d dd dm kvd []) ∨
  (i = 1 ∧ ∃ a1 b1, DSn w news ds T d dd dm kvd [0, 768, 769] (.int 0 a0) (.str sO b0) [.int 0 a0, .int 230 a1, .int 0 a0] [.str sO b0, .str sE b1, .str sO b0]) ∨
  (i = 2 ∧ ∃ a1 b1, DSn w news ds T d dd dm kvd [0, 768, 770] (.int 0 a0) (.str sO b0) [.int 0 a0, .int 230 a1, .int 0 a0] [.str sO b0, .str sE b1, .str sO b0]) ∨
  (i = 3 ∧ ∃ a1 b1 a2 b2, DSn w news ds T d dd dm kvd [0, 768, 770, 803, 804] (.int 0 a0) (.str sO b0) [.int 0 a0, .int 230 a1, .int 0 a0, .int 220 a2, .int 0 a0] [.str sO b0, .str sE b1, .str sO b0, .str sE b2, .str sO b0])
theorem like_ii (x y : Int) (t u : Tok) (b : Bool) (hb : (x == y) = b) : LikeC w [] (.int x t) (.int y u) b := fun news _ => c_like_ii x y t u b hb news
theorem like_ss (x y : Str) (t u : Tok) (b : Bool) (hb : (x == y) = b) : LikeC w [] (.str x t) (.str y u) b := fun news _ => c_like_ss x y t u b hb news
theorem updF_pre {a : Addr} {o : Obj} {l : List (Addr × Obj)} {g : Obj → List (Addr × Obj)} (U : UpdF a o l g) : ∀ {pre : List (Addr × Obj)}, (∀ q ∈ pre, q.1 ≠ a) → UpdF a o (pre ++ l) (fun o' => pre ++ g o')
  | [], _ => U
  | q :: r, h => .tail (h q (.head _)) (updF_pre U (fun z hz => h z (.tail _ hz)))
theorem mem_pre {pre ds news : List (Addr × Obj)} {p : Addr × Obj} (h : p ∈ ds) : p ∈ pre ++ (ds ++ news) := List.mem_append_right _ (List.mem_append_left _ h)
noncomputable abbrev RetSN (w : World) (pre ds news : List (Addr × Obj)) (T d dd dm : Addr) (kvd kvm : List (Str × Value)) (name : Str) (u v : Value) (c : Int) : RetT := fun h₀ L m _ s Q => ∀ (x ex : Addr) (ds' : List (Addr × Obj)) (h' : Heap) (tk' : Nat), DS w news ds' T d dd dm kvd (stored kvm name (.ref x)) → MapS w ds' x ex u [0, c, c + 1] [u, v, u] → (∀ p ∈ pre ++ (ds ++ news), p.1 < ex) → ex < x →
  (∀ a : Addr, (∀ q ∈ ds, q.1 ≠ a) → (∃ z ∈ pre, z.1 = a) → ∀ p ∈ ds', p.1 ≠ a) → (∀ p ∈ ds, p.1 ≠ dm → p ∈ ds') → (∀ y ey dv ns vs, T < ey → T < y → MapS w ds y ey dv ns vs → MapS w ds' y ey dv ns vs) → Fr h₀ L h' m → News h₀ L h' (pre ++ (ds' ++ news)) → Q .none { s with heap := h', toks := tk' }
theorem c_stepN (pre ds news : List (Addr × Obj)) (T d dd dm : Addr) (kvd kvm : List (Str × Value)) (hS : DS w news ds T d dd dm kvd kvm) (hpre : ∀ q ∈ pre, q.1 ≠ dm) (u v : Value) (name : Str) (tn : Tok) (c : Int) (t t' : Tok) (hc : 0 < c) (hc2 : c < 5000) (nd : List (Addr × Obj)) (hlk : LikeC w nd u v false) (hz : kvm.length < 10) (h1 : valueAt kvm name = none) (h2 : valueAt kvd name = some u) (hnd : ∀ p ∈ nd, p ∈ pre ++ (ds ++ news) ∧ p.1 ≠ dm) :
    Con w 14 402 [.ref d, .str name tn, .int c t, .int c t', v] (pre ++ (ds ++ news)) (RetSN w pre ds news T d dd dm kvd kvm name u v c) := by
  obtain ⟨om, m1, m2⟩ := hS.om
  have hdmT : dm < T := by
    obtain ⟨dx, dp, dw, t1, t2, t3, t4, od, a1, b, c, e, f, g, i, j, k, x1, x2, x3, x4⟩ := hS.dt
    exact x4
  refine (c_dputN d dd dm kvd kvm u v name tn om c t t' hc hc2 nd hlk (pre ++ (ds ++ news)) (fun o => pre ++ (updL ds dm o ++ news)) (updF_pre (updF_app news hS.srt m1 (hS.low2 m1)) hpre) (hS.dt.dt.mono fun p hp => mem_pre hp) m2 hz h1 h2 hnd).mono ?_
  intro h₀ L m s Q hR x ex ls lv om' its t1 t2 t3 n1 n2 h' tk' hd hi F N e1 e2 e3 e4
  have e5 : ∀ p ∈ ds ++ news, p.1 < ex := fun p hp => e4 p (List.mem_append_right _ hp)
  refine hR x ex _ h' tk' (hS.putN (o1 := lstO [u, v, u] n2) (o2 := lstO its n1) (o3 := instObj 363 ex) (o4 := rmD w t1 t2 t3 u ls lv) hd e1 e2 e3 e5) ⟨t1, t2, t3, ls, lv, its, n1, n2, .tail _ (.tail _ (.head _)), .tail _ (.tail _ (.tail _ (.head _))), .tail _ (.head _), .head _, hi⟩ e4 e3 (fun a h3 h4 p hp => by
      obtain ⟨z, hz, rfl⟩ := h4
      have q0 := e4 z (List.mem_append_left _ hz)
      rcases List.mem_cons.mp hp with rfl | hp
      · exact Nat.ne_of_gt (Nat.lt_trans q0 (Nat.lt_trans e3 (Nat.lt_trans e2 e1)))
      rcases List.mem_cons.mp hp with rfl | hp
      · exact Nat.ne_of_gt (Nat.lt_trans q0 (Nat.lt_trans e3 e2))
      rcases List.mem_cons.mp hp with rfl | hp
      · exact Nat.ne_of_gt (Nat.lt_trans q0 e3)
      rcases List.mem_cons.mp hp with rfl | hp
      · exact Nat.ne_of_gt q0
      obtain ⟨q', hq', e⟩ := updL_addr hp
      rw [← e]; exact h3 q' hq') (fun p hp hne => .tail _ (.tail _ (.tail _ (.tail _ (updL_mem hp hne))))) (fun y ey dv ns vs y1 y2 hM => hM.upd hS.srt m1 (dict_cls m2) (Nat.ne_of_gt (Nat.lt_trans hdmT y2)) (Nat.ne_of_gt (Nat.lt_trans hdmT y1)) (fun p hp hne => .tail _ (.tail _ (.tail _ (.tail _ (updL_mem hp hne)))))) F (cb_drop N fun p hp => ?_)
  rcases List.mem_append.mp hp with hp | hp
  · exact .tail _ (.tail _ (.tail _ (.tail _ (List.mem_append_left _ hp))))
  rcases List.mem_append.mp hp with hp | hp
  · rcases List.mem_cons.mp hp with rfl | hp
    · exact .head _
    rcases List.mem_cons.mp hp with rfl | hp
    · exact .tail _ (.head _)
    rcases List.mem_cons.mp hp with rfl | hp
    · exact .tail _ (.tail _ (.head _))
    rcases List.mem_cons.mp hp with rfl | hp
    · exact .tail _ (.tail _ (.tail _ (.head _)))
    exact .tail _ (.tail _ (.tail _ (.tail _ (mem_pre hp))))
  · exact .tail _ (.tail _ (.tail _ (.tail _ (List.mem_append_right _ (List.mem_append_right _ hp)))))
noncomputable abbrev RetSO (w : World) (pre ds news : List (Addr × Obj)) (T d dd dm x ex : Addr) (kvd kvm : List (Str × Value)) (dv : Value) (ns : List Int) (vs : List Value) : RetT := fun h₀ L m _ s Q => ∀ (ds' : List (Addr × Obj)) (h' : Heap) (tk' : Nat), DS w news ds' T d dd dm kvd kvm → MapS w ds' x ex dv ns vs →
  (∀ a : Addr, (∀ q ∈ ds, q.1 ≠ a) → (∃ z ∈ pre, z.1 = a) → ∀ p ∈ ds', p.1 ≠ a) → (∀ y ey dv ns vs, y ≠ ex → ey ≠ ex → MapS w ds y ey dv ns vs → MapS w ds' y ey dv ns vs) → Fr h₀ L h' m → News h₀ L h' (pre ++ (ds' ++ news)) → Q .none { s with heap := h', toks := tk' }
theorem c_stepB (pre ds news : List (Addr × Obj)) (T d dd dm x ex : Addr) (kvd kvm : List (Str × Value)) (hS : DS w news ds T d dd dm kvd kvm) (dv u v y : Value) (hM : MapS w ds x ex dv [0, 768, 769] [u, v, u]) (hT : T < ex) (hex : ex < x) (hpre : ∀ q ∈ pre, q.1 ≠ ex) (name : Str) (tn : Tok) (t t' : Tok) (hlk0 : LikeC w [] u y false) (hlk1 : LikeC w [] v y true) (hv : valueAt kvm name = some (.ref x)) :
    Con w 14 402 [.ref d, .str name tn, .int 769 t, .int 769 t', y] (pre ++ (ds ++ news)) (RetSO w pre ds news T d dd dm x ex kvd kvm dv [0, 768, 770] [u, v, u]) := by
  obtain ⟨om, m1, m2⟩ := hS.om
  obtain ⟨t1, t2, t3, ls, lv, its, n1, n2, p1, p2, p3, p4, hi⟩ := hM
  have hi0 := hi
  cases hi with | cons _ u0 hi => cases hi with | cons _ u1 hi => cases hi with | cons _ u2 hi =>
  cases hi
  have hcl : (rmD w t1 t2 t3 dv ls lv).cls ≠ .type "list" := fun h => absurd (Value.type.inj h) (by decide)
  refine (c_dputB d dd dm x ex ls lv kvd kvm t1 t2 t3 dv u v y u0 u1 u2 n1 n2 name tn om t t' [] hlk0 hlk1 (pre ++ (ds ++ news)) (fun o => pre ++ (updL ds ex o ++ news)) (updF_pre (updF_app news hS.srt p2 (hS.low2 p2)) hpre) (hS.dt.dt.mono fun p hp => mem_pre hp) (mem_pre m1) m2 hv (mem_pre p1) (mem_pre p3) (mem_pre p4) (fun p hp => nomatch hp) (Nat.ne_of_gt hex) (lst_ne hS.srt p3 p2 hcl) (lst_ne hS.srt p4 p2 hcl)).mono ?_
  intro h₀ L m s Q hR ls2 lv2 its2 n3 n4 h' tk' hi2 F N e1 e4
  have e5 : ∀ p ∈ ds ++ news, p.1 < ls2 := fun p hp => e4 p (List.mem_append_right _ hp)
  refine hR _ h' tk' (hS.putO (o1 := lstO [u, v, u] n4) (o2 := lstO its2 n3) (o4 := rmD w t1 t2 t3 dv ls2 lv2) p2 hT e1 e5) ⟨t1, t2, t3, ls2, lv2, its2, n3, n4, .tail _ (.tail _ (updL_mem p1 (Nat.ne_of_gt hex))), .tail _ (.tail _ (updL_self p2)), .tail _ (.head _), .head _, hi2⟩ (fun a h3 h4 p hp => by
      obtain ⟨z, hz, rfl⟩ := h4
      have q0 := e4 z (List.mem_append_left _ hz)
      rcases List.mem_cons.mp hp with rfl | hp
      · exact Nat.ne_of_gt (Nat.lt_trans q0 e1)
      rcases List.mem_cons.mp hp with rfl | hp
      · exact Nat.ne_of_gt q0
      obtain ⟨q', hq', e⟩ := updL_addr hp
      rw [← e]; exact h3 q' hq') (fun y ey dv ns vs y1 y2 hM => hM.upd hS.srt p2 hcl y1 y2 (fun p hp hne => .tail _ (.tail _ (updL_mem hp hne)))) F (cb_drop N fun p hp => ?_)
  rcases List.mem_append.mp hp with hp | hp
  · exact .tail _ (.tail _ (List.mem_append_left _ hp))
  rcases List.mem_append.mp hp with hp | hp
  · rcases List.mem_cons.mp hp with rfl | hp
    · exact .head _
    rcases List.mem_cons.mp hp with rfl | hp
    · exact .tail _ (.head _)
    exact .tail _ (.tail _ (mem_pre hp))
  · exact .tail _ (.tail _ (List.mem_append_right _ (List.mem_append_right _ hp)))
theorem c_stepC (pre ds news : List (Addr × Obj)) (T d dd dm x ex : Addr) (kvd kvm : List (Str × Value)) (hS : DS w news ds T d dd dm kvd kvm) (dv u v y : Value) (hM : MapS w ds x ex dv [0, 768, 770] [u, v, u]) (hT : T < ex) (hex : ex < x) (hpre : ∀ q ∈ pre, q.1 ≠ ex) (name : Str) (tn : Tok) (t t' : Tok) (hlk0 : LikeC w [] u y false) (hv : valueAt kvm name = some (.ref x)) :
    Con w 14 402 [.ref d, .str name tn, .int 803 t, .int 803 t', y] (pre ++ (ds ++ news)) (RetSO w pre ds news T d dd dm x ex kvd kvm dv [0, 768, 770, 803, 804] [u, v, u, y, u]) := by
  obtain ⟨om, m1, m2⟩ := hS.om
  obtain ⟨t1, t2, t3, ls, lv, its, n1, n2, p1, p2, p3, p4, hi⟩ := hM
  have hi0 := hi
  cases hi with | cons _ u0 hi => cases hi with | cons _ u1 hi => cases hi with | cons _ u2 hi =>
  cases hi
  have hcl : (rmD w t1 t2 t3 dv ls lv).cls ≠ .type "list" := fun h => absurd (Value.type.inj h) (by decide)
  refine (c_dputC d dd dm x ex ls lv kvd kvm t1 t2 t3 dv u v y u0 u1 u2 n1 n2 name tn om t t' [] hlk0 (pre ++ (ds ++ news)) (fun o => pre ++ (updL ds ex o ++ news)) (updF_pre (updF_app news hS.srt p2 (hS.low2 p2)) hpre) (hS.dt.dt.mono fun p hp => mem_pre hp) (mem_pre m1) m2 hv (mem_pre p1) (mem_pre p3) (mem_pre p4) (fun p hp => nomatch hp) (Nat.ne_of_gt hex) (lst_ne hS.srt p3 p2 hcl) (lst_ne hS.srt p4 p2 hcl)).mono ?_
  intro h₀ L m s Q hR ls2 lv2 its2 n3 n4 h' tk' hi2 F N e1 e4
  have e5 : ∀ p ∈ ds ++ news, p.1 < ls2 := fun p hp => e4 p (List.mem_append_right _ hp)
  refine hR _ h' tk' (hS.putO (o1 := lstO [u, v, u, y, u] n4) (o2 := lstO its2 n3) (o4 := rmD w t1 t2 t3 dv ls2 lv2) p2 hT e1 e5) ⟨t1, t2, t3, ls2, lv2, its2, n3, n4, .tail _ (.tail _ (updL_mem p1 (Nat.ne_of_gt hex))), .tail _ (.tail _ (updL_self p2)), .tail _ (.head _), .head _, hi2⟩ (fun a h3 h4 p hp => by
      obtain ⟨z, hz, rfl⟩ := h4
      have q0 := e4 z (List.mem_append_left _ hz)
      rcases List.mem_cons.mp hp with rfl | hp
      · exact Nat.ne_of_gt (Nat.lt_trans q0 e1)
      rcases List.mem_cons.mp hp with rfl | hp
      · exact Nat.ne_of_gt q0
      obtain ⟨q', hq', e⟩ := updL_addr hp
      rw [← e]; exact h3 q' hq') (fun y ey dv ns vs y1 y2 hM => hM.upd hS.srt p2 hcl y1 y2 (fun p hp hne => .tail _ (.tail _ (updL_mem hp hne)))) F (cb_drop N fun p hp => ?_)
  rcases List.mem_append.mp hp with hp | hp
  · exact .tail _ (.tail _ (List.mem_append_left _ hp))
  rcases List.mem_append.mp hp with hp | hp
  · rcases List.mem_cons.mp hp with rfl | hp
    · exact .head _
    rcases List.mem_cons.mp hp with rfl | hp
    · exact .tail _ (.head _)
    exact .tail _ (.tail _ (mem_pre hp))
  · exact .tail _ (.tail _ (List.mem_append_right _ (List.mem_append_right _ hp)))
theorem st_1 (v : Value) : stored ([] : List (Str × Value)) (Str.ofString "ccc") v = [(Str.ofString "ccc", v)] := rfl
theorem st_2 (v u : Value) : stored [(Str.ofString "ccc", v)] (Str.ofString "gcb") u = [(Str.ofString "ccc", v), (Str.ofString "gcb", u)] := by
  have h : ¬ Str.ofString "ccc" = Str.ofString "gcb" := by decide +kernel
  simp [stored, h]
theorem st_3 (v u z : Value) : stored [(Str.ofString "ccc", v), (Str.ofString "gcb", u)] (Str.ofString "dm") z = [(Str.ofString "ccc", v), (Str.ofString "gcb", u), (Str.ofString "dm", z)] := by
  have h : ¬ Str.ofString "ccc" = Str.ofString "dm" := by decide +kernel
  have h2 : ¬ Str.ofString "gcb" = Str.ofString "dm" := by decide +kernel
  simp [stored, h, h2]
theorem va_2 (v : Value) : valueAt [(Str.ofString "ccc", v)] (Str.ofString "gcb") = none := by
  have h : ¬ Str.ofString "ccc" = Str.ofString "gcb" := by decide +kernel
  simp [valueAt, h]
theorem va_3 (v u : Value) : valueAt [(Str.ofString "ccc", v), (Str.ofString "gcb", u)] (Str.ofString "dm") = none := by
  have h : ¬ Str.ofString "ccc" = Str.ofString "dm" := by decide +kernel
  have h2 : ¬ Str.ofString "gcb" = Str.ofString "dm" := by decide +kernel
  simp [valueAt, h, h2]
theorem va_c (v u : Value) : valueAt [(Str.ofString "ccc", v), (Str.ofString "gcb", u)] (Str.ofString "ccc") = some v := by simp [valueAt]
theorem va_g (v u : Value) : valueAt [(Str.ofString "ccc", v), (Str.ofString "gcb", u)] (Str.ofString "gcb") = some u := by
  have h : ¬ Str.ofString "ccc" = Str.ofString "gcb" := by decide +kernel
  simp [valueAt, h]
theorem MapS.mx {l : List (Addr × Obj)} {x ex : Addr} {dv : Value} {ns : List Int} {vs : List Value} (h : MapS w l x ex dv ns vs) : (x, instObj 363 ex) ∈ l := let ⟨_, _, _, _, _, _, _, _, a, _, _, _, _⟩ := h; a
theorem MapS.me {l : List (Addr × Obj)} {x ex : Addr} {dv : Value} {ns : List Int} {vs : List Value} (h : MapS w l x ex dv ns vs) : ∃ o, (ex, o) ∈ l := let ⟨_, _, _, _, _, _, _, _, _, b, _, _, _⟩ := h; ⟨_, b⟩
theorem data_fin {news dsF : List (Addr × Obj)} {T d dd dm xc exc xg exg xm exm tp tq : Addr} {kvd : List (Str × Value)} {u5 u6 u7 c0 a1 a2 g0 b1 b2 : Tok} (hd4 : DdOk kvd) (hS : DS w news dsF T d dd dm kvd [(Str.ofString "ccc", .ref xc), (Str.ofString "gcb", .ref xg), (Str.ofString "dm", .ref xm)])
    (hC : MapS w dsF xc exc (.int 0 c0) [0, 768, 770, 803, 804] [.int 0 c0, .int 230 a1, .int 0 c0, .int 220 a2, .int 0 c0]) (hG : MapS w dsF xg exg (.str sO g0) [0, 768, 770, 803, 804] [.str sO g0, .str sE b1, .str sO g0, .str sE b2, .str sO g0])
    (hM : MapS w dsF xm exm .none [0, 224, 224 + 1] [.none, .ref tp, .none]) : DataIn w ((tp, tupO [.str (Str.ofString "") u5, .ref tq]) :: (tq, tupO [.int 97 u6, .int 768 u7]) :: dsF) d tp := by
  have hs : ∀ p ∈ dsF, p ∈ (tp, tupO [.str (Str.ofString "") u5, .ref tq]) :: (tq, tupO [.int 97 u6, .int 768 u7]) :: dsF := fun p hp => .tail _ (.tail _ hp)
  obtain ⟨dx, dp, dw, t1, t2, t3, t4, od, a, b, c, e, f, g, _⟩ := hS.dt
  obtain ⟨om, o1, o2⟩ := hS.om
  obtain ⟨t8, h8⟩ := hd4.incb
  exact ⟨⟨⟨dx, dd, dm, dp, dw, xc, xg, xm, tq, od, om, t1, t2, t3, t4, u5, u6, u7, t8, c0, a1, c0, a2, c0, g0, b1, g0, b2, g0, _, _, kvd⟩, ⟨hs _ a, hs _ b, hs _ c, e, f, hd4.ex, hd4.ep, h8, hs _ o1, o2, g, hC.rmap.mono hs, hG.rmap.mono hs, hM.rmap.mono hs, .head _, .tail _ (.head _)⟩⟩⟩
noncomputable abbrev RetLd (w : World) : RetT := fun h₀ L m news s Q => ∀ (d tp : Addr) (ds : List (Addr × Obj)) (h' : Heap) (tk' : Nat), DataIn w ds d tp → Fr h₀ L h' m → News h₀ L h' (ds ++ news) → (∀ p ∈ news, ∀ q ∈ ds, p.1 < q.1) → Q (.ref d) { s with heap := h', toks := tk' }
inductive LdJ (w : World) (news : List (Addr × Obj)) (T d dd dm : Addr) (kvd : List (Str × Value)) (a0 b0 : Tok) (vs3 : List Value) (i : Nat) (m : Fm) (n : Led) : Prop
  | mk (ds : List (Addr × Obj)) (q : Option Value) : ((∀ y, lk m y = lk [(Str.ofString "data", some (.ref d)), (Str.ofString "code", q)] y)) → (n = (T, tupO vs3) :: (ds ++ news)) → (DP w news T d dd dm kvd a0 b0 i ds) → LdJ w news T d dd dm kvd a0 b0 vs3 i m n
theorem LdJ.ex {w : World} {news : List (Addr × Obj)} {T d dd dm : Addr} {kvd : List (Str × Value)} {a0 b0 : Tok} {vs3 : List Value} {i : Nat} {m : Fm} {n : Led} (h : LdJ w news T d dd dm kvd a0 b0 vs3 i m n) : LdJ w news T d dd dm kvd a0 b0 vs3 i m n := h
theorem c_ldata (news : List (Addr × Obj)) : Con w 24 465 [] news (RetLd w) := by
  refine Con.enter [] (by k_is) (by k_is) rfl rfl rfl rfl rfl rfl fun c2 hret => ?_
  walk_at "hgo"
  refine Ca.con (c_data0 news) rfl fun _ _ _ hQ d dx dd dm dp' dw t1 t2 t3 t4 od om o1 o2 kvd h8 tk8 hd1 hd2 hd3 hd4 hd5 hd6 F' N' e1 e2 e3 e4 e5 l1 => hQ _ _ _ _ F' N' ?_
  walk_at "hgo"
  rename_i T lT
  have ll : dw < T := lT _ (.head _)
  obtain ⟨vs3, hv3, e3'⟩ : ∃ (vs : List Value), IntsAre vs [768, 769, 803] ∧ vs = [.int 768 _, .int 769 _, .int 803 _] := ⟨_, .cons _ _ (.cons _ _ (.cons _ _ .nil)), rfl⟩
  rw [← e3']
  clear e3'
  obtain ⟨c0, hc0⟩ := hd4.ccc
  obtain ⟨g0, hg0⟩ := hd4.gcb
  have hlv := hv3.length
  refine ForP.mk' (vs := vs3) (o := tupO vs3) (LdJ w news T d dd dm kvd c0 g0 vs3) .tu (fun i m1 n1 hJ => ?_) ?_ (fun I it i v m1 n1 hv hJ hI => ?_) (fun m1 n1 u9 hJ => ?_)
  · obtain ⟨ds, q, hm, rfl, hP⟩ := hJ.ex
    exact .head _
  · have q1 := Nat.lt_trans e5 e4
    have q2 := Nat.lt_trans q1 e3
    have q3 := Nat.lt_trans q2 e2
    have q4 := Nat.lt_trans q3 e1
    refine ⟨(dw, o2) :: (dp', o1) :: (dm, om) :: (dd, od) :: (d, instObj 419 dx) :: (dx, dtD w t1 t2 t3 t4 dd dm (.ref dp') (.ref dw)) :: [], none, fun y => lk_padF y [Str.ofString "code"] _, rfl, .inl ⟨rfl, ⟨?_, ?_, ⟨dx, dp', dw, t1, t2, t3, t4, od, .tail _ (.tail _ (.tail _ (.tail _ (.head _)))), .tail _ (.tail _ (.tail _ (.tail _ (.tail _ (.head _))))), .tail _ (.tail _ (.tail _ (.head _))), hd1, hd3, hd6, Nat.ne_of_lt (Nat.lt_trans e4 e3), Nat.ne_of_lt q2, Nat.ne_of_lt e3, Nat.lt_trans e4 (Nat.lt_trans e3 (Nat.lt_trans e2 (Nat.lt_trans e1 ll))), Nat.lt_trans q4 ll, Nat.lt_trans e3 (Nat.lt_trans e2 (Nat.lt_trans e1 ll)), Nat.lt_trans e2 (Nat.lt_trans e1 ll)⟩, om, .tail _ (.tail _ (.head _)), hd5⟩⟩⟩
    · simp only [SrtL, List.pairwise_cons, List.mem_cons, List.not_mem_nil, or_false, forall_eq_or_imp, forall_eq, List.Pairwise.nil, and_true, false_implies, implies_true]
      exact ⟨⟨e1, Nat.lt_trans e2 e1, Nat.lt_trans e3 (Nat.lt_trans e2 e1), Nat.lt_trans e4 (Nat.lt_trans e3 (Nat.lt_trans e2 e1)), q4⟩, ⟨e2, Nat.lt_trans e3 e2, Nat.lt_trans e4 (Nat.lt_trans e3 e2), q3⟩, ⟨e3, Nat.lt_trans e4 e3, q2⟩, ⟨e4, q1⟩, e5⟩
    · intro p hp q hq
      have l0 := l1 p hp
      simp only [List.mem_cons, List.not_mem_nil, or_false] at hq
      rcases hq with rfl | rfl | rfl | rfl | rfl | rfl
      · exact Nat.lt_trans l0 q4
      · exact Nat.lt_trans l0 q3
      · exact Nat.lt_trans l0 q2
      · exact Nat.lt_trans l0 q1
      · exact Nat.lt_trans l0 e5
      · exact l0
  · obtain ⟨ds, q, hm, rfl, hP⟩ := hJ.ex
    obtain ⟨c, t0, hc, rfl⟩ := ints_at hv3 hv
    have hIT : T ≠ I := hI _ (.head _)
    have hId : ∀ q ∈ ds, q.1 ≠ I := fun q hq => hI q (.tail _ (List.mem_append_left _ hq))
    have hIn : ∀ q ∈ news, q.1 ≠ I := fun q hq => hI q (.tail _ (List.mem_append_right _ hq))
    have hz9 : ∃ z ∈ [(I, it), (T, tupO vs3)], z.1 = I := ⟨_, .head _, rfl⟩
    have hpm : ∀ {ds' : List (Addr × Obj)} {km : List (Str × Value)}, DS w news ds' T d dd dm kvd km → (∀ q ∈ ds', q.1 ≠ I) → ∀ q ∈ [(I, it), (T, tupO vs3)], q.1 ≠ dm := fun hS9 hI9 q hq => by
      obtain ⟨om9, n1, n2⟩ := hS9.om
      obtain ⟨_, _, _, _, _, _, _, _, _, _, _, _, _, _, _, _, _, _, _, _, x4⟩ := hS9.dt
      rcases List.mem_cons.mp hq with rfl | hq
      · exact (hI9 _ n1).symm
      · rw [List.mem_singleton.mp hq]; exact Nat.ne_of_gt x4
    have hpe : ∀ {ds' : List (Addr × Obj)} {e : Addr}, (∃ o, (e, o) ∈ ds') → T < e → (∀ q ∈ ds', q.1 ≠ I) → ∀ q ∈ [(I, it), (T, tupO vs3)], q.1 ≠ e := fun he hT hI9 q hq => by
      obtain ⟨o9, n1⟩ := he
      rcases List.mem_cons.mp hq with rfl | hq
      · exact (hI9 _ n1).symm
      · rw [List.mem_singleton.mp hq]; exact Nat.ne_of_lt hT
    refine St.frE (lk_set hm rfl) (St.genK fun KK hKK => ?_)
    clear hm
    rcases hP with ⟨rfl, hS⟩ | ⟨rfl, a1, b1, hS⟩ | ⟨rfl, a1, b1, hS⟩ | ⟨rfl, a1, b1, a2, b2, hS⟩
    · obtain rfl : c = 768 := by simpa using hc.symm
      have hdt9 := hS.dt.dt
      walk_at "hgo"
      refine Ca.con (c_stepN [(I, it), (T, tupO vs3)] ds news T d dd dm kvd [] hS (hpm hS hId) (.int 0 c0) (.int 230 _) (Str.ofString "ccc") _ 768 _ _ (by decide) (by decide) [] (like_ii 0 230 _ _ false rfl) (by decide) rfl hc0 (fun p hp => nomatch hp)) rfl fun _ _ _ hQ xc exc ds1 h1 tk1 hS1 hM1 ho1 hx1 hi1 hsub1 hmp1 F1 N1 => hQ _ ((I, it) :: (T, tupO vs3) :: (ds1 ++ news)) _ _ F1 N1 ?_
      clear hdt9
      rw [st_1] at hS1
      have hId1 := hi1 I hId hz9
      have hdt9 := hS1.dt.dt
      walk_at "hgo"
      refine Ca.con (c_stepN [(I, it), (T, tupO vs3)] ds1 news T d dd dm kvd _ hS1 (hpm hS1 hId1) (.str sO g0) (.str sE _) (Str.ofString "gcb") _ 768 _ _ (by decide) (by decide) [] (like_ss sO sE _ _ false (by decide +kernel)) (by rw [List.length_singleton]; decide) (va_2 _) hg0 (fun p hp => nomatch hp)) rfl fun _ _ _ hQ xg exg ds2 h2 tk2 hS2 hM2 ho2 hx2 hi2 hsub2 hmp2 F2 N2 => hQ _ ((I, it) :: (T, tupO vs3) :: (ds2 ++ news)) _ _ F2 N2 ?_
      clear hdt9
      rw [st_2] at hS2
      have hId2 := hi2 I hId1 hz9
      have hT1 : T < exc := ho1 _ (.tail _ (.head _))
      have hx3 : xc < exg := ho2 _ (mem_pre hM1.mx)
      walk_at "hgo"
      refine hKK _ _ _ ?_
      exact Kf.mk' (n' := (T, tupO vs3) :: (ds2 ++ news)) ⟨_, _, fun _ => rfl, rfl, (.inr (.inl ⟨rfl, _, _, ⟨xc, exc, xg, exg, hS2, hT1, hx1, hx3, hx2, hmp2 _ _ _ _ _ hT1 (Nat.lt_trans hT1 hx1) hM1, hM2⟩⟩))⟩ (sub_t sub_r) (.head _) (List.forall_mem_cons.mpr ⟨hIT, fun p hp => (List.mem_append.mp hp).elim (hId2 p) (hIn p)⟩)
    · obtain rfl : c = 769 := by simpa using hc.symm
      obtain ⟨xc, exc, xg, exg, hS, q1, q2, q3, q4, hMc, hMg⟩ := hS.ex
      have q5 : T < exg := Nat.lt_trans q1 (Nat.lt_trans q2 q3)
      have hdt9 := hS.dt.dt
      walk_at "hgo"
      refine Ca.con (c_stepB [(I, it), (T, tupO vs3)] ds news T d dd dm xc exc kvd _ hS (.int 0 c0) (.int 0 c0) (.int 230 a1) (.int 230 _) hMc q1 q2 (hpe hMc.me q1 hId) (Str.ofString "ccc") _ _ _ (like_ii 0 230 _ _ false rfl) (like_ii 230 230 _ _ true rfl) (va_c _ _)) rfl fun _ _ _ hQ ds1 h1 tk1 hS1 hM1 hi1 hmp1 F1 N1 => hQ _ ((I, it) :: (T, tupO vs3) :: (ds1 ++ news)) _ _ F1 N1 ?_
      clear hdt9
      have hId1 := hi1 I hId hz9
      have hMg1 := hmp1 xg exg _ _ _ (Nat.ne_of_gt (Nat.lt_trans q2 (Nat.lt_trans q3 q4))) (Nat.ne_of_gt (Nat.lt_trans q2 q3)) hMg
      have hdt9 := hS1.dt.dt
      walk_at "hgo"
      refine Ca.con (c_stepB [(I, it), (T, tupO vs3)] ds1 news T d dd dm xg exg kvd _ hS1 (.str sO g0) (.str sO g0) (.str sE b1) (.str sE _) hMg1 q5 q4 (hpe hMg1.me q5 hId1) (Str.ofString "gcb") _ _ _ (like_ss sO sE _ _ false (by decide +kernel)) (like_ss sE sE _ _ true (by decide +kernel)) (va_g _ _)) rfl fun _ _ _ hQ ds2 h2 tk2 hS2 hM2 hi2 hmp2 F2 N2 => hQ _ ((I, it) :: (T, tupO vs3) :: (ds2 ++ news)) _ _ F2 N2 ?_
      clear hdt9
      have hId2 := hi2 I hId1 hz9
      have hMc2 := hmp2 xc exc _ _ _ (Nat.ne_of_lt q3) (Nat.ne_of_lt (Nat.lt_trans q2 q3)) hM1
      walk_at "hgo"
      refine hKK _ _ _ ?_
      exact Kf.mk' (n' := (T, tupO vs3) :: (ds2 ++ news)) ⟨_, _, fun _ => rfl, rfl, (.inr (.inr (.inl ⟨rfl, _, _, ⟨xc, exc, xg, exg, hS2, q1, q2, q3, q4, hMc2, hM2⟩⟩)))⟩ (sub_t sub_r) (.head _) (List.forall_mem_cons.mpr ⟨hIT, fun p hp => (List.mem_append.mp hp).elim (hId2 p) (hIn p)⟩)
    · obtain rfl : c = 803 := by simpa using hc.symm
      obtain ⟨xc, exc, xg, exg, hS, q1, q2, q3, q4, hMc, hMg⟩ := hS.ex
      have q5 : T < exg := Nat.lt_trans q1 (Nat.lt_trans q2 q3)
      have hdt9 := hS.dt.dt
      walk_at "hgo"
      refine Ca.con (c_stepC [(I, it), (T, tupO vs3)] ds news T d dd dm xc exc kvd _ hS (.int 0 c0) (.int 0 c0) (.int 230 a1) (.int 220 _) hMc q1 q2 (hpe hMc.me q1 hId) (Str.ofString "ccc") _ _ _ (like_ii 0 220 _ _ false rfl) (va_c _ _)) rfl fun _ _ _ hQ ds1 h1 tk1 hS1 hM1 hi1 hmp1 F1 N1 => hQ _ ((I, it) :: (T, tupO vs3) :: (ds1 ++ news)) _ _ F1 N1 ?_
      clear hdt9
      have hId1 := hi1 I hId hz9
      have hMg1 := hmp1 xg exg _ _ _ (Nat.ne_of_gt (Nat.lt_trans q2 (Nat.lt_trans q3 q4))) (Nat.ne_of_gt (Nat.lt_trans q2 q3)) hMg
      have hdt9 := hS1.dt.dt
      walk_at "hgo"
      refine Ca.con (c_stepC [(I, it), (T, tupO vs3)] ds1 news T d dd dm xg exg kvd _ hS1 (.str sO g0) (.str sO g0) (.str sE b1) (.str sE _) hMg1 q5 q4 (hpe hMg1.me q5 hId1) (Str.ofString "gcb") _ _ _ (like_ss sO sE _ _ false (by decide +kernel)) (va_g _ _)) rfl fun _ _ _ hQ ds2 h2 tk2 hS2 hM2 hi2 hmp2 F2 N2 => hQ _ ((I, it) :: (T, tupO vs3) :: (ds2 ++ news)) _ _ F2 N2 ?_
      clear hdt9
      have hId2 := hi2 I hId1 hz9
      have hMc2 := hmp2 xc exc _ _ _ (Nat.ne_of_lt q3) (Nat.ne_of_lt (Nat.lt_trans q2 q3)) hM1
      walk_at "hgo"
      refine hKK _ _ _ ?_
      exact Kf.mk' (n' := (T, tupO vs3) :: (ds2 ++ news)) ⟨_, _, fun _ => rfl, rfl, (.inr (.inr (.inr ⟨rfl, _, _, _, _, ⟨xc, exc, xg, exg, hS2, q1, q2, q3, q4, hMc2, hM2⟩⟩)))⟩ (sub_t sub_r) (.head _) (List.forall_mem_cons.mpr ⟨hIT, fun p hp => (List.mem_append.mp hp).elim (hId2 p) (hIn p)⟩)
    · simp at hc
  · obtain ⟨ds, q, hm, rfl, hP⟩ := hJ.ex
    rw [hlv] at hP
    rcases hP with ⟨h3, _⟩ | ⟨h3, _⟩ | ⟨h3, _⟩ | ⟨_, a1, b1, a2, b2, hS⟩
    · simp at h3
    · simp at h3
    · simp at h3
    obtain ⟨xc, exc, xg, exg, hS, q1, q2, q3, q4, hMc, hMg⟩ := hS.ex
    have hdt9 := hS.dt.dt
    refine St.frE (lk_set hm rfl) ?_
    clear hm
    walk_at "hgo"
    rename (∀ p ∈ (T, tupO vs3) :: (ds ++ news), p.1 < _) => lq
    rename (∀ p ∈ (_, tupO [Value.int 97 _, _]) :: _, p.1 < _) => lp
    have hdT : dm < T := by
      obtain ⟨_, _, _, _, _, _, _, _, _, _, _, _, _, _, _, _, _, _, _, _, hdT⟩ := hS.dt
      exact hdT
    have hTq := lq _ (.head _)
    have hTp := lp _ (.tail _ (.head _))
    have lq9 : ∀ p ∈ news, p.1 < _ := fun p hp => lq p (.tail _ (List.mem_append_right _ hp))
    have lp9 : ∀ p ∈ news, p.1 < _ := fun p hp => lp p (.tail _ (.tail _ (List.mem_append_right _ hp)))
    refine Ca.con (c_stepN [(_, tupO [.str (Str.ofString "") _, .ref _]), (_, tupO [.int 97 _, .int 768 _]), (T, tupO vs3)] ds news T d dd dm kvd _ hS (List.forall_mem_cons.mpr ⟨Nat.ne_of_gt (Nat.lt_trans hdT hTp), List.forall_mem_cons.mpr ⟨Nat.ne_of_gt (Nat.lt_trans hdT hTq), List.forall_mem_cons.mpr ⟨Nat.ne_of_gt hdT, fun _ hp => nomatch hp⟩⟩⟩) .none (.ref _) (Str.ofString "dm") _ 224 _ _ (by decide) (by decide) [(_, tupO [.str (Str.ofString "") _, .ref _]), (_, tupO [.int 97 _, .int 768 _])] (fun news hs => c_like_nt _ news ⟨_, _, _, _, hs _ (.head _), hs _ (.tail _ (.head _))⟩) (Nat.le_of_ble_eq_true rfl) (va_3 _ _) hd4.dm (List.forall_mem_cons.mpr ⟨⟨.head _, Nat.ne_of_gt (Nat.lt_trans hdT hTp)⟩, List.forall_mem_cons.mpr ⟨⟨.tail _ (.head _), Nat.ne_of_gt (Nat.lt_trans hdT hTq)⟩, fun _ hp => nomatch hp⟩⟩)) rfl fun _ _ _ hQ xm exm dsF hF tkF hSF hMF hoF hxF hiF hsubF hmpF FF NF => hQ _ ((_, tupO [.str (Str.ofString "") _, .ref _]) :: (_, tupO [.int 97 _, .int 768 _]) :: (T, tupO vs3) :: (dsF ++ news)) _ _ FF NF ?_
    clear hdt9
    rw [st_3] at hSF
    walk_at "hgo"
    exact fun h' tk' F9 N9 => hret d _ _ _ _ (data_fin hd4 hSF (hmpF _ _ _ _ _ q1 (Nat.lt_trans q1 q2) hMc) (hmpF _ _ _ _ _ (Nat.lt_trans q1 (Nat.lt_trans q2 q3)) (Nat.lt_trans q1 (Nat.lt_trans q2 (Nat.lt_trans q3 q4))) hMg) hMF) F9 (cb_drop N9 (by
      intro p hp
      rcases List.mem_cons.mp hp with rfl | hp
      · exact .head _
      rcases List.mem_cons.mp hp with rfl | hp
      · exact .tail _ (.head _)
      exact .tail _ (.tail _ (.tail _ hp)))) (fun p hp q hq => by
      rcases List.mem_cons.mp hq with rfl | hq
      · exact lp9 p hp
      rcases List.mem_cons.mp hq with rfl | hq
      · exact lq9 p hp
      exact hSF.low p hp q hq)
/-- the way into a body whose one parameter is a cell -/
theorem Con.enterA1 {D : Nat} {f : Addr} {news : Led} {R : RetT} {name qual : Str} {params : Arguments} {body : List Stmt} {scope : Scope} {dV kV doc pm cdv ct oc : Value} {an od : Option Addr} {osl : Array (Option Value)} (x : Str) (v : Value)
    (ho : List.lookup f (hd.heap_1 w.params) = some { cls := oc, dict := od, data := Data.func (fnOf name qual params body scope dV kV doc pm an cdv ct), slots := osl })
    (hcd : codeIn (hd.heap_1 w.params) cdv qual = true)
    (hb : ∀ s : Shared, (hd.heap_1 w.params).In s.heap → BindsTo s (fnOf name qual params body scope dV kV doc pm an cdv ct) { pos := [v] } [(x, v)])
    (hl : scope.names.lookup x = some .cell)
    (hx : ∀ L, cellsFrom L scope.names [] = [(x, L)])
    (hco : scope.isCoroutine = false) (hgen : scope.isGenerator = false) (hk : scope.kind = .function)
    (h : ∀ (c : Cx w D { name := qual, scope := scope, addr := f, code := cdv, cells := fun L => [(x, L + 1)] }) (o : Obj), o.data = .cell (some v) → (∀ p ∈ news, p.1 < c.L + 1) → R c.k.h c.k.L c.k.m news c.k.s c.k.Q → St c [] ((c.L + 1, o) :: news) body c.fin) : Con w (D + 1) f [v] news R := by
  intro p loose mean mg mb dp un gd cn cs a ccd cl outer A₀ base h₀ L m s Q E B F X N T hkk hd hu hret
  refine wpAny_call ?_
  refine code_defC B F X N T rfl rfl hkk ho hcd (show dp < recursionLimit by omega) (hb _ (X.keeps F.keep)) (by simp only [List.all_cons, hl]; rfl) (by rw [hx]; exact List.nodup_cons.mpr ⟨List.not_mem_nil, List.nodup_nil⟩) ?_ hco hgen hk
  have h' : ∀ (c : Cx w D { name := qual, scope := scope, addr := f, code := cdv, cells := fun L => cellsFrom (L + 1) scope.names [] }) (o : Obj), o.data = .cell (some v) → (∀ p ∈ news, p.1 < c.L + 1) → R c.k.h c.k.L c.k.m news c.k.s c.k.Q → St c [] ((c.L + 1, o) :: news) body c.fin := by
    rw [show (fun L => cellsFrom (L + 1) scope.names []) = fun L => [(x, L + 1)] from funext fun L => hx (L + 1)]
    exact h
  intro g L' h₁ tk cells FG F' N' Y B' X' T' lL
  rw [hx] at Y
  have hn : ¬ (some NameKind.cell = some NameKind.local) := by decide
  have hl' : (envOfC qual scope L' f cdv).kindOf x = some .cell := hl
  simp only [bindL, bindC, hl', if_neg hn] at F' Y
  obtain ⟨o, rfl, ho⟩ := Y.one
  rw [if_pos rfl] at ho
  refine (h' { k := ⟨h₀, L, m, s, Q⟩, p := p, loose := loose, mean := mean, mg := mg, mb := mb, g := g, L := L', dp := dp + 1, un := un + 3, gd := gd, outer := _, A0 := _, base := base, E := _, B := B', X := X', T := T', hk := hk, hd := by omega, hu := by omega, po := PassesOwn.leaving } o ho (fun p hp => Nat.lt_succ_of_lt (lL p hp)) hret).run h₁ _ _ ⟨F', N'⟩ ?_
  intro f m' nw' h' tk' I hK
  refine leaveK_ I.F I.N ?_
  intro F2 N2
  exact hK h' tk' F2 N2
noncomputable abbrev RetRg (tp : Addr) : RetT := fun h₀ L m news s Q => ∀ (D T1 : Addr) (t2 t3 : Tok) (n : Nat) (h' : Heap) (tk' : Nat), Fr h₀ L h' m →
  News h₀ L h' ((D, lstO [.ref T1] n) :: (T1, tupO [.int 224 t2, .int 224 t3, .ref tp]) :: news) → (∀ p ∈ news, p.1 ≠ D) → T1 ≠ D → (∀ p ∈ news, p.1 ≠ T1) → Q (.ref D) { s with heap := h', toks := tk' }
structure RngJ (led : Led) (v : Value) (j : Nat) (ys : List Value) (n : Led) : Prop where
  e : n = led
  f : ys = if j ≤ 1 then [] else [v]
theorem c_ranges (x tp : Addr) (news : List (Addr × Obj)) (hw : RMap w news x .none [0, 224, 225] [.none, .ref tp, .none]) (htp : TpIn news tp) :
    Con w 6 353 [.ref x] news (RetRg tp) := by
  obtain ⟨⟨rx, ls, lv, u1, u2, u3, its, n1, n2⟩, ra, rb, rc, rd, ri⟩ := hw.ex
  dsimp only at ra rb rc rd ri
  refine Con.enterA1 (Str.ofString "self") (.ref x) (by k_is) (by k_is) (fun _ X => BindsTo.of_eq rfl) rfl (fun _ => rfl) rfl rfl rfl fun c oc hoc lL hret => ?_
  walk_at "hgo"
  rename_i a9 T0 T1 T2 t0 t1 t2 t3 t4 t5 n9 e1 e2 e3 l1
  refine LcT.mk' (vs := [.ref T0, .ref T1, .ref T2]) (k := n9) (RngJ _ (.ref T1)) (fun j ys n hJ => by rw [hJ.1]; exact .head _) (Nat.le_of_ble_eq_true rfl) ⟨rfl, rfl⟩ ⟨fun j ys nw v I oI C oC D m2 hj hJ hv2 hC h1 off ne => ?_⟩ fun ys n hJ D hD => ?_
  · obtain ⟨rfl, hy⟩ := hJ
    have htp2 := htp.mono (sub_t (sub_t (sub_t (sub_t (sub_t (sub_t (sub_t (sub_t (sub_r (l := news))))))))) : ∀ p ∈ news, p ∈ (I, oI) :: (C, oC) :: (D, lstO ys ys.length) :: (a9, lstO [.ref T0, .ref T1, .ref T2] n9) :: (T2, tupO [.int 225 t4, .int 1114111 t5, .none]) :: (T1, tupO [.int 224 t2, .int 224 t3, .ref tp]) :: (T0, tupO [.int 0 t0, .int 223 t1, .none]) :: (c.L + 1, oc) :: news)
    match j, hj, hv2 with
    | 0, _, hv2 =>
      cases hv2
      walk_at "hgo"
      refine Ca.V (c_like_nn _) rfl fun _ => ?_
      walk_at "hgo"
      exact Ce.mk' _ sub_r off ⟨rfl, hy⟩
    | 1, _, hv2 =>
      cases hv2
      walk_at "hgo"
      refine Ca.V (c_like_tn tp _ htp2) rfl fun _ => ?_
      walk_at "hgo"
      exact Ce.mk' _ sub_r off ⟨rfl, by rw [hy]; rfl⟩
    | 2, _, hv2 =>
      cases hv2
      walk_at "hgo"
      refine Ca.V (c_like_nn _) rfl fun _ => ?_
      walk_at "hgo"
      exact Ce.mk' _ sub_r off ⟨rfl, hy⟩
  · obtain ⟨rfl, rfl⟩ := hJ
    walk_at "hgo"
    exact fun h' tk' F N => hret D T1 t2 t3 1 h' tk' F (cb_drop N (by walk_at "hsub")) (fun p hp => hD p (.tail _ (.tail _ (.tail _ (.tail _ (.tail _ hp)))))) (hD _ (.tail _ (.tail _ (.head _)))) fun p hp => Nat.ne_of_lt (Nat.lt_trans (l1 p (.tail _ hp)) (Nat.lt_trans e1 e2))
theorem c_isprim (t : Tok) (tq d tp : Addr) (t6 t7 : Tok) (news : List (Addr × Obj)) (hD : DataIn w news d tp) (hq : (tq, tupO [.int 97 t6, .int 768 t7]) ∈ news) : Con w 7 144 [.int 224 t, .ref tq, .ref d] news (RetV fun _ => .bool true) := by
  obtain ⟨dx, u1, u2, u3, u4, v1, v2, v3, v4, o1, o2⟩ := hD.ob
  refine Con.enter [(Str.ofString "data", .ref d), (Str.ofString "parts", .ref tq), (Str.ofString "code", .int 224 t)] (by k_is) (by k_is) rfl rfl rfl rfl rfl rfl fun c hret => ?_
  walk_at "hgo"
  all_goals trace_state
  all_goals first
    | exact fin_V hret t rfl (by walk_at "hsub")
    | (exfalso; rename isHS 224 = true => hz; revert hz; decide)
theorem Ca.isprim {D : Nat} {i : Fn} {c : Cx w D i} {m : Fm} {nw : Led} {t t6 t7 : Tok} {tq d tp : Addr} {K : Value → Led → Prop} (hd : Nat.ble 7 D = true) (hD : DataIn w nw d tp) (hq : (tq, tupO [.int 97 t6, .int 768 t7]) ∈ nw) (hK : ∀ _ : Tok, K (.bool true) nw) : Ca c m nw (.ref 144) [.int 224 t, .ref tq, .ref d] K :=
  Ca.V (c_isprim t tq d tp t6 t7 nw hD hq) hd hK
theorem kw39 : True := by
  (k_with "m:hca" => ((with_reducible apply Ca.isprim); exact rfl; (first | (with_reducible assumption) | exact DataIn.mono (by assumption) (by walk_at "hsub")); walk_at "hmem"))
  trivial
/-- the table of pairs, as one object -/
structure PdObj (w : World) (o : Obj) (pd tq : Addr) : Prop where
  lo : (pd == sysModules) = false
  ex : o.ExactDict
  at_ : ∃ (es : Array DictEntry) (ep : Nat) (hh : Int) (t : Tok), o.data = .dict es ep ∧ es.toList = [⟨hh, .ref tq, .int 224 t⟩]
  tab : ∀ (news : List (Addr × Obj)) (t6 t7 : Tok), (pd, o) ∈ news → (tq, tupO [.int 97 t6, .int 768 t7]) ∈ news → TupTab (intKind PySem.Challenge.pw_nt0050_01 w) PyData.int news pd pairD
theorem set_pd {A : Around} {E : Value → Shared → Prop} {s : Shared} {h₀ : Heap} {L d a : Addr} {m : Str → Option Value} {news : List (Addr × Obj)} {g : Obj → List (Addr × Obj)} {o : Obj} {c : Int} {t t6 t7 : Tok} {Q : Unit → Shared → Prop}
    (hc0 : c = 224) (hu : A.units + 1 < cLine) (F : Fr h₀ L s.heap m) (N : News h₀ L s.heap news) (U : UpdF d o news g) (lo : (d == sysModules) = false) (hd : o.IsDictOf (intKind PySem.Challenge.pw_nt0050_01 w) []) (hka : (a, tupO [.int 97 t6, .int 768 t7]) ∈ news)
    (h : ∀ h' o', Fr h₀ L h' m → News h₀ L h' (g o') → PdObj w o' d a → Q () { s with heap := h', toks := s.toks + 3 }) :
    wpAny (model PySem.Challenge.pw_nt0050_01 w) A (setItem (.ref d) (.ref a) (.int c t)) Q E s := by
  subst hc0
  obtain ⟨es, ep, hc, hdat, _, hp, _⟩ := hd
  have he : es.toList = [] := List.length_eq_zero_iff.mp hp.length
  have tk : ∀ u6 u7, TupKeyObj (intKind PySem.Challenge.pw_nt0050_01 w) [(97 : Int), 768] (tupO [.int 97 u6, .int 768 u7]) := fun u6 u7 => TupKeyObj.made (by tuptab_items_int)
  obtain ⟨pre, post, rfl, hg, h1, h2⟩ := U.split
  have hm : (d, o) ∈ pre ++ (d, o) :: post := List.mem_append_right _ (.head _)
  have hD : s.heap.DictOfH (tupleKind (intKind PySem.Challenge.pw_nt0050_01 w)) d [] := ⟨o, es, ep, (N _ hm).1, hc, hdat, he, (fun _ hx => nomatch hx), List.nodup_nil⟩
  refine wpAny_setItem_heap (hsz := Nat.zero_le _) (knd := tupleKind (intKind PySem.Challenge.pw_nt0050_01 w)) (k := [97, 768]) (tupleKind_room_in1 hu) ((tk _ _).key (N.get hka)) hD fun h' hm' hs => ?_
  obtain ⟨o', es', ep', ho', hc', hd', he', _, hn'⟩ := hm'
  refine h h' o' (F.change hs (N _ hm).2.1 (N.fresh hm)) (hg o' ▸ news_set N h1 h2 hs ho') ⟨lo, hc', ⟨es', ep', _, t, hd', he'⟩, fun nw u6 u7 m1 m2 => ?_⟩
  refine ⟨lo, o', es', ep', [([97, 768], a, .int 224 t)], m1, hc', hd', he', hn', fun x hx => ?_, ?_⟩
  · rw [List.mem_singleton.mp hx]
    exact ⟨_, m2, tk _ _⟩
  · exact .cons (.int _ _) .nil
noncomputable abbrev RetPc (w : World) (tq : Addr) : RetT := fun h₀ L m news s Q => ∀ (pd : Addr) (o : Obj) (h' : Heap) (tk' : Nat), PdObj w o pd tq → Fr h₀ L h' m → News h₀ L h' ((pd, o) :: news) → (∀ p ∈ news, p.1 < pd) → Q (.ref pd) { s with heap := h', toks := tk' }
section
variable {D : Nat} {i : Fn} {c : Cx w D i} {m : Fm} {nw : Led}
theorem Gm.rmap {x f : Addr} {y : Str} {dv : Value} {ns : List Int} {vs : List Value} {K : Value → List Value → Led → Prop} (h : RMap w nw x dv ns vs) (hf : mtab.lookup (363, y) = some f) (hx : [Str.ofString "get", Str.ofString "put", Str.ofString "ranges"].contains y = true) (hK : K (.ref f) [.ref x] nw) : Gm c m nw (.ref x) y K := by
  obtain ⟨r, R⟩ := h.ex
  refine Gm.own R.a R.b hf ?_ hK
  have := List.contains_iff_mem.mp hx
  simp only [List.mem_cons, List.not_mem_nil, or_false] at this
  rcases this with rfl | rfl | rfl <;> rfl
theorem Ca.ranges {x tp : Addr} {K : Value → Led → Prop} (hd : Nat.ble 6 D = true) (hw : RMap w nw x .none [0, 224, 225] [.none, .ref tp, .none]) (htp : TpIn nw tp) (hK : ∀ (a T1 : Addr) (t2 t3 : Tok) (n : Nat), (∀ p ∈ nw, p.1 ≠ a) → T1 ≠ a → (∀ p ∈ nw, p.1 ≠ T1) → K (.ref a) ((a, lstO [.ref T1] n) :: (T1, tupO [.int 224 t2, .int 224 t3, .ref tp]) :: nw)) : Ca c m nw (.ref 353) [.ref x] K :=
  Ca.con (c_ranges x tp nw hw htp) hd fun _ _ _ hQ a T1 t2 t3 n h' tk' F N e1 e2 e3 => hQ _ _ _ _ F N (hK a T1 t2 t3 n e1 e2 e3)
theorem Co.nInT {d a : Addr} {x y : Int} {t u : Tok} {T : List (PyData × PyData)} {b : Bool} {K : Bool → Led → Prop} (h : TupTab (iK w) PyData.int nw d T) (ha : (a, tupO [.int x t, .int y u]) ∈ nw) (hb : (PySem.Spec.lookup (encTuple PyData.int [x, y]) T).isSome = b) (hK : K (!b) nw) : Co c m nw .NotIn (.ref a) (.ref d) K :=
  ⟨fun _ tk Q I hQ => notin_tupTab PyProof.V.same_int c.un1 I.N h ha tk2 (by rw [hb]; exact hQ _ _ _ _ I hK)⟩
theorem Co.nInE {d a : Addr} {x y : Int} {t u : Tok} {o : Obj} {K : Bool → Led → Prop} (ho : (d, o) ∈ nw) (hd : o.IsDictOf (iK w) []) (hn : (d == sysModules) = false) (ha : (a, tupO [.int x t, .int y u]) ∈ nw) (hK : K true nw) : Co c m nw .NotIn (.ref a) (.ref d) K :=
  Co.nInT (TupTab.ofEmpty ho hn hd) ha rfl hK
theorem Si.pd {d a : Addr} {o : Obj} {t t6 t7 : Tok} {g : Obj → Led} {K : Led → Prop} (U : UpdF d o nw g) (hd : o.IsDictOf (iK w) []) (lo : (d == sysModules) = false) (ha : (a, tupO [.int 97 t6, .int 768 t7]) ∈ nw) (hK : ∀ o', PdObj w o' d a → K (g o')) : Si c m nw (.ref d) (.ref a) (.int 224 t) K :=
  ⟨fun _ tk Q I hQ => set_pd rfl c.un1 I.F I.N U lo hd ha fun h' o' F' N' hp => hQ _ _ _ ⟨F', N'⟩ (hK o' hp)⟩
theorem Ca.lenT {a : Addr} {its : List Value} {K : Value → Led → Prop} (ha : (a, tupO its) ∈ nw) (hb : Nat.ble its.length 1000000 = true) (hK : ∀ t, K (.int its.length t) nw) : Ca c m nw (.builtin "len") [.ref a] K :=
  ⟨fun h tk Q I hQ => PyProof.Rows.len_tuple (News.isTup I.N ha) (by have := Nat.le_of_ble_eq_true hb; rw [List.size_toArray]; omega) (by rw [List.size_toArray]; exact hQ _ _ _ _ I (hK _))⟩
end
theorem kw40 : True := by
  (k_with "m:htp" => (first | (with_reducible assumption) | exact TpIn.mono (by assumption) (by walk_at "hsub")))
  (k_with "m:hrm" => (first | (with_reducible assumption) | exact RMap.mono (by assumption) (by walk_at "hsub")))
  (k_with "m:hca" => (first | ((with_reducible apply Gm.rmap); walk_at "hrm"; exact rfl; exact rfl) | ((with_reducible apply Ca.ranges); exact rfl; walk_at "hrm"; walk_at "htp") | ((with_reducible apply Co.nInE); walk_at "hmem"; (with_reducible assumption); (with_reducible assumption); walk_at "hmem") | ((with_reducible apply Si.pd); walk_at "hupd"; (with_reducible assumption); (with_reducible assumption); walk_at "hmem") | ((with_reducible apply Ca.lenT); walk_at "hmem"; exact rfl)))
  trivial
theorem c_pc (d tp tq : Addr) (t5 t6 t7 : Tok) (news : List (Addr × Obj)) (hD : DataIn w news d tp) (q1 : (tp, tupO [.str (Str.ofString "") t5, .ref tq]) ∈ news) (q2 : (tq, tupO [.int 97 t6, .int 768 t7]) ∈ news) : Con w 8 137 [.ref d] news (RetPc w tq) := by
  have htp : TpIn news tp := ⟨tq, t5, t6, t7, q1, q2⟩
  refine Con.enter [(Str.ofString "data", .ref d)] (by k_is) (by k_is) rfl rfl rfl rfl rfl rfl fun c2 hret => ?_
  walk_at "hgo"
  rename_i pd o1 lpd qpd hso hio _ xm _ a T1 t2 t3 n ha hTa hT1 I lI oI _ _ _ _ _ _
  have q3 : T1 ≠ pd := (hT1 _ (.head _)).symm
  have q4 : a ≠ pd := (ha _ (.head _)).symm
  have q5 : ∀ p ∈ news, p.1 ≠ pd := fun p hp => Nat.ne_of_lt (lpd p hp)
  refine RgP.two (N := 1) (by decide) (.inl rfl) (RgJ.one (q := (a, lstO [.ref T1] n)) (by walk_at "hmem") (fun n9 => ∃ o', n9 = (I, oI) :: (a, lstO [.ref T1] n) :: (T1, tupO [.int 224 t2, .int 224 t3, .ref tp]) :: (pd, o') :: news ∧ PdObj w o' pd tq) (fun I2 it2 t4 hI2 => ?_) fun n1 u hR => ?_)
  · walk_at "hgo"
    rename PdObj _ _ _ _ => hpd
    exact Kf.mk' ⟨.tail _ (.head _), ⟨_, fun _ => rfl⟩, _, rfl, hpd⟩ (sub_t sub_r) (.head _) (ne_cons (hI2 _ (.head _)) (ne_cons (hI2 _ (.tail _ (.head _))) (ne_cons (hI2 _ (.tail _ (.tail _ (.head _)))) (ne_cons (hI2 _ (.tail _ (.tail _ (.tail _ (.head _))))) fun p hp => hI2 p (.tail _ (.tail _ (.tail _ (.tail _ hp))))))))
  · obtain ⟨o', rfl, hp⟩ := hR
    have lpd' : ∀ p ∈ (a, lstO [.ref T1] n) :: (T1, tupO [.int 224 t2, .int 224 t3, .ref tp]) :: (pd, o') :: news, p.1 ≠ I := fun p hp => Nat.ne_of_lt (by rcases List.mem_cons.mp hp with rfl | hp; exact lI _ (.head _); rcases List.mem_cons.mp hp with rfl | hp; exact lI _ (.tail _ (.head _)); rcases List.mem_cons.mp hp with rfl | hp; exact lI (pd, o1) (.tail _ (.tail _ (.head _))); exact lI _ (.tail _ (.tail _ (.tail _ hp))))
    walk_at "hgo"
    exact fun h' tk' F N => hret pd o' h' tk' hp F (cb_drop N (sub_t (sub_t sub_r))) lpd
/-- a dictionary as it lies -/
noncomputable def RawD (h : Heap) (d : Addr) (es : Array DictEntry) (ep : Nat) : Prop := ∃ o, h.get? d = some o ∧ o.ExactDict ∧ o.data = .dict es ep
section
variable {prog : Program} {A : Around} {E : Value → Shared → Prop} {s : Shared} {d it : Addr} {es : Array DictEntry} {ep i : Nat}
theorem rd_iter {Q : Value → Shared → Prop} (lo : (d == sysModules) = false) (hm : RawD s.heap d es ep)
    (h : Q (.ref s.heap.objs.size) { s with heap := s.heap.push { cls := .type "dict_keyiterator", data := .fields #[.ref d, .int 0 0, .int es.size 0, .int ep 0] } }) :
    wpAny (model prog w) A (pyIter (.ref d)) Q E s := by
  obtain ⟨o, ho, hc, hdat⟩ := hm
  have hT : s.TypeIs (.ref d) "dict" := ⟨o, ho, hc.1⟩
  refine wpAny_pyIter_slot hT PySem.F.slot_dict_iter (wpAny_call_entry PySem.F.slot_dict_iter hT PySem.F.entry_dict_iter ?_ (PySem.F.args_dict_iter_1 _))
  unfold Builtin.«dict.__iter__» Builtin.Dict.dictSlotNone
  refine wpAny_bind (wpAny_bind (wpAny_notOrdered_dict hT ?_))
  show wpAny _ _ (pure (Value.ref d)) _ _ s
  refine wpAny_pure ?_
  show wpAny _ _ (Builtin.Dict.showsAll d >>= _) _ _ s
  unfold Builtin.Dict.showsAll
  rw [if_neg (by rw [lo]; exact Bool.false_ne_true)]
  refine wpAny_bind (wpAny_pure (wpAny_bind (wpAny_dictEntries ho hdat (wpAny_bind (wpAny_dictEpoch ho hdat ?_)))))
  refine wpAny_bind (wpAny_newObj_type (wpAny_pure ⟨_, rfl, "dict_keyiterator", _, ⟨_, Heap.get?_push_size _ rfl, rfl⟩, PySem.F.slot_dict_keyiterator_next.lookup, ?_⟩))
  exact h
theorem rd_next {e : DictEntry} {Q : Option Value → Shared → Prop} (hit : s.heap.IsKeyIter it d i es.size ep) (hm : RawD s.heap d es ep) (hx : es[i]? = some e)
    (h : ∀ h', h'.IsKeyIter it d (i + 1) es.size ep → Heap.SameBut it s.heap h' → Q (some e.key) { s with heap := h' }) : wpAny (model prog w) A (pyNext (.ref it)) Q E s := by
  obtain ⟨o, ho, hc, hd⟩ := id hit
  obtain ⟨od, hod, hcd, hdd⟩ := hm
  have hi : ¬ ((i : Int) < 0) := by omega
  unfold pyNext
  refine wpAny_bind (wpAny_attempt (wpAny_callSpecial?_slot (name := Str.ofString "__next__") hit.typeIs PySem.F.slot_dict_keyiterator_next
    (wpAny_call_entry PySem.F.slot_dict_keyiterator_next hit.typeIs PySem.F.entry_dict_keyiterator_next ?_ (PySem.F.args_dict_keyiterator_next_1 _))))
  refine wpAny_bind (wpAny_pure (wpAny_bind (wpAny_bind ?_)))
  refine wpAny_bind (wpAny_typeNameOfWhole_keyiter hit.typeIs (wpAny_pure ?_))
  refine wpAny_bind (wpAny_fieldsOf ho hd ?_)
  rw [show Builtin.Dict_items.ownsTuple "dict_keyiterator" = false by decide]
  simp only [Bool.false_eq_true, if_false]
  show wpAny _ _ (if (Value.ref d == Value.none) = true then _ else _) _ _ s
  rw [if_neg (show ¬ ((Value.ref d == Value.none) = true) from Bool.false_ne_true)]
  refine wpAny_bind (wpAny_pure (wpAny_bind (wpAny_dictEntries hod hdd ?_)))
  rw [if_neg (by simp)]
  refine wpAny_bind (wpAny_pure (wpAny_bind (wpAny_dictEpoch hod hdd ?_)))
  rw [if_neg (by simp)]
  refine wpAny_pure ?_
  simp only [hi, if_false, Int.toNat_natCast, hx]
  refine wpAny_bind (wpAny_bind (wpAny_typeNameOfWhole_keyiter hit.typeIs (wpAny_pure ?_)))
  refine wpAny_bind (wpAny_isOneOf_keyiter hit.typeIs ?_)
  show wpAny _ _ (setField (.ref it) 1 (rawInt ((i : Int) + 1)) >>= _) _ _ s
  refine wpAny_bind (wpAny_setField ho hd (by simp) ?_)
  have hit' : (s.heap.update it (Obj.mapFields (·.setIfInBounds 1 (rawInt ((i : Int) + 1))))).IsKeyIter it d (i + 1) es.size ep :=
    ⟨_, Heap.get?_update_self _ ho (Obj.isFreed_of_fields (Obj.data_mapFields hd _)), (Obj.cls_mapFields ..).trans hc, by rw [Obj.data_mapFields hd]; simp [rawInt]⟩
  refine wpAny_bind (wpAny_holding ?_)
  refine wpAny_bind (wpAny_isOneOf_keyiter (s := { s with heap := s.heap.update it (Obj.mapFields (·.setIfInBounds 1 (rawInt ((i : Int) + 1)))) }) hit'.typeIs ?_)
  show wpAny _ _ (pure e.key) _ _ _
  exact wpAny_pure (wpAny_pure ⟨_, rfl, wpAny_pure (h _ hit' (Heap.SameBut.update ..))⟩)
theorem rd_end {Q : Option Value → Shared → Prop} (hh : A.handled = none) (hit : s.heap.IsKeyIter it d i es.size ep) (hm : RawD s.heap d es ep) (hx : es.size ≤ i)
    (h : ∀ h', Heap.ExtBut it s.heap h' → Q none { s with heap := h' }) : wpAny (model prog w) A (pyNext (.ref it)) Q E s := by
  obtain ⟨o, ho, hc, hd⟩ := id hit
  obtain ⟨od, hod, hcd, hdd⟩ := hm
  have hi : ¬ ((i : Int) < 0) := by omega
  unfold pyNext
  refine wpAny_bind (wpAny_attempt (wpAny_callSpecial?_slot (name := Str.ofString "__next__") hit.typeIs PySem.F.slot_dict_keyiterator_next
    (wpAny_call_entry PySem.F.slot_dict_keyiterator_next hit.typeIs PySem.F.entry_dict_keyiterator_next ?_ (PySem.F.args_dict_keyiterator_next_1 _))))
  refine wpAny_bind (wpAny_pure (wpAny_bind (wpAny_bind ?_)))
  refine wpAny_bind (wpAny_typeNameOfWhole_keyiter hit.typeIs (wpAny_pure ?_))
  refine wpAny_bind (wpAny_fieldsOf ho hd ?_)
  rw [show Builtin.Dict_items.ownsTuple "dict_keyiterator" = false by decide]
  simp only [Bool.false_eq_true, if_false]
  show wpAny _ _ (if (Value.ref d == Value.none) = true then _ else _) _ _ s
  rw [if_neg (show ¬ ((Value.ref d == Value.none) = true) from Bool.false_ne_true)]
  refine wpAny_bind (wpAny_pure (wpAny_bind (wpAny_dictEntries hod hdd ?_)))
  rw [if_neg (by simp)]
  refine wpAny_bind (wpAny_pure (wpAny_bind (wpAny_dictEpoch hod hdd ?_)))
  rw [if_neg (by simp)]
  refine wpAny_pure ?_
  simp only [hi, if_false, Int.toNat_natCast, Array.getElem?_eq_none hx]
  refine wpAny_bind (wpAny_bind (wpAny_typeNameOfWhole_keyiter hit.typeIs (wpAny_pure ?_)))
  show wpAny _ _ (setField (.ref it) 0 .none >>= _) _ _ s
  refine wpAny_bind (wpAny_setField ho hd (by simp) ?_)
  show wpAny _ _ (newExc (.type "StopIteration") [] >>= _) _ _ _
  simp only [newExc, newTuple]
  refine wpAny_bind (wpAny_bind (wpAny_newObj_type ?_ (by size_fits)))
  refine wpAny_bind (m := firstArgMember _ _) (wpAny_of_eq (a := Value.none) (by first | rfl | (simp only [firstArgMember]; rfl)) ?_)
  refine wpAny_newObj_type ?_ (by size_fits)
  simp only [raiseNew]
  refine wpAny_bind (wpAny_handled ?_)
  rw [show A.in1.handled = none from hh]
  refine wpAny_bind (wpAny_pure (wpAny_throw ?_))
  refine wpAny_bind (wpAny_isInstance (T := "StopIteration") (b := true) ⟨_, Heap.get?_push_size _ rfl, rfl⟩ isSubtype_stop ?_)
  exact wpAny_pure (h _ (((Heap.SameBut.update ..).extBut.push _).push _))
theorem RawD.at {h h' : Heap} (x : RawD h d es ep) (e : ∀ o, h.get? d = some o → h'.get? d = some o) : RawD h' d es ep := let ⟨o, ho, r⟩ := x; ⟨o, e _ ho, r⟩
theorem rd_walks (hh : A.handled = none) (I d : Addr) (hne : d ≠ I) (es : Array DictEntry) (ep : Nat) :
    Walks prog w A I [I, d] [I] es.size (fun i v => ∃ e, es[i]? = some e ∧ v = e.key) (fun i h => h.IsKeyIter I d i es.size ep ∧ RawD h d es ep) where
  sub := fun b hb => by simp at hb; simp [hb]
  frame := fun _ _ _ st hk => ⟨st.1.at fun o e => hk I (by simp) o e, st.2.at fun o e => hk d (by simp) o e⟩
  item := fun i s Q E hi st hQ => by
    have hx : es[i]? = some es[i] := Array.getElem?_eq_getElem hi
    refine rd_next st.1 st.2 hx fun h' hit' hs' => ?_
    exact hQ _ h' s.toks ⟨_, hx, rfl⟩ ⟨hit', st.2.at fun o e => hs'.extBut d o hne e⟩ fun b o hb e => hs'.extBut b o (fun h => hb (by simp [h])) e
  done := fun s Q E st hQ => rd_end hh st.1 st.2 (Nat.le_refl _) fun h' he' => hQ h' s.toks fun b o hb e => he' b o (fun h => hb (by simp [h])) e
  self := fun _ _ _ _ st hQ => wpAny_pyIter_keyiter st.1 hQ
end
section
variable {prog : Program} {A : Around} {E : Value → Shared → Prop} {s : Shared} {env : Env} {h₀ : Heap} {target : Expr} {body : List Stmt} {Q : Flow → Shared → Prop}
theorem rd_turns {d : Addr} {od : Obj} {es : Array DictEntry} {ep : Nat} {m₀ : Str → Option Value} {news : List (Addr × Obj)}
    (hh : A.handled = none) (F : Fr h₀ env.locals s.heap m₀) (N : News h₀ env.locals s.heap news) (lo : (d == sysModules) = false) (hm : (d, od) ∈ news) (hc : od.ExactDict) (hd : od.data = .dict es ep)
    (rest₀ : ∀ I : Addr, (∀ p ∈ news, p.1 < I) → ItemsRest prog w A E h₀ env target body Q s [(I, "dict_keyiterator")] [(d, od)] (es.toList.map fun e => Itm.val e.key) m₀ news) :
    wpAny (model prog w) A (pyIter (.ref d)) (fun it s₂ => TurnsAt prog w A h₀ env target body Q E it s₂) E s := by
  have hax := N _ hm
  have hlt : d < s.heap.objs.size := Heap.lt_size hax.1
  have hne : d ≠ s.heap.objs.size := Nat.ne_of_lt hlt
  have hat : RawD s.heap d es ep := ⟨od, hax.1, hc, hd⟩
  refine rd_iter lo hat ?_
  refine ktu_core (tk0 := s.toks) (keep := [(d, od)]) (KTurns.ofWalks (rd_walks hh s.heap.objs.size d hne es ep) fun i v s Q E st q => letGo_keyiter st.1 q) (by simp) ?_ ?_ ?_ ?_ ?_ ?_ ?_ ?_ (F.push _) (fun p hp => ⟨Heap.get?_push_of_some _ (N p hp).1, (N p hp).2⟩) (And.intro hm trivial) (rest₀ _ fun p hp => Heap.lt_size (N p hp).1)
  · rintro i v h ⟨e, hx, rfl⟩
    exact ⟨.val e.key, by rw [List.getElem?_map, Array.getElem?_toList, hx]; rfl, rfl⟩
  · rintro i h ⟨⟨oi, g, c, _⟩, _⟩
    exact ⟨[(s.heap.objs.size, oi)], ⟨⟨rfl, c⟩, trivial⟩, fun p hp => by rw [List.mem_singleton.mp hp]; exact g⟩
  · intro b hb
    have hb' : b = s.heap.objs.size := by simpa using hb
    rw [hb']
    exact ⟨List.mem_cons_self .., next_is_new F⟩
  · intro b hb
    simpa using hb
  · intro b hb
    have hb' : b = s.heap.objs.size ∨ b = d := by simpa using hb
    rcases hb' with e | e
    · exact .inl (by simp [e])
    · exact .inr ⟨od, by simp [e]⟩
  · intro hI
    have hb' : env.locals = s.heap.objs.size ∨ env.locals = d := by simpa using hI
    rcases hb' with e | e
    · exact absurd F.ns.lt (e ▸ Nat.lt_irrefl _)
    · exact hax.2.1 e.symm
  · intro p hp hI
    exact absurd (Heap.lt_size (N p hp).1) ((List.mem_singleton.mp hI) ▸ Nat.lt_irrefl _)
  · exact ⟨⟨_, Heap.get?_push_size _ rfl, rfl, rfl⟩, ⟨od, Heap.get?_push_of_some _ hax.1, hc, hd⟩⟩
end
noncomputable abbrev RetCo (w : World) (nd : List (Addr × Obj)) : RetT := fun h₀ L m news s Q => ∀ (k kx pd sd : Addr) (op os : Obj) (t1 t2 : Tok) (h' : Heap) (tk' : Nat),
  CompoIn w ((sd, os) :: (pd, op) :: (k, instObj 175 kx) :: (kx, dictOf [⟨PyData.keyHash w.params (Str.ofString "pairs"), .str (Str.ofString "pairs") t1, .ref pd⟩, ⟨PyData.keyHash w.params (Str.ofString "seconds"), .str (Str.ofString "seconds") t2, .ref sd⟩] 2) :: nd) k →
  Fr h₀ L h' m → News h₀ L h' ((sd, os) :: (pd, op) :: (k, instObj 175 kx) :: (kx, dictOf [⟨PyData.keyHash w.params (Str.ofString "pairs"), .str (Str.ofString "pairs") t1, .ref pd⟩, ⟨PyData.keyHash w.params (Str.ofString "seconds"), .str (Str.ofString "seconds") t2, .ref sd⟩] 2) :: news) →
  (∀ p ∈ news, p.1 < kx) → kx < k → k < pd → pd < sd → Q (.ref k) { s with heap := h', toks := tk' }
section
variable {D : Nat} {i : Fn} {c : Cx w D i} {m : Fm} {nw : Led} {l : List Stmt} {K : Flow → Fm → Led → Prop}
theorem It.pd {target : Expr} {b : List Stmt} {pd tq : Addr} {o : Obj} (ho : (pd, o) ∈ nw) (h : PdObj w o pd tq) (hK : ∀ I, (∀ p ∈ nw, p.1 < I) → Fx c target b l K [(I, "dict_keyiterator")] (pd, o) ([Value.ref tq].map .val) m nw) : It c target b l K m nw (.ref pd) := by
  refine ⟨fun h0 tk Q I hQ => ?_⟩
  obtain ⟨es, ep, hh, t, hd, he⟩ := h.at_
  refine rd_turns rfl I.F I.N h.lo ho h.ex hd ?_
  rw [he]
  exact fun J l1 => Fx.rest hQ _ m nw (hK J l1)
theorem Ca.pc {d tp tq : Addr} {t5 t6 t7 : Tok} {K : Value → Led → Prop} (hd : Nat.ble 8 D = true) (hD : DataIn w nw d tp) (q1 : (tp, tupO [.str (Str.ofString "") t5, .ref tq]) ∈ nw) (q2 : (tq, tupO [.int 97 t6, .int 768 t7]) ∈ nw) (hK : ∀ pd o, PdObj w o pd tq → (∀ p ∈ nw, p.1 < pd) → K (.ref pd) ((pd, o) :: nw)) : Ca c m nw (.ref 137) [.ref d] K :=
  Ca.con (c_pc d tp tq t5 t6 t7 nw hD q1 q2) hd fun _ _ _ hQ pd o h' tk' hp F N l => hQ _ _ _ _ F N (hK pd o hp l)
end
theorem kw41 : True := by
  (k_with "m:hk" => ((with_reducible apply It.pd); walk_at "hmem"; (with_reducible assumption)))
  (k_with "m:hca" => ((with_reducible apply Ca.pc); exact rfl; (first | (with_reducible assumption) | exact DataIn.mono (by assumption) (by walk_at "hsub")); walk_at "hmem"; walk_at "hmem"))
  trivial
theorem c_compo (d tp : Addr) (nd news : List (Addr × Obj)) (hDn : DataIn w nd d tp) (hs : ∀ p ∈ nd, p ∈ news) : Con w 11 175 [.ref d] news (RetCo w nd) := by
  have hD := hDn.mono hs
  obtain ⟨tq, t5, t6, t7, q1', q2'⟩ := hDn.tup
  have q1 := hs _ q1'
  have q2 := hs _ q2'
  clear hDn
  refine Con.init (fun x => [(Str.ofString "data", .ref d), (Str.ofString "self", .ref x)]) (by k_is) (by k_is) (by k_is) (by k_is) (by k_is) (fun _ _ _ => BindsTo.of_eq rfl) (fun _ => rfl) rfl rfl rfl rfl fun c2 x dx Q l1 l2 hret hQ => ?_
  have hex : dx ≠ x := Nat.ne_of_lt l2
  have hnx : ∀ p ∈ news, p.1 ≠ dx := fun p hp => Nat.ne_of_lt (l1 p hp)
  walk_at "hgo"
  rename PdObj _ _ _ _ => hpd
  rename Obj.IsDictOf _ _ (stored [] 768 (Value.bool true)) => hz
  intro h' tk' F N
  exact hQ _ (hret x dx _ _ _ _ _ _ h' tk' ⟨_, _, _, _, _, _, .tail _ (.tail _ (.head _)), .tail _ (.tail _ (.tail _ (.head _))), hpd.tab _ t6 t7 (.tail _ (.head _)) (.tail _ (.tail _ (.tail _ (.tail _ q2')))), .head _, hz, by assumption⟩ F N l1 l2 (by walk_at "hlt") (by walk_at "hlt"))
section
variable {D : Nat} {i : Fn} {c : Cx w D i} {m : Fm} {nw : Led}
/-- .. the composer in some longer ledger -/
theorem Ca.compo {d tp : Addr} {K : Value → Led → Prop} (hd : Nat.ble 11 D = true) (hD : DataIn w nw d tp) (hK : ∀ k nw', CompoIn w nw' k → (∀ p ∈ nw, p ∈ nw') → K (.ref k) nw') : Ca c m nw (.ref 175) [.ref d] K :=
  Ca.con (c_compo d tp nw nw hD fun _ h => h) hd fun _ _ _ hQ k kx pd sd op os t1 t2 h' tk' hC F N l1 l2 l3 l4 => hQ _ _ _ _ F N (hK k _ hC fun p hp => .tail _ (.tail _ (.tail _ (.tail _ hp))))
end
theorem kw42 : True := by
  (k_with "m:hca" => ((with_reducible apply Ca.compo); exact rfl; (first | (with_reducible assumption) | exact DataIn.mono (by assumption) (by walk_at "hsub"))))
  trivial
theorem c_cpairS (k : Addr) (n b q : Int) (t u : Tok) (h : cpair n b = some q) (news : List (Addr × Obj)) (hC : CompoIn w news k) : Con w 4 165 [.ref k, .int n t, .int b u] news (RetV fun t => .int q t) :=
  (c_cpair k n b t u news hC).mono fun h₀ L m s Q hR => by rw [h]; exact hR
theorem c_cpairN (k : Addr) (n b : Int) (t u : Tok) (h : cpair n b = none) (news : List (Addr × Obj)) (hC : CompoIn w news k) : Con w 4 165 [.ref k, .int n t, .int b u] news (RetV fun t => .none) :=
  (c_cpair k n b t u news hC).mono fun h₀ L m s Q hR => by rw [h]; exact hR
theorem ints_set : ∀ {vs : List Value} {ns : List Int} (i : Nat) (q : Int) (t : Tok), IntsAre vs ns → IntsAre (vs.set i (.int q t)) (ns.set i q)
  | _, _, _, _, _, .nil => .nil
  | _, _, 0, q, t, .cons n u r => .cons q t r
  | _, _, i + 1, q, t, .cons n u r => .cons n u (ints_set i q t r)
noncomputable def cstep (S : List Int × Int × Int) (c : Int) : List Int × Int × Int :=
  match (if 0 ≤ S.2.1 ∧ (S.2.1 = (S.1.length : Int) - 1 ∨ S.2.2 < cls c) then cpair (S.1.getD S.2.1.toNat 0) c else none) with
  | some q => (S.1.set S.2.1.toNat q, S.2.1, S.2.2)
  | none => if cls c = 0 then (S.1 ++ [c], (S.1.length : Int), -1) else (S.1 ++ [c], S.2.1, max S.2.2 (cls c))
noncomputable def compP (cs : List Int) : List Int := (cs.foldl cstep ([], -1, -1)).1
theorem cstep_some {f : List Int} {st mo c q : Int} (h : 0 ≤ st ∧ (st = (f.length : Int) - 1 ∨ mo < cls c)) (e : cpair (f.getD st.toNat 0) c = some q) : cstep (f, st, mo) c = (f.set st.toNat q, st, mo) := by
  unfold cstep; simp only [if_pos h, e]
theorem cstep_none {f : List Int} {st mo c : Int} (h : (0 ≤ st ∧ (st = (f.length : Int) - 1 ∨ mo < cls c)) → cpair (f.getD st.toNat 0) c = none) : cstep (f, st, mo) c = if cls c = 0 then (f ++ [c], (f.length : Int), -1) else (f ++ [c], st, max mo (cls c)) := by
  have e : (if 0 ≤ st ∧ (st = (f.length : Int) - 1 ∨ mo < cls c) then cpair (f.getD st.toNat 0) c else none) = none := by
    split
    · rename_i q; exact h q
    · rfl
  unfold cstep; simp only [e]
theorem foldl_at {σ : Type} {g : σ → Int → σ} {s₀ s₁ : σ} {cs : List Int} {i : Nat} {c : Int} (hc : cs[i]? = some c) (h : (cs.take i).foldl g s₀ = s₁) : (cs.take (i + 1)).foldl g s₀ = g s₁ c := by
  rw [List.take_add_one, hc, List.foldl_append, h]; rfl
theorem max_gt (a b : Int) : max a b = if b > a then b else a := by rw [Int.max_def]; split <;> split <;> lia
section
variable {σ : Type} {Led : σ → List (Addr × Obj)} {M : σ → Str → Option Value} {P : Nat → σ → Prop} {x : Str} {I : Addr} {it : Obj} {h₀ : Heap} {L : Addr} {s : Shared} {i : Nat} {Q : Flow → Shared → Prop} {h' : Heap} {tk : Nat} {m' : Str → Option Value} {news' : List (Addr × Obj)}
end
theorem subCons {x : Addr × Obj} {l l' : List (Addr × Obj)} (h : ∀ p ∈ l, p ∈ l') : ∀ p ∈ x :: l, p ∈ x :: l' := fun p hp => by
  rcases List.mem_cons.mp hp with rfl | hp
  · exact .head _
  · exact .tail _ (h p hp)
/-- the composer that is handed over, or none -/
noncomputable def KvOk (w : World) (news : List (Addr × Obj)) (kv : Value) : Prop := (∃ k, kv = .ref k ∧ CompoIn w news k) ∨ kv = .none
theorem KvOk.mono {news news' : List (Addr × Obj)} {kv : Value} (h : KvOk w news kv) (hs : ∀ p ∈ news, p ∈ news') : KvOk w news' kv := h.imp (fun ⟨k, e, c⟩ => ⟨k, e, c.mono hs⟩) id
section
variable {D : Nat} {i : Fn} {c : Cx w D i} {m : Fm} {nw : Led}
theorem Ca.cpairS {k : Addr} {n b q : Int} {t u : Tok} {K : Value → Led → Prop} (e : Mine.cpair n b = some q) (hd : Nat.ble 4 D = true) (h : CompoIn w nw k) (hK : ∀ t, K (.int q t) nw) : Ca c m nw (.ref 165) [.ref k, .int n t, .int b u] K := Ca.V (c_cpairS k n b q t u e nw h) hd hK
theorem Ca.cpairN {k : Addr} {n b : Int} {t u : Tok} {K : Value → Led → Prop} (e : Mine.cpair n b = none) (hd : Nat.ble 4 D = true) (h : CompoIn w nw k) (hK : ∀ _ : Tok, K .none nw) : Ca c m nw (.ref 165) [.ref k, .int n t, .int b u] K := Ca.V (c_cpairN k n b t u e nw h) hd hK
theorem Ca.max2 {a b : Int} {t u : Tok} {K : Value → Led → Prop} (hK : ∀ v, K (.int (if b > a then b else a) v) nw) : Ca c m nw (.builtin "max") [.int a t, .int b u] K :=
  ⟨fun h tk Q I hQ => max_two_N rfl I.F I.N fun h' tk' F' N' => hQ _ _ _ _ ⟨F', N'⟩ (hK _)⟩
theorem Ex.mono {e : Expr} {K K' : Value → Led → Prop} (h : Ex c m nw e K') (hK : ∀ v n, K' v n → K v n) : Ex c m nw e K :=
  ⟨fun h0 tk Q I hQ => h.run h0 tk Q I fun v n h' t' I' q => hQ v n h' t' I' (hK v n q)⟩
structure Ng (v : Value) (n : Led) (K : Value → Led → Prop) : Prop where
  ex : ∃ a t, v = .int a t ∧ ∀ u, K (.int (-a) u) n
theorem Ng.int {a : Int} {t : Tok} {K : Value → Led → Prop} (hK : ∀ u, K (.int (-a) u) nw) : Ng (.int a t) nw K := ⟨a, t, rfl, hK⟩
theorem Ex.neg {e : Expr} {pos : Pos} {K : Value → Led → Prop} (h : Ex c m nw e fun v n => Ng v n K) : Ex c m nw (.UnaryOp .USub e pos) K :=
  ⟨fun h0 tk Q I hQ => wpAny_UnaryOp (h.run h0 tk _ I fun v n h' t' I' q => by
    obtain ⟨a, t, rfl, hK⟩ := q
    exact neg_int (hQ _ _ _ _ I' (hK _)))⟩
/-- the ways of a test joined -/
structure Cj (nw : Led) (P : Prop) (b : Bool) (n : Led) : Prop where
  e : n = nw
  i : b = true ↔ P
theorem Tx.cj (P : Prop) {e : Expr} {K : Bool → Led → Prop} (h : Tx c m nw e (Cj nw P)) (h1 : P → K true nw) (h2 : ¬ P → K false nw) : Tx c m nw e K :=
  ⟨fun h0 tk Q I hQ => h.run h0 tk Q I fun b n h' t' I' q => by
    obtain ⟨rfl, q⟩ := q
    cases b with
    | true => exact hQ _ _ _ _ I' (h1 (q.mp rfl))
    | false => exact hQ _ _ _ _ I' (h2 fun p => Bool.false_ne_true (q.mpr p))⟩
theorem Cj.t {P : Prop} (h : P) : Cj nw P true nw := ⟨rfl, fun _ => h, fun _ => rfl⟩
theorem Cj.f {P : Prop} (h : ¬ P) : Cj nw P false nw := ⟨rfl, fun q => (Bool.false_ne_true q).elim, fun q => (h q).elim⟩
end
theorem kw43 : True := by
  (k_with "m:hca" => (first | ((with_reducible apply Ca.cpairS); (with_reducible assumption); exact rfl; walk_at "hco9") | ((with_reducible apply Ca.cpairN); (with_reducible assumption); exact rfl; walk_at "hco9") | (with_reducible apply Ca.max2)))
  (k_with "m:hex" => (first | (with_reducible apply Ex.neg) | (with_reducible apply Ng.int)))
  (k_with "m:hif" => (repeat' ((fail_if_success (with_reducible show St _ _ _ (Stmt.If _ _ _ _ :: _) _)); walk_at "h1")))
  trivial
noncomputable abbrev compF (k d l wf : Addr) (st mo : Int) (t1 t2 : Tok) (u v p : Option Value) : Fm := [(Str.ofString "composer", some (.ref k)), (Str.ofString "data", some (.ref d)), (Str.ofString "text", some (.ref l)), (Str.ofString "most", some (.int mo t2)), (Str.ofString "starter", some (.int st t1)), (Str.ofString "found", some (.ref wf)), (Str.ofString "code", u), (Str.ofString "weight", v), (Str.ofString "pair", p)]
structure CmpP (cs : List Int) (i : Nat) (f : List Int) (st mo : Int) (fa : List Value) : Prop where
  eq : (cs.take i).foldl cstep ([], -1, -1) = (f, st, mo)
  iar : IntsAre fa f
  lo : -1 ≤ st
  hi : st < f.length
  len : f.length ≤ i
inductive CmpJ (nw : Led) (k d l wf : Addr) (cs : List Int) (i : Nat) (m : Fm) (n : Led) : Prop
  | mk (fa : List Value) (fn : Nat) (st mo : Int) (t1 t2 : Tok) (u v p : Option Value) (f : List Int) : ((∀ y, lk m y = lk (compF k d l wf st mo t1 t2 u v p) y)) → (n = (wf, lstO fa fn) :: nw) → (CmpP cs i f st mo fa) → CmpJ nw k d l wf cs i m n
theorem CmpJ.ex {nw : Led} {k d l wf : Addr} {cs : List Int} {i : Nat} {m : Fm} {n : Led} (h : CmpJ nw k d l wf cs i m n) : CmpJ nw k d l wf cs i m n := h
theorem CmpP.set {cs : List Int} {i : Nat} {f : List Int} {st mo c q : Int} {fa : List Value} {t : Tok} (h : CmpP cs i f st mo fa) (hc : cs[i]? = some c) (hP : 0 ≤ st ∧ (st = (f.length : Int) - 1 ∨ mo < cls c)) (e : cpair (f.getD st.toNat 0) c = some q) : CmpP cs (i + 1) (f.set st.toNat q) st mo (fa.set st.toNat (.int q t)) :=
  ⟨(foldl_at hc h.eq).trans (cstep_some hP e), ints_set _ _ _ h.iar, h.lo, by rw [List.length_set]; exact h.hi, by rw [List.length_set]; exact Nat.le_succ_of_le h.len⟩
theorem CmpP.app0 {cs : List Int} {i : Nat} {f : List Int} {st mo c : Int} {fa : List Value} {t : Tok} (h : CmpP cs i f st mo fa) (hc : cs[i]? = some c) (hn : (0 ≤ st ∧ (st = (f.length : Int) - 1 ∨ mo < cls c)) → cpair (f.getD st.toNat 0) c = none) (hz : cls c = 0) : CmpP cs (i + 1) (f ++ [c]) (f.length : Int) (-1) (fa ++ [.int c t]) :=
  ⟨(foldl_at hc h.eq).trans ((cstep_none hn).trans (if_pos hz)), ints_app h.iar (.cons c t .nil), by lia, by rw [List.length_append, List.length_singleton]; lia, by rw [List.length_append, List.length_singleton]; exact Nat.succ_le_succ h.len⟩
theorem CmpP.app1 {cs : List Int} {i : Nat} {f : List Int} {st mo c : Int} {fa : List Value} {t : Tok} (h : CmpP cs i f st mo fa) (hc : cs[i]? = some c) (hn : (0 ≤ st ∧ (st = (f.length : Int) - 1 ∨ mo < cls c)) → cpair (f.getD st.toNat 0) c = none) (hz : cls c ≠ 0) : CmpP cs (i + 1) (f ++ [c]) st (if cls c > mo then cls c else mo) (fa ++ [.int c t]) :=
  ⟨(foldl_at hc h.eq).trans ((cstep_none hn).trans ((if_neg hz).trans (by rw [max_gt]))), ints_app h.iar (.cons c t .nil), h.lo, by have := h.hi; rw [List.length_append, List.length_singleton]; lia, by rw [List.length_append, List.length_singleton]; exact Nat.succ_le_succ h.len⟩
theorem CmpJ.fin {nw : Led} {k d l wf I : Addr} {it : Obj} {cs : List Int} {i : Nat} {m2 : Fm} {f : List Int} {st mo : Int} {t1 t2 : Tok} {u v p : Option Value} {fa : List Value} {fn : Nat} (hm : ∀ y, lk m2 y = lk (compF k d l wf st mo t1 t2 u v p) y) (P : CmpP cs i f st mo fa) (q1 : wf ≠ I) (q2 : ∀ p ∈ nw, p.1 ≠ I) : Kf I it (CmpJ nw k d l wf cs i) m2 ((I, it) :: (wf, lstO fa fn) :: nw) :=
  Kf.mk' (n' := (wf, lstO fa fn) :: nw) ⟨_, _, _, _, _, _, _, _, _, _, hm, rfl, P⟩ (sub_t sub_r) (.head _) (ne_cons q1 q2)
theorem c_comp (l : Addr) (its : List Value) (n : Nat) (cs : List Int) (d tp : Addr) (kv : Value) (news : List (Addr × Obj)) (hl : (l, lstO its n) ∈ news) (hi : IntsAre its cs) (hpos : ∀ c ∈ cs, 0 ≤ c) (hlen : cs.length < 50) (hD : DataIn w news d tp) (hK : KvOk w news kv) :
    Con w 20 187 [.ref l, .ref d, kv] news (RetL (compP cs)) := by
  refine Con.enterB [(Str.ofString "composer", kv), (Str.ofString "data", .ref d), (Str.ofString "text", .ref l)] (by k_is) (by k_is) (fun _ X => by first | exact BindsTo.of_eq rfl | exact binds_K X rfl (by k_is) rfl rfl rfl) rfl rfl rfl rfl rfl fun c2 hret => ?_
  refine St.asg rfl (fun _ => rfl) (Ex.mono (K' := fun v n => ∃ k, v = .ref k ∧ CompoIn w n k ∧ ∀ p ∈ news, p ∈ n) ?_ fun v nw hv => ?_)
  · rcases hK with ⟨k, rfl, hC⟩ | rfl
    · walk_at "hgo"
      exact ⟨k, rfl, hC, fun p hp => hp⟩
    · walk_at "hgo"
      exact ⟨_, rfl, by assumption, by assumption⟩
  obtain ⟨k, rfl, hC, hsub⟩ := hv
  replace hl := hsub _ hl
  replace hD := hD.mono hsub
  clear hK
  walk_at "hgo"
  rename (∀ p ∈ nw, p.1 < _) => hlt
  have hnw : ∀ p ∈ nw, p.1 ≠ _ := fun p hp => Nat.ne_of_lt (hlt p hp)
  refine ForP.mk' (vs := its) (o := lstO its n) (CmpJ nw k d l _ cs) .li (fun i m1 n1 hJ => ?_) ⟨[], 0, -1, -1, _, _, none, none, none, [], fun y => lk_padF y [Str.ofString "code", Str.ofString "weight", Str.ofString "pair"] _, rfl, ⟨rfl, .nil, Int.le_refl _, by decide, Nat.le_refl _⟩⟩ (fun I it i v m1 n1 hv hJ hne => ?_) (fun m1 n1 u9 hJ => ?_)
  · obtain ⟨fa, fn, st, mo, t1, t2, u, v, p, f, hm, rfl, P⟩ := hJ.ex
    exact .tail _ hl
  · obtain ⟨fa, fn, st, mo, t1, t2, u, v, p, f, hm, rfl, P⟩ := hJ.ex
    obtain ⟨c, t0, hc, rfl⟩ := ints_at hi hv
    have hc0 : 0 ≤ c := hpos c (List.mem_of_getElem? hc)
    have hci : i < cs.length := (List.getElem?_eq_some_iff.mp hc).1
    obtain ⟨k1, k2, k3, k4, k5⟩ := id P
    have hfa : fa.length = f.length := k2.length
    have hfs : fa.length ≤ 50 := by lia
    have hfb : fa.length ≤ 100000 := by lia
    obtain ⟨q1, q2⟩ := List.forall_mem_cons.mp hne
    refine St.frE (lk_set hm rfl) ?_
    clear hm
    walk_at "hif"
    refine St.if (Tx.cj (0 ≤ st ∧ (st = (f.length : Int) - 1 ∨ mo < cls c)) ?_ (fun hP => ?_) (fun hP => ?_))
    · walk_at "hgo"
      all_goals first | exact Cj.t (by lia) | exact Cj.f (by lia)
    · cases e : cpair (f.getD st.toNat 0) c with
      | some q =>
        walk_at "hgo"
        exact CmpJ.fin (fun _ => rfl) (P.set hc hP e) q1 q2
      | none =>
        walk_at "hgo"
        · exact CmpJ.fin (fun _ => rfl) (P.app0 hc (fun _ => e) (by assumption)) q1 q2
        · exact CmpJ.fin (fun _ => rfl) (P.app1 hc (fun _ => e) (by assumption)) q1 q2
    · walk_at "hgo"
      · exact CmpJ.fin (fun _ => rfl) (P.app0 hc (fun q => (hP q).elim) (by assumption)) q1 q2
      · exact CmpJ.fin (fun _ => rfl) (P.app1 hc (fun q => (hP q).elim) (by assumption)) q1 q2
  · obtain ⟨fa, fn, st, mo, t1, t2, u, v, p, f, hm, rfl, P⟩ := hJ.ex
    refine St.frE (lk_set hm rfl) ?_
    clear hm
    walk_at "hgo"
    exact fin_L hret (subCons hsub) (fun p hp => hlt p (hsub p hp)) P.iar (by rw [compP, ← List.take_length (l := cs), ← hi.length, P.eq])
section
variable {D : Nat} {i : Fn} {c : Cx w D i} {m : Fm} {nw : Led}
theorem Ca.comp {l d tp : Addr} {its : List Value} {n : Nat} {cs : List Int} {kv : Value} {K : Value → Led → Prop} (hd : Nat.ble 20 D = true) (hl : (l, lstO its n) ∈ nw) (hi : IntsAre its cs) (hpos : ∀ c ∈ cs, 0 ≤ c) (hlen : cs.length < 50) (hD : DataIn w nw d tp) (hK : KvOk w nw kv) (h : ∀ a its n, IntsAre its (compP cs) → (∀ p ∈ nw, p.1 < a) → K (.ref a) ((a, lstO its n) :: nw)) : Ca c m nw (.ref 187) [.ref l, .ref d, kv] K :=
  Ca.L (c_comp l its n cs d tp kv nw hl hi hpos hlen hD hK) hd h
end
theorem kw44 : True := by
  (k_with "m:hkvo" => (first | (with_reducible assumption) | exact KvOk.mono (by assumption) (by walk_at "hsub") | exact Or.inr rfl))
  (k_with "m:hca" => ((with_reducible apply Ca.comp); exact rfl; walk_at "hmem"; (with_reducible assumption); (with_reducible assumption); (first | (with_reducible assumption) | omega); (first | (with_reducible assumption) | exact DataIn.mono (by assumption) (by walk_at "hsub")); walk_at "hkvo"))
  trivial
theorem Dis.lt {T news : List (Addr × Obj)} {D : Addr} (h : ∀ p ∈ T ++ news, p.1 < D) : ∀ p ∈ T, p.1 ≠ D := fun p hp => Nat.ne_of_lt (h p (List.mem_append_left _ hp))
section
variable {D : Nat} {i : Fn} {c : Cx w D i} {m : Fm} {nw : Led}
theorem Co.inS {x : Str} {u : Tok} {a : Addr} {its : List Value} {ys : List Str} {b : Bool} {K : Bool → Led → Prop} (ha : (a, tupO its) ∈ nw) (hi : StrsAre its ys) (hb : (ys.any fun y => y == x) = b) (hK : K b nw) : Co c m nw .In (.str x u) (.ref a) K :=
  ⟨fun h0 tk Q I hQ => in_tuple_strs (News.isTup I.N ha) hi (by rw [hb]; exact hQ _ _ _ _ I hK)⟩
end
theorem kw45 : True := by
  (k_with "m:hstrs" => (first | exact StrsAre.nil | ((apply StrsAre.cons); walk_at "hstrs")))
  (k_with "m:hco" => ((with_reducible apply Co.inS); walk_at "hmem"; walk_at "hstrs"; (first | exact (show _ = false from rfl) | exact (show _ = true from rfl) | exact rfl)))
  trivial
theorem decP_len {cs : List Int} : (decP cs).length ≤ 3 * cs.length := by rw [decP, ordGo_length]; simpa using flat_len expand expand_len cs
theorem decP_pos {cs : List Int} (h : ∀ c ∈ cs, 0 ≤ c) : ∀ c ∈ decP cs, 0 ≤ c := fun x hx => by
  obtain ⟨c, hc, hx⟩ := List.mem_flatMap.mp (N_mem.mp hx)
  exact expand_pos (h c hc) x hx
theorem c_of_dA (l : Addr) (its : List Value) (n : Nat) (cs : List Int) (d tp : Addr) (kv : Value) (tw : Tok) (vs : List Value) (hvs : vs = [.ref l, .ref d, .str (Str.ofString "nfd") tw, kv] ∨ (vs = [.ref l, .ref d, .str (Str.ofString "nfd") tw] ∧ kv = .none)) (T news : List (Addr × Obj)) (hT : LamL T) (hl : (l, lstO its n) ∈ news) (hi : IntsAre its cs) (hpos : ∀ c ∈ cs, 0 ≤ c) (hlen : cs.length < 16) (hD : DataIn w news d tp) (hdis : Dis T news) :
    ConC w 14 195 vs (T ++ news) (fun h₀ L m _ s Q => RetLT T (decP cs) h₀ L m news s Q) := by
  refine ConC.enterB [(Str.ofString "composer", kv), (Str.ofString "word", .str (Str.ofString "nfd") tw), (Str.ofString "data", .ref d), (Str.ofString "text", .ref l)] (by k_is) (by k_is) (fun _ X => by rcases hvs with rfl | ⟨rfl, rfl⟩ <;> exact binds_K X rfl (by k_is) rfl rfl rfl) rfl rfl rfl rfl rfl fun c2 hC hret => ?_
  walk_at "hgo"
  rename LamL _ => lT
  rename Dis _ (_ :: news) => dT
  rename IntsAre _ (decP _) => hi9
  exact fin_LT hret lT dT.tail hi9 (by walk_at "hsub") (by walk_at "hneR")
theorem c_of_d (l : Addr) (its : List Value) (n : Nat) (cs : List Int) (d tp : Addr) (kv : Value) (tw : Tok) (T news : List (Addr × Obj)) (hT : LamL T) (hl : (l, lstO its n) ∈ news) (hi : IntsAre its cs) (hpos : ∀ c ∈ cs, 0 ≤ c) (hlen : cs.length < 16) (hD : DataIn w news d tp) (hdis : Dis T news) :
    ConC w 14 195 [.ref l, .ref d, .str (Str.ofString "nfd") tw, kv] (T ++ news) (fun h₀ L m _ s Q => RetLT T (decP cs) h₀ L m news s Q) :=
  c_of_dA l its n cs d tp kv tw _ (.inl rfl) T news hT hl hi hpos hlen hD hdis
theorem c_of_cA (l : Addr) (its : List Value) (n : Nat) (cs : List Int) (d tp : Addr) (kv : Value) (tw : Tok) (vs : List Value) (hvs : vs = [.ref l, .ref d, .str (Str.ofString "nfc") tw, kv] ∨ (vs = [.ref l, .ref d, .str (Str.ofString "nfc") tw] ∧ kv = .none)) (T news : List (Addr × Obj)) (hT : LamL T) (hl : (l, lstO its n) ∈ news) (hi : IntsAre its cs) (hpos : ∀ c ∈ cs, 0 ≤ c) (hlen : cs.length < 16) (hD : DataIn w news d tp) (hK : KvOk w news kv) (hdis : Dis T news) :
    ConC w 22 195 vs (T ++ news) (fun h₀ L m _ s Q => RetLT T (compP (decP cs)) h₀ L m news s Q) := by
  have hp9 := decP_pos hpos
  have hl9 := decP_len (cs := cs)
  refine ConC.enterB [(Str.ofString "composer", kv), (Str.ofString "word", .str (Str.ofString "nfc") tw), (Str.ofString "data", .ref d), (Str.ofString "text", .ref l)] (by k_is) (by k_is) (fun _ X => by rcases hvs with rfl | ⟨rfl, rfl⟩ <;> exact binds_K X rfl (by k_is) rfl rfl rfl) rfl rfl rfl rfl rfl fun c2 hC hret => ?_
  walk_at "hgo"
  rename LamL _ => lT
  rename Dis _ (_ :: news) => dT
  rename IntsAre _ (compP _) => hi9
  exact fin_LT hret lT dT.tail hi9 (by walk_at "hsub") (by walk_at "hneR")
theorem c_of_c (l : Addr) (its : List Value) (n : Nat) (cs : List Int) (d tp : Addr) (kv : Value) (tw : Tok) (T news : List (Addr × Obj)) (hT : LamL T) (hl : (l, lstO its n) ∈ news) (hi : IntsAre its cs) (hpos : ∀ c ∈ cs, 0 ≤ c) (hlen : cs.length < 16) (hD : DataIn w news d tp) (hK : KvOk w news kv) (hdis : Dis T news) :
    ConC w 22 195 [.ref l, .ref d, .str (Str.ofString "nfc") tw, kv] (T ++ news) (fun h₀ L m _ s Q => RetLT T (compP (decP cs)) h₀ L m news s Q) :=
  c_of_cA l its n cs d tp kv tw _ (.inl rfl) T news hT hl hi hpos hlen hD hK hdis
section
variable {D : Nat} {i : Fn} {c : Cx w D i} {m : Fm} {nw : Led}
theorem Ca.ofd {K : Value → Led → Prop} {l d tp : Addr} {its : List Value} {n : Nat} {cs : List Int} {kv : Value} {tw : Tok} {T news r : Led} {g : Led → Led} (hC : CodeHd c.g 121 119) (S : Shf T news nw r g) (hD : Nat.ble 14 D = true) (hT : LamL T) (hl : (l, lstO its n) ∈ r) (hi : IntsAre its cs) (hpos : ∀ c ∈ cs, 0 ≤ c) (hlen : cs.length < 16) (hDt : DataIn w r d tp) (hdis : Dis T r)
    (hK : ∀ a its n T', LamL T' → Dis T' r → IntsAre its (decP cs) → (∀ p ∈ g T', p.1 ≠ a) → K (.ref a) ((a, lstO its n) :: g T')) : Ca c m nw (.ref 195) [.ref l, .ref d, .str (Str.ofString "nfd") tw, kv] K :=
  Ca.conT S hC (c_of_d l its n cs d tp kv tw T r hT hl hi hpos hlen hDt hdis) hD hK
theorem Ca.ofc {K : Value → Led → Prop} {l d tp : Addr} {its : List Value} {n : Nat} {cs : List Int} {kv : Value} {tw : Tok} {T news r : Led} {g : Led → Led} (hC : CodeHd c.g 121 119) (S : Shf T news nw r g) (hD : Nat.ble 22 D = true) (hT : LamL T) (hl : (l, lstO its n) ∈ r) (hi : IntsAre its cs) (hpos : ∀ c ∈ cs, 0 ≤ c) (hlen : cs.length < 16) (hDt : DataIn w r d tp) (hk : KvOk w r kv) (hdis : Dis T r)
    (hK : ∀ a its n T', LamL T' → Dis T' r → IntsAre its (compP (decP cs)) → (∀ p ∈ g T', p.1 ≠ a) → K (.ref a) ((a, lstO its n) :: g T')) : Ca c m nw (.ref 195) [.ref l, .ref d, .str (Str.ofString "nfc") tw, kv] K :=
  Ca.conT S hC (c_of_c l its n cs d tp kv tw T r hT hl hi hpos hlen hDt hk hdis) hD hK
theorem Ca.ofd3 {K : Value → Led → Prop} {l d tp : Addr} {its : List Value} {n : Nat} {cs : List Int} {tw : Tok} {T news r : Led} {g : Led → Led} (hC : CodeHd c.g 121 119) (S : Shf T news nw r g) (hD : Nat.ble 14 D = true) (hT : LamL T) (hl : (l, lstO its n) ∈ r) (hi : IntsAre its cs) (hpos : ∀ c ∈ cs, 0 ≤ c) (hlen : cs.length < 16) (hDt : DataIn w r d tp) (hdis : Dis T r)
    (hK : ∀ a its n T', LamL T' → Dis T' r → IntsAre its (decP cs) → (∀ p ∈ g T', p.1 ≠ a) → K (.ref a) ((a, lstO its n) :: g T')) : Ca c m nw (.ref 195) [.ref l, .ref d, .str (Str.ofString "nfd") tw] K :=
  Ca.conT S hC (c_of_dA l its n cs d tp .none tw _ (.inr ⟨rfl, rfl⟩) T r hT hl hi hpos hlen hDt hdis) hD hK
theorem Ca.ofc3 {K : Value → Led → Prop} {l d tp : Addr} {its : List Value} {n : Nat} {cs : List Int} {tw : Tok} {T news r : Led} {g : Led → Led} (hC : CodeHd c.g 121 119) (S : Shf T news nw r g) (hD : Nat.ble 22 D = true) (hT : LamL T) (hl : (l, lstO its n) ∈ r) (hi : IntsAre its cs) (hpos : ∀ c ∈ cs, 0 ≤ c) (hlen : cs.length < 16) (hDt : DataIn w r d tp) (hdis : Dis T r)
    (hK : ∀ a its n T', LamL T' → Dis T' r → IntsAre its (compP (decP cs)) → (∀ p ∈ g T', p.1 ≠ a) → K (.ref a) ((a, lstO its n) :: g T')) : Ca c m nw (.ref 195) [.ref l, .ref d, .str (Str.ofString "nfc") tw] K :=
  Ca.conT S hC (c_of_cA l its n cs d tp .none tw _ (.inr ⟨rfl, rfl⟩) T r hT hl hi hpos hlen hDt (.inr rfl) hdis) hD hK
end
theorem kw46 : True := by
  (k_with "m:hdt" => (first | (with_reducible assumption) | exact DataIn.mono (by assumption) (by walk_at "hsub")))
  (k_with "m:hom" => (first | (with_reducible assumption) | omega))
  (k_with "m:hca" => (first | ((with_reducible apply Ca.ofd); (with_reducible assumption); walk_at "hshf"; exact rfl; (with_reducible assumption); walk_at "hmem"; (with_reducible assumption); (with_reducible assumption); walk_at "hom"; walk_at "hdt"; walk_at "hdis") | ((with_reducible apply Ca.ofc); (with_reducible assumption); walk_at "hshf"; exact rfl; (with_reducible assumption); walk_at "hmem"; (with_reducible assumption); (with_reducible assumption); walk_at "hom"; walk_at "hdt"; walk_at "hkvo"; walk_at "hdis") | ((with_reducible apply Ca.ofd3); (with_reducible assumption); walk_at "hshf"; exact rfl; (with_reducible assumption); walk_at "hmem"; (with_reducible assumption); (with_reducible assumption); walk_at "hom"; walk_at "hdt"; walk_at "hdis") | ((with_reducible apply Ca.ofc3); (with_reducible assumption); walk_at "hshf"; exact rfl; (with_reducible assumption); walk_at "hmem"; (with_reducible assumption); (with_reducible assumption); walk_at "hom"; walk_at "hdt"; walk_at "hdis")))
  trivial
theorem Dis.ne {T news : List (Addr × Obj)} {D : Addr} (h : ∀ p ∈ T ++ news, p.1 ≠ D) : ∀ p ∈ T, p.1 ≠ D := fun p hp => h p (List.mem_append_left _ hp)
section
variable {D : Nat} {i : Fn} {c : Cx w D i} {m : Fm} {nw : Led}
theorem Cx.un64 (c : Cx w D i) : c.A.units + 64 < cLine := by have := c.hu; show c.un + 64 < cLine; omega
theorem isL {n : Led} {h₀ h : Heap} {L a : Addr} {its : List Value} {k : Nat} (N : News h₀ L h n) (ha : (a, lstO its k) ∈ n) : h.IsList a its.toArray := ⟨_, (N _ ha).1, rfl, k, rfl⟩
theorem Co.eqL {a b : Addr} {its jts : List Value} {n k : Nat} {ns ms : List Int} {K : Bool → Led → Prop} (ha : (a, lstO its n) ∈ nw) (hb : (b, lstO jts k) ∈ nw) (hi : IntsAre its ns) (hj : IntsAre jts ms) (hK : K (decide (ns = ms)) nw) : Co c m nw .Eq (.ref a) (.ref b) K :=
  ⟨fun h0 tk Q I hQ => eq_intsK (isL I.N ha) hi (isL I.N hb) hj c.un64 (hQ _ _ _ _ I hK)⟩
theorem Co.neL {a b : Addr} {its jts : List Value} {n k : Nat} {ns ms : List Int} {K : Bool → Led → Prop} (ha : (a, lstO its n) ∈ nw) (hb : (b, lstO jts k) ∈ nw) (hi : IntsAre its ns) (hj : IntsAre jts ms) (hK : K (!decide (ns = ms)) nw) : Co c m nw .NotEq (.ref a) (.ref b) K :=
  ⟨fun h0 tk Q I hQ => ne_intsK (isL I.N ha) hi (isL I.N hb) hj c.un64 (hQ _ _ _ _ I hK)⟩
end
theorem kw47 : True := by
  (k_with "m:hco" => (first | ((with_reducible apply Co.eqL); walk_at "hmem"; walk_at "hmem"; (first | (with_reducible assumption) | walk_at "hints"); (first | (with_reducible assumption) | walk_at "hints")) | ((with_reducible apply Co.neL); walk_at "hmem"; walk_at "hmem"; (first | (with_reducible assumption) | walk_at "hints"); (first | (with_reducible assumption) | walk_at "hints"))))
  trivial
theorem c_nfd (l : Addr) (its : List Value) (n : Nat) (cs : List Int) (d tp : Addr) (T news : List (Addr × Obj)) (hT : LamL T) (hl : (l, lstO its n) ∈ news) (hi : IntsAre its cs) (hpos : ∀ c ∈ cs, 0 ≤ c) (hlen : cs.length < 16) (hD : DataIn w news d tp) (hdis : Dis T news) :
    ConC w 16 202 [.ref l, .ref d] (T ++ news) (fun h₀ L m _ s Q => RetLT T (decP cs) h₀ L m news s Q) := by
  refine ConC.enterB [(Str.ofString "data", .ref d), (Str.ofString "text", .ref l)] (by k_is) (by k_is) (fun _ X => by first | exact BindsTo.of_eq rfl | exact binds_K X rfl (by k_is) rfl rfl rfl) rfl rfl rfl rfl rfl fun c2 hC hret => ?_
  walk_at "hgo"
  rename LamL _ => lT
  rename Dis _ news => dT
  rename IntsAre _ (decP _) => hi9
  exact fin_LT hret lT dT hi9 (by walk_at "hsub") (by walk_at "hneR")
theorem c_nfc (l : Addr) (its : List Value) (n : Nat) (cs : List Int) (d tp : Addr) (T news : List (Addr × Obj)) (hT : LamL T) (hl : (l, lstO its n) ∈ news) (hi : IntsAre its cs) (hpos : ∀ c ∈ cs, 0 ≤ c) (hlen : cs.length < 16) (hD : DataIn w news d tp) (hdis : Dis T news) :
    ConC w 24 209 [.ref l, .ref d] (T ++ news) (fun h₀ L m _ s Q => RetLT T (compP (decP cs)) h₀ L m news s Q) := by
  have hp9 := decP_pos hpos
  have hl9 := decP_len (cs := cs)
  have hk9 : KvOk w news .none := .inr rfl
  refine ConC.enterB [(Str.ofString "data", .ref d), (Str.ofString "text", .ref l)] (by k_is) (by k_is) (fun _ X => by first | exact BindsTo.of_eq rfl | exact binds_K X rfl (by k_is) rfl rfl rfl) rfl rfl rfl rfl rfl fun c2 hC hret => ?_
  walk_at "hgo"
  rename LamL _ => lT
  rename Dis _ news => dT
  rename IntsAre _ (compP _) => hi9
  exact fin_LT hret lT dT hi9 (by walk_at "hsub") (by walk_at "hneR")
noncomputable abbrev RetVT (R : Tok → Value) : RetT := fun h₀ L m news s Q => ∀ (t : Tok) (T' : List (Addr × Obj)) (h' : Heap) (tk' : Nat), LamL T' → Dis T' news → Fr h₀ L h' m → News h₀ L h' (T' ++ news) → Q (R t) { s with heap := h', toks := tk' }
theorem fin_VT {D : Nat} {i : Fn} {c : Cx w D i} {nw T' news : Led} {R : Tok → Value} {v : Value} (hret : RetVT R c.k.h c.k.L c.k.m news c.k.s c.k.Q) (t : Tok) (e : v = R t) (hT : LamL T') (hd : Dis T' news) (hs : ∀ p ∈ T' ++ news, p ∈ nw) : c.k.ret v nw := fun h' tk' F N => by
  subst e
  exact hret t T' h' tk' hT hd F (cb_drop N hs)
theorem c_equiv (l l2 : Addr) (its its2 : List Value) (n n2 : Nat) (cs cs2 : List Int) (d tp : Addr) (T news : List (Addr × Obj)) (hT : LamL T) (hl : (l, lstO its n) ∈ news) (hi : IntsAre its cs) (hpos : ∀ c ∈ cs, 0 ≤ c) (hlen : cs.length < 16)
    (hl2 : (l2, lstO its2 n2) ∈ news) (hi2 : IntsAre its2 cs2) (hpos2 : ∀ c ∈ cs2, 0 ≤ c) (hlen2 : cs2.length < 16) (hD : DataIn w news d tp) (hdis : Dis T news) :
    ConC w 24 240 [.ref l, .ref l2, .ref d] (T ++ news) (fun h₀ L m _ s Q => RetVT (fun _ => .bool (decide (decP cs = decP cs2))) h₀ L m news s Q) := by
  refine ConC.enterB [(Str.ofString "is_compat", .bool false), (Str.ofString "data", .ref d), (Str.ofString "other", .ref l2), (Str.ofString "one", .ref l)] (by k_is) (by k_is) (fun _ X => by first | exact BindsTo.of_eq rfl | exact binds_K X rfl (by k_is) rfl rfl rfl) rfl rfl rfl rfl rfl fun c2 hC hret => ?_
  walk_at "hgo"
  rename LamL _ => lT
  rename Dis _ (_ :: news) => dT
  exact fin_VT hret 0 rfl lT dT.tail (by walk_at "hsub")
noncomputable def fqd (c : Int) : String := if decP [c] = [c] then "yes" else "no"
noncomputable def fqc (c : Int) : String := if compP (decP [c]) = [c] then (if isSec ((expand c).getD 0 0) then "maybe" else "yes") else "no"
theorem fqc_m {c : Int} (h1 : compP (decP [c]) = [c]) (h2 : isSec ((expand c).getD (Int.toNat 0) 0) = true) : "maybe" = fqc c := by
  rw [fqc, if_pos h1, if_pos (show isSec ((expand c).getD 0 0) = true from h2)]
theorem fqc_y {c : Int} (h1 : compP (decP [c]) = [c]) (h2 : isSec ((expand c).getD (Int.toNat 0) 0) = false) : "yes" = fqc c := by
  rw [fqc, if_pos h1, if_neg (show ¬ isSec ((expand c).getD 0 0) = true from fun h => Bool.false_ne_true (h2.symm.trans h))]
theorem fqc_n {c : Int} (h1 : compP (decP [c]) ≠ [c]) : "no" = fqc c := by rw [fqc, if_neg h1]
theorem expand_len1 (c : Int) : 1 ≤ (expand c).length := by
  unfold expand
  split
  · split <;> simp
  · split <;> simp
theorem c_fq_d (c : Int) (t : Tok) (d tp k : Addr) (tw : Tok) (T news : List (Addr × Obj)) (hT : LamL T) (hc : 0 ≤ c) (hD : DataIn w news d tp) (hK : CompoIn w news k) (hdis : Dis T news) :
    ConC w 24 216 [.int c t, .ref d, .str (Str.ofString "nfd") tw, .ref k] (T ++ news) (fun h₀ L m _ s Q => RetVT (fun t => .str (Str.ofString (fqd c)) t) h₀ L m news s Q) := by
  have hi1 : IntsAre [.int c t] [c] := .cons _ _ .nil
  have hp1 : ∀ x ∈ [c], 0 ≤ x := fun x hx => by rw [List.mem_singleton.mp hx]; exact hc
  have hl1 : [c].length < 16 := Nat.le_of_ble_eq_true rfl
  have hx1 := expand_len1 c
  have hx2 := expand_len c
  have hK1 : KvOk w news (.ref k) := .inl ⟨k, rfl, hK⟩
  refine ConC.enterB [(Str.ofString "composer", .ref k), (Str.ofString "word", .str (Str.ofString "nfd") tw), (Str.ofString "data", .ref d), (Str.ofString "code", .int c t)] (by k_is) (by k_is) (fun _ X => by first | exact BindsTo.of_eq rfl | exact binds_K X rfl (by k_is) rfl rfl rfl) rfl rfl rfl rfl rfl fun c2 hC hret => ?_
  walk_at "hgo"
  · rename Dis _ ((_, lstO [Value.int c t] _) :: news) => dT
    rename LamL _ => lT
    rename decide (_ = [c]) = true => h1
    exact fin_VT hret _ (by rw [fqd, if_pos (of_decide_eq_true h1)]) lT dT.tail (by walk_at "hsub")
  · rename Dis _ ((_, lstO [Value.int c t] _) :: news) => dT
    rename LamL _ => lT
    rename decide (_ = [c]) = false => h1
    exact fin_VT hret _ (by rw [fqd, if_neg (of_decide_eq_false h1)]) lT dT.tail (by walk_at "hsub")
theorem c_fq_c (c : Int) (t : Tok) (d tp k : Addr) (tw : Tok) (T news : List (Addr × Obj)) (hT : LamL T) (hc : 0 ≤ c) (hD : DataIn w news d tp) (hK : CompoIn w news k) (hdis : Dis T news) :
    ConC w 24 216 [.int c t, .ref d, .str (Str.ofString "nfc") tw, .ref k] (T ++ news) (fun h₀ L m _ s Q => RetVT (fun t => .str (Str.ofString (fqc c)) t) h₀ L m news s Q) := by
  have hi1 : IntsAre [.int c t] [c] := .cons _ _ .nil
  have hp1 : ∀ x ∈ [c], 0 ≤ x := fun x hx => by rw [List.mem_singleton.mp hx]; exact hc
  have hl1 : [c].length < 16 := Nat.le_of_ble_eq_true rfl
  have hx1 := expand_len1 c
  have hx2 := expand_len c
  have hK1 : KvOk w news (.ref k) := .inl ⟨k, rfl, hK⟩
  refine ConC.enterB [(Str.ofString "composer", .ref k), (Str.ofString "word", .str (Str.ofString "nfc") tw), (Str.ofString "data", .ref d), (Str.ofString "code", .int c t)] (by k_is) (by k_is) (fun _ X => by first | exact BindsTo.of_eq rfl | exact binds_K X rfl (by k_is) rfl rfl rfl) rfl rfl rfl rfl rfl fun c2 hC hret => ?_
  walk_at "hgo"
  · rename Dis _ ((_, lstO [Value.int c t] _) :: news) => dT
    rename LamL _ => lT
    rename decide (_ = [c]) = true => h1
    rename isSec _ = true => h2
    exact fin_VT hret _ (congrArg (fun s => Value.str (Str.ofString s) _) (fqc_m (of_decide_eq_true h1) h2)) lT dT.tail (by walk_at "hsub")
  · rename Dis _ ((_, lstO [Value.int c t] _) :: news) => dT
    rename LamL _ => lT
    rename decide (_ = [c]) = true => h1
    rename isSec _ = false => h2
    exact fin_VT hret _ (congrArg (fun s => Value.str (Str.ofString s) _) (fqc_y (of_decide_eq_true h1) h2)) lT dT.tail (by walk_at "hsub")
  · rename Dis _ ((_, lstO [Value.int c t] _) :: news) => dT
    rename LamL _ => lT
    rename decide (_ = [c]) = false => h1
    exact fin_VT hret _ (congrArg (fun s => Value.str (Str.ofString s) _) (fqc_n (of_decide_eq_false h1))) lT dT.tail (by walk_at "hsub")
noncomputable abbrev RetVS (r : List (Addr × Obj)) (g : List (Addr × Obj) → List (Addr × Obj)) (R : Tok → Value) : RetT := fun h₀ L m news s Q => ∀ (t : Tok) (T' : List (Addr × Obj)) (h' : Heap) (tk' : Nat), LamL T' → Dis T' r → Fr h₀ L h' m → News h₀ L h' (g T') → Q (R t) { s with heap := h', toks := tk' }
theorem ConC.liftV {D : Nat} {f : Addr} {vs : List Value} {R : Tok → Value} {T news l r : List (Addr × Obj)} {g : List (Addr × Obj) → List (Addr × Obj)} (S : Shf T news l r g)
    (C : ConC w D f vs (T ++ r) (fun h₀ L m _ s Q => RetVT R h₀ L m r s Q)) : ConC w D f vs l (RetVS r g R) := by
  intro p loose mean mg mb dp un gd cn cs' a ccd cl outer A₀ base h₀ L m s Q E hC B F X N T' hk hd hu hret
  refine C p loose mean mg mb dp un gd cn cs' a ccd cl outer A₀ base h₀ L m s Q E hC B F X (cb_drop N S.sub) T' hk hd hu ?_
  intro t T2 h' tk' hT hdis F' N'
  exact hret t T2 h' tk' hT hdis F' (cb_drop N' fun p hp => S.sub' p hp)
theorem ConC.deep {D D' : Nat} {f : Addr} {vs : List Value} {news : List (Addr × Obj)} {R : RetT} (h : D ≤ D') (C : ConC w D f vs news R) : ConC w D' f vs news R := by
  intro p loose mean mg mb dp un gd cn cs' a ccd cl outer A₀ base h₀ L m s Q E hC B F X N T' hk hd hu hret
  exact C p loose mean mg mb dp un gd cn cs' a ccd cl outer A₀ base h₀ L m s Q E hC B F X N T' hk (by omega) (by omega) hret
noncomputable def quickP (fq : Int → Str) (acc : Str) (ah : Int) : List Int → Str
  | [] => acc
  | c :: r => if fq c = Str.ofString "no" ∨ (0 < cls c ∧ cls c < ah) then Str.ofString "no" else quickP fq (if fq c = Str.ofString "maybe" then Str.ofString "maybe" else acc) (cls c) r
/-- the contract of form_quick for one word -/
noncomputable def FqOk (w : World) (ws : Str) (fq : Int → Str) : Prop := ∀ (c : Int) (t : Tok) (d tp k : Addr) (tw : Tok) (T news : List (Addr × Obj)), LamL T → 0 ≤ c → DataIn w news d tp → CompoIn w news k → Dis T news →
    ConC w 24 216 [.int c t, .ref d, .str ws tw, .ref k] (T ++ news) (fun h₀ L m _ s Q => RetVT (fun t => .str (fq c) t) h₀ L m news s Q)
theorem qk_f {x y : Str} {P : Prop} (h : (x == y) = false) (h2 : ¬ P) : ¬ (x = y ∨ P) := fun q => q.elim (ne_of_beq_false h) h2
theorem dis4 {T news : List (Addr × Obj)} {kx k pd sd : Addr} {o1 o2 o3 o4 : Obj} (hl : ∀ p ∈ T ++ news, p.1 < kx) (h1 : kx < k) (h2 : k < pd) (h3 : pd < sd) (hd : Dis T news) : Dis T ((sd, o1) :: (pd, o2) :: (k, o3) :: (kx, o4) :: news) :=
  have l0 : ∀ p ∈ T, p.1 < kx := fun p hp => hl p (List.mem_append_left _ hp)
  .cons (fun p hp => Nat.ne_of_lt (Nat.lt_trans (Nat.lt_trans (Nat.lt_trans (l0 p hp) h1) h2) h3)) (.cons (fun p hp => Nat.ne_of_lt (Nat.lt_trans (Nat.lt_trans (l0 p hp) h1) h2)) (.cons (fun p hp => Nat.ne_of_lt (Nat.lt_trans (l0 p hp) h1)) (.cons (fun p hp => Nat.ne_of_lt (l0 p hp)) hd)))
theorem memPerm4 {a b c d : Addr × Obj} {T news : List (Addr × Obj)} : ∀ p ∈ T ++ (a :: b :: c :: d :: news), p ∈ a :: b :: c :: d :: (T ++ news) := fun p hp => by
  simp only [List.mem_append, List.mem_cons] at hp ⊢
  rcases hp with h | h | h | h | h | h <;> simp [h]
theorem appSub {T l l' : List (Addr × Obj)} (h : ∀ p ∈ l, p ∈ l') : ∀ p ∈ T ++ l, p ∈ T ++ l' := fun p hp => (List.mem_append.mp hp).elim (List.mem_append_left _) fun q => List.mem_append_right _ (h p q)
section
variable {D : Nat} {i : Fn} {c : Cx w D i} {m : Fm} {nw : Led}
theorem Ca.conV {f : Addr} {vs : List Value} {K : Value → Led → Prop} {D' : Nat} {R : Tok → Value} {T news r : Led} {g : Led → Led} (S : Shf T news nw r g) (hC : CodeHd c.g 121 119) (C : ConC w D' f vs (T ++ r) (fun h₀ L m _ s Q => RetVT R h₀ L m r s Q)) (hD : Nat.ble D' D = true)
    (hK : ∀ t T', LamL T' → Dis T' r → K (R t) (g T')) : Ca c m nw (.ref f) vs K :=
  Ca.conC hC (ConC.liftV S C) hD fun _ _ _ hQ t T' h' tk' hT hd F N => hQ _ _ _ _ F N (hK t T' hT hd)
theorem Ca.fq {n : Int} {t tw : Tok} {d tp k : Addr} {ws : Str} {fq : Int → Str} {K : Value → Led → Prop} {T news r : Led} {g : Led → Led} (hq : FqOk w ws fq) (hC : CodeHd c.g 121 119) (S : Shf T news nw r g) (hD : Nat.ble 24 D = true) (hT : LamL T) (hn : 0 ≤ n) (hDt : DataIn w r d tp) (hk : CompoIn w r k) (hdis : Dis T r)
    (hK : ∀ t T', LamL T' → Dis T' r → K (.str (fq n) t) (g T')) : Ca c m nw (.ref 216) [.int n t, .ref d, .str ws tw, .ref k] K :=
  Ca.conV S hC (hq n t d tp k tw T r hT hn hDt hk hdis) hD hK
theorem Ca.compoT {d tp : Addr} {T news : Led} {K : Value → Led → Prop} (hd : Nat.ble 11 D = true) (hD : DataIn w news d tp) (hdis : Dis T news) (hK : ∀ k nw', CompoIn w nw' k → (∀ p ∈ news, p ∈ nw') → Dis T nw' → K (.ref k) (T ++ nw')) : Ca c m (T ++ news) (.ref 175) [.ref d] K :=
  Ca.con (c_compo d tp news (T ++ news) hD fun _ h => List.mem_append_right _ h) hd fun _ _ _ hQ k kx pd sd op os t1 t2 h' tk' hC F N l1 l2 l3 l4 => hQ _ _ _ _ F (cb_drop N memPerm4) (hK k _ hC (fun p hp => .tail _ (.tail _ (.tail _ (.tail _ hp)))) (dis4 l1 l2 l3 l4 hdis))
end
theorem kw48 : True := by
  (k_with "m:hca" => (first | ((with_reducible apply Ca.fq); (with_reducible assumption); (with_reducible assumption); walk_at "hshf"; exact rfl; (with_reducible assumption); walk_at "hom"; walk_at "hdt"; walk_at "hco9"; walk_at "hdis") | ((with_reducible apply Ca.compoT); exact rfl; (with_reducible assumption); (with_reducible assumption))))
  trivial
noncomputable abbrev qcF (k d l : Addr) (ws : Str) (tw : Tok) (fs : Str) (ft : Tok) (ah : Int) (at1 : Tok) (u v p : Option Value) : Fm := [(Str.ofString "composer", some (.ref k)), (Str.ofString "word", some (.str ws tw)), (Str.ofString "data", some (.ref d)), (Str.ofString "text", some (.ref l)), (Str.ofString "found", some (.str fs ft)), (Str.ofString "ahead", some (.int ah at1)), (Str.ofString "code", u), (Str.ofString "weight", v), (Str.ofString "told", p)]
inductive QcJ (fq : Int → Str) (nw : Led) (k d l : Addr) (ws : Str) (tw : Tok) (cs : List Int) (i : Nat) (m : Fm) (n : Led) : Prop
  | mk (fs : Str) (ft : Tok) (ah : Int) (at1 : Tok) (u v p : Option Value) (T : Led) : ((∀ y, lk m y = lk (qcF k d l ws tw fs ft ah at1 u v p) y)) → (n = T ++ nw) → (LamL T) → (Dis T nw) → (quickP fq fs ah (cs.drop i) = quickP fq (Str.ofString "yes") 0 cs) → QcJ fq nw k d l ws tw cs i m n
theorem QcJ.ex {fq : Int → Str} {nw : Led} {k d l : Addr} {ws : Str} {tw : Tok} {cs : List Int} {i : Nat} {m : Fm} {n : Led} (h : QcJ fq nw k d l ws tw cs i m n) : QcJ fq nw k d l ws tw cs i m n := h
theorem QcJ.fin {fq : Int → Str} {nw T' : Led} {k d l I : Addr} {it : Obj} {ws : Str} {tw : Tok} {cs : List Int} {i : Nat} {m2 : Fm} {fs fs' : Str} {ft at1 : Tok} {ah c : Int} {u v p : Option Value} (h : quickP fq fs ah (cs.drop i) = quickP fq (Str.ofString "yes") 0 cs) (hc : cs[i]? = some c) (hn : ¬ (fq c = Str.ofString "no" ∨ (0 < cls c ∧ cls c < ah))) (e : fs' = if fq c = Str.ofString "maybe" then Str.ofString "maybe" else fs) (hm : ∀ y, lk m2 y = lk (qcF k d l ws tw fs' ft (cls c) at1 u v p) y) (hT : LamL T') (hd : Dis T' ((I, it) :: nw)) (hI : ∀ p ∈ nw, p.1 ≠ I) : Kf I it (QcJ fq nw k d l ws tw cs (i + 1)) m2 ((I, it) :: (T' ++ nw)) :=
  Kf.mk' (n' := T' ++ nw) ⟨_, _, _, _, _, _, _, _, hm, rfl, hT, hd.tail, by subst e; rw [← h, drop_at hc, quickP, if_neg hn]⟩ (sub_t sub_r) (.head _) (ne_app hd.head hI)
theorem c_qcA (ws : Str) (fq : Int → Str) (hfq : FqOk w ws fq) (l : Addr) (its : List Value) (n : Nat) (cs : List Int) (d tp : Addr) (kv : Value) (tw : Tok) (vs : List Value) (hvs : vs = [.ref l, .ref d, .str ws tw, kv] ∨ (vs = [.ref l, .ref d, .str ws tw] ∧ kv = .none)) (T news : List (Addr × Obj)) (hT : LamL T) (hl : (l, lstO its n) ∈ news) (hi : IntsAre its cs) (hpos : ∀ c ∈ cs, 0 ≤ c) (hD : DataIn w news d tp) (hK : KvOk w news kv) (hdis : Dis T news) :
    ConC w 30 224 vs (T ++ news) (fun h₀ L m _ s Q => RetVT (fun t => .str (quickP fq (Str.ofString "yes") 0 cs) t) h₀ L m news s Q) := by
  refine ConC.enterB [(Str.ofString "composer", kv), (Str.ofString "word", .str ws tw), (Str.ofString "data", .ref d), (Str.ofString "text", .ref l)] (by k_is) (by k_is) (fun _ X => by rcases hvs with rfl | ⟨rfl, rfl⟩ <;> exact binds_K X rfl (by k_is) rfl rfl rfl) rfl rfl rfl rfl rfl fun c2 hC hret => ?_
  refine St.asg rfl (fun _ => rfl) (Ex.mono (K' := fun v n => ∃ k nw, v = .ref k ∧ n = T ++ nw ∧ CompoIn w nw k ∧ (∀ p ∈ news, p ∈ nw) ∧ Dis T nw) ?_ fun v n9 hv => ?_)
  · rcases hK with ⟨k, rfl, hC⟩ | rfl
    · walk_at "hgo"
      exact ⟨k, news, rfl, rfl, hC, fun p hp => hp, hdis⟩
    · walk_at "hgo"
      exact ⟨_, _, rfl, rfl, by assumption, by assumption, by assumption⟩
  obtain ⟨k, nw, rfl, rfl, hCo, hsub, hdis2⟩ := hv
  replace hl := hsub _ hl
  replace hD := hD.mono hsub
  have hl0 : (l, lstO its n) ∈ T ++ nw := List.mem_append_right _ hl
  clear hK hdis
  walk_at "hgo"
  refine ForP.mk' (vs := its) (o := lstO its n) (QcJ fq nw k d l ws tw cs) .li (fun i m1 n1 hJ => ?_) ⟨_, _, _, _, none, none, none, T, fun y => lk_padF y [Str.ofString "code", Str.ofString "weight", Str.ofString "told"] _, rfl, hT, hdis2, rfl⟩ (fun I it i v m1 n1 hv hJ hne => ?_) (fun m1 n1 u9 hJ => ?_)
  · obtain ⟨fs, ft, ah, at1, u, v, p, T1, hm, rfl, hT1, hd1, hq⟩ := hJ.ex
    exact List.mem_append_right _ hl
  · obtain ⟨fs, ft, ah, at1, u, v, p, T1, hm, rfl, hT1, hd1, hq⟩ := hJ.ex
    obtain ⟨c, t0, hc, rfl⟩ := ints_at hi hv
    have hc0 : 0 ≤ c := hpos c (List.mem_of_getElem? hc)
    have hTI := Dis.ne hne
    have hIn : ∀ p ∈ nw, p.1 ≠ I := fun p hp => hne p (List.mem_append_right _ hp)
    refine St.frE (lk_set hm rfl) ?_
    clear hm
    walk_at "hif"
    refine St.if (Tx.cj (fq c = Str.ofString "no" ∨ (0 < cls c ∧ cls c < ah)) ?_ (fun hP => ?_) (fun hP => ?_))
    · walk_at "hgo"
      all_goals first
        | exact Cj.t (.inl (eq_of_beq (by assumption)))
        | exact Cj.t (.inr ⟨by assumption, by assumption⟩)
        | exact Cj.f (qk_f (by assumption) (by omega))
    · walk_at "hgo"
      rename LamL _ => lT
      rename Dis _ (_ :: nw) => dT
      exact fin_VT hret _ (congrArg (fun s => Value.str s _) (by rw [← hq, drop_at hc, quickP, if_pos hP])) lT (dT.tail.sub hsub) (sub_t (appSub hsub))
    · walk_at "hgo"
      · rename LamL _ => lT
        rename Dis _ (_ :: nw) => dT
        exact QcJ.fin hq hc hP ((if_pos (eq_of_beq (by assumption))).symm) (fun _ => rfl) lT dT hIn
      · rename LamL _ => lT
        rename Dis _ (_ :: nw) => dT
        exact QcJ.fin hq hc hP ((if_neg (ne_of_beq_false (by assumption))).symm) (fun _ => rfl) lT dT hIn
  · obtain ⟨fs, ft, ah, at1, u, v, p, T1, hm, rfl, hT1, hd1, hq⟩ := hJ.ex
    rw [hi.length, List.drop_length, quickP] at hq
    refine St.frE (lk_set hm rfl) ?_
    clear hm
    walk_at "hgo"
    exact fin_VT hret _ (congrArg (fun s => Value.str s _) hq) hT1 (hd1.sub hsub) (appSub hsub)
theorem c_qc (ws : Str) (fq : Int → Str) (hfq : FqOk w ws fq) (l : Addr) (its : List Value) (n : Nat) (cs : List Int) (d tp : Addr) (kv : Value) (tw : Tok) (T news : List (Addr × Obj)) (hT : LamL T) (hl : (l, lstO its n) ∈ news) (hi : IntsAre its cs) (hpos : ∀ c ∈ cs, 0 ≤ c) (hD : DataIn w news d tp) (hK : KvOk w news kv) (hdis : Dis T news) :
    ConC w 30 224 [.ref l, .ref d, .str ws tw, kv] (T ++ news) (fun h₀ L m _ s Q => RetVT (fun t => .str (quickP fq (Str.ofString "yes") 0 cs) t) h₀ L m news s Q) :=
  c_qcA ws fq hfq l its n cs d tp kv tw _ (.inl rfl) T news hT hl hi hpos hD hK hdis
section
variable {D : Nat} {i : Fn} {c : Cx w D i} {m : Fm} {nw : Led}
theorem Ca.qc {ws : Str} {fq : Int → Str} {l d tp : Addr} {its : List Value} {n : Nat} {cs : List Int} {kv : Value} {tw : Tok} {K : Value → Led → Prop} {T news r : Led} {g : Led → Led} (hfq : FqOk w ws fq) (hC : CodeHd c.g 121 119) (S : Shf T news nw r g) (hd : Nat.ble 30 D = true) (hT : LamL T) (hl : (l, lstO its n) ∈ r) (hi : IntsAre its cs) (hpos : ∀ c ∈ cs, 0 ≤ c) (hDt : DataIn w r d tp) (hk : KvOk w r kv) (hdis : Dis T r)
    (hK : ∀ t T', LamL T' → Dis T' r → K (.str (quickP fq (Str.ofString "yes") 0 cs) t) (g T')) : Ca c m nw (.ref 224) [.ref l, .ref d, .str ws tw, kv] K :=
  Ca.conV S hC (c_qc ws fq hfq l its n cs d tp kv tw T r hT hl hi hpos hDt hk hdis) hd hK
theorem Ca.qc3 {ws : Str} {fq : Int → Str} {l d tp : Addr} {its : List Value} {n : Nat} {cs : List Int} {tw : Tok} {K : Value → Led → Prop} {T news r : Led} {g : Led → Led} (hfq : FqOk w ws fq) (hC : CodeHd c.g 121 119) (S : Shf T news nw r g) (hd : Nat.ble 30 D = true) (hT : LamL T) (hl : (l, lstO its n) ∈ r) (hi : IntsAre its cs) (hpos : ∀ c ∈ cs, 0 ≤ c) (hDt : DataIn w r d tp) (hdis : Dis T r)
    (hK : ∀ t T', LamL T' → Dis T' r → K (.str (quickP fq (Str.ofString "yes") 0 cs) t) (g T')) : Ca c m nw (.ref 224) [.ref l, .ref d, .str ws tw] K :=
  Ca.conV S hC (c_qcA ws fq hfq l its n cs d tp .none tw _ (.inr ⟨rfl, rfl⟩) T r hT hl hi hpos hDt (.inr rfl) hdis) hd hK
end
theorem kw49 : True := by
  (k_with "m:hca" => (first | ((with_reducible apply Ca.qc); (with_reducible assumption); (with_reducible assumption); walk_at "hshf"; exact rfl; (with_reducible assumption); walk_at "hmem"; (with_reducible assumption); (with_reducible assumption); walk_at "hdt"; walk_at "hkvo"; walk_at "hdis") | ((with_reducible apply Ca.qc3); (with_reducible assumption); (with_reducible assumption); walk_at "hshf"; exact rfl; (with_reducible assumption); walk_at "hmem"; (with_reducible assumption); (with_reducible assumption); walk_at "hdt"; walk_at "hdis")))
  trivial
theorem c_qc3 (ws : Str) (fq : Int → Str) (hfq : FqOk w ws fq) (l : Addr) (its : List Value) (n : Nat) (cs : List Int) (d tp : Addr) (tw : Tok) (T news : List (Addr × Obj)) (hT : LamL T) (hl : (l, lstO its n) ∈ news) (hi : IntsAre its cs) (hpos : ∀ c ∈ cs, 0 ≤ c) (hD : DataIn w news d tp) (hdis : Dis T news) :
    ConC w 30 224 [.ref l, .ref d, .str ws tw] (T ++ news) (fun h₀ L m _ s Q => RetVT (fun t => .str (quickP fq (Str.ofString "yes") 0 cs) t) h₀ L m news s Q) :=
  c_qcA ws fq hfq l its n cs d tp .none tw _ (.inr ⟨rfl, rfl⟩) T news hT hl hi hpos hD (.inr rfl) hdis
/-- the contract of form_of for one word -/
noncomputable def FoOk (w : World) (ws : Str) (fo : List Int → List Int) : Prop := ∀ (l : Addr) (its : List Value) (n : Nat) (cs : List Int) (d tp : Addr) (kv : Value) (tw : Tok) (T news : List (Addr × Obj)), LamL T → (l, lstO its n) ∈ news → IntsAre its cs → (∀ c ∈ cs, 0 ≤ c) → cs.length < 16 → DataIn w news d tp → KvOk w news kv → Dis T news →
    ConC w 24 195 [.ref l, .ref d, .str ws tw, kv] (T ++ news) (fun h₀ L m _ s Q => RetLT T (fo cs) h₀ L m news s Q)
noncomputable def isfP (fq : Int → Str) (fo : List Int → List Int) (cs : List Int) : Bool :=
  decide (quickP fq (Str.ofString "yes") 0 cs = Str.ofString "yes" ∨ (quickP fq (Str.ofString "yes") 0 cs = Str.ofString "maybe" ∧ fo cs = cs))
section
variable {fq : Int → Str} {fo : List Int → List Int} {cs : List Int}
theorem isf_1 (h : (quickP fq (Str.ofString "yes") 0 cs == Str.ofString "yes") = true) : (quickP fq (Str.ofString "yes") 0 cs == Str.ofString "yes") = isfP fq fo cs := by
  rw [h]; exact (decide_eq_true (.inl (eq_of_beq h))).symm
theorem isf_2 (h : (quickP fq (Str.ofString "yes") 0 cs == Str.ofString "yes") = false) (h2 : (quickP fq (Str.ofString "yes") 0 cs == Str.ofString "maybe") = true) : decide (fo cs = cs) = isfP fq fo cs := by
  have h1 := ne_of_beq_false h
  have h3 := eq_of_beq h2
  unfold isfP
  rw [decide_eq_decide]
  exact ⟨fun e => .inr ⟨h3, e⟩, fun e => e.elim (fun q => (h1 q).elim) (·.2)⟩
theorem isf_3 (h : (quickP fq (Str.ofString "yes") 0 cs == Str.ofString "yes") = false) (h2 : (quickP fq (Str.ofString "yes") 0 cs == Str.ofString "maybe") = false) : (quickP fq (Str.ofString "yes") 0 cs == Str.ofString "maybe") = isfP fq fo cs := by
  rw [h2]
  exact (decide_eq_false fun e => e.elim (ne_of_beq_false h) fun q => ne_of_beq_false h2 q.1).symm
end
theorem lx_copy {prog : Program} {A : Around} {E : Value → Shared → Prop} {s : Shared} {h₀ : Heap} {L l : Addr} {m : Str → Option Value} {news : List (Addr × Obj)} {its : List Value} {n : Nat} {Q : Value → Shared → Prop} (F : Fr h₀ L s.heap m) (N : News h₀ L s.heap news) (hm : (l, lstO its n) ∈ news) (hz : its.length ≤ 400)
    (h : ∀ D c h', Fr h₀ L h' m → News h₀ L h' ((D, lstO its c) :: news) → (∀ q ∈ news, q.1 < D) → Q (.ref D) { s with heap := h' }) : wpAny (model prog w) A (call (.type "list") [.ref l]) Q E s :=
  list_copyK F N (items := its.toArray) ⟨_, (N _ hm).1, rfl, n, rfl⟩ h (by rw [List.size_toArray, sizeLine_eq]; omega)
section
variable {D : Nat} {i : Fn} {c : Cx w D i} {m : Fm} {nw : Led}
theorem Ca.copy {l : Addr} {its : List Value} {n : Nat} {K : Value → Led → Prop} (hm : (l, lstO its n) ∈ nw) (hz : its.length ≤ 400) (hK : ∀ a k, (∀ p ∈ nw, p.1 < a) → K (.ref a) ((a, lstO its k) :: nw)) : Ca c m nw (.type "list") [.ref l] K :=
  ⟨fun h tk Q I hQ => lx_copy I.F I.N hm hz fun a k h' F' N' l => hQ _ _ _ _ ⟨F', N'⟩ (hK a k l)⟩
theorem Ca.fo {ws : Str} {fo : List Int → List Int} {l d tp : Addr} {its : List Value} {n : Nat} {cs : List Int} {kv : Value} {tw : Tok} {K : Value → Led → Prop} {T news r : Led} {g : Led → Led} (hfo : FoOk w ws fo) (hC : CodeHd c.g 121 119) (S : Shf T news nw r g) (hd : Nat.ble 24 D = true) (hT : LamL T) (hl : (l, lstO its n) ∈ r) (hi : IntsAre its cs) (hpos : ∀ c ∈ cs, 0 ≤ c) (hlen : cs.length < 16) (hDt : DataIn w r d tp) (hk : KvOk w r kv) (hdis : Dis T r)
    (hK : ∀ a its n T', LamL T' → Dis T' r → IntsAre its (fo cs) → (∀ p ∈ g T', p.1 ≠ a) → K (.ref a) ((a, lstO its n) :: g T')) : Ca c m nw (.ref 195) [.ref l, .ref d, .str ws tw, kv] K :=
  Ca.conT S hC (hfo l its n cs d tp kv tw T r hT hl hi hpos hlen hDt hk hdis) hd hK
end
theorem kw50 : True := by
  (k_with "m:hca" => (first | ((with_reducible apply Ca.copy); walk_at "hmem"; walk_at "hom") | ((with_reducible apply Ca.fo); (with_reducible assumption); (with_reducible assumption); walk_at "hshf"; exact rfl; (with_reducible assumption); walk_at "hmem"; (with_reducible assumption); (with_reducible assumption); walk_at "hom"; walk_at "hdt"; walk_at "hkvo"; walk_at "hdis")))
  trivial
theorem c_isf (ws : Str) (fq : Int → Str) (fo : List Int → List Int) (hfq : FqOk w ws fq) (hfo : FoOk w ws fo) (l : Addr) (its : List Value) (n : Nat) (cs : List Int) (d tp : Addr) (tw : Tok) (T news : List (Addr × Obj)) (hT : LamL T) (hl : (l, lstO its n) ∈ news) (hi : IntsAre its cs) (hpos : ∀ c ∈ cs, 0 ≤ c) (hlen : cs.length < 16) (hD : DataIn w news d tp) (hdis : Dis T news) :
    ConC w 33 232 [.ref l, .ref d, .str ws tw] (T ++ news) (fun h₀ L m _ s Q => RetVT (fun _ => .bool (isfP fq fo cs)) h₀ L m news s Q) := by
  refine ConC.enterB [(Str.ofString "composer", .none), (Str.ofString "word", .str ws tw), (Str.ofString "data", .ref d), (Str.ofString "text", .ref l)] (by k_is) (by k_is) (fun _ X => binds_K X rfl (by k_is) rfl rfl rfl) rfl rfl rfl rfl rfl fun c2 hC hret => ?_
  refine St.asg rfl (fun _ => rfl) (Ex.mono (K' := fun v n => ∃ k nw, v = .ref k ∧ n = T ++ nw ∧ CompoIn w nw k ∧ (∀ p ∈ news, p ∈ nw) ∧ Dis T nw) ?_ fun v n9 hv => ?_)
  · walk_at "hgo"
    exact ⟨_, _, rfl, rfl, by assumption, by assumption, by assumption⟩
  obtain ⟨k, nw, rfl, rfl, hCo, hsub, hdis2⟩ := hv
  replace hl := hsub _ hl
  replace hD := hD.mono hsub
  have hK1 : KvOk w nw (.ref k) := .inl ⟨k, rfl, hCo⟩
  clear hdis
  have hlz : its.length ≤ 400 := by rw [hi.length]; omega
  walk_at "hgo"
  · rename LamL _ => lT
    rename Dis _ nw => dT
    exact fin_VT hret 0 (congrArg Value.bool (isf_1 (by assumption))) lT (dT.sub hsub) (appSub hsub)
  · rename LamL _ => lT
    rename Dis _ nw => dT
    exact fin_VT hret 0 (congrArg Value.bool (isf_2 (by assumption) (by assumption))) lT (dT.sub hsub) (sub_t (sub_t (appSub hsub)))
  · rename LamL _ => lT
    rename Dis _ nw => dT
    exact fin_VT hret 0 (congrArg Value.bool (isf_3 (by assumption) (by assumption))) lT (dT.sub hsub) (appSub hsub)
section
variable {D : Nat} {i : Fn} {c : Cx w D i} {m : Fm} {nw : Led}
theorem Ca.isf {ws : Str} {fq : Int → Str} {fo : List Int → List Int} {l d tp : Addr} {its : List Value} {n : Nat} {cs : List Int} {tw : Tok} {K : Value → Led → Prop} {T news r : Led} {g : Led → Led} (hfq : FqOk w ws fq) (hfo : FoOk w ws fo) (hC : CodeHd c.g 121 119) (S : Shf T news nw r g) (hd : Nat.ble 33 D = true) (hT : LamL T) (hl : (l, lstO its n) ∈ r) (hi : IntsAre its cs) (hpos : ∀ c ∈ cs, 0 ≤ c) (hlen : cs.length < 16) (hDt : DataIn w r d tp) (hdis : Dis T r)
    (hK : ∀ (_ : Tok) T', LamL T' → Dis T' r → K (.bool (isfP fq fo cs)) (g T')) : Ca c m nw (.ref 232) [.ref l, .ref d, .str ws tw] K :=
  Ca.conV S hC (c_isf ws fq fo hfq hfo l its n cs d tp tw T r hT hl hi hpos hlen hDt hdis) hd hK
end
noncomputable def ckind (c : Int) : String := if isMark c then "Extend" else (hkind c).getD "Other"
noncomputable def joinsS (x y : Str) : Bool := if x = Str.ofString "L" then [Str.ofString "L", Str.ofString "V", Str.ofString "LV", Str.ofString "LVT"].any (fun z => z == y)
  else if ([Str.ofString "LV", Str.ofString "V"].any (fun z => z == x)) = true then [Str.ofString "V", Str.ofString "T"].any (fun z => z == y)
  else ([Str.ofString "LVT", Str.ofString "T"].any (fun z => z == x)) && (y == Str.ofString "T")
theorem c_gcbM (d tp : Addr) (tn : Tok) (c : Int) (t : Tok) (news : List (Addr × Obj)) (hD : DataIn w news d tp) (hc : 0 ≤ c) (h : isMark c = true) : Con w 5 409 [.ref d, .str (Str.ofString "gcb") tn, .int c t] news (RetV fun t => .str (Str.ofString "Extend") t) :=
  (c_gcb d tp tn c t news hD hc).mono fun h₀ L m s Q hR => by rw [if_pos h]; exact hR
theorem c_gcbO (d tp : Addr) (tn : Tok) (c : Int) (t : Tok) (news : List (Addr × Obj)) (hD : DataIn w news d tp) (hc : 0 ≤ c) (h : isMark c = false) : Con w 5 409 [.ref d, .str (Str.ofString "gcb") tn, .int c t] news (RetV fun t => .str (Str.ofString "Other") t) :=
  (c_gcb d tp tn c t news hD hc).mono fun h₀ L m s Q hR => by rw [if_neg (by rw [h]; exact Bool.false_ne_true)]; exact hR
theorem c_hkS (n : Int) (t : Tok) (news : List (Addr × Obj)) (hn : n < 5000 ∨ 44032 ≤ n) (x : String) (h : hkind n = some x) : Con w 2 96 [.int n t] news (RetV fun t => .str (Str.ofString x) t) :=
  (c_hkind n t news hn).mono fun h₀ L m s Q hR => by rw [h]; exact hR
theorem c_hkN (n : Int) (t : Tok) (news : List (Addr × Obj)) (hn : n < 5000 ∨ 44032 ≤ n) (h : hkind n = none) : Con w 2 96 [.int n t] news (RetV fun _ => .none) :=
  (c_hkind n t news hn).mono fun h₀ L m s Q hR => by rw [h]; exact hR
section
variable {D : Nat} {i : Fn} {c : Cx w D i} {m : Fm} {nw : Led}
theorem Ca.gcbM {n : Int} {t tn : Tok} {d tp : Addr} {K : Value → Led → Prop} (h : isMark n = true) (hd : Nat.ble 5 D = true) (hD : DataIn w nw d tp) (hn : 0 ≤ n) (hK : ∀ t, K (.str (Str.ofString "Extend") t) nw) : Ca c m nw (.ref 409) [.ref d, .str (Str.ofString "gcb") tn, .int n t] K := Ca.V (c_gcbM d tp tn n t nw hD hn h) hd hK
theorem Ca.gcbO {n : Int} {t tn : Tok} {d tp : Addr} {K : Value → Led → Prop} (h : isMark n = false) (hd : Nat.ble 5 D = true) (hD : DataIn w nw d tp) (hn : 0 ≤ n) (hK : ∀ t, K (.str (Str.ofString "Other") t) nw) : Ca c m nw (.ref 409) [.ref d, .str (Str.ofString "gcb") tn, .int n t] K := Ca.V (c_gcbO d tp tn n t nw hD hn h) hd hK
theorem Ca.hkS {n : Int} {t : Tok} {x : String} {K : Value → Led → Prop} (h : hkind n = some x) (hd : Nat.ble 2 D = true) (hn : n < 5000 ∨ 44032 ≤ n) (hK : ∀ t, K (.str (Str.ofString x) t) nw) : Ca c m nw (.ref 96) [.int n t] K := Ca.V (c_hkS n t nw hn x h) hd hK
theorem Ca.hkN {n : Int} {t : Tok} {K : Value → Led → Prop} (h : hkind n = none) (hd : Nat.ble 2 D = true) (hn : n < 5000 ∨ 44032 ≤ n) (hK : ∀ _ : Tok, K .none nw) : Ca c m nw (.ref 96) [.int n t] K := Ca.V (c_hkN n t nw hn h) hd hK
theorem Ex.gl {x : Str} {px : Pos} {v : Value} {K : Value → Led → Prop} (hg : nameGlobal i.scope x = true) (hv : nsIn (hd.heap_1 w.params) mainGlobals x = some (some v)) (hK : K v nw) : Ex c m nw (.Name x px) K := by
  refine ⟨fun h0 tk Q I hQ => ?_⟩
  simp only [nameGlobal, Bool.and_eq_true, beq_iff_eq, Bool.not_eq_true'] at hg
  exact nameX_K I.F c.X c.tr hv (hQ _ _ _ _ I hK) hg.1 hg.2.1 hg.2.2
/-- a text in a tuple of the module -/
theorem Co.inG {x : Str} {u : Tok} {a : Addr} {vs : Array Value} {n : Nat} {ys : List Str} {b : Bool} {K : Bool → Led → Prop} {o : Obj} (ho : List.lookup a (hd.heap_1 w.params) = some o) (h1 : o.cls = .type "tuple") (h2 : o.data = .seq vs n) (hi : StrsAre vs.toList ys) (hb : (ys.any fun y => y == x) = b) (hK : K b nw) : Co c m nw .In (.str x u) (.ref a) K :=
  ⟨fun h0 tk Q I hQ => in_tuple_strs ⟨o, (c.X.keeps I.F.keep) _ _ ho, h1, n, h2⟩ hi (by rw [hb]; exact hQ _ _ _ _ I hK)⟩
theorem Co.ninG {x : Str} {u : Tok} {a : Addr} {vs : Array Value} {n : Nat} {ys : List Str} {b : Bool} {K : Bool → Led → Prop} {o : Obj} (ho : List.lookup a (hd.heap_1 w.params) = some o) (h1 : o.cls = .type "tuple") (h2 : o.data = .seq vs n) (hi : StrsAre vs.toList ys) (hb : (ys.any fun y => y == x) = b) (hK : K (!b) nw) : Co c m nw .NotIn (.str x u) (.ref a) K :=
  ⟨fun h0 tk Q I hQ => notin_tuple_strs ⟨o, (c.X.keeps I.F.keep) _ _ ho, h1, n, h2⟩ hi (by rw [hb]; exact hQ _ _ _ _ I hK)⟩
end
theorem kw51 : True := by
  (k_with "m:hco" => ((with_reducible apply Co.ninG); k_is; exact rfl; exact rfl; walk_at "hstrs"; (first | (with_reducible assumption) | exact rfl)))
  (k_with "m:hca" => (first | ((with_reducible apply Ca.gcbM); (with_reducible assumption); exact rfl; walk_at "hdt"; walk_at "hom") | ((with_reducible apply Ca.gcbO); (with_reducible assumption); exact rfl; walk_at "hdt"; walk_at "hom") | ((with_reducible apply Ca.hkS); (with_reducible assumption); exact rfl; walk_at "hom") | ((with_reducible apply Ca.hkN); (with_reducible assumption); exact rfl; walk_at "hom")))
  (k_with "m:hcall" => ((with_reducible apply Ex.gl); exact rfl; k_is))
  (k_with "m:hco" => ((with_reducible apply Co.inG); k_is; exact rfl; exact rfl; walk_at "hstrs"; (first | (with_reducible assumption) | exact rfl)))
  trivial
theorem ck_M {c : Int} (h : isMark c = true) : "Extend" = ckind c := by rw [ckind, if_pos h]
theorem ck_S {c : Int} {x : String} (h : isMark c = false) (h2 : hkind c = some x) : x = ckind c := by rw [ckind, if_neg (by rw [h]; exact Bool.false_ne_true), h2]; rfl
theorem ck_N {c : Int} (h : isMark c = false) (h2 : hkind c = none) : "Other" = ckind c := by rw [ckind, if_neg (by rw [h]; exact Bool.false_ne_true), h2]; rfl
theorem c_ckind (d tp : Addr) (c : Int) (t : Tok) (news : List (Addr × Obj)) (hD : DataIn w news d tp) (hc : 0 ≤ c) (hn : c < 5000 ∨ 44032 ≤ c) : Con w 7 250 [.int c t, .ref d] news (RetV fun t => .str (Str.ofString (ckind c)) t) := by
  refine Con.enter [(Str.ofString "data", .ref d), (Str.ofString "code", .int c t)] (by k_is) (by k_is) rfl rfl rfl rfl rfl rfl fun c2 hret => ?_
  cases hm : isMark c with
  | true =>
    walk_at "hgo"
    exact fin_V hret _ (congrArg (fun s => Value.str (Str.ofString s) _) (ck_M hm)) sub_r
  | false =>
    cases hh : hkind c with
    | some x =>
      walk_at "hgo"
      exact fin_V hret _ (congrArg (fun s => Value.str (Str.ofString s) _) (ck_S hm hh)) sub_r
    | none =>
      walk_at "hgo"
      exact fin_V hret _ (congrArg (fun s => Value.str (Str.ofString s) _) (ck_N hm hh)) sub_r
section
variable {x y : Str}
theorem js_1 (h : (x == Str.ofString "L") = true) : ([Str.ofString "L", Str.ofString "V", Str.ofString "LV", Str.ofString "LVT"].any (fun z => z == y)) = joinsS x y := by rw [joinsS, if_pos (eq_of_beq h)]
theorem js_2 (h : (x == Str.ofString "L") = false) (h2 : ([Str.ofString "LV", Str.ofString "V"].any (fun z => z == x)) = true) : ([Str.ofString "V", Str.ofString "T"].any (fun z => z == y)) = joinsS x y := by rw [joinsS, if_neg (ne_of_beq_false h), if_pos h2]
theorem js_3 (h : (x == Str.ofString "L") = false) (h2 : ([Str.ofString "LV", Str.ofString "V"].any (fun z => z == x)) = false) (h3 : ([Str.ofString "LVT", Str.ofString "T"].any (fun z => z == x)) = true) : (y == Str.ofString "T") = joinsS x y := by
  rw [joinsS, if_neg (ne_of_beq_false h), if_neg (by rw [h2]; exact Bool.false_ne_true), h3, Bool.true_and]
theorem js_4 (h : (x == Str.ofString "L") = false) (h2 : ([Str.ofString "LV", Str.ofString "V"].any (fun z => z == x)) = false) (h3 : ([Str.ofString "LVT", Str.ofString "T"].any (fun z => z == x)) = false) : ([Str.ofString "LVT", Str.ofString "T"].any (fun z => z == x)) = joinsS x y := by
  rw [joinsS, if_neg (ne_of_beq_false h), if_neg (by rw [h2]; exact Bool.false_ne_true), h3, Bool.false_and]
end
theorem c_joins (x y : Str) (t u : Tok) (news : List (Addr × Obj)) : Con w 2 257 [.str x t, .str y u] news (RetV fun _ => .bool (joinsS x y)) := by
  refine Con.enter [(Str.ofString "right", .str y u), (Str.ofString "left", .str x t)] (by k_is) (by k_is) rfl rfl rfl rfl rfl rfl fun c2 hret => ?_
  walk_at "hgo"
  all_goals refine fin_V hret t (congrArg Value.bool ?_) (by walk_at "hsub")
  · exact js_1 (by assumption)
  · exact js_2 (by assumption) (by assumption)
  · exact js_3 (by assumption) (by assumption) (by assumption)
  · exact js_4 (by assumption) (by assumption) (by assumption)
theorem Ca.joins {D : Nat} {i : Fn} {c : Cx w D i} {m : Fm} {nw : Led} {x y : Str} {t u : Tok} {K : Value → Led → Prop} (hd : Nat.ble 2 D = true) (hK : ∀ _ : Tok, K (.bool (joinsS x y)) nw) : Ca c m nw (.ref 257) [.str x t, .str y u] K := Ca.V (c_joins x y t u nw) hd hK
theorem kw52 : True := by
  (k_with "m:hca" => ((with_reducible apply Ca.joins); exact rfl))
  trivial
/-- a kind that none of the other rules speaks of -/
structure KindOk (x : Str) : Prop where
  cr : (x == Str.ofString "CR") = false
  ends : ([Str.ofString "CR", Str.ofString "LF", Str.ofString "Control"].any (fun z => z == x)) = false
  sp : (x == Str.ofString "SpacingMark") = false
  pre : (x == Str.ofString "Prepend") = false
  ri : (x == Str.ofString "Regional_Indicator") = false
  zw : (x == Str.ofString "ZWJ") = false
noncomputable def noBrk (x y : Str) : Bool := joinsS x y || [Str.ofString "Extend", Str.ofString "ZWJ"].any (fun z => z == y)
theorem c_kpair (x y : Str) (t u : Tok) (hx : KindOk x) (hy : KindOk y) (news : List (Addr × Obj)) : Con w 4 264 [.str x t, .str y u, .bool false] news (fun h₀ L m news s Q => (noBrk x y = true → RetV (fun _ => .bool false) h₀ L m news s Q) ∧ (noBrk x y = false → RetV (fun _ => .none) h₀ L m news s Q)) := by
  obtain ⟨x1, x2, x3, x4, x5, x6⟩ := hx
  obtain ⟨y1, y2, y3, y4, y5, y6⟩ := hy
  refine Con.enter [(Str.ofString "is_legacy", .bool false), (Str.ofString "right", .str y u), (Str.ofString "left", .str x t)] (by k_is) (by k_is) rfl rfl rfl rfl rfl rfl fun c2 hret => ?_
  walk_at "hgo"
  · exact fin_V (hret.1 (by rw [noBrk, (by assumption : joinsS x y = true), Bool.true_or])) t rfl sub_r
  · exact fin_V (hret.1 (by rw [noBrk, (by assumption : ([Str.ofString "Extend", Str.ofString "ZWJ"].any fun z => z == y) = true), Bool.or_true])) t rfl sub_r
  · exact fin_V (hret.2 (by rw [noBrk, (by assumption : joinsS x y = false), (by assumption : ([Str.ofString "Extend", Str.ofString "ZWJ"].any fun z => z == y) = false), Bool.or_false])) t rfl sub_r
theorem c_kpB (x y : Str) (t u : Tok) (hx : KindOk x) (hy : KindOk y) (h : noBrk x y = true) (news : List (Addr × Obj)) : Con w 4 264 [.str x t, .str y u, .bool false] news (RetV (fun _ => .bool false)) :=
  (c_kpair x y t u hx hy news).mono fun h₀ L m s Q hR => ⟨fun _ => hR, (fun e => by rw [h] at e; cases e)⟩
theorem c_kpN (x y : Str) (t u : Tok) (hx : KindOk x) (hy : KindOk y) (h : noBrk x y = false) (news : List (Addr × Obj)) : Con w 4 264 [.str x t, .str y u, .bool false] news (RetV (fun _ => .none)) :=
  (c_kpair x y t u hx hy news).mono fun h₀ L m s Q hR => ⟨(fun e => by rw [h] at e; cases e), fun _ => hR⟩
section
variable {D : Nat} {i : Fn} {c : Cx w D i} {m : Fm} {nw : Led}
theorem Ca.ckind {n : Int} {t : Tok} {d tp : Addr} {K : Value → Led → Prop} (hd : Nat.ble 7 D = true) (hD : DataIn w nw d tp) (hc : 0 ≤ n) (hn : n < 5000 ∨ 44032 ≤ n) (hK : ∀ t, K (.str (Str.ofString (Mine.ckind n)) t) nw) : Ca c m nw (.ref 250) [.int n t, .ref d] K := Ca.V (c_ckind d tp n t nw hD hc hn) hd hK
theorem Ca.kpB {x y : Str} {t u : Tok} {K : Value → Led → Prop} (h : noBrk x y = true) (hx : KindOk x) (hy : KindOk y) (hd : Nat.ble 4 D = true) (hK : ∀ _ : Tok, K (.bool false) nw) : Ca c m nw (.ref 264) [.str x t, .str y u, .bool false] K := Ca.V (c_kpB x y t u hx hy h nw) hd hK
theorem Ca.kpN {x y : Str} {t u : Tok} {K : Value → Led → Prop} (h : noBrk x y = false) (hx : KindOk x) (hy : KindOk y) (hd : Nat.ble 4 D = true) (hK : ∀ _ : Tok, K .none nw) : Ca c m nw (.ref 264) [.str x t, .str y u, .bool false] K := Ca.V (c_kpN x y t u hx hy h nw) hd hK
end
theorem kw53 : True := by
  (k_with "m:hca" => (first | ((with_reducible apply Ca.ckind); exact rfl; walk_at "hdt"; walk_at "hom"; walk_at "hom") | ((with_reducible apply Ca.kpB); (with_reducible assumption); (with_reducible assumption); (with_reducible assumption); exact rfl) | ((with_reducible apply Ca.kpN); (with_reducible assumption); (with_reducible assumption); (with_reducible assumption); exact rfl)))
  trivial
/-- the stream's attributes -/
noncomputable abbrev stD (w : World) (t1 t2 t3 t4 t5 t6 : Tok) (d : Addr) (kv : Value) (pt ct : Tok) : Obj := dictOf [⟨PyData.keyHash w.params (Str.ofString "data_asked"), .str (Str.ofString "data_asked") t1, .ref d⟩, ⟨PyData.keyHash w.params (Str.ofString "is_legacy"), .str (Str.ofString "is_legacy") t2, .bool false⟩, ⟨PyData.keyHash w.params (Str.ofString "kind"), .str (Str.ofString "kind") t3, kv⟩, ⟨PyData.keyHash w.params (Str.ofString "is_odd"), .str (Str.ofString "is_odd") t4, .bool false⟩, ⟨PyData.keyHash w.params (Str.ofString "picture"), .str (Str.ofString "picture") t5, .int 0 pt⟩, ⟨PyData.keyHash w.params (Str.ofString "conjunct"), .str (Str.ofString "conjunct") t6, .int 0 ct⟩] 6
noncomputable abbrev RetSt (w : World) (d : Addr) : RetT := fun h₀ L m news s Q => ∀ (x dx : Addr) (t1 t2 t3 t4 t5 t6 pt ct : Tok) (h' : Heap) (tk' : Nat), Fr h₀ L h' m → News h₀ L h' ((x, instObj 303 dx) :: (dx, stD w t1 t2 t3 t4 t5 t6 d .none pt ct) :: news) → (∀ p ∈ news, p.1 < dx) → dx < x → Q (.ref x) { s with heap := h', toks := tk' }
theorem c_stream (d tp : Addr) (news : List (Addr × Obj)) (hD : DataIn w news d tp) : Con w 4 303 [.ref d, .bool false] news (RetSt w d) := by
  refine Con.init (fun x => [(Str.ofString "is_legacy", .bool false), (Str.ofString "data", .ref d), (Str.ofString "self", .ref x)]) (by k_is) (by k_is) (by k_is) (by k_is) (by k_is) (fun _ _ X => by first | exact BindsTo.of_eq rfl | exact binds_K X rfl (by k_is) rfl rfl rfl) (fun _ => rfl) rfl rfl rfl rfl fun c2 x dx Q l1 l2 hret hQ => ?_
  have hex : dx ≠ x := Nat.ne_of_lt l2
  have hnx : ∀ p ∈ news, p.1 ≠ dx := fun p hp => Nat.ne_of_lt (l1 p hp)
  walk_at "hgo"
  exact fun h' tk' F N => hQ _ (hret x dx _ _ _ _ _ _ _ _ h' tk' F N l1 l2)
theorem ckind_ok (c : Int) : KindOk (Str.ofString (ckind c)) := by
  have : ckind c = "Extend" ∨ ckind c = "Other" ∨ ckind c = "L" ∨ ckind c = "V" ∨ ckind c = "T" ∨ ckind c = "LV" ∨ ckind c = "LVT" := by
    unfold ckind
    split
    · exact .inl rfl
    · unfold hkind
      repeat' split
      all_goals simp
  rcases this with h | h | h | h | h | h | h <;> (rw [h]; exact ⟨by decide +kernel, by decide +kernel, by decide +kernel, by decide +kernel, by decide +kernel, by decide +kernel⟩)
noncomputable abbrev RetPut (w : World) (d dx : Addr) (v : Value) (k : String) (g : Obj → List (Addr × Obj)) : RetT := fun h₀ L m _ s Q => ∀ (t1 t2 t3 t4 t5 t6 pt ct kt : Tok) (h' : Heap) (tk' : Nat), Fr h₀ L h' m → News h₀ L h' (g (stD w t1 t2 t3 t4 t5 t6 d (.str (Str.ofString k) kt) pt ct)) → Q v { s with heap := h', toks := tk' }
theorem c_take (x dx d : Addr) (t1 t2 t3 t4 t5 t6 pt ct : Tok) (kv : Value) (k : String) (hk0 : KindOk (Str.ofString k)) (kt wt : Tok) (l : List (Addr × Obj)) (g : Obj → List (Addr × Obj)) (U : UpdF dx (stD w t1 t2 t3 t4 t5 t6 d kv pt ct) l g) (hx : (x, instObj 303 dx) ∈ l) (hxd : x ≠ dx) :
    Con w 4 300 [.ref x, .str (Str.ofString k) kt, .bool false, .str (Str.ofString "None") wt] l (RetPut w d dx .none k g) := by
  have hm := updF_at U
  obtain ⟨y1, y2, y3, y4, y5, y6⟩ := hk0
  refine Con.enter [(Str.ofString "word", .str (Str.ofString "None") wt), (Str.ofString "is_picture", .bool false), (Str.ofString "kind", .str (Str.ofString k) kt), (Str.ofString "self", .ref x)] (by k_is) (by k_is) rfl rfl rfl rfl rfl rfl fun c2 hret => ?_
  walk_at "hgo"
  all_goals exact fun h' tk' F N => hret _ _ _ _ _ _ _ _ _ h' tk' F (by rw [y5] at N; exact N)
theorem c_held (x dx d : Addr) (t1 t2 t3 t4 t5 t6 pt ct : Tok) (kv : Value) (k : Str) (hk0 : KindOk k) (kt wt : Tok) (news : List (Addr × Obj)) (hx : (x, instObj 303 dx) ∈ news) (hdx : (dx, stD w t1 t2 t3 t4 t5 t6 d kv pt ct) ∈ news) :
    Con w 2 293 [.ref x, .str k kt, .bool false, .str (Str.ofString "None") wt] news (RetV fun _ => .bool false) := by
  obtain ⟨y1, y2, y3, y4, y5, y6⟩ := hk0
  refine Con.enter [(Str.ofString "word", .str (Str.ofString "None") wt), (Str.ofString "is_picture", .bool false), (Str.ofString "kind", .str k kt), (Str.ofString "self", .ref x)] (by k_is) (by k_is) rfl rfl rfl rfl rfl rfl fun c2 hret => ?_
  walk_at "hgo"
  exact fin_V hret kt (congrArg Value.bool y5) sub_r
section
variable {D : Nat} {i : Fn} {c : Cx w D i} {m : Fm} {nw : Led}
theorem Ca.held {x dx d : Addr} {t1 t2 t3 t4 t5 t6 pt ct : Tok} {kv : Value} {k : String} {kt wt : Tok} {K : Value → Led → Prop} (hk : KindOk (Str.ofString k)) (hx : (x, instObj 303 dx) ∈ nw) (hdx : (dx, stD w t1 t2 t3 t4 t5 t6 d kv pt ct) ∈ nw) (hd : Nat.ble 2 D = true) (hK : ∀ _ : Tok, K (.bool false) nw) : Ca c m nw (.ref 293) [.ref x, .str (Str.ofString k) kt, .bool false, .str (Str.ofString "None") wt] K :=
  Ca.V (c_held x dx d t1 t2 t3 t4 t5 t6 pt ct kv _ hk kt wt nw hx hdx) hd hK
theorem Ca.take {x dx d : Addr} {t1 t2 t3 t4 t5 t6 pt ct : Tok} {kv : Value} {k : String} {kt wt : Tok} {g : Obj → Led} {K : Value → Led → Prop} (hk : KindOk (Str.ofString k)) (hx : (x, instObj 303 dx) ∈ nw) (U : UpdF dx (stD w t1 t2 t3 t4 t5 t6 d kv pt ct) nw g) (hxd : x ≠ dx) (hd : Nat.ble 4 D = true) (hK : ∀ t1 t2 t3 t4 t5 t6 pt ct kt, K .none (g (stD w t1 t2 t3 t4 t5 t6 d (.str (Str.ofString k) kt) pt ct))) : Ca c m nw (.ref 300) [.ref x, .str (Str.ofString k) kt, .bool false, .str (Str.ofString "None") wt] K :=
  Ca.con (c_take x dx d t1 t2 t3 t4 t5 t6 pt ct kv k hk kt wt nw g U hx hxd) hd fun _ _ _ hQ t1 t2 t3 t4 t5 t6 pt ct kt h' tk' F N => hQ _ _ _ _ F N (hK t1 t2 t3 t4 t5 t6 pt ct kt)
@[reducible] noncomputable def KNotV (K : Value → Led → Prop) (v : Value) (n : Led) : Prop := ∃ b, v = .bool b ∧ K (.bool (!b)) n
theorem Ex.not {e : Expr} {pos : Pos} {K : Value → Led → Prop} (h : Ex c m nw e (KNotV K)) : Ex c m nw (.UnaryOp .Not e pos) K :=
  ⟨fun h0 tk Q I hQ => wpAny_UnaryOp (h.run h0 tk _ I fun v n h' t' I' q => by
    obtain ⟨b, rfl, hK⟩ := q
    exact not_of (wpAny_truthy_bool (hQ _ _ _ _ I' hK)))⟩
theorem bool_i {b : Bool} {P : Bool → Prop} (h : P b) : ∃ b', Value.bool b = .bool b' ∧ P b' := ⟨b, rfl, h⟩
end
theorem kw54 : True := by
  (k_with "m:hex" => (with_reducible apply Ex.not))
  (k_with "m:hval" => (with_reducible apply bool_i))
  (k_with "m:hca" => (first | ((with_reducible apply Ca.held); (with_reducible assumption); walk_at "hmem"; (with_reducible assumption); exact rfl) | ((with_reducible apply Ca.take); (with_reducible assumption); (with_reducible assumption); (with_reducible assumption); (with_reducible assumption); exact rfl)))
  trivial
theorem c_put0 (x dx d tp : Addr) (t1 t2 t3 t4 t5 t6 pt ct : Tok) (c : Int) (t : Tok) (l : List (Addr × Obj)) (g : Obj → List (Addr × Obj)) (nd : List (Addr × Obj)) (hD : DataIn w nd d tp) (hnd : ∀ p ∈ nd, p ∈ l ∧ p.1 ≠ dx) (U : UpdF dx (stD w t1 t2 t3 t4 t5 t6 d .none pt ct) l g) (hx : (x, instObj 303 dx) ∈ l) (hxd : x ≠ dx) (hc : 0 ≤ c) (hn : c < 5000 ∨ 44032 ≤ c) :
    Con w 10 286 [.ref x, .int c t] l (RetPut w d dx (.bool true) (ckind c) g) := by
  have hm := updF_at U
  have hD' : DataIn w l d tp := hD.mono fun p hp => (hnd p hp).1
  have hK9 := ckind_ok c
  refine Con.enter [(Str.ofString "code", .int c t), (Str.ofString "self", .ref x)] (by k_is) (by k_is) rfl rfl rfl rfl rfl rfl fun c2 hret => ?_
  walk_at "hgo"
  exact fun h' tk' F N => hret _ _ _ _ _ _ _ _ _ h' tk' F N
theorem c_putB (x dx d tp : Addr) (t1 t2 t3 t4 t5 t6 pt ct : Tok) (k : String) (k1 : Tok) (hk9 : KindOk (Str.ofString k)) (c : Int) (t : Tok) (hb : noBrk (Str.ofString k) (Str.ofString (ckind c)) = true) (l : List (Addr × Obj)) (g : Obj → List (Addr × Obj)) (nd : List (Addr × Obj)) (hD : DataIn w nd d tp) (hnd : ∀ p ∈ nd, p ∈ l ∧ p.1 ≠ dx) (U : UpdF dx (stD w t1 t2 t3 t4 t5 t6 d (.str (Str.ofString k) k1) pt ct) l g) (hx : (x, instObj 303 dx) ∈ l) (hxd : x ≠ dx) (hc : 0 ≤ c) (hn : c < 5000 ∨ 44032 ≤ c) :
    Con w 10 286 [.ref x, .int c t] l (RetPut w d dx (.bool false) (ckind c) g) := by
  have hm := updF_at U
  have hD' : DataIn w l d tp := hD.mono fun p hp => (hnd p hp).1
  have hK9 := ckind_ok c
  refine Con.enter [(Str.ofString "code", .int c t), (Str.ofString "self", .ref x)] (by k_is) (by k_is) rfl rfl rfl rfl rfl rfl fun c2 hret => ?_
  walk_at "hgo"
  exact fun h' tk' F N => hret _ _ _ _ _ _ _ _ _ h' tk' F N
theorem c_putN (x dx d tp : Addr) (t1 t2 t3 t4 t5 t6 pt ct : Tok) (k : String) (k1 : Tok) (hk9 : KindOk (Str.ofString k)) (c : Int) (t : Tok) (hb : noBrk (Str.ofString k) (Str.ofString (ckind c)) = false) (l : List (Addr × Obj)) (g : Obj → List (Addr × Obj)) (nd : List (Addr × Obj)) (hD : DataIn w nd d tp) (hnd : ∀ p ∈ nd, p ∈ l ∧ p.1 ≠ dx) (U : UpdF dx (stD w t1 t2 t3 t4 t5 t6 d (.str (Str.ofString k) k1) pt ct) l g) (hx : (x, instObj 303 dx) ∈ l) (hxd : x ≠ dx) (hc : 0 ≤ c) (hn : c < 5000 ∨ 44032 ≤ c) :
    Con w 10 286 [.ref x, .int c t] l (RetPut w d dx (.bool true) (ckind c) g) := by
  have hm := updF_at U
  have hD' : DataIn w l d tp := hD.mono fun p hp => (hnd p hp).1
  have hK9 := ckind_ok c
  refine Con.enter [(Str.ofString "code", .int c t), (Str.ofString "self", .ref x)] (by k_is) (by k_is) rfl rfl rfl rfl rfl rfl fun c2 hret => ?_
  walk_at "hgo"
  exact fun h' tk' F N => hret _ _ _ _ _ _ _ _ _ h' tk' F N
noncomputable def brkIf (prev : Option String) (c : Int) : Bool := match prev with | none => true | some x => !noBrk (Str.ofString x) (Str.ofString (ckind c))
noncomputable def plc (prev : Option String) (k : Nat) : List Int → List Int
  | [] => []
  | c :: r => (if brkIf prev c = true then [(k : Int)] else []) ++ plc (some (ckind c)) (k + 1) r
theorem plc_len : ∀ (prev : Option String) (k : Nat) (cs : List Int), (plc prev k cs).length ≤ cs.length
  | _, _, [] => Nat.le_refl _
  | prev, k, c :: r => by
    rw [plc, List.length_append, List.length_cons]
    have := plc_len (some (ckind c)) (k + 1) r
    split
    · rw [List.length_singleton]; lia
    · rw [List.length_nil]; lia
noncomputable def placesP (cs : List Int) : List Int := if cs = [] then [] else plc none 0 cs ++ [(cs.length : Int)]
noncomputable def KvIs : Option String → Value → Prop
  | none, kv => kv = .none
  | some k, kv => (∃ t, kv = .str (Str.ofString k) t) ∧ KindOk (Str.ofString k)
inductive StJ (w : World) (d x dx : Addr) (lc : Addr × Obj) (news : List (Addr × Obj)) (cs : List Int) (i : Nat) (ys : List Value) (nw : List (Addr × Obj)) : Prop
  | mk (prev : Option String) (kv : Value) (t1 t2 t3 t4 t5 t6 pt ct : Tok) (zs : List Int) : (nw = (x, instObj 303 dx) :: (dx, stD w t1 t2 t3 t4 t5 t6 d kv pt ct) :: lc :: news) → (KvIs prev kv) → (IntsAre ys zs) → (zs ++ plc prev i (cs.drop i) = plc none 0 cs) → StJ w d x dx lc news cs i ys nw
theorem StJ.ex {w : World} {d x dx : Addr} {lc : Addr × Obj} {news : List (Addr × Obj)} {cs : List Int} {i : Nat} {ys : List Value} {nw : List (Addr × Obj)} (h : StJ w d x dx lc news cs i ys nw) : StJ w d x dx lc news cs i ys nw := h
theorem StJ.init {w : World} {d x dx : Addr} {lc : Addr × Obj} {news : List (Addr × Obj)} {cs : List Int} (t1 t2 t3 t4 t5 t6 pt ct : Tok) : StJ w d x dx lc news cs 0 [] ((x, instObj 303 dx) :: (dx, stD w t1 t2 t3 t4 t5 t6 d .none pt ct) :: lc :: news) :=
  ⟨none, .none, t1, t2, t3, t4, t5, t6, pt, ct, [], rfl, rfl, .nil, rfl⟩
theorem Apart4.upd {e i C D dx : Addr} {a : Addr × Obj} {o o' : Obj} {r : List (Addr × Obj)} (h : Apart4 e i C D (a :: (dx, o) :: r)) : Apart4 e i C D (a :: (dx, o') :: r) := ⟨fun p hp => by
  rcases List.mem_cons.mp hp with rfl | hp
  · exact h.off _ (.head _)
  rcases List.mem_cons.mp hp with rfl | hp
  · exact h.off (dx, o) (.tail _ (.head _))
  · exact h.off _ (.tail _ (.tail _ hp))⟩
section
variable {d x dx : Addr} {lc : Addr × Obj} {news : List (Addr × Obj)} {cs zs : List Int} {i : Nat} {ys : List Value} {prev : Option String} {c : Int} {t1 t2 t3 t4 t5 t6 pt ct kt t : Tok}
theorem StJ.yes (hz : zs ++ plc prev i (cs.drop i) = plc none 0 cs) (hc : cs[i]? = some c) (hb : brkIf prev c = true) (hy : IntsAre ys zs) :
    StJ w d x dx lc news cs (i + 1) (ys ++ [.int (i : Int) t]) ((x, instObj 303 dx) :: (dx, stD w t1 t2 t3 t4 t5 t6 d (.str (Str.ofString (ckind c)) kt) pt ct) :: lc :: news) :=
  ⟨some (ckind c), _, t1, t2, t3, t4, t5, t6, pt, ct, zs ++ [(i : Int)], rfl, ⟨⟨kt, rfl⟩, ckind_ok c⟩, ints_app hy (.cons _ t .nil), by
    rw [← hz, drop_at hc, plc, if_pos hb, List.append_assoc]⟩
theorem StJ.no (hz : zs ++ plc prev i (cs.drop i) = plc none 0 cs) (hc : cs[i]? = some c) (hb : brkIf prev c = false) (hy : IntsAre ys zs) :
    StJ w d x dx lc news cs (i + 1) ys ((x, instObj 303 dx) :: (dx, stD w t1 t2 t3 t4 t5 t6 d (.str (Str.ofString (ckind c)) kt) pt ct) :: lc :: news) :=
  ⟨some (ckind c), _, t1, t2, t3, t4, t5, t6, pt, ct, zs, rfl, ⟨⟨kt, rfl⟩, ckind_ok c⟩, hy, by
    rw [← hz, drop_at hc, plc, if_neg (by rw [hb]; exact Bool.false_ne_true), List.nil_append]⟩
end
theorem c_put (x dx d tp : Addr) (t1 t2 t3 t4 t5 t6 pt ct : Tok) (prev : Option String) (kv : Value) (hk : KvIs prev kv) (c : Int) (t : Tok) (l : List (Addr × Obj)) (g : Obj → List (Addr × Obj)) (nd : List (Addr × Obj)) (hD : DataIn w nd d tp) (hnd : ∀ p ∈ nd, p ∈ l ∧ p.1 ≠ dx) (U : UpdF dx (stD w t1 t2 t3 t4 t5 t6 d kv pt ct) l g) (hx : (x, instObj 303 dx) ∈ l) (hxd : x ≠ dx) (hc : 0 ≤ c) (hn : c < 5000 ∨ 44032 ≤ c) :
    Con w 10 286 [.ref x, .int c t] l (RetPut w d dx (.bool (brkIf prev c)) (ckind c) g) := by
  cases prev with
  | none =>
    obtain rfl : kv = .none := hk
    exact c_put0 x dx d tp t1 t2 t3 t4 t5 t6 pt ct c t l g nd hD hnd U hx hxd hc hn
  | some k =>
    obtain ⟨⟨kt, rfl⟩, hk9⟩ := hk
    show Con w 10 286 _ l (RetPut w d dx (.bool (!noBrk (Str.ofString k) (Str.ofString (ckind c)))) (ckind c) g)
    cases hb : noBrk (Str.ofString k) (Str.ofString (ckind c)) with
    | true => exact c_putB x dx d tp t1 t2 t3 t4 t5 t6 pt ct k kt hk9 c t hb l g nd hD hnd U hx hxd hc hn
    | false => exact c_putN x dx d tp t1 t2 t3 t4 t5 t6 pt ct k kt hk9 c t hb l g nd hD hnd U hx hxd hc hn
section
variable {D : Nat} {i : Fn} {c : Cx w D i} {m : Fm} {nw : Led}
theorem Ca.put {x dx d tp : Addr} {t1 t2 t3 t4 t5 t6 pt ct : Tok} {prev : Option String} {kv : Value} {n : Int} {t : Tok} {g : Obj → Led} {nd : Led} {K : Value → Led → Prop} (hk : KvIs prev kv) (hD : DataIn w nd d tp) (hs : ∀ p ∈ nd, p ∈ nw) (hx : (x, instObj 303 dx) ∈ nw) (U : UpdF dx (stD w t1 t2 t3 t4 t5 t6 d kv pt ct) nw g) (hne : ∀ p ∈ nd, p.1 ≠ dx) (hxd : x ≠ dx) (hc : 0 ≤ n) (hn : n < 5000 ∨ 44032 ≤ n) (hd : Nat.ble 10 D = true) (hK : ∀ t1 t2 t3 t4 t5 t6 pt ct kt, K (.bool (brkIf prev n)) (g (stD w t1 t2 t3 t4 t5 t6 d (.str (Str.ofString (Mine.ckind n)) kt) pt ct))) : Ca c m nw (.ref 286) [.ref x, .int n t] K :=
  Ca.con (c_put x dx d tp t1 t2 t3 t4 t5 t6 pt ct prev kv hk n t nw g nd hD (fun p hp => ⟨hs p hp, hne p hp⟩) U hx hxd hc hn) hd fun _ _ _ hQ t1 t2 t3 t4 t5 t6 pt ct kt h' tk' F N => hQ _ _ _ _ F N (hK t1 t2 t3 t4 t5 t6 pt ct kt)
theorem Ca.stream {d tp : Addr} {K : Value → Led → Prop} (hD : DataIn w nw d tp) (hd : Nat.ble 4 D = true) (hK : ∀ x dx t1 t2 t3 t4 t5 t6 pt ct, (∀ p ∈ nw, p.1 < dx) → (∀ p ∈ (dx, stD w t1 t2 t3 t4 t5 t6 d .none pt ct) :: nw, p.1 < x) → K (.ref x) ((x, instObj 303 dx) :: (dx, stD w t1 t2 t3 t4 t5 t6 d .none pt ct) :: nw)) : Ca c m nw (.ref 303) [.ref d, .bool false] K :=
  Ca.con (c_stream d tp nw hD) hd fun _ _ _ hQ x dx t1 t2 t3 t4 t5 t6 pt ct h' tk' F N l1 l2 => hQ _ _ _ _ F N (hK x dx t1 t2 t3 t4 t5 t6 pt ct l1 (List.forall_mem_cons.mpr ⟨l2, fun p hp => Nat.lt_trans (l1 p hp) l2⟩))
end
theorem kw55 : True := by
  (k_with "m:hca" => (first | ((with_reducible apply Ca.stream); walk_at "hdt"; exact rfl) | ((with_reducible apply Ca.put); (with_reducible assumption); (with_reducible assumption); walk_at "hsub"; walk_at "hmem"; walk_at "hupd"; (with_reducible assumption); walk_at "hne"; (with_reducible assumption); (with_reducible assumption); exact rfl)))
  (k_with "m:hco" => ((with_reducible apply Bo.lst); walk_at "hmem"; walk_at "hmem"; (first | exact Nat.le_of_ble_eq_true rfl | omega | (simp only [List.length_append, List.length_cons, List.length_nil]; omega))))
  trivial
/-- a new list of ints, its address another than those there -/
theorem c_places (l : Addr) (its : List Value) (n : Nat) (cs : List Int) (d tp : Addr) (news : List (Addr × Obj)) (hl : (l, lstO its n) ∈ news) (hi : IntsAre its cs) (hpos : ∀ c ∈ cs, 0 ≤ c ∧ (c < 5000 ∨ 44032 ≤ c)) (hlen : cs.length < 16) (hD : DataIn w news d tp) :
    Con w 14 313 [.ref l, .ref d] news (RetLn (placesP cs)) := by
  refine Con.enterC1 [(Str.ofString "text", .ref l), (Str.ofString "data", .ref d), (Str.ofString "is_legacy", .bool false)] [(Str.ofString "text", some (.ref l)), (Str.ofString "data", some (.ref d)), (Str.ofString "is_legacy", some (.bool false))] (Str.ofString "stream") (by k_is) (by k_is) (fun _ X => binds_K X rfl (by k_is) rfl rfl rfl) rfl (fun _ => rfl) rfl rfl rfl rfl fun c oc hoc lL hret => ?_
  have hpl := ints_plainB hi
  have hln := hi.length
  walk_at "hgo"
  rename (∀ p ∈ (_, _) :: news, p.1 < _) => l1
  rename (∀ p ∈ (_, _) :: (_, _) :: news, p.1 < _) => l2
  rename Obj.data _ = Data.cell (some _) => hoc2
  have hdn : ∀ p ∈ news, p.1 ≠ _ := fun p hp => Nat.ne_of_lt (l1 p (.tail _ hp))
  have hxd := Nat.ne_of_gt (l2 _ (.head _))
  refine LcE.mk' (vs := its) (k := n) (StJ w d _ _ (_, _) news cs) (fun j ys n ⟨_, _, _, _, _, _, _, _, _, _, _, e, _, _, _⟩ => by rw [e]; exact .tail _ (.tail _ (.tail _ hl))) (by lia) (StJ.init _ _ _ _ _ _ _ _) ⟨fun j ys nw v t e oe I oI C oC D m2 hJ hv hC h1 h2 off ne => ?_⟩ fun ys n hJ D hD9 => ?_
  · obtain ⟨prev, kv, u1, u2, u3, u4, u5, u6, u7, u8, zs, rfl, hkv, hy, hz⟩ := hJ
    obtain ⟨c3, t0, hc, rfl⟩ := ints_at hi hv
    obtain ⟨hc0, hcn⟩ := hpos c3 (List.mem_of_getElem? hc)
    obtain ⟨q1, q2, q3, q4⟩ := off.off _ (.tail _ (.head _))
    have q1' := q1.symm
    have q2' := q2.symm
    have q3' := q3.symm
    have q4' := q4.symm
    walk_at "hgo"
    · exact C4.mk' _ sub_r off.upd (StJ.yes hz hc (by assumption) hy)
    · exact C4.mk' _ sub_r off.upd (StJ.no hz hc (by assumption) hy)
  · obtain ⟨prev, kv, u1, u2, u3, u4, u5, u6, u7, u8, zs, rfl, hkv, hy, hz⟩ := hJ
    have hz0 : zs = plc none 0 cs := by rw [← hz, hln, List.drop_length]; exact (List.append_nil _).symm
    have hys : ys.length ≤ 100 := by rw [hy.length, hz0]; have := plc_len none 0 cs; lia
    have hDn : ∀ p ∈ news, p.1 ≠ D := fun p hp => hD9 p (.tail _ (.tail _ (.tail _ hp)))
    by_cases h0 : cs = []
    · subst h0
      obtain rfl : its = [] := by cases hi; rfl
      walk_at "hgo"
      exact fin_Ln hret (by rw [show placesP [] = plc none 0 [] from rfl, ← hz0]; exact hy) (by walk_at "hsub") hDn
    · have hz9 : its.isEmpty = false := by cases hi with | nil => exact absurd rfl h0 | cons => rfl
      walk_at "hgo"
      refine fin_Ln hret ?_ (by walk_at "hsub") (by walk_at "hneR")
      rw [placesP, if_neg h0, ← hz0, ← hln]
      exact ints_app hy (.cons _ _ .nil)
theorem isHS_of {c : Int} (h : ¬ (0 ≤ c - 44032 ∧ c - 44032 < 11172)) : isHS c = false := by
  cases e : isHS c with
  | false => rfl
  | true => exact (h (isHS_t e)).elim
theorem exp_224 {c : Int} (h : c = 224) : expand c = [97, 768] := by subst h; decide
theorem exp_syl {c : Int} (h1 : 0 ≤ c - 44032) (h2 : c - 44032 < 11172) : expand c = [4352 + (c - 44032).fdiv 588, 4449 + ((c - 44032).fdiv 28).fmod 21] ++ (List.replicate (if decide (0 < (c - 44032).fmod 28) = true then (1 : Int) else 0).toNat [4519 + (c - 44032).fmod 28]).flatten := by
  have h : isHS c = true := by simp only [isHS, Bool.and_eq_true, decide_eq_true_eq]; exact ⟨h1, h2⟩
  rw [fd588', fd28, fm21, fm28]
  by_cases h3 : (c - 44032) % 28 = 0
  · rw [expand_2 h h3, if_neg (by simp; lia)]; rfl
  · rw [expand_3 h h3, if_pos (by simp; lia)]; rfl
noncomputable def bstep (l : List Int) (k : Nat) : List Int := if 0 < cls (l.getD (k + 1) 0) ∧ cls (l.getD (k + 1) 0) < cls (l.getD k 0) then (l.set k (l.getD (k + 1) 0)).set (k + 1) (l.getD k 0) else l
noncomputable def passB (l : List Int) : List Int := (List.range (l.length - 1)).foldl bstep l
noncomputable def bubI : Nat → List Int → List Int
  | 0, l => l
  | n + 1, l => passB (bubI n l)
noncomputable def apartP (cs : List Int) : List Int := bubI (cs.flatMap expand).length (cs.flatMap expand)
theorem bstep_len (l : List Int) (k : Nat) : (bstep l k).length = l.length := by
  unfold bstep; split <;> simp
theorem foldl_bstep_len : ∀ (ks : List Nat) (l : List Int), (ks.foldl bstep l).length = l.length
  | [], l => rfl
  | k :: ks, l => by rw [List.foldl_cons, foldl_bstep_len ks, bstep_len]
theorem passB_len (l : List Int) : (passB l).length = l.length := foldl_bstep_len _ l
theorem bubI_len : ∀ (n : Nat) (l : List Int), (bubI n l).length = l.length
  | 0, _ => rfl
  | n + 1, l => by rw [bubI, passB_len, bubI_len n l]
theorem bj_swap {f : List Int} {j : Nat} (h1 : cls (f.getD (0 + (j : Int) + 1).toNat 0) < cls (f.getD (0 + (j : Int)).toNat 0)) (h2 : 0 < cls (f.getD (0 + (j : Int) + 1).toNat 0)) : (f.set (0 + (j : Int)).toNat (f.getD (0 + (j : Int) + 1).toNat 0)).set (0 + (j : Int) + 1).toNat (f.getD (0 + (j : Int)).toNat 0) = bstep f j := by
  have e1 : (0 + (j : Int)).toNat = j := by lia
  have e2 : (0 + (j : Int) + 1).toNat = j + 1 := by lia
  rw [e1, e2] at h1 ⊢
  rw [e2] at h2
  rw [bstep, if_pos ⟨h2, h1⟩]
theorem bj_no {f : List Int} {j : Nat} (h : ¬ (0 < cls (f.getD (0 + (j : Int) + 1).toNat 0) ∧ cls (f.getD (0 + (j : Int) + 1).toNat 0) < cls (f.getD (0 + (j : Int)).toNat 0))) : bstep f j = f := by
  have e1 : (0 + (j : Int)).toNat = j := by lia
  have e2 : (0 + (j : Int) + 1).toNat = j + 1 := by lia
  rw [e1, e2] at h
  rw [bstep, if_neg h]
theorem range_fold {l : List Int} {j : Nat} : (List.range (j + 1)).foldl bstep l = bstep ((List.range j).foldl bstep l) j := by
  rw [List.range_succ, List.foldl_append]; rfl
section
variable {D : Nat} {i : Fn} {c : Cx w D i} {m : Fm} {nw : Led} {l : List Stmt} {K : Flow → Fm → Led → Prop}
theorem Bo.mulB {a : Addr} {its : List Value} {n : Nat} {b : Bool} {t : Tok} {K : Value → Led → Prop} (ha : (a, lstO its n) ∈ nw) (hl : Nat.ble its.length 8 = true) (hK : ∀ D, (List.replicate (if b = true then (1 : Int) else 0).toNat its).flatten.length ≤ 8 → (∀ p ∈ nw, p.1 < D) → K (.ref D) ((D, lstO (List.replicate (if b = true then (1 : Int) else 0).toNat its).flatten 0) :: nw)) : Bo c m nw .Mult (.ref a) (.int (if b = true then 1 else 0) t) K := by
  have hl := Nat.le_of_ble_eq_true hl
  refine ⟨fun h tk Q I hQ => KMa.mul I.F I.N (isL I.N ha) (by split <;> decide) (by split <;> decide) ?_ rfl fun D h' F' N' l => hQ _ _ _ _ ⟨F', N'⟩ (hK D (by cases b <;> simp <;> lia) l)⟩
  cases b
  · show its.length * 0 ≤ 256; lia
  · show its.length * 1 ≤ 256; lia
theorem Ca.intB {b : Bool} {K : Value → Led → Prop} (hK : ∀ t, K (.int (if b = true then 1 else 0) t) nw) : Ca c m nw (.type "int") [.bool b] K :=
  ⟨fun h tk Q I hQ => call_int_bool (hQ _ _ _ _ I (hK _))⟩
@[reducible] noncomputable def KxD (c : Cx w D i) (m : Fm) (op : CmpOp) (e3 : Expr) (y : Value) (K : Bool → Led → Prop) (b : Bool) (n : Led) : Prop := Sp b (Ex c m n e3 (KCo2 c m op K y)) (K false n)
@[reducible] noncomputable def KxC2 (c : Cx w D i) (m : Fm) (op op2 : CmpOp) (e3 : Expr) (K : Bool → Led → Prop) (x y : Value) (n : Led) : Prop := Co c m n op x y (KxD c m op2 e3 y K)
@[reducible] noncomputable def KxC1 (c : Cx w D i) (m : Fm) (op op2 : CmpOp) (e2 e3 : Expr) (K : Bool → Led → Prop) (x : Value) (n : Led) : Prop := Ex c m n e2 (KxC2 c m op op2 e3 K x)
theorem Tx.co2 {e1 e2 e3 : Expr} {op op' : CmpOp} {pos : Pos} {K : Bool → Led → Prop} (hm : lastMarks [op, op'] [e2, e3] = false) (h : Ex c m nw e1 (KxC1 c m op op' e2 e3 K)) : Tx c m nw (.Compare e1 [op, op'] [e2, e3] pos) K := by
  refine ⟨fun h0 tk Q I hQ => isTrue_chain (h.run h0 tk _ I fun x n1 h1 t1 I1 hK1 => test_link (hK1.run h1 t1 _ I1 fun y n2 h2 t2 I2 hK2 => hK2.run h2 t2 _ I2 fun b n3 h3 t3 I3 hK3 => wpAny_truthy_bool ?_)) hm⟩
  cases b with
  | true => exact test_last ((show Ex c m n3 e3 _ from hK3).run h3 t3 _ I3 fun z n4 h4 t4 I4 hK4 => hK4.run h4 t4 _ I4 fun b n5 h5 t5 I5 hK5 => wpAny_truthy_bool (hQ _ _ _ _ I5 hK5))
  | false => exact hQ _ _ _ _ I3 hK3
theorem assign_sub_ {o s : Expr} {p' : Pos} {v : Value} {n : Led} {h0 : Heap} {tk : Nat} {Q : Unit → Shared → Prop} {K : Led → Prop} (h : Ex c m n o fun ov n2 => Ex c m n2 s fun iv n3 => Si c m n3 ov iv v K) (I : c.I m n h0) (hQ : ∀ n' h' tk', c.I m n' h' → K n' → Q () (c.st h' tk')) : wpAny (Mo w) c.A (assign (.Subscript o s p') c.env v) Q c.E (c.st h0 tk) := by
  rw [assign_Subscript]
  refine wpAny_bind (wpAny_holding (h.run h0 tk _ I fun ov n2 h2 t2 I2 hK => ?_))
  refine wpAny_bind (wpAny_holding (hK.run h2 t2 _ I2 fun iv n3 h3 t3 I3 hK3 => ?_))
  refine wpAny_bind (wpAny_standAt (wpAny_bind (wpAny_holding (hK3.run h3 t3 _ I3 fun n4 h4 t4 I4 hK4 => ?_))))
  exact wpAny_release (hQ _ _ _ I4 hK4)
structure Tp2 (v : Value) (n : Led) (R : Value → Value → Prop) : Prop where
  ex : ∃ a v1 v2, v = .ref a ∧ (a, tupO [v1, v2]) ∈ n ∧ R v1 v2
theorem Tp2.mkA {a : Addr} {v1 v2 : Value} {R : Value → Value → Prop} (h : (a, tupO [v1, v2]) ∈ nw) (hR : R v1 v2) : Tp2 (.ref a) nw R := ⟨a, v1, v2, rfl, h, hR⟩
/-- two items take two values -/
theorem St.asgSS {o1 s1 o2 s2 e : Expr} {p1 p2 tp pos : Pos} {k : Nat} (hs : ∀ L, swapsWithSole [.Tuple [.Subscript o1 s1 p1, .Subscript o2 s2 p2] k tp] e pos.line (i.env L) = pure false) (hs2 : ∀ L, swappedStores [.Tuple [.Subscript o1 s1 p1, .Subscript o2 s2 p2] k tp] e (i.env L) = pure none)
    (h : Ex c m nw e fun v n => Tp2 v n fun v1 v2 => Ex c m n o1 fun ov n2 => Ex c m n2 s1 fun iv n3 => Si c m n3 ov iv v1 fun n4 => Ex c m n4 o2 fun ov n5 => Ex c m n5 s2 fun iv n6 => Si c m n6 ov iv v2 fun n7 => St c m n7 l K) : St c m nw (.Assign [.Tuple [.Subscript o1 s1 p1, .Subscript o2 s2 p2] k tp] e pos :: l) K := by
  refine ⟨fun h0 tk Q I hQ => ?_⟩
  refine wpAny_execs_cons (Assign_Tuple (h.run h0 tk _ I fun v n1 h1 t1 I1 hK => ?_) (hs _) (hs2 _))
  obtain ⟨a, v1, v2, rfl, hm, hK⟩ := hK
  refine unpackN_ I1.F I1.N (News.isTup I1.N hm) rfl rfl rfl fun h2 F2 N2 => ?_
  exact assignInOrder_cons (assign_sub_ hK ⟨F2, N2⟩ fun n4 h4 t4 I4 hK4 => assignInOrder_cons (assign_sub_ hK4 I4 fun n7 h7 t7 I7 hK7 => assignInOrder_nil (hK7.run h7 t7 Q I7 hQ)))
end
theorem kw56 : True := by
  (k_with "m:hco" => ((with_reducible apply Bo.lst); walk_at "hmem"; walk_at "hmem"; (first | exact Nat.le_of_ble_eq_true rfl | omega | (simp only [List.length_append, List.length_cons, List.length_nil]; omega))))
  (k_with "m:hco" => ((with_reducible apply Bo.mulB); walk_at "hmem"; exact rfl))
  (k_with "m:hca" => ((with_reducible apply Si.lst); walk_at "hupd"; (first | (with_reducible assumption) | omega); (simp only [List.length_set]; omega); (simp only [List.length_set]; omega)))
  (k_with "m:hca" => (with_reducible apply Ca.intB))
  (k_with "m:htx" => ((with_reducible apply Tx.co2); (with_unfolding_all exact rfl)))
  (k_with "m:hst" => (first | ((with_reducible apply St.asgSS); exact fun _ => rfl; (with_unfolding_all exact fun _ => rfl)) | ((with_reducible apply Tp2.mkA); walk_at "hmem")))
  (k_with "m:hval" => ((with_reducible apply Tp2.mkA); walk_at "hmem"))
  trivial
noncomputable abbrev apF (l fa : Addr) (u num go at_ : Option Value) : Fm := [(Str.ofString "text", some (.ref l)), (Str.ofString "found", some (.ref fa)), (Str.ofString "code", u), (Str.ofString "number", num), (Str.ofString "go", go), (Str.ofString "at", at_)]
inductive ApJ (news : Led) (l : Addr) (cs : List Int) (i : Nat) (m : Fm) (n : Led) : Prop
  | mk (fa : Addr) (fits : List Value) (fn : Nat) (u num : Option Value) : ((∀ y, lk m y = lk (apF l fa u num none none) y)) → (n = (fa, lstO fits fn) :: news) → (IntsAre fits ((cs.take i).flatMap expand)) → (∀ p ∈ news, p.1 ≠ fa) → ApJ news l cs i m n
theorem ApJ.ex {news : Led} {l : Addr} {cs : List Int} {i : Nat} {m : Fm} {n : Led} (h : ApJ news l cs i m n) : ApJ news l cs i m n := h
inductive BuJ (news : Led) (l fa : Addr) (u num : Option Value) (l0 : List Int) (i : Nat) (m : Fm) (n : Led) : Prop
  | mk (bits : List Value) (bn : Nat) (go at_ : Option Value) : ((∀ y, lk m y = lk (apF l fa u num go at_) y)) → (n = (fa, lstO bits bn) :: news) → (IntsAre bits (bubI i l0)) → BuJ news l fa u num l0 i m n
theorem BuJ.ex {news : Led} {l fa : Addr} {u num : Option Value} {l0 : List Int} {i : Nat} {m : Fm} {n : Led} (h : BuJ news l fa u num l0 i m n) : BuJ news l fa u num l0 i m n := h
inductive BjJ (q : Addr × Obj) (r : Led) (l fa : Addr) (u num go : Option Value) (l1 : List Int) (j : Nat) (m : Fm) (n : Led) : Prop
  | mk (dits : List Value) (dn : Nat) (at_ : Option Value) : ((∀ y, lk m y = lk (apF l fa u num go at_) y)) → (n = q :: (fa, lstO dits dn) :: r) → (IntsAre dits ((List.range j).foldl bstep l1)) → BjJ q r l fa u num go l1 j m n
theorem BjJ.ex {q : Addr × Obj} {r : Led} {l fa : Addr} {u num go : Option Value} {l1 : List Int} {j : Nat} {m : Fm} {n : Led} (h : BjJ q r l fa u num go l1 j m n) : BjJ q r l fa u num go l1 j m n := h
theorem ApJ.fin {news n3 : Led} {l I fa' : Addr} {it : Obj} {cs : List Int} {i : Nat} {m2 : Fm} {z : List Value} {k : Nat} {u num : Option Value} (hm : ∀ y, lk m2 y = lk (apF l fa' u num none none) y) (hi : IntsAre z ((cs.take i).flatMap expand)) (hs : ∀ p ∈ news, p ∈ n3) (hI : (I, it) ∈ n3) (h1 : fa' ≠ I) (h2 : ∀ p ∈ news, p.1 ≠ I) (h3 : ∀ p ∈ news, p.1 ≠ fa') : Kf I it (ApJ news l cs i) m2 ((fa', lstO z k) :: n3) :=
  Kf.mk' (n' := (fa', lstO z k) :: news) ⟨_, _, _, _, _, hm, rfl, hi, h3⟩ (sub_c hs) (.tail _ hI) (ne_cons h1 h2)
theorem ints_rep (x : Int) (t : Tok) : ∀ k : Nat, IntsAre (List.replicate k [Value.int x t]).flatten (List.replicate k [x]).flatten
  | 0 => .nil
  | k + 1 => .cons x t (ints_rep x t k)
theorem c_apart (l : Addr) (its : List Value) (n : Nat) (cs : List Int) (news : List (Addr × Obj)) (hl : (l, lstO its n) ∈ news) (hi : IntsAre its cs) (hlen : cs.length < 6) :
    Con w 4 472 [.ref l] news (RetLn (apartP cs)) := by
  refine Con.enter [(Str.ofString "text", .ref l)] (by k_is) (by k_is) rfl rfl rfl rfl rfl rfl fun c2 hret => ?_
  walk_at "hgo"
  rename (∀ p ∈ news, p.1 < _) => lf
  refine ForP.mk' (vs := its) (o := lstO its n) (ApJ news l cs) .li (fun i m1 n1 hJ => ?_) ⟨_, [], 0, none, none, fun y => lk_padF y [Str.ofString "code", Str.ofString "number", Str.ofString "go", Str.ofString "at"] _, rfl, .nil, fun p hp => Nat.ne_of_lt (lf p hp)⟩ (fun I it i v m1 n1 hv hJ hI => ?_) (fun m1 n1 u9 hJ => ?_)
  · obtain ⟨fa, fits, fn, u, num, hm, rfl, k1, k2⟩ := hJ.ex
    exact .tail _ hl
  · obtain ⟨fa, fits, fn, u, num, hm, rfl, k1, k2⟩ := hJ.ex
    obtain ⟨c, t1, hc, rfl⟩ := ints_at hi hv
    have hfl := flat_len expand expand_len (cs.take i)
    have hfz : fits.length ≤ 400 := by rw [k1.length]; rw [List.length_take] at hfl; lia
    have e9 : (cs.take (i + 1)).flatMap expand = (cs.take i).flatMap expand ++ expand c := by rw [List.take_add_one, hc]; simp
    have hIn : ∀ p ∈ news, p.1 ≠ I := fun p hp => hI p (.tail _ hp)
    refine St.frE (lk_set hm rfl) ?_
    clear hm
    walk_at "hgo"
    · exact ApJ.fin (fun _ => rfl) (by rw [e9, exp_syl (c := c) (by assumption) (by assumption), ← List.append_assoc]; exact ints_app (ints_app k1 (.cons _ _ (.cons _ _ .nil))) (ints_rep _ _ _)) (by walk_at "hsub") (by walk_at "hmem") (by walk_at "hne") hIn (by walk_at "hneR")
    · exact ApJ.fin (fun _ => rfl) (by rw [e9, exp_224 (by assumption)]; exact ints_app k1 (.cons _ _ (.cons _ _ .nil))) (by walk_at "hsub") (by walk_at "hmem") (by walk_at "hne") hIn (by walk_at "hneR")
    · exact ApJ.fin (fun _ => rfl) (by rw [e9, expand_0 (isHS_of (by assumption)) (by assumption)]; exact ints_app k1 (.cons _ _ .nil)) (by walk_at "hsub") (by walk_at "hmem") (by walk_at "hne") hIn (by walk_at "hneR")
  · obtain ⟨fa, fits, fn, u, num, hm, rfl, k1, k2⟩ := hJ.ex
    rw [hi.length, List.take_length] at k1
    have hfl := flat_len expand expand_len cs
    have hf0 := k1.length
    refine St.frE (lk_set hm rfl) ?_
    clear hm
    walk_at "hgo"
    refine RgP.one (N := (cs.flatMap expand).length) (by lia) (.inl rfl) ⟨(l, lstO its n), BuJ news l fa u9 num (cs.flatMap expand), fun i m1 n1 hJ => ?_, ⟨fits, fn, none, none, fun _ => rfl, rfl, k1⟩, fun I it i t m1 n1 hi9 hJ hI => ?_, fun m1 n1 u8 hJ => ?_⟩
    · obtain ⟨bits, bn, go, at_, hm, rfl, hb⟩ := hJ.ex
      exact .tail _ hl
    · obtain ⟨bits, bn, go, at_, hm, rfl, hb⟩ := hJ.ex
      have hbl := hb.length
      have hbl0 := bubI_len i (cs.flatMap expand)
      have hbz : bits.length = (cs.flatMap expand).length := hbl.trans hbl0
      have hIf : fa ≠ I := hI _ (.head _)
      have hIn : ∀ p ∈ news, p.1 ≠ I := fun p hp => hI p (.tail _ hp)
      refine St.frE (lk_set hm rfl) ?_
      clear hm
      walk_at "hgo"
      refine RgP.one (N := (cs.flatMap expand).length - 1) (by lia) (by lia) ⟨(l, lstO its n), BjJ (I, it) news l fa u9 num (some (.int (0 + (i : Int)) t)) (bubI i (cs.flatMap expand)), fun j m2 n2 hJ => ?_, ?_, fun J jt j t2 m2 n2 hj hJ hJ9 => ?_, fun m2 n2 u7 hJ => ?_⟩
      · obtain ⟨dits, dn, at2, hm, rfl, hd⟩ := hJ.ex
        exact .tail _ (.tail _ hl)
      · exact ⟨bits, bn, at_, fun _ => rfl, rfl, hb⟩
      · obtain ⟨dits, dn, at2, hm, rfl, hd⟩ := hJ.ex
        have hd0 := foldl_bstep_len (List.range j) (bubI i (cs.flatMap expand))
        have hdl := hd.length
        have hJI : I ≠ J := hJ9 _ (.head _)
        have hJf : fa ≠ J := hJ9 _ (.tail _ (.head _))
        have hJn : ∀ p ∈ news, p.1 ≠ J := fun p hp => hJ9 p (.tail _ (.tail _ hp))
        refine St.frE (lk_set hm rfl) ?_
        clear hm
        walk_at "hgo"
        · exact Kf.mk' (n' := (I, it) :: (fa, _) :: news) ⟨_, _, _, fun _ => rfl, rfl, by rw [range_fold, ← bj_swap (f := (List.range j).foldl bstep (bubI i (cs.flatMap expand))) (j := j) (by assumption) (by assumption)]; exact ints_set _ _ _ (ints_set _ _ _ hd)⟩ (sub_t (sub_t sub_r)) (.tail _ (.head _)) (ne_cons hJI (ne_cons hJf hJn))
        · exact Kf.mk' (n' := (I, it) :: (fa, _) :: news) ⟨_, _, _, fun _ => rfl, rfl, by rw [range_fold, bj_no fun q => absurd q.1 (by assumption)]; exact hd⟩ (sub_t sub_r) (.head _) (ne_cons hJI (ne_cons hJf hJn))
        · exact Kf.mk' (n' := (I, it) :: (fa, _) :: news) ⟨_, _, _, fun _ => rfl, rfl, by rw [range_fold, bj_no fun q => absurd q.2 (by assumption)]; exact hd⟩ (sub_t sub_r) (.head _) (ne_cons hJI (ne_cons hJf hJn))
      · obtain ⟨dits, dn, at2, hm, rfl, hd⟩ := hJ.ex
        refine St.frE (lk_set hm rfl) ?_
        clear hm
        walk_at "hgo"
        exact Kf.mk' (n' := (fa, lstO dits dn) :: news) ⟨_, _, _, _, fun _ => rfl, rfl, by rw [bubI, passB, hbl0]; exact hd⟩ (sub_t sub_r) (.head _) (ne_cons hIf hIn)
    · obtain ⟨bits, bn, go, at_, hm, rfl, hb⟩ := hJ.ex
      refine St.frE (lk_set hm rfl) ?_
      clear hm
      walk_at "hgo"
      exact fin_Ln hret hb sub_r k2
/-- a tuple of texts in the ledger -/
noncomputable def TupS (news : List (Addr × Obj)) (d : Addr) (ys : List Str) : Prop := ∃ its : List Value, (d, tupO its) ∈ news ∧ StrsAre its ys
theorem TupS.mono {news news' : List (Addr × Obj)} {d : Addr} {ys : List Str} (h : TupS news d ys) (hs : ∀ p ∈ news, p ∈ news') : TupS news' d ys := let ⟨i, a, b⟩ := h; ⟨i, hs _ a, b⟩
noncomputable abbrev sL : Str := Str.ofString "L"
noncomputable abbrev sV : Str := Str.ofString "V"
noncomputable abbrev sLV : Str := Str.ofString "LV"
noncomputable abbrev sT : Str := Str.ofString "T"
noncomputable abbrev sLVT : Str := Str.ofString "LVT"
noncomputable abbrev sM : Str := Str.ofString "M"
inductive GoesIn (w : World) (news : List (Addr × Obj)) (ga : Addr) : Prop
  | mk (go : Obj) (d1 d2 d3 d4 d5 : Addr) : ((ga, go) ∈ news) → ((ga == sysModules) = false) → (go.IsDictOf (PySem.strKind PySem.Challenge.pw_nt0050_01 w) [(sL, .ref d1), (sV, .ref d2), (sLV, .ref d3), (sT, .ref d4), (sLVT, .ref d5)]) → (TupS news d1 [sL, sV, sLV, sLVT, sM]) → (TupS news d2 [sV, sT, sM]) → (TupS news d3 [sV, sT, sM]) → (TupS news d4 [sT, sM]) → (TupS news d5 [sT, sM]) → GoesIn w news ga
theorem GoesIn.ex {w : World} {news : List (Addr × Obj)} {ga : Addr} (h : GoesIn w news ga) : GoesIn w news ga := h
theorem GoesIn.mono {news news' : List (Addr × Obj)} {ga : Addr} (h : GoesIn w news ga) (hs : ∀ p ∈ news, p ∈ news') : GoesIn w news' ga := by
  obtain ⟨go, d1, d2, d3, d4, d5, a, b, c, e1, e2, e3, e4, e5⟩ := h
  exact ⟨go, d1, d2, d3, d4, d5, hs _ a, b, c, e1.mono hs, e2.mono hs, e3.mono hs, e4.mono hs, e5.mono hs⟩
noncomputable def goesL (x : Str) : List Str := if x = sL then [sL, sV, sLV, sLVT, sM] else if x = sV then [sV, sT, sM] else if x = sLV then [sV, sT, sM] else if x = sT then [sT, sM] else if x = sLVT then [sT, sM] else [sM]
theorem goes_get {A : Around} {E : Value → Shared → Prop} {s : Shared} {h₀ : Heap} {L : Addr} {news : List (Addr × Obj)} {ga dm : Addr} {x : Str} {u : Tok} {Q : Value → Shared → Prop} (N : News h₀ L s.heap news) (hg : GoesIn w news ga) (hd : TupS news dm [sM])
    (h : ∀ r, TupS news r (goesL x) → Q (.ref r) { s with toks := s.toks + 1 }) : wpAny (model PySem.Challenge.pw_nt0050_01 w) A (call (.builtin "dict.get") [.ref ga, .str x u, .ref dm]) Q E s := by
  obtain ⟨go, d1, d2, d3, d4, d5, a, b, c, e1, e2, e3, e4, e5⟩ := hg
  by_cases h1 : x = sL
  · refine kdg_get2 (knd := PySem.strKind _ _) N a c b (strKind_is _ _ _ _) (some (.ref d1)) (by rw [h1]; with_unfolding_all rfl) (h d1 ?_)
    rw [goesL, if_pos h1]; exact e1
  by_cases h2 : x = sV
  · refine kdg_get2 (knd := PySem.strKind _ _) N a c b (strKind_is _ _ _ _) (some (.ref d2)) (by rw [h2]; with_unfolding_all rfl) (h d2 ?_)
    rw [goesL, if_neg h1, if_pos h2]; exact e2
  by_cases h3 : x = sLV
  · refine kdg_get2 (knd := PySem.strKind _ _) N a c b (strKind_is _ _ _ _) (some (.ref d3)) (by rw [h3]; with_unfolding_all rfl) (h d3 ?_)
    rw [goesL, if_neg h1, if_neg h2, if_pos h3]; exact e3
  by_cases h4 : x = sT
  · refine kdg_get2 (knd := PySem.strKind _ _) N a c b (strKind_is _ _ _ _) (some (.ref d4)) (by rw [h4]; with_unfolding_all rfl) (h d4 ?_)
    rw [goesL, if_neg h1, if_neg h2, if_neg h3, if_pos h4]; exact e4
  by_cases h5 : x = sLVT
  · refine kdg_get2 (knd := PySem.strKind _ _) N a c b (strKind_is _ _ _ _) (some (.ref d5)) (by rw [h5]; with_unfolding_all rfl) (h d5 ?_)
    rw [goesL, if_neg h1, if_neg h2, if_neg h3, if_neg h4, if_pos h5]; exact e5
  refine kdg_get2 (knd := PySem.strKind _ _) N a c b (strKind_is _ _ _ _) none ?_ (h dm ?_)
  · simp [valueAt, Ne.symm h1, Ne.symm h2, Ne.symm h3, Ne.symm h4, Ne.symm h5]
  · rw [goesL, if_neg h1, if_neg h2, if_neg h3, if_neg h4, if_neg h5]; exact hd
theorem notin_tupS {prog : Program} {A : Around} {E : Value → Shared → Prop} {s : Shared} {h₀ : Heap} {L : Addr} {news : List (Addr × Obj)} {r : Addr} {ys : List Str} {x : Str} {u : Tok} {Q : Value → Shared → Prop} (N : News h₀ L s.heap news) (hd : TupS news r ys) (h : Q (.bool (!(ys.any (· == x)))) s) :
    wpAny (model prog w) A (compareOp .NotIn (.str x u) (.ref r)) Q E s := by
  obtain ⟨its, m, hi⟩ := hd
  exact notin_tuple_strs (items := its.toArray) ⟨_, (N _ m).1, rfl, 0, rfl⟩ hi h
noncomputable def lbrk (a b : Int) : Bool := !((goesL (Str.ofString (lkind a))).any (· == Str.ofString (lkind b)))
/-- the breaks from the place k on, behind the code a -/
noncomputable def lplc (a : Int) (k : Nat) : List Int → List Int
  | [] => []
  | c :: r => (if lbrk a c = true then [(k : Int)] else []) ++ lplc c (k + 1) r
theorem lplc_len : ∀ (a : Int) (k : Nat) (cs : List Int), (lplc a k cs).length ≤ cs.length
  | _, _, [] => Nat.le_refl _
  | a, k, c :: r => by
    rw [lplc, List.length_append, List.length_cons]
    have := lplc_len c (k + 1) r
    split
    · rw [List.length_singleton]; lia
    · rw [List.length_nil]; lia
noncomputable def EnP (cs : List Int) (i : Nat) (its : List Value) : Prop := ∃ zs, IntsAre its zs ∧ zs ++ lplc (cs.getD i 0) (i + 1) (cs.drop (i + 1)) = 0 :: lplc (cs.getD 0 0) 1 (cs.drop 1)
theorem getD_lt {cs : List Int} (h : ∀ c ∈ cs, c < 55204) (i : Nat) : cs.getD i 0 < 55204 := by
  rw [List.getD_eq_getElem?_getD]
  cases e : cs[i]? with
  | none => exact (by decide : (0 : Int) < 55204)
  | some c => exact h c (List.mem_of_getElem? e)
theorem en_step {cs : List Int} {i : Nat} {zs R : List Int} (h : i < cs.length - 1) (hz : zs ++ lplc (cs.getD i 0) (i + 1) (cs.drop (i + 1)) = R) : zs ++ ((if lbrk (cs.getD i 0) (cs.getD (i + 1) 0) = true then [((i + 1 : Nat) : Int)] else []) ++ lplc (cs.getD (i + 1) 0) (i + 2) (cs.drop (i + 2))) = R := by
  have h1 : i + 1 < cs.length := by lia
  rw [← hz, List.drop_eq_getElem_cons h1, lplc, show cs.getD (i + 1) 0 = cs[i + 1] by rw [List.getD_eq_getElem?_getD, List.getElem?_eq_getElem h1]; rfl]
section
variable {cs zs : List Int} {i : Nat} {eits : List Value} {kt : Tok}
theorem en_no (hz1 : IntsAre eits zs) (hz : zs ++ lplc (cs.getD i 0) (i + 1) (cs.drop (i + 1)) = 0 :: lplc (cs.getD 0 0) 1 (cs.drop 1)) (h : i < cs.length - 1)
    (ha : ((goesL (Str.ofString (lkind (cs.getD ((1 : Int) + (i : Int) - 1).toNat 0)))).any fun x => x == Str.ofString (lkind (cs.getD ((1 : Int) + (i : Int)).toNat 0))) = true) : EnP cs (i + 1) eits := by
  rw [show ((1 : Int) + (i : Int) - 1).toNat = i by lia, show ((1 : Int) + (i : Int)).toNat = i + 1 by lia] at ha
  have e := en_step h hz
  rw [if_neg (by rw [lbrk, ha]; decide)] at e
  exact ⟨zs, hz1, e⟩
theorem en_yes (hz1 : IntsAre eits zs) (hz : zs ++ lplc (cs.getD i 0) (i + 1) (cs.drop (i + 1)) = 0 :: lplc (cs.getD 0 0) 1 (cs.drop 1)) (h : i < cs.length - 1)
    (ha : ((goesL (Str.ofString (lkind (cs.getD ((1 : Int) + (i : Int) - 1).toNat 0)))).any fun x => x == Str.ofString (lkind (cs.getD ((1 : Int) + (i : Int)).toNat 0))) = false) : EnP cs (i + 1) (eits ++ [.int (1 + (i : Int)) kt]) := by
  rw [show ((1 : Int) + (i : Int) - 1).toNat = i by lia, show ((1 : Int) + (i : Int)).toNat = i + 1 by lia] at ha
  have e := en_step h hz
  rw [if_pos (by rw [lbrk, ha]; rfl), ← List.append_assoc] at e
  exact ⟨zs ++ [((i + 1 : Nat) : Int)], ints_app hz1 (by rw [show ((i + 1 : Nat) : Int) = 1 + (i : Int) by lia]; exact .cons _ _ .nil), e⟩
end
noncomputable def endsP (cs : List Int) : List Int := if cs = [] then [] else (0 :: lplc (cs.getD 0 0) 1 (cs.drop 1)) ++ [(cs.length : Int)]
section
variable {D : Nat} {i : Fn} {c : Cx w D i} {m : Fm} {nw : Led} {l : List Stmt} {K : Flow → Fm → Led → Prop}
theorem Ca.goes {ga dm : Addr} {x : Str} {u : Tok} {K : Value → Led → Prop} (hg : GoesIn w nw ga) (hd : TupS nw dm [sM]) (hK : ∀ r, TupS nw r (goesL x) → K (.ref r) nw) : Ca c m nw (.builtin "dict.get") [.ref ga, .str x u, .ref dm] K :=
  ⟨fun h tk Q I hQ => goes_get I.N hg hd fun r hr => hQ _ _ _ _ I (hK r hr)⟩
theorem Gm.goes {ga : Addr} {K : Value → List Value → Led → Prop} (hg : GoesIn w nw ga) (hK : K (.builtin "dict.get") [.ref ga] nw) : Gm c m nw (.ref ga) (Str.ofString "get") K := by
  obtain ⟨go, d1, d2, d3, d4, d5, a, b, c, _⟩ := hg
  exact Gm.dget a c hK
theorem Co.ninT {x : Str} {u : Tok} {r : Addr} {ys : List Str} {K : Bool → Led → Prop} (hr : TupS nw r ys) (hK : K (!(ys.any fun y => y == x)) nw) : Co c m nw .NotIn (.str x u) (.ref r) K :=
  ⟨fun h tk Q I hQ => notin_tupS I.N hr (hQ _ _ _ _ I hK)⟩
theorem Rg.abs {x : Str} {b : List Stmt} {q : Addr × Obj} {vs : List Value} (R : Led → Prop) (hR : R nw) (h : ∀ nw, R nw → RgP c x b l K m (q :: nw) vs) : RgP c x b l K m (q :: nw) vs := h _ hR
end
theorem kw57 : True := by
  (k_with "m:hgoes" => (first | (with_reducible assumption) | exact GoesIn.mono (by assumption) (by walk_at "hsub")))
  (k_with "m:htups" => (first | (with_reducible assumption) | exact TupS.mono (by assumption) (by walk_at "hsub")))
  (k_with "m:hca" => (first | ((with_reducible apply Gm.goes); walk_at "hgoes") | ((with_reducible apply Ca.goes); walk_at "hgoes"; exact ⟨_, by walk_at "hmem", by walk_at "hstrs"⟩)))
  (k_with "m:hco" => ((with_reducible apply Co.ninT); walk_at "htups"))
  trivial
noncomputable abbrev enF (l fa ga : Addr) (at_ : Option Value) : Fm := [(Str.ofString "text", some (.ref l)), (Str.ofString "goes", some (.ref ga)), (Str.ofString "found", some (.ref fa)), (Str.ofString "at", at_)]
inductive EnJ (nw : Led) (l fa ga : Addr) (P : Nat → List Value → Prop) (i : Nat) (m : Fm) (n : Led) : Prop
  | mk (its : List Value) (k : Nat) (at_ : Option Value) : ((∀ y, lk m y = lk (enF l fa ga at_) y)) → (n = (fa, lstO its k) :: nw) → (P i its) → EnJ nw l fa ga P i m n
theorem EnJ.ex {nw : Led} {l fa ga : Addr} {P : Nat → List Value → Prop} {i : Nat} {m : Fm} {n : Led} (h : EnJ nw l fa ga P i m n) : EnJ nw l fa ga P i m n := h
theorem c_ends (l : Addr) (its : List Value) (n : Nat) (cs : List Int) (news : List (Addr × Obj)) (hl : (l, lstO its n) ∈ news) (hi : IntsAre its cs) (hlen : cs.length < 16) (hc5 : ∀ c ∈ cs, c < 55204) :
    Con w 4 498 [.ref l] news (RetLn (endsP cs)) := by
  have hpl := ints_plainB hi
  have hln := hi.length
  have hl4 : its.length ≤ 400 := by lia
  refine Con.enter [(Str.ofString "text", .ref l)] (by k_is) (by k_is) rfl rfl rfl rfl rfl rfl fun c2 hret => ?_
  by_cases h0 : cs = []
  · subst h0
    obtain rfl : its = [] := by cases hi; rfl
    walk_at "hgo"
    skip
    refine RgP.two (N := 0) (by decide) (.inr ⟨by decide, rfl⟩) ⟨(l, lstO [] n), EnJ _ l _ _ (fun _ its => its = []), fun i m1 n1 hJ => ?_, ⟨_, _, none, fun y => lk_padF y [Str.ofString "at"] _, rfl, rfl⟩, fun I it i t m1 n1 hi9 => absurd hi9 (Nat.not_lt_zero _), fun m1 n1 u hJ => ?_⟩
    · obtain ⟨its, k, at_, hm, rfl, hp⟩ := hJ.ex
      walk_at "hmem"
    · obtain ⟨its, k, at_, hm, rfl, rfl⟩ := hJ.ex
      refine St.frE (lk_set hm rfl) ?_
      clear hm
      walk_at "hgo"
      exact fin_Ln hret (by rw [endsP, if_pos rfl]; exact .nil) (by walk_at "hsub") (by walk_at "hneR")
  · have hz9 : its.isEmpty = false := by cases hi with | nil => exact absurd rfl h0 | cons => rfl
    have hcl : 0 < cs.length := List.length_pos_iff.mpr h0
    walk_at "hgo"
    rename Obj.IsDictOf _ _ (_ :: _) => hgd
    refine Rg.abs (fun nw => GoesIn w nw _ ∧ (∀ p ∈ news, p ∈ nw) ∧ ∀ p ∈ nw, p.1 < _) ⟨⟨_, _, _, _, _, _, by walk_at "hmem", by assumption, hgd, ⟨_, by walk_at "hmem", by walk_at "hstrs"⟩, ⟨_, by walk_at "hmem", by walk_at "hstrs"⟩, ⟨_, by walk_at "hmem", by walk_at "hstrs"⟩, ⟨_, by walk_at "hmem", by walk_at "hstrs"⟩, ⟨_, by walk_at "hmem", by walk_at "hstrs"⟩⟩, by walk_at "hsub", by walk_at "hltR"⟩ fun nw hR => ?_
    obtain ⟨hg3, hsub, hlt⟩ := hR
    have hl3 := hsub _ hl
    have hne3 : ∀ p ∈ nw, p.1 ≠ _ := fun p hp => Nat.ne_of_lt (hlt p hp)
    refine RgP.two (N := cs.length - 1) (by lia) (by lia) ⟨(l, lstO its n), EnJ nw l _ _ (EnP cs), fun i m1 n1 hJ => ?_, ⟨_, _, none, fun y => lk_padF y [Str.ofString "at"] _, rfl, ⟨[0], .cons _ _ .nil, rfl⟩⟩, fun I it i kt m1 n1 hi9 hJ hI => ?_, fun m1 n1 u hJ => ?_⟩
    · obtain ⟨its, k, at_, hm, rfl, hp⟩ := hJ.ex
      exact .tail _ hl3
    · obtain ⟨eits, en, at_, hm, rfl, zs, hz1, hz2⟩ := hJ.ex
      have hIf := hI _ (.head _)
      have hIn : ∀ p ∈ nw, p.1 ≠ I := fun p hp => hI p (.tail _ hp)
      have hzl := congrArg List.length hz2
      rw [List.length_append, List.length_cons] at hzl
      have hll := lplc_len (cs.getD 0 0) 1 (cs.drop 1)
      rw [List.length_drop] at hll
      have hel : eits.length ≤ 400 := by rw [hz1.length]; lia
      have hx1 : cs.getD ((1 : Int) + (i : Int)).toNat 0 < 55204 := getD_lt hc5 _
      have hx2 : cs.getD ((1 : Int) + (i : Int) - 1).toNat 0 < 55204 := getD_lt hc5 _
      refine St.frE (lk_set hm rfl) ?_
      clear hm
      walk_at "hgo"
      · exact Kf.mk' (n' := (_, lstO eits en) :: nw) ⟨_, _, _, fun _ => rfl, rfl, en_no hz1 hz2 hi9 (by assumption)⟩ (sub_t (sub_t sub_r)) (.tail _ (.head _)) hI
      · exact Kf.mk' (n' := (_, lstO (eits ++ [Value.int (1 + (i : Int)) kt]) (en + 1)) :: nw) ⟨_, _, _, fun _ => rfl, rfl, en_yes hz1 hz2 hi9 (by assumption)⟩ (sub_t (sub_t sub_r)) (.tail _ (.head _)) (ne_cons hIf hIn)
    · obtain ⟨eits, en, at_, hm, rfl, zs, hz1, hz2⟩ := hJ.ex
      rw [show cs.length - 1 + 1 = cs.length by lia, List.drop_length] at hz2
      have hz3 : zs = 0 :: lplc (cs.getD 0 0) 1 (cs.drop 1) := by rw [← hz2]; exact (List.append_nil _).symm
      have hll := lplc_len (cs.getD 0 0) 1 (cs.drop 1)
      rw [List.length_drop] at hll
      have hez : eits.length ≤ 400 := by rw [hz1.length, hz3, List.length_cons]; lia
      refine St.frE (lk_set hm rfl) ?_
      clear hm
      walk_at "hgo"
      refine fin_Ln hret ?_ (by walk_at "hsub") (by walk_at "hneR")
      rw [endsP, if_neg h0, ← hz3]
      exact ints_app hz1 (.cons _ _ .nil)
noncomputable def strt (k : Nat) : List Int → List Int
  | [] => []
  | c :: r => (if cls c = 0 then [(k : Int)] else []) ++ strt (k + 1) r
theorem strt_len : ∀ (k : Nat) (cs : List Int), (strt k cs).length ≤ cs.length
  | _, [] => Nat.le_refl _
  | k, c :: r => by
    rw [strt, List.length_append, List.length_cons]
    have := strt_len (k + 1) r
    split
    · rw [List.length_singleton]; lia
    · rw [List.length_nil]; lia
noncomputable def tgstep (f : List Int) (c : Int) : List Int :=
  match (strt 0 f).getLast? with
  | none => f ++ [c]
  | some k => match lpair (f.getD k.toNat 0) c with
    | none => f ++ [c]
    | some q => if (f.drop (k + 1).toNat).all (fun o => decide (cls o < cls c)) then f.set k.toNat q else f ++ [c]
noncomputable def togP (cs : List Int) : List Int := cs.foldl tgstep []
theorem tgstep_len (f : List Int) (c : Int) : (tgstep f c).length ≤ f.length + 1 := by
  unfold tgstep
  split
  · simp
  split
  · simp
  split
  · simp
  · simp
theorem tog_len : ∀ (cs f : List Int), (cs.foldl tgstep f).length ≤ f.length + cs.length
  | [], _ => Nat.le_refl _
  | c :: r, f => by
    rw [List.foldl_cons, List.length_cons]
    have := tog_len r (tgstep f c)
    have := tgstep_len f c
    lia
structure StS (led : List (Addr × Obj)) (fs : List Int) (i : Nat) (ys : List Value) (nw : List (Addr × Obj)) : Prop where
  ex : ∃ zs : List Int, nw = led ∧ IntsAre ys zs ∧ zs ++ strt i (fs.drop i) = strt 0 fs
theorem StS.yes {led : List (Addr × Obj)} {fs zs : List Int} {i : Nat} {c : Int} {ys : List Value} {t : Tok} (hz : zs ++ strt i (fs.drop i) = strt 0 fs) (hc : fs[i]? = some c) (hb : cls c = 0) (hy : IntsAre ys zs) : StS led fs (i + 1) (ys ++ [.int (i : Int) t]) led :=
  ⟨⟨zs ++ [(i : Int)], rfl, ints_app hy (.cons _ t .nil), by rw [← hz, drop_at hc, strt, if_pos hb, List.append_assoc]⟩⟩
theorem StS.no {led : List (Addr × Obj)} {fs zs : List Int} {i : Nat} {c : Int} {ys : List Value} (hz : zs ++ strt i (fs.drop i) = strt 0 fs) (hc : fs[i]? = some c) (hb : ¬ cls c = 0) (hy : IntsAre ys zs) : StS led fs (i + 1) ys led :=
  ⟨⟨zs, rfl, hy, by rw [← hz, drop_at hc, strt, if_neg hb, List.nil_append]⟩⟩
theorem strt_mem : ∀ (k : Nat) (cs : List Int) (z : Int), z ∈ strt k cs → ∃ j : Nat, z = ((k + j : Nat) : Int) ∧ j < cs.length
  | _, [], _, h => nomatch h
  | k, c :: r, z, h => by
    rw [strt] at h
    rcases List.mem_append.mp h with h | h
    · split at h
      · exact ⟨0, by rw [List.mem_singleton.mp h]; rfl, Nat.zero_lt_succ _⟩
      · cases h
    · obtain ⟨j, rfl, hj⟩ := strt_mem (k + 1) r z h
      exact ⟨j + 1, by rw [Nat.add_assoc, Nat.add_comm 1 j], Nat.succ_lt_succ hj⟩
theorem ints_last {vs : List Value} {ns : List Int} {q : Int} (h : IntsAre vs ns) (hq : ns.getLast? = some q) : ∃ t, vs.getLast? = some (.int q t) := by
  rw [List.getLast?_eq_getElem?] at hq ⊢
  rw [h.length]
  have hlt : ns.length - 1 < vs.length := by
    have := (List.getElem?_eq_some_iff.mp hq).1
    rw [h.length]; exact this
  obtain ⟨c, t, hc, e⟩ := ints_at h (List.getElem?_eq_getElem hlt)
  rw [hq] at hc
  cases hc
  exact ⟨t, by rw [List.getElem?_eq_getElem hlt, e]⟩
theorem lx_last {prog : Program} {A : Around} {E : Value → Shared → Prop} {s : Shared} {h₀ : Heap} {L l : Addr} {news : List (Addr × Obj)} {value slice : PySem.Expr} {vs : List Value} {n : Nat} {v : Value} {u : Tok} {Q : Value → Shared → Prop} (N : News h₀ L s.heap news) (hm : (l, lstO vs n) ∈ news) (hv : vs.getLast? = some v) (h : Q v s)
    (hs : subscripted slice false (.ref l) (.int (-1) u) = operate [.ref l, .int (-1) u] (getItem (.ref l) (.int (-1) u)) := by with_unfolding_all rfl) : wpAny (model prog w) A (subscriptTail value slice (.ref l) (.int (-1) u)) Q E s := by
  rw [List.getLast?_eq_getElem?] at hv
  have hlt := (List.getElem?_eq_some_iff.mp hv).1
  refine kde_neg (vs := vs) (j := vs.length - 1) ⟨_, (N _ hm).1, rfl, n, rfl⟩ (by decide) (by decide) ?_ hv h hs
  rw [seqIndex_neg (by decide) (by lia)]
  congr 1
  lia
noncomputable def flB (c : Int) (bs : List Int) : List Int := bs.filter (fun o => decide (cls c ≤ cls o))
theorem flB_all (c : Int) : ∀ bs : List Int, bs.all (fun o => decide (cls o < cls c)) = decide (flB c bs = [])
  | [] => by simp [flB]
  | b :: r => by
    have ih := flB_all c r
    rw [List.all_cons, ih]
    by_cases h : cls c ≤ cls b
    · have h1 : ¬ cls b < cls c := by lia
      simp [flB, h, h1]
    · have h1 : cls b < cls c := by lia
      simp [flB, h, h1]
structure StB (led : List (Addr × Obj)) (bs : List Int) (c : Int) (i : Nat) (ys : List Value) (nw : List (Addr × Obj)) : Prop where
  ex : ∃ zs : List Int, nw = led ∧ IntsAre ys zs ∧ zs ++ flB c (bs.drop i) = flB c bs
theorem StB.yes {led : List (Addr × Obj)} {bs zs : List Int} {i : Nat} {c b : Int} {ys : List Value} {t : Tok} (hz : zs ++ flB c (bs.drop i) = flB c bs) (hc : bs[i]? = some b) (hb : cls c ≤ cls b) (hy : IntsAre ys zs) : StB led bs c (i + 1) (ys ++ [.int b t]) led :=
  ⟨⟨zs ++ [b], rfl, ints_app hy (.cons _ t .nil), by rw [← hz, drop_at hc, flB, flB, List.filter_cons_of_pos (by simpa using hb), List.append_assoc]; rfl⟩⟩
theorem StB.no {led : List (Addr × Obj)} {bs zs : List Int} {i : Nat} {c b : Int} {ys : List Value} (hz : zs ++ flB c (bs.drop i) = flB c bs) (hc : bs[i]? = some b) (hb : ¬ cls c ≤ cls b) (hy : IntsAre ys zs) : StB led bs c (i + 1) ys led :=
  ⟨⟨zs, rfl, hy, by rw [← hz, drop_at hc, flB, flB, List.filter_cons_of_neg (by simpa using hb)]⟩⟩
theorem tog_step {cs : List Int} {i : Nat} {c : Int} (hc : cs[i]? = some c) : togP (cs.take (i + 1)) = tgstep (togP (cs.take i)) c := by
  rw [List.take_add_one, hc, togP, List.foldl_append]; rfl
theorem tg_none {f : List Int} {c : Int} {k : Nat} (h : (strt 0 f).getLast? = some (k : Int)) (h2 : lpair (f.getD k 0) c = none) : tgstep f c = f ++ [c] := by unfold tgstep; rw [h]; dsimp only; rw [Int.toNat_natCast, h2]
theorem tg_some {f : List Int} {c q : Int} {k : Nat} (h : (strt 0 f).getLast? = some (k : Int)) (h2 : lpair (f.getD k 0) c = some q) : tgstep f c = if (f.drop (k + 1)).all (fun o => decide (cls o < cls c)) then f.set k q else f ++ [c] := by
  unfold tgstep; rw [h]; dsimp only; rw [Int.toNat_natCast, h2, show ((k : Int) + 1).toNat = k + 1 by lia]
theorem tg_nil {f : List Int} {c : Int} (h : strt 0 f = []) : tgstep f c = f ++ [c] := by unfold tgstep; rw [h]; rfl
noncomputable abbrev tgF (l fa : Addr) (sv pv bv : Option Value) : Fm := [(Str.ofString "text", some (.ref l)), (Str.ofString "found", some (.ref fa)), (Str.ofString "starts", sv), (Str.ofString "pair", pv), (Str.ofString "between", bv)]
inductive TgJ (C l : Addr) (news : Led) (cs : List Int) (k : Nat) (m : Fm) (n : Led) : Prop
  | mk (co : Obj) (fa : Addr) (fits : List Value) (fn : Nat) (sv pv bv v : Option Value) : ((∀ y, lk m y = lk (tgF l fa sv pv bv) y)) → (n = (fa, lstO fits fn) :: (C, co) :: news) → (co.data = .cell v) → (IntsAre fits (togP (cs.take k))) → ((∀ p ∈ news, p.1 ≠ fa)) → (C ≠ fa) → TgJ C l news cs k m n
theorem TgJ.ex {C l : Addr} {news : Led} {cs : List Int} {k : Nat} {m : Fm} {n : Led} (h : TgJ C l news cs k m n) : TgJ C l news cs k m n := h
theorem TgJ.fin {C l fa I : Addr} {it co : Obj} {news n2 : Led} {cs : List Int} {k j : Nat} {c : Int} {z : List Value} {m2 : Fm} {sv pv bv v : Option Value} (hc : cs[k]? = some c) (hm : ∀ y, lk m2 y = lk (tgF l fa sv pv bv) y) (hz : IntsAre z (tgstep (togP (cs.take k)) c)) (hn : ∀ p ∈ (fa, lstO z j) :: (C, co) :: news, p ∈ n2) (hI : (I, it) ∈ n2) (h1 : fa ≠ I) (h2 : C ≠ I) (h3 : ∀ p ∈ news, p.1 ≠ I) (hco : co.data = .cell v) (k3 : ∀ p ∈ news, p.1 ≠ fa) (k4 : C ≠ fa) :
    Flow.next = Flow.next ∧ Kf I it (TgJ C l news cs (k + 1)) m2 n2 :=
  ⟨rfl, (fa, lstO z j) :: (C, co) :: news, ⟨co, fa, z, j, sv, pv, bv, v, hm, rfl, hco, by rw [tog_step hc]; exact hz, k3, k4⟩, hn, hI, ne_cons h1 (ne_cons h2 h3)⟩
theorem pick_from {its : List Value} {k : Nat} (h : k < its.length) : kms_pick its (some ((k : Int) + 1)) none = its.drop (k + 1) := by
  have e : kms_lo (some ((k : Int) + 1)) its.length = k + 1 := by
    show (if (k : Int) + 1 < 0 then its.length - (-((k : Int) + 1)).toNat else min ((k : Int) + 1).toNat its.length) = k + 1
    rw [if_neg (by lia)]
    lia
  show (its.drop (kms_lo (some ((k : Int) + 1)) its.length)).take (its.length - kms_lo (some ((k : Int) + 1)) its.length) = _
  rw [e, List.take_of_length_le (by rw [List.length_drop]; exact Nat.le_refl _)]
theorem ints_drop {vs : List Value} {ns : List Int} (h : IntsAre vs ns) : ∀ k, IntsAre (vs.drop k) (ns.drop k) := by
  induction h with
  | nil => intro k; rw [List.drop_nil, List.drop_nil]; exact .nil
  | cons n t r ih =>
    intro k
    cases k with
    | zero => exact .cons n t r
    | succ k => exact ih k
section
variable {D : Nat} {i : Fn} {c : Cx w D i} {m : Fm} {nw : Led}
theorem Sl.nx {a : Addr} {its : List Value} {k n : Nat} {t : Tok} {K : Value → Led → Prop} (h1 : (a, lstO its n) ∈ nw) (hk : k < its.length) (hz : its.length ≤ 100000) (h6 : ∀ D, (∀ p ∈ nw, p.1 < D) → K (.ref D) ((D, lstO (its.drop (k + 1)) 0) :: nw)) : Sl nw (.ref a) (.int ((k : Int) + 1) t) .none K := Sl.mk' h1 (IsPart.int ..) IsPart.none (pick_from hk) hz h6
theorem Su.intsN {value slice : Expr} {a : Addr} {its : List Value} {ns : List Int} {n k : Nat} {u : Tok} {K : Value → Led → Prop} (hs : ∀ l k u, subscripted slice false (.ref l) (.int k u) = operate [.ref l, .int k u] (getItem (.ref l) (.int k u))) (ha : (a, lstO its n) ∈ nw) (hi : IntsAre its ns) (h1 : (k : Int) < ns.length) (h2 : (ns.length : Int) < 2 ^ 63) (hK : ∀ t, K (.int (ns.getD k 0) t) nw) : Su c m nw value slice (.ref a) (.int (k : Int) u) K :=
  Su.ints hs ha hi (Int.natCast_nonneg _) h1 h2 hK
theorem Ca.lpN {n k : Int} {t u : Tok} {K : Value → Led → Prop} (h : lpair n k = none) (hd : Nat.ble 2 D = true) (hK : K .none nw) : Ca c m nw (.ref 479) [.int n t, .int k u] K :=
  Ca.V (c_lpair n k t u nw) hd fun t => by rw [h]; exact hK
theorem Ca.lpS {n k q : Int} {t u : Tok} {K : Value → Led → Prop} (h : lpair n k = some q) (hd : Nat.ble 2 D = true) (hK : ∀ t, K (.int q t) nw) : Ca c m nw (.ref 479) [.int n t, .int k u] K :=
  Ca.V (c_lpair n k t u nw) hd fun t => by rw [h]; exact hK t
@[reducible] noncomputable def KEn (K : Bool → Led → Prop) (v : Value) (n1 : Led) : Prop := ∃ a its n ns, v = .ref a ∧ (a, lstO its n) ∈ n1 ∧ IntsAre its ns ∧ K (decide (ns = [])) n1
theorem Tx.eqNil {e : Expr} {p1 pos : Pos} {K : Bool → Led → Prop} (h : Ex c m nw e (KEn K)) : Tx c m nw (.Compare e [.Eq] [.List [] p1] pos) K := by
  refine Tx.co rfl ⟨fun h0 tk Q I hQ => h.run h0 tk Q I fun v n1 h1 t1 I1 hK => hQ _ _ _ _ I1 ?_⟩
  obtain ⟨a, its, n, ns, rfl, ha, hi, hK⟩ := hK
  refine Ex.lst (Exs.nil ⟨Nat.zero_le _, fun b l => ⟨fun h2 t2 Q I2 hQ => ?_⟩⟩)
  exact eq_intsK (isL I2.N (.tail _ ha)) hi (isL I2.N (.head _)) .nil (by have := c.hu; show c.un + 64 < cLine; lia) (hQ _ _ _ _ ⟨I2.F, cb_drop I2.N fun p hp => .tail _ hp⟩ hK)
theorem intl_i {a : Addr} {its : List Value} {n : Nat} {ns : List Int} {n1 : Led} {P : List Int → Prop} (h1 : (a, lstO its n) ∈ n1) (h2 : IntsAre its ns) (h : P ns) : ∃ a' its n ns, Value.ref a = Value.ref a' ∧ (a', lstO its n) ∈ n1 ∧ IntsAre its ns ∧ P ns := ⟨a, its, n, ns, rfl, h1, h2, h⟩
theorem Su.last {value slice : Expr} {a : Addr} {its : List Value} {n : Nat} {u : Tok} {v : Value} {K : Value → Led → Prop} (hs : ∀ l k u, subscripted slice false (.ref l) (.int k u) = operate [.ref l, .int k u] (getItem (.ref l) (.int k u))) (ha : (a, lstO its n) ∈ nw) (hv : its.getLast? = some v) (hK : K v nw) : Su c m nw value slice (.ref a) (.int (-1) u) K :=
  ⟨fun h tk Q I hQ => lx_last I.N ha hv (hQ _ _ _ _ I hK) (hs _ _ _)⟩
end
theorem kw58 : True := by
  (k_with "m:hex" => ((with_reducible apply Sl.nx); walk_at "hmem"; (with_reducible assumption); omega))
  (k_with "m:hca" => ((with_reducible apply Su.intsN); (with_unfolding_all exact fun _ _ _ => rfl); walk_at "hmem"; (with_reducible assumption); (with_reducible assumption); (with_reducible assumption)))
  (k_with "m:hca" => ((with_reducible show Ca _ _ _ (Value.ref 479) _ _); first | ((with_reducible apply Ca.lpN); (with_reducible assumption); exact rfl) | ((with_reducible apply Ca.lpS); (with_reducible assumption); exact rfl)))
  (k_with "m:htx" => (with_reducible apply Tx.eqNil))
  (k_with "m:hval" => ((with_reducible apply intl_i); walk_at "hmem"; (with_reducible assumption)))
  (k_with "m:hca" => ((with_reducible apply Su.last); (with_unfolding_all exact fun _ _ _ => rfl); walk_at "hmem"; (with_reducible assumption)))
  trivial
theorem c_together (l : Addr) (its : List Value) (n : Nat) (cs : List Int) (news : List (Addr × Obj)) (hl : (l, lstO its n) ∈ news) (hi : IntsAre its cs) (hlen : cs.length < 16) :
    Con w 6 484 [.ref l] news (RetLn (togP cs)) := by
  refine Con.enterC1 [(Str.ofString "text", .ref l)] [(Str.ofString "text", some (.ref l))] (Str.ofString "code") (by k_is) (by k_is) (fun _ X => BindsTo.of_eq rfl) rfl (fun _ => rfl) rfl rfl rfl rfl fun c oc hoc lL hret => ?_
  walk_at "hgo"
  rename (∀ p ∈ (_, _) :: news, p.1 < _) => l1
  refine ForC.mk' (vs := its) (k := n) (TgJ (c.L + 1) l news cs) (fun k m1 n1 hJ => ?_) ⟨oc, _, [], 0, none, none, none, _, fun y => lk_padF y [Str.ofString "starts", Str.ofString "pair", Str.ofString "between"] _, rfl, hoc, .nil, fun p hp => Nat.ne_of_lt (l1 p (.tail _ hp)), Nat.ne_of_lt (l1 _ (.head _))⟩ (fun s I it k v m1 n1 hv hJ hI => ?_) fun m1 n1 hJ => ?_
  · obtain ⟨co, fa, fits, fn, sv, pv, bv, v, hm, rfl, h1, h2, h3, h4⟩ := hJ.ex
    exact .tail _ (.tail _ hl)
  · obtain ⟨co, fa, fits, fn, sv, pv, bv, v, hm, rfl, k1, k2, k3, k4⟩ := hJ.ex
    obtain ⟨c0, t1, hc, rfl⟩ := ints_at hi hv
    have hIn : ∀ p ∈ news, p.1 ≠ I := fun p hp => hI p (.tail _ (.tail _ hp))
    have hIf : fa ≠ I := hI _ (.head _)
    have hIC : c.L + 1 ≠ I := hI _ (.tail _ (.head _))
    have hfl := tog_len (cs.take k) []
    have hfz : fits.length < 16 := by rw [k2.length, togP]; rw [List.length_take] at hfl; simp only [List.length_nil] at hfl; lia
    refine CSt.mk' (a := c.L + 1) rfl rfl (by walk_at "hupd") k1 fun o' ho' => St.frE hm (St.genK fun KK hKK => ?_)
    clear hm k1
    walk_at "hgo"
    refine LcE.mk' (vs := fits) (k := fn) (StS _ (togP (cs.take k))) (fun j ys n hJ => by obtain ⟨_, rfl, _⟩ := hJ.ex; exact .tail _ (.head _)) (by lia) ⟨[], rfl, .nil, rfl⟩ ⟨fun j ys nw v t e oe I2 oI C oC D m2 hJ hv2 hC h1 h2 off ne => ?_⟩ fun ys n hJ D hD9 => ?_
    · obtain ⟨zs, rfl, hy, hz⟩ := hJ.ex
      obtain ⟨c2, t2, hc2, rfl⟩ := ints_at k2 hv2
      walk_at "hgo"
      · exact C4.mk' _ sub_r off (StS.yes hz hc2 (by assumption) hy)
      · exact C4.mk' _ sub_r off (StS.no hz hc2 (by assumption) hy)
    · obtain ⟨zs, rfl, hy, hz⟩ := hJ.ex
      have hz0 : zs = strt 0 (togP (cs.take k)) := by rw [← hz, k2.length, List.drop_length]; exact (List.append_nil _).symm
      have hsl := strt_len 0 (togP (cs.take k))
      have hpl := ints_plainB hy
      subst hz0
      have hDn : ∀ p ∈ news, p.1 ≠ D := fun p hp => hD9 p (.tail _ (.tail _ (.tail _ hp)))
      have hDI := hD9 _ (.head _)
      have hDf := hD9 _ (.tail _ (.head _))
      have hDC := hD9 _ (.tail _ (.tail _ (.head _)))
      cases hst : strt 0 (togP (cs.take k)) with
      | nil =>
        rw [hst] at hy
        obtain rfl : ys = [] := by cases hy; rfl
        walk_at "hgo"
        refine hKK _ _ _ (TgJ.fin hc (fun _ => rfl) ?_ (by walk_at "hsub") (by walk_at "hmem") hIf hIC hIn ho' k3 k4)
        rw [tg_nil hst]
        exact ints_app k2 (.cons _ _ .nil)
      | cons z zr =>
        obtain ⟨q, hq⟩ : ∃ q, (strt 0 (togP (cs.take k))).getLast? = some q := by rw [hst]; exact ⟨_, List.getLast?_cons⟩
        obtain ⟨qn, rfl, hqn⟩ := strt_mem 0 _ _ (List.mem_of_getLast? hq)
        rw [Nat.zero_add] at hq
        obtain ⟨t4, hyl⟩ := ints_last hy hq
        have hz9 : ys.isEmpty = false := by cases ys with | nil => cases hyl | cons => rfl
        have hq1 : (qn : Int) < (togP (cs.take k)).length := Int.ofNat_lt.mpr hqn
        have hq2 : ((togP (cs.take k)).length : Int) < 2 ^ 63 := by rw [← k2.length]; lia
        have hq3 : qn < fits.length := by rw [k2.length]; exact hqn
        cases hlp : lpair ((togP (cs.take k)).getD qn 0) c0 with
        | none =>
          walk_at "hgo"
          refine hKK _ _ _ (TgJ.fin hc (fun _ => rfl) ?_ (by walk_at "hsub") (by walk_at "hmem") hIf hIC hIn ho' k3 k4)
          rw [tg_none hq hlp]
          exact ints_app k2 (.cons _ _ .nil)
        | some p9 =>
          walk_at "hgo"
          have hw : IntsAre (fits.drop (qn + 1)) ((togP (cs.take k)).drop (qn + 1)) := ints_drop k2 _
          have hbl : ((togP (cs.take k)).drop (qn + 1)).all (fun o => decide (cls o < cls c0)) = decide (flB c0 ((togP (cs.take k)).drop (qn + 1)) = []) := flB_all c0 _
          rename (∀ p ∈ (D, _) :: _, p.1 < _) => l5
          refine LcT.mk' (vs := fits.drop (qn + 1)) (k := 0) (StB _ ((togP (cs.take k)).drop (qn + 1)) c0) (fun j ys n hJ => by obtain ⟨_, rfl, _⟩ := hJ.ex; exact .head _) (by rw [List.length_drop]; lia) ⟨[], rfl, .nil, rfl⟩ ⟨fun j ys nw v I2 oI C oC D2 m2 hj hJ hv2 hC h1 off ne => ?_⟩ fun ys9 n hJ D2 hD2 => ?_
          · obtain ⟨zs, rfl, hy9, hz9⟩ := hJ.ex
            obtain ⟨c3, t3, hc3, rfl⟩ := ints_at hw hv2
            walk_at "hgo"
            · exact Ce.mk' _ sub_r off (StB.yes hz9 hc3 (by assumption) hy9)
            · exact Ce.mk' _ sub_r off (StB.no hz9 hc3 (by assumption) hy9)
          · obtain ⟨zs, rfl, hy9, hz9⟩ := hJ.ex
            have hz0 : zs = flB c0 ((togP (cs.take k)).drop (qn + 1)) := by rw [← hz9, hw.length, List.drop_length]; exact (List.append_nil _).symm
            subst hz0
            have hD2n : ∀ p ∈ news, p.1 ≠ D2 := fun p hp => hD2 p (.tail _ (.tail _ (.tail _ (.tail _ (.tail _ hp)))))
            have hD2I := hD2 _ (.tail _ (.tail _ (.head _)))
            have hD2f := hD2 _ (.tail _ (.tail _ (.tail _ (.head _))))
            have hD2C := hD2 _ (.tail _ (.tail _ (.tail _ (.tail _ (.head _)))))
            have hD2D := hD2 _ (.tail _ (.head _))
            have hD20 := hD2 _ (.head _)
            walk_at "hgo"
            · refine hKK _ _ _ (TgJ.fin hc (fun _ => rfl) ?_ (by walk_at "hsub") (by walk_at "hmem") hIf hIC hIn ho' k3 k4)
              rw [tg_some hq hlp, hbl, (by assumption : decide (flB c0 ((togP (cs.take k)).drop (qn + 1)) = []) = true)]
              exact ints_set qn p9 _ k2
            · refine hKK _ _ _ (TgJ.fin hc (fun _ => rfl) ?_ (by walk_at "hsub") (by walk_at "hmem") hIf hIC hIn ho' k3 k4)
              rw [tg_some hq hlp, hbl, (by assumption : decide (flB c0 ((togP (cs.take k)).drop (qn + 1)) = []) = false)]
              exact ints_app k2 (.cons _ _ .nil)
  · obtain ⟨co, fa, fits, fn, sv, pv, bv, v, hm, rfl, k1, k2, k3, k4⟩ := hJ.ex
    rw [hi.length, List.take_length] at k2
    refine St.frE hm ?_
    clear hm
    walk_at "hgo"
    exact fin_Ln hret k2 (by walk_at "hsub") k3
/-- the codes that the law's texts are made of -/
noncomputable def InD (c : Int) : Prop := c = 97 ∨ c = 224 ∨ c = 768 ∨ c = 769 ∨ c = 803 ∨ (4352 ≤ c ∧ c ≤ 4607) ∨ (44032 ≤ c ∧ c ≤ 55203)
noncomputable def kk : List (String × String) := [("M", "Extend"), ("other", "Other"), ("L", "L"), ("V", "V"), ("T", "T"), ("LV", "LV"), ("LVT", "LVT")]
theorem InD_of {l : List Int} (h : (l.all fun c => decide (c = 97 ∨ c = 224 ∨ c = 768 ∨ c = 769 ∨ c = 803 ∨ (4352 ≤ c ∧ c ≤ 4607) ∨ (44032 ≤ c ∧ c ≤ 55203))) = true) : ∀ c ∈ l, InD c := fun c hc => have := of_decide_eq_true (List.all_eq_true.mp h c hc); this
theorem InD_j {c : Int} (h1 : 4352 ≤ c) (h2 : c ≤ 4607) : InD c := .inr (.inr (.inr (.inr (.inr (.inl ⟨h1, h2⟩)))))
theorem InD_s {c : Int} (h1 : 44032 ≤ c) (h2 : c ≤ 55203) : InD c := .inr (.inr (.inr (.inr (.inr (.inr ⟨h1, h2⟩)))))
theorem kinds_j : ∀ k < 256, (lkind (4352 + (k : Nat)), ckind (4352 + (k : Nat))) ∈ kk := by decide +kernel
theorem kinds_in {c : Int} (h : InD c) : (lkind c, ckind c) ∈ kk := by
  rcases h with rfl | rfl | rfl | rfl | rfl | ⟨h1, h2⟩ | ⟨h1, h2⟩
  · decide +kernel
  · decide +kernel
  · decide +kernel
  · decide +kernel
  · decide +kernel
  · have e : c = 4352 + ((c - 4352).toNat : Int) := by lia
    rw [e]
    exact kinds_j _ (by lia)
  · have hm : isMark c = false := by
      simp only [isMark, Bool.or_eq_false_iff, beq_eq_false_iff_ne]; lia
    have h0 : 0 ≤ c - 44032 ∧ c - 44032 < 11172 := ⟨by lia, by lia⟩
    have hs : isHS c = true := by simp only [isHS, Bool.and_eq_true, decide_eq_true_eq]; exact h0
    unfold lkind ckind hkind
    rw [if_pos h0]
    simp only [hm, Bool.false_eq_true, if_false, hs, if_true]
    by_cases h2 : (c - 44032) % 28 = 0 <;> simp [h2, kk]
theorem brk_kinds : ∀ p ∈ kk, ∀ q ∈ kk, noBrk (Str.ofString p.2) (Str.ofString q.2) = (goesL (Str.ofString p.1)).any (· == Str.ofString q.1) := by decide +kernel
theorem brk_eq {a b : Int} (ha : InD a) (hb : InD b) : brkIf (some (ckind a)) b = lbrk a b := by
  unfold brkIf lbrk
  exact congrArg (!·) (brk_kinds _ (kinds_in ha) _ (kinds_in hb))
theorem plc_eq : ∀ (cs : List Int) (a : Int) (k : Nat), InD a → (∀ c ∈ cs, InD c) → plc (some (ckind a)) k cs = lplc a k cs
  | [], _, _, _, _ => rfl
  | c :: r, a, k, ha, hc => by
    rw [plc, lplc, brk_eq ha (hc c (.head _)), plc_eq r c (k + 1) (hc c (.head _)) (fun x hx => hc x (.tail _ hx))]
theorem places_ends (cs : List Int) (hc : ∀ c ∈ cs, InD c) : placesP cs = endsP cs := by
  cases cs with
  | nil => rfl
  | cons c r =>
    unfold placesP endsP
    rw [if_neg (by simp), if_neg (by simp), plc]
    have h1 : brkIf none c = true := rfl
    rw [h1, plc_eq r c 1 (hc c (.head _)) (fun x hx => hc x (.tail _ hx))]
    rfl
noncomputable def passR (a : Int) : List Int → List Int
  | [] => [a]
  | b :: r => if 0 < cls b ∧ cls b < cls a then b :: passR a r else a :: passR b r
theorem getD_app (p : List Int) (a b : Int) (r : List Int) : (p ++ a :: b :: r).getD p.length 0 = a ∧ (p ++ a :: b :: r).getD (p.length + 1) 0 = b := by
  constructor
  · simp [List.getD_eq_getElem?_getD]
  · simp [List.getD_eq_getElem?_getD, List.getElem?_append_right]
theorem bstep_app (p : List Int) (a b : Int) (r : List Int) : bstep (p ++ a :: b :: r) p.length = if 0 < cls b ∧ cls b < cls a then p ++ b :: a :: r else p ++ a :: b :: r := by
  obtain ⟨h1, h2⟩ := getD_app p a b r
  unfold bstep
  rw [h1, h2]
  split
  · rw [List.set_append_right _ _ (Nat.le_refl _), Nat.sub_self, List.set_cons_zero, List.set_append_right _ _ (Nat.le_succ _), show p.length + 1 - p.length = 1 by lia]
    rfl
  · rfl
theorem pass_fold : ∀ (r p : List Int) (a : Int), (List.range' p.length r.length).foldl bstep (p ++ a :: r) = p ++ passR a r
  | [], p, a => rfl
  | b :: r, p, a => by
    rw [List.length_cons, List.range'_succ, List.foldl_cons, bstep_app, passR]
    split
    · have := pass_fold r (p ++ [b]) a
      rw [List.length_append, List.length_singleton] at this
      rw [show p ++ b :: a :: r = (p ++ [b]) ++ a :: r by simp, this]; simp
    · have := pass_fold r (p ++ [a]) b
      rw [List.length_append, List.length_singleton] at this
      rw [show p ++ a :: b :: r = (p ++ [a]) ++ b :: r by simp, this]; simp
theorem passB_cons (a : Int) (r : List Int) : passB (a :: r) = passR a r := by
  have := pass_fold r [] a
  unfold passB
  rw [List.length_cons, Nat.add_sub_cancel, List.range_eq_range']
  exact this
theorem passR_N : ∀ (r : List Int) (a : Int) (q : List (Int × Int)), ordGo q (passR a r) = ordGo q (a :: r)
  | [], _, _ => rfl
  | b :: r, a, q => by
    rw [passR]
    split
    · rename_i h
      have h1 : ∀ q, ordGo q (b :: passR a r) = ordGo q (b :: a :: r) := fun q => by
        rw [ordGo, ordGo]
        split
        · exact passR_N r a _
        · rw [passR_N r a]
      rw [h1]
      have := ordGo_swap (a := b) (b := a) (by lia) h.1 (by lia) r [] q
      exact this
    · rw [ordGo, ordGo.eq_2 _ a]
      split
      · exact passR_N r b _
      · rw [passR_N r b]
/-- the most marks of the upper class ahead of a lower one in its run -/
noncomputable def mx (k : Nat) : List Int → Nat
  | [] => 0
  | c :: r => if cls c = 0 then mx 0 r else if cls c = 230 then mx (k + 1) r else max k (mx k r)
theorem mx_h {k a b : Nat} (h : a ≤ b - 1) : max k a ≤ max (k + 1) b - 1 := Nat.max_le.mpr ⟨Nat.le_sub_of_add_le (Nat.le_max_left _ _), Nat.le_trans h (Nat.sub_le_sub_right (Nat.le_max_right _ _) 1)⟩
theorem mx_h0 {a b : Nat} (h : a ≤ b - 1) : max 0 a ≤ max 0 b - 1 := by rw [Nat.zero_max, Nat.zero_max]; exact h
theorem sub_sub_le {a b c n : Nat} (h1 : b ≤ c - n) (h2 : a ≤ b - 1) : a ≤ c - (n + 1) := Nat.le_trans h2 (Nat.sub_le_sub_right h1 1)
theorem mx_pass : ∀ (r : List Int) (a : Int) (k : Nat), (cls a = 230 → mx k (passR a r) ≤ mx (k + 1) r - 1) ∧ (cls a = 0 → mx k (passR a r) ≤ mx 0 r - 1) ∧ (cls a = 220 → mx 0 (passR a r) ≤ mx 0 r - 1)
  | [], a, k => by
    refine ⟨fun h => ?_, fun h => ?_, fun h => ?_⟩ <;> simp [passR, mx, h]
  | b :: r, a, k => by
    have c1 := cls_cases b
    refine ⟨fun h => ?_, fun h => ?_, fun h => ?_⟩
    · rcases c1 with c1 | c1 | c1
      · have ih := (mx_pass r b (k + 1)).2.1 c1
        simp [passR, mx, h, c1]; exact ih
      · have ih := (mx_pass r a k).1 h
        simp [passR, mx, h, c1]; exact mx_h ih
      · have ih := (mx_pass r b (k + 1)).1 c1
        simp [passR, mx, h, c1]; exact ih
    · rcases c1 with c1 | c1 | c1
      · have ih := (mx_pass r b 0).2.1 c1
        simp [passR, mx, h, c1]; exact ih
      · have ih := (mx_pass r b 0).2.2 c1
        simp [passR, mx, h, c1]; exact ih
      · have ih := (mx_pass r b 0).1 c1
        simp [passR, mx, h, c1]; exact ih
    · rcases c1 with c1 | c1 | c1
      · have ih := (mx_pass r b 0).2.1 c1
        simp [passR, mx, h, c1]; exact ih
      · have ih := (mx_pass r b 0).2.2 c1
        simp [passR, mx, h, c1]; exact ih
      · have ih := (mx_pass r b 0).1 c1
        simp [passR, mx, h, c1]; exact ih
theorem mx_passB (l : List Int) : mx 0 (passB l) ≤ mx 0 l - 1 := by
  cases l with
  | nil => exact Nat.le_refl _
  | cons a r =>
    rw [passB_cons]
    have h := mx_pass r a 0
    rcases cls_cases a with c | c | c
    · have := h.2.1 c; simp [mx, c]; exact this
    · have := h.2.2 c; simp [mx, c]; exact this
    · have := h.1 c; simp [mx, c]; exact this
theorem mx_bub : ∀ (n : Nat) (l : List Int), mx 0 (bubI n l) ≤ mx 0 l - n
  | 0, _ => Nat.le_refl _
  | n + 1, l => by
    have h1 := mx_bub n l
    have h2 := mx_passB (bubI n l)
    rw [bubI]; exact sub_sub_le h1 h2
theorem mx_le : ∀ (l : List Int) (k : Nat), mx k l ≤ k + l.length
  | [], k => Nat.zero_le _
  | c :: r, k => by
    rw [mx, List.length_cons]
    have h0 := mx_le r 0
    have h1 := mx_le r (k + 1)
    have h2 := mx_le r k
    split
    · lia
    split
    · lia
    · lia
theorem mx_ok : ∀ (l : List Int) (k : Nat) (ah : Int), (ah = 0 ∨ ah = 220 ∨ ah = 230) → (ah = 230 → 0 < k) → mx k l = 0 → okC ah (l.map cls)
  | [], _, _, _, _, _ => trivial
  | c :: r, k, ah, h1, h2, h => by
    rw [mx] at h
    rw [List.map_cons]
    rcases cls_cases c with c1 | c1 | c1
    · rw [if_pos c1] at h
      exact ⟨fun x => by lia, mx_ok r 0 _ (cls_cases c) (fun e => by lia) h⟩
    · rw [if_neg (by lia), if_neg (by lia)] at h
      have hk : k = 0 := by lia
      have hr : mx k r = 0 := by lia
      refine ⟨fun x => ?_, mx_ok r k _ (cls_cases c) (fun e => by lia) hr⟩
      rcases h1 with e | e | e
      · lia
      · lia
      · have := h2 e; lia
    · rw [if_neg (by lia), if_pos c1] at h
      refine ⟨fun x => ?_, mx_ok r (k + 1) _ (cls_cases c) (fun _ => Nat.succ_pos _) h⟩
      rcases h1 with e | e | e <;> lia
theorem bub_N : ∀ (n : Nat) (l : List Int), ordGo [] (bubI n l) = ordGo [] l
  | 0, _ => rfl
  | n + 1, l => by
    rw [bubI, ← bub_N n l]
    cases h : bubI n l with
    | nil => rfl
    | cons a r => rw [passB_cons, passR_N]
theorem apart_dec (cs : List Int) : apartP cs = decP cs := by
  unfold apartP decP
  rw [← bub_N (cs.flatMap expand).length]
  refine (N_ok (mx_ok _ 0 0 (.inl rfl) (fun e => by lia) ?_)).symm
  have h1 := mx_bub (cs.flatMap expand).length (cs.flatMap expand)
  have h2 := mx_le (cs.flatMap expand) 0
  lia
theorem cpair_lpair (a b : Int) : cpair a b = lpair a b := by
  unfold cpair hpair lpair
  by_cases h1 : a = 97 ∧ b = 768
  · obtain ⟨rfl, rfl⟩ := h1
    decide
  · simp only [if_neg h1]
    by_cases h2 : 4352 ≤ a ∧ a ≤ 4370 ∧ 4449 ≤ b ∧ b ≤ 4469
    · rw [if_pos h2, if_pos (by omega)]
      show some _ = some _
      congr 1; lia
    · rw [if_neg h2, if_neg (by omega)]
      by_cases h3 : 0 ≤ a - 44032 ∧ a - 44032 < 11172 ∧ (a - 44032) % 28 = 0 ∧ 4520 ≤ b ∧ b ≤ 4546
      · have hs : isHS a = true := by simp only [isHS, Bool.and_eq_true, decide_eq_true_eq]; omega
        rw [if_pos h3, if_pos ⟨hs, by omega⟩]
      · rw [if_neg h3, if_neg (fun q => h3 (by
          have hs := q.1
          simp only [isHS, Bool.and_eq_true, decide_eq_true_eq] at hs
          omega))]
theorem lpair_cls {a b q : Int} (h : lpair a b = some q) : cls q = 0 := by
  unfold lpair at h
  unfold cls
  split at h
  · cases h; decide
  split at h
  · cases h; rw [if_neg (by lia), if_neg (by lia)]
  split at h
  · cases h; rw [if_neg (by omega), if_neg (by omega)]
  · cases h
theorem strt_none : ∀ (f : List Int) (k : Nat), (∀ x ∈ f, cls x ≠ 0) → strt k f = []
  | [], _, _ => rfl
  | c :: r, k, h => by rw [strt, if_neg (h c (.head _)), strt_none r (k + 1) (fun x hx => h x (.tail _ hx))]; rfl
theorem strt_last : ∀ (p a : List Int) (m : Int) (k : Nat), cls m = 0 → (∀ x ∈ a, cls x ≠ 0) → (strt k (p ++ m :: a)).getLast? = some ((k + p.length : Nat) : Int)
  | [], a, m, k, hm, ha => by rw [List.nil_append, strt, if_pos hm, strt_none a (k + 1) ha]; rfl
  | c :: p, a, m, k, hm, ha => by
    have ih := strt_last p a m (k + 1) hm ha
    rw [List.cons_append, strt, List.getLast?_append, ih, List.length_cons, show k + 1 + p.length = k + (p.length + 1) by lia]
    rfl
theorem tg_at {p a : List Int} {m : Int} (c : Int) (hm : cls m = 0) (ha : ∀ x ∈ a, cls x ≠ 0) : tgstep (p ++ m :: a) c = match lpair m c with
    | none => (p ++ m :: a) ++ [c]
    | some q => if a.all (fun o => decide (cls o < cls c)) then p ++ q :: a else (p ++ m :: a) ++ [c] := by
  have h1 := strt_last p a m 0 hm ha
  rw [Nat.zero_add] at h1
  have h2 : (p ++ m :: a).getD p.length 0 = m := by simp [List.getD_eq_getElem?_getD]
  cases h3 : lpair m c with
  | none => exact tg_none h1 (by rw [h2]; exact h3)
  | some q =>
    rw [tg_some h1 (by rw [h2]; exact h3)]
    have h4 : (p ++ m :: a).drop (p.length + 1) = a := by simp
    have h5 : (p ++ m :: a).set p.length q = p ++ q :: a := by
      rw [List.set_append_right _ _ (Nat.le_refl _), Nat.sub_self, List.set_cons_zero]
    rw [h4, h5]
/-- the state of composed: its starter's place, the highest class behind it -/
inductive Zc : List Int → Int → Int → Prop
  | none {f : List Int} (mo : Int) : (∀ x ∈ f, cls x ≠ 0) → Zc f (-1) mo
  | some {p a : List Int} {m mo : Int} : cls m = 0 → (∀ x ∈ a, cls x ≠ 0) → (∀ x ∈ a, cls x ≤ mo) → (a = [] ∧ mo = -1 ∨ ∃ x ∈ a, cls x = mo) → Zc (p ++ m :: a) (p.length : Int) mo
theorem tog_comp_go : ∀ (cs f : List Int) (st mo : Int), Zc f st mo → cs.foldl tgstep f = (cs.foldl cstep (f, st, mo)).1
  | [], _, _, _, _ => rfl
  | c :: cs, f, st, mo, h => by
    rw [List.foldl_cons, List.foldl_cons]
    cases h with
    | none mo h1 =>
      rw [tg_nil (strt_none f 0 h1), cstep_none (fun x => by omega)]
      by_cases hc : cls c = 0
      · rw [if_pos hc]
        exact tog_comp_go cs _ _ _ (.some (p := f) (a := []) hc (fun x hx => nomatch hx) (fun x hx => nomatch hx) (.inl ⟨rfl, rfl⟩))
      · rw [if_neg hc]
        exact tog_comp_go cs _ _ _ (.none _ (fun x hx => by
          rcases List.mem_append.mp hx with hx | hx
          · exact h1 x hx
          · rw [List.mem_singleton.mp hx]; exact hc))
    | @some p a m mo hm ha hle hmx =>
      have hg : (p ++ m :: a).getD ((p.length : Int)).toNat 0 = m := by simp [List.getD_eq_getElem?_getD]
      have hcond : a.all (fun o => decide (cls o < cls c)) = true ↔ ((p.length : Int) = ((p ++ m :: a).length : Int) - 1 ∨ mo < cls c) := by
        rw [List.all_eq_true]
        constructor
        · intro h
          rcases hmx with ⟨rfl, _⟩ | ⟨x, hx, e⟩
          · left; simp
          · right; have := of_decide_eq_true (h x hx); omega
        · rintro (h | h) x hx
          · simp at h
            have : a.length = 0 := by lia
            rw [List.length_eq_zero_iff.mp this] at hx; cases hx
          · have := hle x hx
            exact decide_eq_true (by omega)
      rw [tg_at c hm ha]
      have napp : ∀ (hn : ((0 : Int) ≤ (p.length : Int) ∧ ((p.length : Int) = ((p ++ m :: a).length : Int) - 1 ∨ mo < cls c)) → cpair ((p ++ m :: a).getD ((p.length : Int)).toNat 0) c = none), cs.foldl tgstep ((p ++ m :: a) ++ [c]) = (cs.foldl cstep (cstep (p ++ m :: a, (p.length : Int), mo) c)).1 := by
        intro hn
        rw [cstep_none hn]
        by_cases hc : cls c = 0
        · rw [if_pos hc]
          exact tog_comp_go cs _ _ _ (.some (p := p ++ m :: a) (a := []) hc (fun x hx => nomatch hx) (fun x hx => nomatch hx) (.inl ⟨rfl, rfl⟩))
        · rw [if_neg hc]
          have hz : Zc (p ++ m :: (a ++ [c])) (p.length : Int) (max mo (cls c)) := .some hm (fun x hx => by
            rcases List.mem_append.mp hx with hx | hx
            · exact ha x hx
            · rw [List.mem_singleton.mp hx]; exact hc) (fun x hx => by
            rcases List.mem_append.mp hx with hx | hx
            · have := hle x hx; omega
            · rw [List.mem_singleton.mp hx]; omega) (.inr (by
            rcases hmx with ⟨rfl, rfl⟩ | ⟨x, hx, e⟩
            · refine ⟨c, .head _, ?_⟩
              rcases cls_cases c with q | q | q <;> lia
            · by_cases q : mo ≤ cls c
              · exact ⟨c, List.mem_append_right _ (.head _), by lia⟩
              · exact ⟨x, List.mem_append_left _ hx, by omega⟩))
          rw [show (p ++ m :: a) ++ [c] = p ++ m :: (a ++ [c]) by simp]
          exact tog_comp_go cs _ _ _ hz
      cases hl : lpair m c with
      | none => exact napp (fun _ => by rw [hg, cpair_lpair, hl])
      | some q =>
        dsimp only
        by_cases hk : a.all (fun o => decide (cls o < cls c)) = true
        · rw [if_pos hk, cstep_some ⟨Int.natCast_nonneg _, hcond.mp hk⟩ (by rw [hg, cpair_lpair]; exact hl)]
          have h5 : (p ++ m :: a).set ((p.length : Int)).toNat q = p ++ q :: a := by
            rw [Int.toNat_natCast, List.set_append_right _ _ (Nat.le_refl _), Nat.sub_self, List.set_cons_zero]
          rw [h5]
          exact tog_comp_go cs _ _ _ (.some (lpair_cls hl) ha hle hmx)
        · rw [if_neg hk]
          exact napp (fun x => absurd (hcond.mpr x.2) hk)
theorem tog_comp (cs : List Int) : togP cs = compP cs := tog_comp_go cs [] (-1) (-1) (.none _ (fun x hx => nomatch hx))
theorem ordGo_move {c : Int} : ∀ (a p s : List Int) (r : List (Int × Int)), (∀ x ∈ a, 0 < cls x ∧ cls x < cls c) → ordGo r (p ++ c :: (a ++ s)) = ordGo r (p ++ (a ++ c :: s))
  | [], _, _, _, _ => rfl
  | x :: a, p, s, r, h => by
    have hx := h x (.head _)
    rw [List.cons_append, ordGo_swap (by omega) (by omega) hx.1 (a ++ s) p r]
    have := ordGo_move a (p ++ [x]) s r (fun y hy => h y (.tail _ hy))
    simpa using this
theorem expand_self {c x : Int} (h : x ∈ expand c) : expand x = [x] := by
  cases h1 : isHS c with
  | true =>
    obtain ⟨a, b, t, s⟩ := Syl.of h1
    rw [s.exp] at h
    obtain ⟨_, a0, a1, b0, b1, t0, t1⟩ := s
    have key : ∀ z k : Int, 224 < k → k < 5000 → 0 ≤ z → z < 28 → expand (k + z) = [k + z] := fun z k k0 k1 z0 z1 => expand_0 (isHS_f (by omega)) (by omega)
    rcases List.mem_cons.mp h with rfl | h
    · exact key _ _ (by decide) (by decide) a0 (Int.lt_trans a1 (by decide))
    rcases List.mem_cons.mp h with rfl | h
    · exact key _ _ (by decide) (by decide) b0 (Int.lt_trans b1 (by decide))
    split at h
    · exact nomatch h
    · obtain rfl := List.mem_singleton.mp h
      exact key _ _ (by decide) (by decide) t0 t1
  | false =>
    by_cases h2 : c = 224
    · subst h2
      have h3 : expand 224 = [97, 768] := by decide
      rw [h3] at h
      simp only [List.mem_cons, List.not_mem_nil, or_false] at h
      rcases h with rfl | rfl <;> decide
    · have h3 := expand_0 h1 h2
      rw [h3] at h
      rw [List.mem_singleton.mp h, h3]
theorem expand_mark {x : Int} (h : cls x ≠ 0) : expand x = [x] := by
  have : x = 768 ∨ x = 769 ∨ x = 803 := by
    unfold cls at h
    split at h
    · lia
    · split at h
      · lia
      · exact absurd rfl h
  rcases this with rfl | rfl | rfl <;> decide
theorem flat_self : ∀ {l : List Int}, (∀ x ∈ l, expand x = [x]) → l.flatMap expand = l
  | [], _ => rfl
  | c :: r, h => by rw [List.flatMap_cons, h c (.head _), flat_self (fun x hx => h x (.tail _ hx))]; rfl
theorem lpair_expand {m c q : Int} (h : lpair m c = some q) : expand q = expand m ++ [c] := by
  unfold lpair at h
  split at h
  · rename_i h1; cases h; obtain ⟨rfl, rfl⟩ := h1; decide
  split at h
  · rename_i h1
    cases h
    obtain ⟨h1, h2, h3, h4⟩ := h1
    have s : Syl (44032 + ((m - 4352) * 21 + c - 4449) * 28) (m - 4352) (c - 4449) 0 := ⟨by omega, Int.sub_nonneg.mpr h1, by omega, Int.sub_nonneg.mpr h3, by omega, Int.le_refl _, by decide⟩
    rw [s.exp, expand_0 (isHS_f (Int.lt_of_le_of_lt h2 (by decide))) (fun e => by rw [e] at h1; exact absurd h1 (by decide)), if_pos rfl, add_sub_to, add_sub_to]
    rfl
  split at h
  · rename_i h1
    cases h
    obtain ⟨h1, h2, h3, h4, h5⟩ := h1
    obtain ⟨a, b, t, s⟩ := Syl.of (c := m) (by simp only [isHS, Bool.and_eq_true, decide_eq_true_eq]; exact ⟨h1, h2⟩)
    obtain rfl : t = 0 := s.mod.symm.trans h3
    have e := s.e
    have s2 : Syl (m + c - 4519) a b (c - 4519) := ⟨by clear h3 s; omega, s.a0, s.a1, s.b0, s.b1, by clear h3 s e; omega, by clear h3 s e; omega⟩
    rw [s.exp, s2.exp, if_pos rfl, if_neg (by clear h3 s e; omega), add_sub_to]
    rfl
  · cases h
theorem last_start : ∀ f : List Int, (∀ x ∈ f, cls x ≠ 0) ∨ ∃ p m a, f = p ++ m :: a ∧ cls m = 0 ∧ ∀ x ∈ a, cls x ≠ 0
  | [] => .inl (fun x hx => nomatch hx)
  | c :: r => by
    rcases last_start r with h | ⟨p, m, a, rfl, h1, h2⟩
    · by_cases hc : cls c = 0
      · exact .inr ⟨[], c, r, rfl, hc, h⟩
      · exact .inl (fun x hx => by
          rcases List.mem_cons.mp hx with rfl | hx
          · exact hc
          · exact h x hx)
    · exact .inr ⟨c :: p, m, a, rfl, h1, h2⟩
theorem tg_flat (f : List Int) {c : Int} (hc : expand c = [c]) : ordGo [] ((tgstep f c).flatMap expand) = ordGo [] (f.flatMap expand ++ [c]) := by
  have happ : ordGo [] ((f ++ [c]).flatMap expand) = ordGo [] (f.flatMap expand ++ [c]) := by
    rw [List.flatMap_append, List.flatMap_cons, hc]; simp
  rcases last_start f with h | ⟨p, m, a, rfl, h1, h2⟩
  · rw [tg_nil (strt_none f 0 h)]; exact happ
  · rw [tg_at c h1 h2]
    cases h3 : lpair m c with
    | none => exact happ
    | some q =>
      dsimp only
      by_cases hk : a.all (fun o => decide (cls o < cls c)) = true
      · rw [if_pos hk]
        have ha : a.flatMap expand = a := flat_self (fun x hx => expand_mark (h2 x hx))
        rw [List.flatMap_append, List.flatMap_cons, List.flatMap_append, List.flatMap_cons, ha, lpair_expand h3]
        have := ordGo_move (c := c) a (p.flatMap expand ++ expand m) [] [] (fun x hx => by
          have h4 := of_decide_eq_true (List.all_eq_true.mp hk x hx)
          have h5 := h2 x hx
          rcases cls_cases x with e | e | e <;> lia)
        simpa using this
      · rw [if_neg hk]; exact happ
theorem tog_flat : ∀ (cs f : List Int), (∀ c ∈ cs, expand c = [c]) → ordGo [] ((cs.foldl tgstep f).flatMap expand) = ordGo [] (f.flatMap expand ++ cs)
  | [], f, _ => by simp
  | c :: cs, f, h => by
    rw [List.foldl_cons, tog_flat cs (tgstep f c) (fun x hx => h x (.tail _ hx)), N_idem, tg_flat f (h c (.head _)), ← N_idem]; simp
theorem dec_self (cs : List Int) : ∀ x ∈ decP cs, expand x = [x] := fun x hx => by
  obtain ⟨c, _, h⟩ := List.mem_flatMap.mp (N_mem.mp hx)
  exact expand_self h
theorem N_N (l : List Int) : ordGo [] (ordGo [] l) = ordGo [] l := by
  have := N_idem l []
  rw [List.append_nil, List.append_nil] at this
  exact this.symm
theorem dec_dec (cs : List Int) : decP (decP cs) = decP cs := by
  conv => lhs; unfold decP
  rw [flat_self (l := ordGo [] (cs.flatMap expand)) (dec_self cs)]
  exact N_N _
theorem dec_tog (cs : List Int) : decP (togP (decP cs)) = decP cs := by
  have := tog_flat (decP cs) [] (dec_self cs)
  rw [List.flatMap_nil, List.nil_append] at this
  show ordGo [] ((List.foldl tgstep [] (decP cs)).flatMap expand) = decP cs
  rw [this]
  exact N_N _
/-! the quick check, in plain -/
theorem str_ny : Str.ofString "no" ≠ Str.ofString "yes" := by decide
theorem str_nm : Str.ofString "no" ≠ Str.ofString "maybe" := by decide
theorem str_my : Str.ofString "maybe" ≠ Str.ofString "yes" := by decide
theorem qk_noN {fq : Int → Str} : ∀ (cs : List Int) (acc : Str) (ah : Int), (∀ c ∈ cs, fq c ≠ Str.ofString "no") → okC ah (cs.map cls) → acc ≠ Str.ofString "no" → quickP fq acc ah cs ≠ Str.ofString "no"
  | [], _, _, _, _, ha => ha
  | c :: r, acc, ah, h, ho, ha => by
    rw [quickP, if_neg (fun q => q.elim (h c (.head _)) ho.1)]
    refine qk_noN r _ _ (fun x hx => h x (.tail _ hx)) ho.2 ?_
    split
    · exact fun e => str_nm e.symm
    · exact ha
theorem qk_okN {fq : Int → Str} : ∀ (cs : List Int) (acc : Str) (ah : Int), quickP fq acc ah cs ≠ Str.ofString "no" → (∀ c ∈ cs, fq c ≠ Str.ofString "no") ∧ okC ah (cs.map cls)
  | [], _, _, _ => ⟨(fun _ h => nomatch h), trivial⟩
  | c :: r, acc, ah, h => by
    rw [quickP] at h
    split at h
    · exact absurd rfl h
    · rename_i h1
      obtain ⟨i1, i2⟩ := qk_okN r _ _ h
      refine ⟨fun x hx => ?_, (And.intro (fun q => h1 (.inr q)) i2 : ¬ (0 < cls c ∧ cls c < ah) ∧ okC (cls c) (r.map cls))⟩
      rcases List.mem_cons.mp hx with rfl | hx
      · exact fun q => h1 (.inl q)
      · exact i1 x hx
theorem qk_mayN {fq : Int → Str} : ∀ (cs : List Int) (acc : Str) (ah : Int), quickP fq acc ah cs = Str.ofString "maybe" → acc = Str.ofString "maybe" ∨ ∃ c ∈ cs, fq c = Str.ofString "maybe"
  | [], _, _, h => .inl h
  | c :: r, acc, ah, h => by
    rw [quickP] at h
    split at h
    · exact absurd h str_nm
    · rcases qk_mayN r _ _ h with h | ⟨x, hx, h⟩
      · split at h
        · rename_i h1; exact .inr ⟨c, .head _, h1⟩
        · exact .inl h
      · exact .inr ⟨x, .tail _ hx, h⟩
theorem qk_stayN {fq : Int → Str} : ∀ (cs : List Int) (ah : Int), quickP fq (Str.ofString "maybe") ah cs ≠ Str.ofString "yes"
  | [], _ => str_my
  | c :: r, ah => by
    rw [quickP]
    split
    · exact str_ny
    · rw [ite_self]; exact qk_stayN r _
theorem qk_yesN {fq : Int → Str} : ∀ (cs : List Int) (acc : Str) (ah : Int), quickP fq acc ah cs = Str.ofString "yes" → ∀ c ∈ cs, fq c ≠ Str.ofString "maybe"
  | [], _, _, _ => fun _ h => nomatch h
  | c :: r, acc, ah, h => by
    rw [quickP] at h
    split at h
    · exact absurd h str_ny
    · intro x hx
      rcases List.mem_cons.mp hx with rfl | hx
      · intro q; rw [if_pos q] at h; exact qk_stayN r _ h
      · exact qk_yesN r _ _ h x hx
/-- the three answers and no other -/
theorem qk_three {fq : Int → Str} : ∀ (cs : List Int) (acc : Str) (ah : Int), (acc = Str.ofString "yes" ∨ acc = Str.ofString "maybe") → quickP fq acc ah cs = Str.ofString "no" ∨ quickP fq acc ah cs = Str.ofString "yes" ∨ quickP fq acc ah cs = Str.ofString "maybe"
  | [], _, _, h => .inr h
  | c :: r, acc, ah, h => by
    rw [quickP]
    split
    · exact .inl rfl
    · refine qk_three r _ _ ?_
      split
      · exact .inr rfl
      · exact h
noncomputable abbrev fqD : Int → Str := fun c => Str.ofString (fqd c)
noncomputable abbrev fqC : Int → Str := fun c => Str.ofString (fqc c)
theorem dec_one (c : Int) : decP [c] = [c] ↔ expand c = [c] := by
  unfold decP
  rw [List.flatMap_cons, List.flatMap_nil, List.append_nil]
  constructor
  · intro h
    have h1 := ordGo_length (expand c) []
    rw [h] at h1
    have h2 : ∀ x, x ∈ expand c → x = c := fun x hx => by
      have := N_mem.mpr hx
      rw [h] at this; exact List.mem_singleton.mp this
    rcases e : expand c with _ | ⟨a, _ | ⟨b, r⟩⟩
    · rw [e] at h1; simp at h1
    · rw [h2 a (by rw [e]; exact .head _)]
    · rw [e] at h1; simp at h1
  · intro h
    rw [h]
    refine N_ok ⟨fun q => ?_, trivial⟩
    omega
theorem fqD_no {c : Int} : fqD c ≠ Str.ofString "no" ↔ expand c = [c] := by
  unfold fqD fqd
  rw [← dec_one]
  split
  · rename_i h; exact ⟨fun _ => h, fun _ e => str_ny e.symm⟩
  · rename_i h; exact ⟨fun q => absurd rfl q, fun q => absurd q h⟩
theorem fqD_may (c : Int) : fqD c ≠ Str.ofString "maybe" := by
  unfold fqD fqd
  split
  · exact fun e => str_my e.symm
  · exact str_nm
theorem qd_maybe (cs : List Int) : quickP fqD (Str.ofString "yes") 0 cs ≠ Str.ofString "maybe" := fun h => by
  rcases qk_mayN _ _ _ h with h | ⟨c, _, h⟩
  · exact str_my h.symm
  · exact fqD_may c h
theorem qd_yes {cs : List Int} (h : quickP fqD (Str.ofString "yes") 0 cs = Str.ofString "yes") : cs = decP cs := by
  obtain ⟨h1, h2⟩ := qk_okN cs (Str.ofString "yes") 0 (by rw [h]; exact fun e => str_ny e.symm)
  unfold decP
  rw [flat_self (fun x hx => fqD_no.mp (h1 x hx)), N_ok h2]
theorem qd_no {cs : List Int} (h : quickP fqD (Str.ofString "yes") 0 cs = Str.ofString "no") : cs ≠ decP cs := fun e => by
  refine qk_noN cs (Str.ofString "yes") 0 (fun c hc => fqD_no.mpr ?_) ?_ (fun e => str_ny e.symm) h
  · rw [e] at hc; exact dec_self cs c hc
  · rw [e]; exact N_okC _
theorem isf_gen {fq : Int → Str} {fo : List Int → List Int} {cs : List Int} (hy : quickP fq (Str.ofString "yes") 0 cs = Str.ofString "yes" → cs = fo cs) (hn : quickP fq (Str.ofString "yes") 0 cs = Str.ofString "no" → cs ≠ fo cs) :
    isfP fq fo cs = decide (cs = fo cs) := by
  unfold isfP
  refine decide_eq_decide.mpr ⟨fun h => ?_, fun h => ?_⟩
  · rcases h with h | ⟨_, h⟩
    · exact hy h
    · exact h.symm
  · rcases qk_three cs (fq := fq) (Str.ofString "yes") 0 (.inl rfl) with q | q | q
    · exact absurd h (hn q)
    · exact .inl q
    · exact .inr ⟨q, h.symm⟩
theorem isf_d (cs : List Int) : isfP fqD decP cs = decide (cs = decP cs) := isf_gen qd_yes qd_no
/-! word nfc -/
/-- no code that is a second one as it stands -/
theorem lpair_L {m c : Int} (h : isSec c = false) : lpair m c = none := by
  have : ¬ (c = 768 ∨ (4449 ≤ c ∧ c < 4470) ∨ (4519 < c ∧ c < 4547)) := by simpa [isSec] using h
  unfold lpair
  rw [if_neg (by omega), if_neg (by omega), if_neg (by omega)]
theorem tg_app {f : List Int} {c : Int} (h : isSec c = false) : tgstep f c = f ++ [c] := by
  unfold tgstep
  split
  · rfl
  · rw [lpair_L h]
theorem tg_apps : ∀ (l f : List Int), (∀ x ∈ l, isSec x = false) → l.foldl tgstep f = f ++ l
  | [], f, _ => by simp
  | c :: l, f, h => by rw [List.foldl_cons, tg_app (h c (.head _)), tg_apps l _ (fun x hx => h x (.tail _ hx))]; simp
theorem tg_join {p : List Int} {m c q : Int} (hm : cls m = 0) (h : lpair m c = some q) : tgstep (p ++ [m]) c = p ++ [q] := by
  rw [tg_at (a := []) c hm (fun x hx => nomatch hx), h]; rfl
theorem cls_big {c : Int} (h : 803 < c) : cls c = 0 := by unfold cls; rw [if_neg (by lia), if_neg (by omega)]
theorem isSec_f {c : Int} : isSec c = false ↔ ¬ (c = 768 ∨ (4449 ≤ c ∧ c < 4470) ∨ (4519 < c ∧ c < 4547)) := by simp [isSec]
theorem tg_syl (f : List Int) {c : Int} (h : isHS c = true) : (expand c).foldl tgstep f = f ++ [c] := by
  obtain ⟨a, b, t, s⟩ := Syl.of h
  rw [s.exp]
  obtain ⟨e, a0, a1, b0, b1, t0, t1⟩ := s
  clear h
  have hj : lpair (4352 + a) (4449 + b) = some (c - t) := by
    unfold lpair
    rw [if_neg (by clear e; omega), if_pos ⟨by clear e; omega, by clear e; omega, by clear e; omega, by clear e; omega⟩]
    exact congrArg some (by omega)
  have ha : isSec (4352 + a) = false := isSec_f.mpr (by clear e; omega)
  have hb : cls (4352 + a) = 0 := cls_big (by clear e; omega)
  rw [List.foldl_cons, tg_app ha, List.foldl_cons, tg_join hb hj]
  by_cases ht : t = 0
  · rw [if_pos ht, ht, Int.sub_zero]; rfl
  · rw [if_neg ht, List.foldl_cons, tg_join (q := c) (cls_big (by omega)) ?_]; rfl
    have em : (c - t - 44032) % 28 = 0 := by rw [show c - t - 44032 = (a * 21 + b) * 28 from by omega]; exact Int.mul_emod_left _ _
    unfold lpair
    rw [if_neg (by clear em; omega), if_neg (by clear em; omega), if_pos ⟨by clear em; omega, by clear em; omega, em, by clear em e; omega, by clear em e; omega⟩]
    exact congrArg some (by clear em e; omega)
theorem ordGo_start {d : Int} (h : ¬ 0 < cls d) (z : List Int) (r : List (Int × Int)) : ordGo r (d :: z) = (isort r).map (·.2) ++ ordGo [] (d :: z) := by
  rw [ordGo, if_neg h, ordGo, if_neg h]; rfl
/-- 97 and the marks put behind it, 768 among them -/
theorem put_last (as f : List Int) (ha : ∀ x ∈ as, cls x ≠ 0 ∧ cls x < 230) : tgstep (f ++ 97 :: as) 768 = f ++ 224 :: as := by
  rw [tg_at 768 (by decide) (fun x hx => (ha x hx).1)]
  rw [show lpair 97 768 = some 224 by decide]
  dsimp only
  rw [if_pos (List.all_eq_true.mpr fun x hx => decide_eq_true ?_)]
  have := (ha x hx).2
  show cls x < 230
  exact this
theorem put_768 : ∀ (rs as f : List Int), (∀ x ∈ rs, isSec x = false) → (∀ x ∈ rs, cls x ≠ 0) → (∀ x ∈ as, cls x ≠ 0 ∧ cls x < 230) →
    ((insR (key 768) (rs.map key)).map (·.2)).foldl tgstep (f ++ 97 :: as) = f ++ 224 :: (as ++ rs)
  | [], as, f, _, _, ha => by
    show tgstep (f ++ 97 :: as) 768 = _
    rw [put_last as f ha, List.append_nil]
  | x :: rs, as, f, h, h0, ha => by
    rw [List.map_cons, insR]
    split
    · rw [List.map_cons, List.foldl_cons, show (key 768).2 = 768 from rfl, put_last as f ha]
      rw [← List.map_cons, List.map_map, show (List.map ((fun x => x.2) ∘ key) (x :: rs)) = x :: rs from (List.map_congr_left fun c _ => rfl).trans (List.map_id _), tg_apps _ _ h]
      simp
    · rename_i hx
      rw [List.map_cons, List.foldl_cons, show (key x).2 = x from rfl, tg_app (h x (.head _))]
      rw [show f ++ 97 :: as ++ [x] = f ++ 97 :: (as ++ [x]) by simp]
      rw [put_768 rs (as ++ [x]) f (fun y hy => h y (.tail _ hy)) (fun y hy => h0 y (.tail _ hy)) ?_]
      · simp
      · intro y hy
        rcases List.mem_append.mp hy with hy | hy
        · exact ha y hy
        · rw [List.mem_singleton.mp hy]
          have := h0 x (.head _)
          have hk : ¬ (230 ≤ cls x) := hx
          lia
/-- what a text of quick yes holds: a syllable, 224, or a code that is no second one and stays as it is -/
noncomputable def Gd (c : Int) : Prop := isHS c = true ∨ c = 224 ∨ (isHS c = false ∧ isSec c = false)
theorem okC_0 {ah : Int} {l : List Int} (h : okC ah l) : okC 0 l := by
  cases l with
  | nil => trivial
  | cons k r => exact ⟨fun q => by omega, h.2⟩
theorem mark_gd {c : Int} (hg : Gd c) (h : 0 < cls c) : expand c = [c] ∧ isSec c = false := by
  have hm := expand_mark (x := c) (by omega)
  refine ⟨hm, ?_⟩
  rcases hg with hg | rfl | ⟨_, hg⟩
  · have := isHS_t hg
    rw [cls_big (by omega)] at h; omega
  · exact absurd h (by decide)
  · exact hg
theorem head_exp {c : Int} (hg : Gd c) (h : ¬ 0 < cls c) : ∃ d e, expand c = d :: e ∧ ¬ 0 < cls d := by
  rcases hg with hg | rfl | ⟨h1, hg⟩
  · have hB := isHS_t hg
    have hd : ¬ 0 < cls (4352 + (c - 44032) / 588) := by rw [cls_big (by omega)]; omega
    by_cases h2 : (c - 44032) % 28 = 0
    · exact ⟨_, _, expand_2 hg h2, hd⟩
    · exact ⟨_, _, expand_3 hg h2, hd⟩
  · exact ⟨97, [768], by decide, by decide⟩
  · by_cases h2 : c = 224
    · subst h2; exact ⟨97, [768], by decide, by decide⟩
    · exact ⟨c, [], expand_0 h1 h2, h⟩
noncomputable def ClA (cs : List Int) : Prop := ∀ f : List Int, (ordGo [] (cs.flatMap expand)).foldl tgstep f = f ++ cs
theorem run_ok {rs : List Int} {c ah : Int} (hp : rs.Pairwise (fun a b => cls a ≤ cls b)) (hr : ∀ q ∈ rs, 0 < cls q ∧ cls q ≤ ah ∧ isSec q = false) (ho : ¬ (0 < cls c ∧ cls c < ah)) (hc : 0 < cls c) (h2 : isSec c = false) :
    (rs ++ [c]).Pairwise (fun a b => cls a ≤ cls b) ∧ ∀ q ∈ rs ++ [c], 0 < cls q ∧ cls q ≤ cls c ∧ isSec q = false := by
  refine ⟨List.pairwise_append.mpr ⟨hp, List.pairwise_singleton _ _, fun x hx y hy => ?_⟩, fun q hq => ?_⟩
  · rw [List.mem_singleton.mp hy]
    have := (hr x hx).2.1
    omega
  · rcases List.mem_append.mp hq with hq | hq
    · have := hr q hq; exact ⟨this.1, by omega, this.2.2⟩
    · rw [List.mem_singleton.mp hq]; exact ⟨hc, Int.le_refl _, h2⟩
theorem run_snd {rs : List Int} (hp : rs.Pairwise (fun a b => cls a ≤ cls b)) : (isort (rs.map key)).map (·.2) = rs := by
  rw [isort_id (by rw [List.pairwise_map]; exact hp), List.map_map]
  exact (List.map_congr_left fun c _ => rfl).trans (List.map_id rs)
theorem clB {n : Nat} (HA : ∀ cs : List Int, cs.length ≤ n → (∀ c ∈ cs, Gd c) → okC 0 (cs.map cls) → ClA cs) : ∀ (cs rs f : List Int) (ah : Int), cs.length ≤ n → (∀ c ∈ cs, Gd c) → okC ah (cs.map cls) →
    rs.Pairwise (fun a b => cls a ≤ cls b) → (∀ q ∈ rs, 0 < cls q ∧ cls q ≤ ah ∧ isSec q = false) → (ordGo (key 768 :: rs.map key) (cs.flatMap expand)).foldl tgstep (f ++ [97]) = f ++ 224 :: (rs ++ cs)
  | [], rs, f, ah, hn, hg, ho, hp, hr => by
    rw [List.flatMap_nil, ordGo, isort, isort_id (by rw [List.pairwise_map]; exact hp), put_768 rs [] f (fun x hx => (hr x hx).2.2) (fun x hx e => by have := (hr x hx).1; omega) (fun _ q => nomatch q)]
    simp
  | c :: cs, rs, f, ah, hn, hg, ho, hp, hr => by
    by_cases hc : 0 < cls c
    · obtain ⟨h1, h2⟩ := mark_gd (hg c (.head _)) hc
      obtain ⟨h3, h4⟩ := run_ok hp hr ho.1 hc h2
      rw [List.flatMap_cons, h1, List.cons_append, List.nil_append, ordGo, if_pos hc, List.cons_append, show rs.map key ++ [(cls c, c)] = (rs ++ [c]).map key by simp [key],
        clB HA cs (rs ++ [c]) f (cls c) (Nat.le_of_succ_le hn) (fun x hx => hg x (.tail _ hx)) ho.2 h3 h4]
      simp
    · obtain ⟨d, e, h1, h2⟩ := head_exp (hg c (.head _)) hc
      have hA := HA (c :: cs) hn hg (okC_0 ho)
      unfold ClA at hA
      rw [List.flatMap_cons, h1, List.cons_append] at hA ⊢
      rw [ordGo_start h2, List.foldl_append, isort, isort_id (by rw [List.pairwise_map]; exact hp), put_768 rs [] f (fun x hx => (hr x hx).2.2) (fun x hx e => by have := (hr x hx).1; omega) (fun _ q => nomatch q), hA]
      simp
theorem clR {n : Nat} (HA : ∀ cs : List Int, cs.length ≤ n → (∀ c ∈ cs, Gd c) → okC 0 (cs.map cls) → ClA cs) : ∀ (cs rs f : List Int) (ah : Int), cs.length ≤ n + 1 → (∀ c ∈ cs, Gd c) → okC ah (cs.map cls) →
    rs.Pairwise (fun a b => cls a ≤ cls b) → (∀ q ∈ rs, 0 < cls q ∧ cls q ≤ ah ∧ isSec q = false) → (ordGo (rs.map key) (cs.flatMap expand)).foldl tgstep f = f ++ (rs ++ cs)
  | [], rs, f, ah, hn, hg, ho, hp, hr => by
    rw [List.flatMap_nil, ordGo, run_snd hp, tg_apps _ _ (fun x hx => (hr x hx).2.2), List.append_nil]
  | c :: cs, rs, f, ah, hn, hg, ho, hp, hr => by
    have hl : cs.length ≤ n := Nat.le_of_succ_le_succ hn
    have hg' : ∀ x ∈ cs, Gd x := fun x hx => hg x (.tail _ hx)
    by_cases hc : 0 < cls c
    · obtain ⟨h1, h2⟩ := mark_gd (hg c (.head _)) hc
      obtain ⟨h3, h4⟩ := run_ok hp hr ho.1 hc h2
      rw [List.flatMap_cons, h1, List.cons_append, List.nil_append, ordGo, if_pos hc, show rs.map key ++ [(cls c, c)] = (rs ++ [c]).map key by simp [key],
        clR HA cs (rs ++ [c]) f (cls c) (Nat.le_succ_of_le hl) hg' ho.2 h3 h4]
      simp
    · have hA := HA cs hl hg' (okC_0 ho.2)
      unfold ClA at hA
      by_cases h224 : c = 224
      · subst h224
        rw [List.flatMap_cons, show expand 224 = [97, 768] by decide, List.cons_append, List.cons_append, List.nil_append, ordGo, if_neg (by decide), run_snd hp, List.foldl_append, tg_apps _ _ (fun x hx => (hr x hx).2.2),
          List.foldl_cons, tg_app (c := 97) (by decide), ordGo, if_pos (by decide)]
        have := clB HA cs [] (f ++ rs) 0 hl hg' (okC_0 ho.2) List.Pairwise.nil (fun _ q => nomatch q)
        rw [show [] ++ [(cls 768, (768 : Int))] = key 768 :: List.map key [] from rfl, this]
        simp
      · have hd : ∃ l, expand c = l ∧ (∀ x ∈ l, ¬ 0 < cls x) ∧ l.foldl tgstep (f ++ rs) = f ++ rs ++ [c] := by
          rcases hg c (.head _) with hs | hs | ⟨hs, h2⟩
          · refine ⟨_, rfl, fun x hx => ?_, tg_syl _ hs⟩
            have hB := isHS_t hs
            have : 803 < x := by
              by_cases h2 : (c - 44032) % 28 = 0
              · rw [expand_2 hs h2] at hx
                simp only [List.mem_cons, List.not_mem_nil, or_false] at hx
                omega
              · rw [expand_3 hs h2] at hx
                simp only [List.mem_cons, List.not_mem_nil, or_false] at hx
                omega
            rw [cls_big this]; omega
          · exact absurd hs h224
          · refine ⟨[c], expand_0 hs h224, fun x hx => ?_, tg_app h2⟩
            rw [List.mem_singleton.mp hx]; exact hc
        obtain ⟨l, e, h1, h2⟩ := hd
        have hcut : ∀ (l y : List Int), (∀ x ∈ l, ¬ 0 < cls x) → ordGo [] (l ++ y) = l ++ ordGo [] y := by
          intro l y
          induction l with
          | nil => intro _; rfl
          | cons x l ih =>
            intro hx
            rw [List.cons_append, ordGo, if_neg (hx x (.head _)), ih (fun z hz => hx z (.tail _ hz))]; rfl
        obtain ⟨d, e', h3, h4⟩ := head_exp (hg c (.head _)) hc
        have hst : ordGo (rs.map key) ((c :: cs).flatMap expand) = rs ++ ordGo [] ((c :: cs).flatMap expand) := by
          rw [List.flatMap_cons, h3, List.cons_append, ordGo_start h4, run_snd hp]
        rw [hst, List.foldl_append, tg_apps _ _ (fun x hx => (hr x hx).2.2), List.flatMap_cons, e, hcut l _ h1, List.foldl_append, h2, hA]
        simp
theorem clA : ∀ (n : Nat) (cs : List Int), cs.length ≤ n → (∀ c ∈ cs, Gd c) → okC 0 (cs.map cls) → ClA cs
  | 0, cs, h, _, _ => by
    have : cs = [] := List.length_eq_zero_iff.mp (Nat.le_zero.mp h)
    subst this
    intro f; simp [ordGo, isort]
  | n + 1, cs, h, hg, ho => by
    intro f
    have := clR (clA n) cs [] f 0 h hg ho List.Pairwise.nil (fun _ q => nomatch q)
    simpa using this
/-! due in order -/
theorem okC_snoc : ∀ (f : List Int) (c ah : Int), okC ah (f.map cls) → ¬ (0 < cls c ∧ cls c < (f.map cls).getLastD ah) → okC ah ((f ++ [c]).map cls)
  | [], c, ah, _, h => ⟨h, trivial⟩
  | x :: f, c, ah, h, hc => ⟨h.1, okC_snoc f c (cls x) h.2 (by
      rw [List.map_cons, List.getLastD_cons] at hc; exact hc)⟩
theorem tg_okC : ∀ (l f : List Int) (k : Int), okC k (l.map cls) → okC 0 (f.map cls) → (f.map cls).getLastD 0 ≤ k → okC 0 ((l.foldl tgstep f).map cls)
  | [], f, k, _, h, _ => h
  | c :: l, f, k, ho, h, hk => by
    rw [List.foldl_cons]
    obtain ⟨o1, o2⟩ : ¬ (0 < cls c ∧ cls c < k) ∧ okC (cls c) (l.map cls) := ho
    have happ : okC 0 ((f ++ [c]).map cls) ∧ ((f ++ [c]).map cls).getLastD 0 ≤ cls c := by
      refine ⟨okC_snoc f c 0 h (fun q => o1 ⟨q.1, by omega⟩), ?_⟩
      rw [List.map_append, List.map_cons, List.map_nil, List.getLastD_eq_getLast?, List.getLast?_append]; simp
    rcases last_start f with hf | ⟨p, m, a, rfl, h1, h2⟩
    · rw [tg_nil (strt_none f 0 hf)]
      exact tg_okC l _ _ o2 happ.1 happ.2
    · rw [tg_at c h1 h2]
      rcases e : lpair m c with _ | q
      · exact tg_okC l _ _ o2 happ.1 happ.2
      · dsimp only
        split
        · rename_i hall
          have he : (p ++ q :: a).map cls = (p ++ m :: a).map cls := by rw [List.map_append, List.map_append, List.map_cons, List.map_cons, h1, lpair_cls e]
          refine tg_okC l _ _ o2 (by rw [he]; exact h) ?_
          rw [he, List.map_append, List.map_cons, List.getLastD_eq_getLast?, List.getLast?_append, List.getLast?_cons]
          show ((a.map cls).getLast?.getD (cls m)) ≤ cls c
          rcases ea : (a.map cls).getLast? with _ | z
          · show cls m ≤ cls c
            have := cls_cases c
            lia
          · obtain ⟨y, hy, rfl⟩ := List.mem_map.mp (List.mem_of_getLast? ea)
            have := of_decide_eq_true (List.all_eq_true.mp hall y hy)
            show cls y ≤ cls c
            lia
        · exact tg_okC l _ _ o2 happ.1 happ.2
theorem due_okC (cs : List Int) : okC 0 ((togP (decP cs)).map cls) := tg_okC (decP cs) [] 0 (N_okC _) trivial (Int.le_refl _)
theorem comp_one {c : Int} (h : InD c) : compP (decP [c]) = [c] := by
  rw [← tog_comp]
  unfold decP togP
  rw [List.flatMap_cons, List.flatMap_nil, List.append_nil]
  by_cases hs : isHS c = true
  · have hB := isHS_t hs
    rw [N_ok]
    · exact tg_syl [] hs
    · by_cases h2 : (c - 44032) % 28 = 0
      · rw [expand_2 hs h2]
        simp only [List.map_cons, List.map_nil]
        rw [cls_big (by omega), cls_big (by omega)]; simp [okC]
      · rw [expand_3 hs h2]
        simp only [List.map_cons, List.map_nil]
        rw [cls_big (by omega), cls_big (by omega), cls_big (by omega)]; simp [okC]
  · by_cases h2 : c = 224
    · subst h2; decide
    · rw [expand_0 (by simpa using hs) h2, N_ok (l := [c]) (And.intro (fun q => by omega) trivial)]
      show tgstep [] c = [c]
      rw [tg_nil rfl]; rfl
theorem fqC_no {c : Int} (h : InD c) : fqC c ≠ Str.ofString "no" := by
  unfold fqC fqc
  rw [if_pos (comp_one h)]
  split
  · exact fun e => str_nm e.symm
  · exact fun e => str_ny e.symm
theorem qc_no {cs : List Int} (hD : ∀ c ∈ cs, InD c) (h : quickP fqC (Str.ofString "yes") 0 cs = Str.ofString "no") : cs ≠ togP (decP cs) := fun e => by
  refine qk_noN cs (Str.ofString "yes") 0 (fun c hc => fqC_no (hD c hc)) ?_ (fun e => str_ny e.symm) h
  rw [e]; exact due_okC cs
theorem qc_yes {cs : List Int} (hD : ∀ c ∈ cs, InD c) (h : quickP fqC (Str.ofString "yes") 0 cs = Str.ofString "yes") : cs = togP (decP cs) := by
  obtain ⟨_, h2⟩ := qk_okN cs (Str.ofString "yes") 0 (by rw [h]; exact fun e => str_ny e.symm)
  have h3 := qk_yesN cs _ _ h
  have := clA cs.length cs (Nat.le_refl _) (fun c hc => ?_) h2 []
  · exact this.symm
  · have hm := h3 c hc
    unfold fqC fqc at hm
    rw [if_pos (comp_one (hD c hc))] at hm
    cases hs : isHS c with
    | true => exact .inl hs
    | false =>
      by_cases h4 : c = 224
      · exact .inr (.inl h4)
      · rw [expand_0 hs h4] at hm
        refine .inr (.inr ⟨hs, ?_⟩)
        cases h5 : isSec c with
        | false => rfl
        | true => rw [show ([c] : List Int).getD 0 0 = c from rfl, if_pos h5] at hm; exact absurd rfl hm
theorem qc_maybe {cs : List Int} (h : quickP fqC (Str.ofString "yes") 0 cs = Str.ofString "maybe") : ∃ c ∈ cs, c = 768 ∨ (4449 ≤ c ∧ c ≤ 4469) ∨ (4519 ≤ c ∧ c ≤ 4546) := by
  rcases qk_mayN _ _ _ h with h | ⟨c, hc, h⟩
  · exact absurd h.symm str_my
  · refine ⟨c, hc, ?_⟩
    unfold fqC fqc at h
    have hs2 : isSec ((expand c).getD 0 0) = true := by
      split at h
      · split at h
        · rename_i q; exact q
        · exact absurd h.symm str_my
      · exact absurd h str_nm
    cases hs : isHS c with
    | true =>
      have hB := isHS_t hs
      have hL : (expand c).getD 0 0 = 4352 + (c - 44032) / 588 := by
        by_cases h2 : (c - 44032) % 28 = 0
        · rw [expand_2 hs h2]; rfl
        · rw [expand_3 hs h2]; rfl
      rw [hL] at hs2
      have : isSec (4352 + (c - 44032) / 588) = false := isSec_f.mpr (by omega)
      rw [this] at hs2; cases hs2
    | false =>
      by_cases h4 : c = 224
      · subst h4; revert hs2; decide
      · rw [expand_0 hs h4] at hs2
        have hd : c = 768 ∨ (4449 ≤ c ∧ c < 4470) ∨ (4519 < c ∧ c < 4547) := by simpa [isSec] using hs2
        lia
theorem isf_c {cs : List Int} (hD : ∀ c ∈ cs, InD c) : isfP fqC (fun l => compP (decP l)) cs = decide (cs = togP (decP cs)) := by
  rw [isf_gen (fo := fun l => compP (decP l))]
  · rw [tog_comp]
  · intro h; rw [← tog_comp]; exact qc_yes hD h
  · intro h; rw [← tog_comp]; exact qc_no hD h
/-! what the codes of apart and due are -/
theorem hs_b {c : Int} (h : isHS c = true) : (0 ≤ (c - 44032) / 588 ∧ (c - 44032) / 588 < 19) ∧ (0 ≤ (c - 44032) / 28 % 21 ∧ (c - 44032) / 28 % 21 < 21) ∧ (0 ≤ (c - 44032) % 28 ∧ (c - 44032) % 28 < 28) := by
  have hB := isHS_t h
  refine ⟨⟨?_, ?_⟩, ⟨?_, ?_⟩, ⟨?_, ?_⟩⟩ <;> omega
theorem InD_b {n m : Int} (h : 0 ≤ n ∧ n < 28) (h1 : 4352 ≤ m) (h2 : m ≤ 4579) : InD (m + n) := InD_j (by omega) (by omega)
theorem InD_expand {c : Int} (h : InD c) : ∀ x ∈ expand c, InD x := by
  intro x hx
  cases hs : isHS c with
  | true =>
    obtain ⟨b1, b2, b3⟩ := hs_b hs
    have i1 : InD (4352 + (c - 44032) / 588) := InD_b ⟨b1.1, by omega⟩ (by decide) (by decide)
    have i2 : InD (4449 + (c - 44032) / 28 % 21) := InD_b ⟨b2.1, by omega⟩ (by decide) (by decide)
    by_cases h2 : (c - 44032) % 28 = 0
    · rw [expand_2 hs h2] at hx
      simp only [List.mem_cons, List.not_mem_nil, or_false] at hx
      rcases hx with rfl | rfl
      · exact i1
      · exact i2
    · rw [expand_3 hs h2] at hx
      simp only [List.mem_cons, List.not_mem_nil, or_false] at hx
      rcases hx with rfl | rfl | rfl
      · exact i1
      · exact i2
      · exact InD_b b3 (by decide) (by decide)
  | false =>
    by_cases h4 : c = 224
    · subst h4
      exact InD_of (l := [97, 768]) (by decide) x hx
    · rw [expand_0 hs h4] at hx; rw [List.mem_singleton.mp hx]; exact h
theorem InD_dec {cs : List Int} (h : ∀ c ∈ cs, InD c) : ∀ x ∈ decP cs, InD x := fun x hx => by
  obtain ⟨c, hc, h1⟩ := List.mem_flatMap.mp (N_mem.mp hx)
  exact InD_expand (h c hc) x h1
theorem InD_lpair {m c q : Int} (h : lpair m c = some q) : InD q := by
  unfold lpair at h
  split at h
  · cases h; exact .inr (.inl rfl)
  · split at h
    · cases h; exact InD_s (by omega) (by omega)
    · split at h
      · cases h; exact InD_s (by omega) (by omega)
      · cases h
theorem InD_tg {f : List Int} {c : Int} (hf : ∀ x ∈ f, InD x) (hc : InD c) : ∀ x ∈ tgstep f c, InD x := by
  have happ : ∀ x ∈ f ++ [c], InD x := fun x hx => by
    rcases List.mem_append.mp hx with hx | hx
    · exact hf x hx
    · rw [List.mem_singleton.mp hx]; exact hc
  intro x hx
  unfold tgstep at hx
  split at hx
  · exact happ x hx
  split at hx
  · exact happ x hx
  · rename_i q hq
    split at hx
    · rcases List.mem_or_eq_of_mem_set hx with hx | rfl
      · exact hf x hx
      · exact InD_lpair hq
    · exact happ x hx
theorem InD_tog : ∀ (l f : List Int), (∀ x ∈ f, InD x) → (∀ x ∈ l, InD x) → ∀ x ∈ l.foldl tgstep f, InD x
  | [], _, hf, _ => hf
  | c :: l, f, hf, hl => by rw [List.foldl_cons]; exact InD_tog l _ (InD_tg hf (hl c (.head _))) (fun x hx => hl x (.tail _ hx))
theorem InD_due {cs : List Int} (h : ∀ c ∈ cs, InD c) : ∀ x ∈ togP (decP cs), InD x := InD_tog _ _ (fun _ q => nomatch q) (InD_dec h)
theorem dec_len {cs : List Int} (h : cs.length ≤ 5) : (decP cs).length ≤ 15 := by
  unfold decP
  rw [ordGo_length]
  have := flat_len expand expand_len cs
  show 0 + _ ≤ _
  lia
theorem due_len {cs : List Int} (h : cs.length ≤ 5) : (togP (decP cs)).length ≤ 15 := by
  have h1 := tog_len (decP cs) []
  have h2 := dec_len h
  unfold togP
  rw [List.length_nil, Nat.zero_add] at h1
  lia
theorem InD_rng {c : Int} (h : InD c) : 0 ≤ c ∧ c < 55204 := by unfold InD at h; lia
theorem codes_ex (w : World) : ∃ vs : List Value, IntsAre vs [4352, 4370, 4447, 4371, 4449, 4469, 4448, 4470, 4520, 4546, 4547, 4519, 44032, 44060, 44033, 55203, 97, 224, 768, 769, 803] ∧ ∀ h₀ : Heap, (hd.heap_1 w.params).In h₀ → h₀.IsList 443 vs.toArray := by
  refine ⟨_, ?_, fun h₀ X => ⟨_, X 443 _ (by with_unfolding_all rfl), rfl, _, rfl⟩⟩
  repeat' (first | exact .nil | refine .cons _ _ ?_)
theorem known_ex (w : World) : ∀ h₀ : Heap, (hd.heap_1 w.params).In h₀ → h₀.IsList 451 [Value.ref 444, .ref 445, .ref 446, .ref 447, .ref 448, .ref 449, .ref 450].toArray := by
  exact fun h₀ X => ⟨_, X 451 _ (by with_unfolding_all rfl), rfl, _, rfl⟩
theorem known_0 (w : World) : ∃ vs : List Value, IntsAre vs [44032, 4520] ∧ ∀ h₀ : Heap, (hd.heap_1 w.params).In h₀ → h₀.IsList 444 vs.toArray := by
  refine ⟨_, ?_, fun h₀ X => ⟨_, X 444 _ (by with_unfolding_all rfl), rfl, _, rfl⟩⟩
  repeat' (first | exact .nil | refine .cons _ _ ?_)
theorem known_1 (w : World) : ∃ vs : List Value, IntsAre vs [4352, 4449, 4520, 4520] ∧ ∀ h₀ : Heap, (hd.heap_1 w.params).In h₀ → h₀.IsList 445 vs.toArray := by
  refine ⟨_, ?_, fun h₀ X => ⟨_, X 445 _ (by with_unfolding_all rfl), rfl, _, rfl⟩⟩
  repeat' (first | exact .nil | refine .cons _ _ ?_)
theorem known_2 (w : World) : ∃ vs : List Value, IntsAre vs [4352, 768, 4449] ∧ ∀ h₀ : Heap, (hd.heap_1 w.params).In h₀ → h₀.IsList 446 vs.toArray := by
  refine ⟨_, ?_, fun h₀ X => ⟨_, X 446 _ (by with_unfolding_all rfl), rfl, _, rfl⟩⟩
  repeat' (first | exact .nil | refine .cons _ _ ?_)
theorem known_3 (w : World) : ∃ vs : List Value, IntsAre vs [224, 803] ∧ ∀ h₀ : Heap, (hd.heap_1 w.params).In h₀ → h₀.IsList 447 vs.toArray := by
  refine ⟨_, ?_, fun h₀ X => ⟨_, X 447 _ (by with_unfolding_all rfl), rfl, _, rfl⟩⟩
  repeat' (first | exact .nil | refine .cons _ _ ?_)
theorem known_4 (w : World) : ∃ vs : List Value, IntsAre vs [97, 769, 768] ∧ ∀ h₀ : Heap, (hd.heap_1 w.params).In h₀ → h₀.IsList 448 vs.toArray := by
  refine ⟨_, ?_, fun h₀ X => ⟨_, X 448 _ (by with_unfolding_all rfl), rfl, _, rfl⟩⟩
  repeat' (first | exact .nil | refine .cons _ _ ?_)
theorem known_5 (w : World) : ∃ vs : List Value, IntsAre vs [44032, 4519] ∧ ∀ h₀ : Heap, (hd.heap_1 w.params).In h₀ → h₀.IsList 449 vs.toArray := by
  refine ⟨_, ?_, fun h₀ X => ⟨_, X 449 _ (by with_unfolding_all rfl), rfl, _, rfl⟩⟩
  repeat' (first | exact .nil | refine .cons _ _ ?_)
theorem known_6 (w : World) : ∃ vs : List Value, IntsAre vs [4371, 4449, 4547] ∧ ∀ h₀ : Heap, (hd.heap_1 w.params).In h₀ → h₀.IsList 450 vs.toArray := by
  refine ⟨_, ?_, fun h₀ X => ⟨_, X 450 _ (by with_unfolding_all rfl), rfl, _, rfl⟩⟩
  repeat' (first | exact .nil | refine .cons _ _ ?_)
theorem InD_codes : ∀ c ∈ ([4352, 4370, 4447, 4371, 4449, 4469, 4448, 4470, 4520, 4546, 4547, 4519, 44032, 44060, 44033, 55203, 97, 224, 768, 769, 803] : List Int), InD c := InD_of (by decide)
theorem known_all (w : World) : ∀ v ∈ [Value.ref 444, .ref 445, .ref 446, .ref 447, .ref 448, .ref 449, .ref 450], ∃ (ka : Addr) (vs : List Value) (cs : List Int), v = .ref ka ∧ IntsAre vs cs ∧ (∀ c ∈ cs, InD c) ∧ cs.length ≤ 5 ∧ ∀ h₀ : Heap, (hd.heap_1 w.params).In h₀ → h₀.IsList ka vs.toArray := by
  intro v hv
  simp only [List.mem_cons, List.not_mem_nil, or_false] at hv
  rcases hv with rfl | rfl | rfl | rfl | rfl | rfl | rfl
  · obtain ⟨vs, hi, hl⟩ := known_0 w
    exact ⟨_, vs, _, rfl, hi, InD_of (by decide), by decide, hl⟩
  · obtain ⟨vs, hi, hl⟩ := known_1 w
    exact ⟨_, vs, _, rfl, hi, InD_of (by decide), by decide, hl⟩
  · obtain ⟨vs, hi, hl⟩ := known_2 w
    exact ⟨_, vs, _, rfl, hi, InD_of (by decide), by decide, hl⟩
  · obtain ⟨vs, hi, hl⟩ := known_3 w
    exact ⟨_, vs, _, rfl, hi, InD_of (by decide), by decide, hl⟩
  · obtain ⟨vs, hi, hl⟩ := known_4 w
    exact ⟨_, vs, _, rfl, hi, InD_of (by decide), by decide, hl⟩
  · obtain ⟨vs, hi, hl⟩ := known_5 w
    exact ⟨_, vs, _, rfl, hi, InD_of (by decide), by decide, hl⟩
  · obtain ⟨vs, hi, hl⟩ := known_6 w
    exact ⟨_, vs, _, rfl, hi, InD_of (by decide), by decide, hl⟩
theorem ints_mem {vs : List Value} {cs : List Int} (h : IntsAre vs cs) : ∀ v ∈ vs, ∃ c t, c ∈ cs ∧ v = .int c t := by
  induction h with
  | nil => exact fun _ h => nomatch h
  | cons c t r ih =>
    intro v h
    rcases List.mem_cons.mp h with rfl | h
    · exact ⟨c, t, .head _, rfl⟩
    · obtain ⟨c', t', h1, h2⟩ := ih v h
      exact ⟨c', t', .tail _ h1, h2⟩
inductive CdSt (w : World) (da ca : Addr) (r : List (Addr × Obj)) (k0 : Nat) (i : Nat) (ys : List Value) (nw : List (Addr × Obj)) : Prop
  | mk (o : Obj) (its : List Value) (n : Nat) (zs : List Int) : (nw = (da, o) :: (ca, lstO its n) :: r) → (DkOk w (k0 + i) da ca o its) → (IntsAre ys zs) → ((∀ z ∈ zs, InD z)) → (zs.length = i) → CdSt w da ca r k0 i ys nw
theorem CdSt.ex {w : World} {da ca : Addr} {r : List (Addr × Obj)} {k0 : Nat} {i : Nat} {ys : List Value} {nw : List (Addr × Obj)} (h : CdSt w da ca r k0 i ys nw) : CdSt w da ca r k0 i ys nw := h
theorem CdSt.zero {da ca : Addr} {r : List (Addr × Obj)} {k0 : Nat} {o : Obj} {its : List Value} {n : Nat} (h : DkOk w k0 da ca o its) : CdSt w da ca r k0 0 [] ((da, o) :: (ca, lstO its n) :: r) :=
  ⟨o, its, n, [], rfl, h, .nil, (fun _ h => nomatch h), rfl⟩
theorem CdSt.succ {da ca : Addr} {r : List (Addr × Obj)} {k0 i : Nat} {o : Obj} {its : List Value} {n : Nat} {ys : List Value} {zs cs : List Int} {vs : List Value} {v : Value} (hv : v ∈ vs) (hvs : IntsAre vs cs) (hcs : ∀ c ∈ cs, InD c) (h : DkOk w (k0 + i + 1) da ca o its) (hy : IntsAre ys zs) (hz : ∀ z ∈ zs, InD z) (hl : zs.length = i) : CdSt w da ca r k0 (i + 1) (ys ++ [v]) ((da, o) :: (ca, lstO its n) :: r) := by
  obtain ⟨c, t, hc, rfl⟩ := ints_mem hvs v hv
  refine ⟨o, its, n, zs ++ [c], rfl, h, ints_app hy (.cons _ t .nil), fun z hz' => ?_, by rw [List.length_append, hl]; rfl⟩
  rcases List.mem_append.mp hz' with h1 | h1
  · exact hz z h1
  · rw [List.mem_singleton.mp h1]; exact hcs c hc
section
open PySem.W PyProof.V PySem.Spec PySem.SeqAt
noncomputable abbrev dL (cs : List Int) : PyData := .list (cs.map PyData.int)
/-- values that are lists of the ledger, each of ints -/
inductive LsAre (nw : List (Addr × Obj)) : List Value → List (List Int) → Prop
  | nil : LsAre nw [] []
  | cons {a : Addr} {its : List Value} {n : Nat} {cs : List Int} {r : List Value} {rs : List (List Int)} : (a, lstO its n) ∈ nw → IntsAre its cs → LsAre nw r rs → LsAre nw (.ref a :: r) (cs :: rs)
theorem LsAre.mono {nw nw' : List (Addr × Obj)} {vs : List Value} {css : List (List Int)} (h : ∀ p ∈ nw, p ∈ nw') (x : LsAre nw vs css) : LsAre nw' vs css := by
  induction x with
  | nil => exact .nil
  | cons m i r ih => exact .cons (h _ m) i ih
theorem LsAre.app {nw : List (Addr × Obj)} {vs us : List Value} {css dss : List (List Int)} (x : LsAre nw vs css) (y : LsAre nw us dss) : LsAre nw (vs ++ us) (css ++ dss) := by
  induction x with
  | nil => exact y
  | cons m i r ih => exact .cons m i ih
theorem LsAre.reads {nw : List (Addr × Obj)} {h₀ h : Heap} {L : Addr} {vs : List Value} {css : List (List Int)} (N : News h₀ L h nw) (x : LsAre nw vs css) : ∃ as, ReadsAll h vs (css.map dL) as := by
  induction x with
  | nil => exact ⟨[], .nil⟩
  | cons m i r ih =>
    obtain ⟨as, h2⟩ := ih
    exact ⟨_, .cons (reads_of_ints ⟨_, (N _ m).1, rfl, _, rfl⟩ i) h2⟩
theorem canLay_LL : ∀ css : List (List Int), PyData.canLayAll0 (css.map dL) = true
  | [] => by simp [PyData.canLayAll0]
  | cs :: r => by simp [PyData.canLayAll0, PyData.canLay0, canLay_LL r, canLayAll0_ints cs]
theorem depth_LL : ∀ css : List (List Int), PyData.depthAll (css.map dL) ≤ 2
  | [] => by simp [PyData.depthAll]
  | cs :: r => by
    have h1 := depth_LL r
    have h2 := PySem.W.depthAll_ints cs
    simp only [List.map_cons, PyData.depthAll, PyData.depth]
    lia
theorem shaped_LL (css : List (List Int)) : shaped (.list (css.map dL)) = true := by
  have h1 := depth_LL css
  have h2 : PyData.depth (.list (css.map dL)) ≤ 64 := by simp only [PyData.depth]; lia
  show (PyData.canLay0 (.list (css.map dL)) && decide (PyData.depth (.list (css.map dL)) ≤ 64)) = true
  rw [Bool.and_eq_true]
  exact ⟨by simp only [PyData.canLay0]; exact canLay_LL css, decide_eq_true h2⟩
theorem noMix_LL : ∀ css : List (List Int), noMixAll (css.map dL) (css.map dL) = true
  | [] => by simp [noMixAll]
  | cs :: r => by simp [noMixAll, noMix, noMix_LL r, noMix_ints cs cs]
theorem same_LL : ∀ css : List (List Int), PySem.Spec.sameAll (css.map dL) (css.map dL) = true
  | [] => by simp [PySem.Spec.sameAll]
  | cs :: r => by
    simp only [List.map_cons, PySem.Spec.sameAll, PySem.Spec.same, same_LL r, same_ints cs cs]
    simp
theorem eq_LL {prog : Program} {A : Around} {E : Value → Shared → Prop} {s : Shared} {h₀ : Heap} {L : Addr} {news : List (Addr × Obj)} {a b : Addr} {vs us : List Value} {n1 n2 : Nat} {css : List (List Int)} {Q : Value → Shared → Prop}
    (N : News h₀ L s.heap news) (ha : (a, lstO vs n1) ∈ news) (hi : LsAre news vs css) (hb : (b, lstO us n2) ∈ news) (hj : LsAre news us css) (hu : A.units + 64 < cLine) (h : Q (.bool true) s) : wpAny (model prog w) A (compareOp .Eq (.ref a) (.ref b)) Q E s := by
  obtain ⟨as, h1⟩ := hi.reads N
  obtain ⟨bs, h2⟩ := hj.reads N
  exact eq_dataH_same (Reads.list (N _ ha).1 rfl rfl (by simpa using h1)) (Reads.list (N _ hb).1 rfl rfl (by simpa using h2)) (shaped_LL css) (shaped_LL css) hu (by simp only [noMix]; exact noMix_LL css) (by simp only [PySem.Spec.same]; rw [same_LL]; exact h)
end
/-- the clusters of the first i of the texts -/
structure StPl (nwB : List (Addr × Obj)) (css : List (List Int)) (i : Nat) (ys : List Value) (nw : List (Addr × Obj)) : Prop where
  sub : ∀ p ∈ nwB, p ∈ nw
  ls : LsAre nw ys (css.take i)
theorem StPl.zero (nwB : List (Addr × Obj)) (css : List (List Int)) : StPl nwB css 0 [] nwB := ⟨fun _ h => h, by rw [List.take_zero]; exact .nil⟩
theorem StPl.succ {nwB nw : List (Addr × Obj)} {css : List (List Int)} {i : Nat} {ys : List Value} {D : Addr} {its : List Value} {n : Nat} {cs : List Int} (h : StPl nwB css i ys nw) (hc : css[i]? = some cs) (hi : IntsAre its cs) : StPl nwB css (i + 1) (ys ++ [.ref D]) ((D, lstO its n) :: nw) :=
  ⟨fun p hp => .tail _ (h.sub p hp), by rw [List.take_add_one, hc]; exact (h.ls.mono (fun _ hp => .tail _ hp)).app (.cons (.head _) hi .nil)⟩
theorem InD_pl {cs : List Int} (h : ∀ c ∈ cs, InD c) : ∀ c ∈ cs, 0 ≤ c ∧ (c < 5000 ∨ 44032 ≤ c) := fun c hc => by
  have := h c hc
  unfold InD at this
  lia
theorem places_len (cs : List Int) : (placesP cs).length ≤ cs.length + 1 := by
  unfold placesP
  split
  · simp
  · rw [List.length_append, List.length_singleton]
    have := plc_len none 0 cs
    lia
theorem pl_key {nwB : List (Addr × Obj)} {ta aa ea : Addr} {its aits eits : List Value} {n an en : Nat} {cs : List Int} (bt : (ta, lstO its n) ∈ nwB) (ba : (aa, lstO aits an) ∈ nwB) (be : (ea, lstO eits en) ∈ nwB) (hi : IntsAre its cs) (hia : IntsAre aits (decP cs)) (hie : IntsAre eits (togP (decP cs))) (hc : ∀ c ∈ cs, InD c) (hl : cs.length ≤ 5) :
    ∀ (j : Nat) (v : Value), ([Value.ref ta, .ref aa, .ref ea] : List Value)[j]? = some v → ∃ (la : Addr) (its' : List Value) (n' : Nat) (cs' : List Int), v = .ref la ∧ (la, lstO its' n') ∈ nwB ∧ IntsAre its' cs' ∧ (∀ c ∈ cs', InD c) ∧ cs'.length < 16 ∧ ([placesP cs, placesP (decP cs), placesP (togP (decP cs))] : List (List Int))[j]? = some (placesP cs') := by
  intro j v h
  match j, h with
  | 0, h => cases h; exact ⟨_, _, _, cs, rfl, bt, hi, hc, by lia, rfl⟩
  | 1, h => cases h; exact ⟨_, _, _, decP cs, rfl, ba, hia, InD_dec hc, by have := dec_len hl; lia, rfl⟩
  | 2, h => cases h; exact ⟨_, _, _, togP (decP cs), rfl, be, hie, InD_due hc, by have := due_len hl; lia, rfl⟩
  | j + 3, h => cases h
theorem law_post (xs : List Int) : PySem.Challenge.rw_nt0050_01.row.claim.post [ofPy (PyData.list (xs.map PyData.int))] (.bool true) [ofPy (PyData.list (xs.map PyData.int))] = true :=
  postW_of (by first | assumption | wrow_shape) (by wtm_val) (by w_fin)
theorem nfc_apart (cs : List Int) : compP (decP (decP cs)) = togP (decP cs) := by rw [dec_dec, tog_comp]
theorem fqok_d : FqOk w (Str.ofString "nfd") fqD := fun c t d tp k tw T news a b e f g => c_fq_d c t d tp k tw T news a b e f g
theorem fqok_c : FqOk w (Str.ofString "nfc") fqC := fun c t d tp k tw T news a b e f g => c_fq_c c t d tp k tw T news a b e f g
theorem fook_d : FoOk w (Str.ofString "nfd") decP := fun l its n cs d tp kv tw T news h1 h2 h3 h4 h5 h6 _ h8 => ConC.deep (by decide) (c_of_d l its n cs d tp kv tw T news h1 h2 h3 h4 h5 h6 h8)
theorem fook_c : FoOk w (Str.ofString "nfc") (fun l => compP (decP l)) := fun l its n cs d tp kv tw T news h1 h2 h3 h4 h5 h6 h7 h8 => ConC.deep (by decide) (c_of_c l its n cs d tp kv tw T news h1 h2 h3 h4 h5 h6 h7 h8)
/-- the law's loose codes -/
noncomputable def Ls (c : Int) : Bool := decide (c = 768 ∨ (4449 ≤ c ∧ c ≤ 4469) ∨ (4519 ≤ c ∧ c ≤ 4546))
structure StLs (led : List (Addr × Obj)) (cs : List Int) (i : Nat) (ys : List Value) (nw : List (Addr × Obj)) : Prop where
  ex : ∃ zs : List Int, nw = led ∧ IntsAre ys zs ∧ zs ++ (cs.drop i).filter Ls = cs.filter Ls
theorem StLs.yes {led : List (Addr × Obj)} {cs zs : List Int} {i : Nat} {b : Int} {ys : List Value} {t : Tok} (hz : zs ++ (cs.drop i).filter Ls = cs.filter Ls) (hc : cs[i]? = some b) (hb : Ls b = true) (hy : IntsAre ys zs) : StLs led cs (i + 1) (ys ++ [.int b t]) led :=
  ⟨⟨zs ++ [b], rfl, ints_app hy (.cons _ t .nil), by rw [← hz, drop_at hc, List.filter_cons_of_pos hb, List.append_assoc]; rfl⟩⟩
theorem StLs.no {led : List (Addr × Obj)} {cs zs : List Int} {i : Nat} {b : Int} {ys : List Value} (hz : zs ++ (cs.drop i).filter Ls = cs.filter Ls) (hc : cs[i]? = some b) (hb : ¬ Ls b = true) (hy : IntsAre ys zs) : StLs led cs (i + 1) ys led :=
  ⟨⟨zs, rfl, hy, by rw [← hz, drop_at hc, List.filter_cons_of_neg hb]⟩⟩
/-! the law's own rules -/
theorem wpAny_execs_one {M : Model} {A : Around} {E : Value → Shared → Prop} {s : Shared} {st : Stmt} {env : Env} {Q : Flow → Shared → Prop} (h : wpAny M A (execs [st] env) Q E s) : wpAny M A (exec st env) Q E s := fun Γ p hΓ => by
  have h := h Γ p hΓ
  rw [execs_cons, Sem.wp_bind'] at h
  refine Sem.wp_mono M Γ _ (fun f p' s' h' => ?_) (fun _ _ _ h' => h') _ _ h
  cases f with
  | next => rw [execs_nil, Sem.wp_pure'] at h'; exact h'
  | _ => rw [Sem.wp_pure'] at h'; exact h'
section
variable {D : Nat} {i : Fn} {c : Cx w D i} {m : Fm} {nw : Led}
theorem Ca.deck {scr : Addr} {vals : List Value} {ns : List Int} {K : Value → Led → Prop} (hi : IntsAre vals ns) (hlen : ns.length < 64) (hS : c.g.IsList scr vals.toArray) (hd : Nat.ble 6 D = true) (hK : ∀ da ca o its n, DkOk w 0 da ca o its → (∀ p ∈ nw, p.1 < da) → (∀ p ∈ (da, o) :: nw, p.1 < ca) → da ≠ ca → K (.ref da) ((da, o) :: (ca, lstO its n) :: nw)) : Ca c m nw (.ref 428) [.ref scr] K :=
  Ca.con (c_deck scr vals ns hi hlen nw) hd fun _ _ _ hQ => ⟨hS, fun da ca o its n h' tk' a1 F N l1 l2 => hQ _ _ _ _ F N (hK da ca o its n a1 l1 (List.forall_mem_cons.mpr ⟨l2, fun p hp => Nat.lt_trans (l1 p hp) l2⟩) (Nat.ne_of_lt l2))⟩
theorem Ca.ldata5 {p1 p2 p3 p4 p5 : Addr × Obj} {K : Value → Led → Prop} (hd : Nat.ble 24 D = true) (hK : ∀ d tp ds, DataIn w ds d tp → (∀ p ∈ [p1, p2, p3, p4, p5], ∀ q ∈ ds, p.1 < q.1) → K (.ref d) (p1 :: p2 :: p3 :: p4 :: p5 :: ds)) : Ca c m [p1, p2, p3, p4, p5] (.ref 465) [] K :=
  Ca.con (c_ldata _) hd fun _ _ _ hQ d tp ds h' tk' hD F N l => hQ _ _ _ _ F (cb_drop N fun p hp => (List.mem_append.mp (show p ∈ [p1, p2, p3, p4, p5] ++ ds from hp)).elim (List.mem_append_right _) (List.mem_append_left _)) (hK d tp ds hD l)
theorem ne_lo {n ds : Led} {a : Addr} {o : Obj} (lo : ∀ p ∈ n, ∀ q ∈ ds, p.1 < q.1) (h : (a, o) ∈ n) : ∀ q ∈ ds, q.1 ≠ a := fun q hq => Nat.ne_of_gt (lo _ h q hq)
theorem pair_i {v1 v2 : Value} {P : Value → Value → Prop} (h : P v1 v2) : ∃ a b, [v1, v2] = [a, b] ∧ P a b := ⟨v1, v2, rfl, h⟩
theorem Ca.Ln {f : Addr} {vs : List Value} {K : Value → Led → Prop} {D' : Nat} {cs : List Int} (C : Con w D' f vs nw (RetLn cs)) (hD : Nat.ble D' D = true) (hK : ∀ a its n, IntsAre its cs → (∀ p ∈ nw, p.1 ≠ a) → K (.ref a) ((a, lstO its n) :: nw)) : Ca c m nw (.ref f) vs K :=
  Ca.con C hD fun _ _ _ hQ a its n h' tk' hi F N l => hQ _ _ _ _ F N (hK a its n hi l)
theorem Ca.apart {l : Addr} {its : List Value} {n : Nat} {cs : List Int} {K : Value → Led → Prop} (hl : (l, lstO its n) ∈ nw) (hi : IntsAre its cs) (hz : cs.length < 6) (hd : Nat.ble 4 D = true) (hK : ∀ a its n, IntsAre its (decP cs) → (∀ p ∈ nw, p.1 ≠ a) → K (.ref a) ((a, lstO its n) :: nw)) : Ca c m nw (.ref 472) [.ref l] K :=
  Ca.Ln (c_apart l its n cs nw hl hi hz) hd (by rw [apart_dec]; exact hK)
theorem Ca.together {l : Addr} {its : List Value} {n : Nat} {cs : List Int} {K : Value → Led → Prop} (hl : (l, lstO its n) ∈ nw) (hi : IntsAre its cs) (hz : cs.length < 16) (hd : Nat.ble 6 D = true) (hK : ∀ a its n, IntsAre its (togP cs) → (∀ p ∈ nw, p.1 ≠ a) → K (.ref a) ((a, lstO its n) :: nw)) : Ca c m nw (.ref 484) [.ref l] K :=
  Ca.Ln (c_together l its n cs nw hl hi hz) hd hK
theorem Ca.ends {l : Addr} {its : List Value} {n : Nat} {cs : List Int} {K : Value → Led → Prop} (hl : (l, lstO its n) ∈ nw) (hi : IntsAre its cs) (hz : cs.length < 16) (hc : ∀ c ∈ cs, c < 55204) (hd : Nat.ble 4 D = true) (hK : ∀ a its n, IntsAre its (endsP cs) → (∀ p ∈ nw, p.1 ≠ a) → K (.ref a) ((a, lstO its n) :: nw)) : Ca c m nw (.ref 498) [.ref l] K :=
  Ca.Ln (c_ends l its n cs nw hl hi hz hc) hd hK
theorem Ca.places {l d tp : Addr} {its : List Value} {n : Nat} {cs : List Int} {K : Value → Led → Prop} (hl : (l, lstO its n) ∈ nw) (hi : IntsAre its cs) (hp : ∀ c ∈ cs, 0 ≤ c ∧ (c < 5000 ∨ 44032 ≤ c)) (hz : cs.length < 16) (hD : DataIn w nw d tp) (hd : Nat.ble 14 D = true) (hK : ∀ a its n, IntsAre its (placesP cs) → its.length ≤ 400 → (∀ p ∈ nw, p.1 ≠ a) → K (.ref a) ((a, lstO its n) :: nw)) : Ca c m nw (.ref 313) [.ref l, .ref d] K :=
  Ca.Ln (c_places l its n cs d tp nw hl hi hp hz hD) hd fun a its n hi => hK a its n hi (by have := hi.length; have := places_len cs; omega)
theorem Ca.copyB {l : Addr} {its : List Value} {K : Value → Led → Prop} (hS : ∀ h₀, (hd.heap_1 w.params).In h₀ → h₀.IsList l its.toArray) (hz : its.length ≤ 400) (hK : ∀ a k, (∀ p ∈ nw, p.1 < a) → K (.ref a) ((a, lstO its k) :: nw)) : Ca c m nw (.type "list") [.ref l] K :=
  ⟨fun h tk Q I hQ => list_copyK I.F I.N (items := its.toArray) (stays_list I.F.keep (hS _ c.X)) (fun a k h' F' N' l => hQ _ _ _ _ ⟨F', N'⟩ (hK a k l)) (by rw [List.size_toArray, sizeLine_eq]; omega)⟩
noncomputable abbrev rgO (z : Int) (t u v : Tok) : Obj := { cls := .type "range", data := .fields #[.int 0 t, .int z u, .int 1 v] }
theorem Ca.rg {z : Int} {u : Tok} {K : Value → Led → Prop} (hK : ∀ r t v, (∀ p ∈ nw, p.1 < r) → K (.ref r) ((r, rgO z t u v) :: nw)) : Ca c m nw (.type "range") [.int z u] K := by
  refine ⟨fun h tk Q I hQ => call_range_1 ?_⟩
  obtain ⟨F5, N5⟩ := push_range (o := rgO z tk u (tk + 1)) I.F I.N
  exact hQ (.ref h.objs.size) ((h.objs.size, rgO z tk u (tk + 1)) :: nw) _ _ ⟨F5, List.forall_mem_cons.mpr ⟨⟨Heap.get?_push_size _ rfl, Ne.symm (Nat.ne_of_lt I.F.ns.lt), next_is_new I.F⟩, N5⟩⟩ (hK _ _ _ fun p hp => Heap.lt_size (I.N p hp).1)
section
variable {l d tp : Addr} {its : List Value} {n : Nat} {cs : List Int} {T news r : Led} {g : Led → Led} {K : Value → Led → Prop}
theorem Ca.nfd (hC : CodeHd c.g 121 119) (S : Shf T news nw r g) (hd : Nat.ble 16 D = true) (hT : LamL T) (hl : (l, lstO its n) ∈ r) (hi : IntsAre its cs) (hpos : ∀ c ∈ cs, 0 ≤ c) (hlen : cs.length < 16) (hDt : DataIn w r d tp) (hdis : Dis T r)
    (hK : ∀ a its n T', LamL T' → Dis T' r → IntsAre its (decP cs) → (∀ p ∈ g T', p.1 ≠ a) → K (.ref a) ((a, lstO its n) :: g T')) : Ca c m nw (.ref 202) [.ref l, .ref d] K :=
  Ca.conT S hC (c_nfd l its n cs d tp T r hT hl hi hpos hlen hDt hdis) hd hK
theorem Ca.nfc (hC : CodeHd c.g 121 119) (S : Shf T news nw r g) (hd : Nat.ble 24 D = true) (hT : LamL T) (hl : (l, lstO its n) ∈ r) (hi : IntsAre its cs) (hpos : ∀ c ∈ cs, 0 ≤ c) (hlen : cs.length < 16) (hDt : DataIn w r d tp) (hdis : Dis T r)
    (hK : ∀ a its n T', LamL T' → Dis T' r → IntsAre its (compP (decP cs)) → (∀ p ∈ g T', p.1 ≠ a) → K (.ref a) ((a, lstO its n) :: g T')) : Ca c m nw (.ref 209) [.ref l, .ref d] K :=
  Ca.conT S hC (c_nfc l its n cs d tp T r hT hl hi hpos hlen hDt hdis) hd hK
theorem Ca.equiv {l2 : Addr} {its2 : List Value} {n2 : Nat} {cs2 : List Int} (hC : CodeHd c.g 121 119) (S : Shf T news nw r g) (hd : Nat.ble 24 D = true) (hT : LamL T) (hl : (l, lstO its n) ∈ r) (hi : IntsAre its cs) (hl2 : (l2, lstO its2 n2) ∈ r) (hi2 : IntsAre its2 cs2) (hpos : ∀ c ∈ cs, 0 ≤ c) (hlen : cs.length < 16) (hpos2 : ∀ c ∈ cs2, 0 ≤ c) (hlen2 : cs2.length < 16) (hDt : DataIn w r d tp) (hdis : Dis T r)
    (hK : ∀ (_ : Tok) T', LamL T' → Dis T' r → K (.bool (decide (decP cs = decP cs2))) (g T')) : Ca c m nw (.ref 240) [.ref l, .ref l2, .ref d] K :=
  Ca.conV S hC (c_equiv l l2 its its2 n n2 cs cs2 d tp T r hT hl hi hpos hlen hl2 hi2 hpos2 hlen2 hDt hdis) hd hK
end
theorem Co.isN {a b : Bool} {K : Bool → Led → Prop} (hK : K (a != b) nw) : Co c m nw .IsNot (.bool a) (.bool b) K := ⟨fun h tk Q I hQ => isnot_bool (hQ _ _ _ _ I hK)⟩
theorem Co.neB {a b : Bool} {K : Bool → Led → Prop} (hK : K (!(a == b)) nw) : Co c m nw .NotEq (.bool a) (.bool b) K := ⟨fun h tk Q I hQ => (SeqAt.RcNeAt.bool_bool a b) _ _ _ _ (hQ _ _ _ _ I hK)⟩
theorem Co.eqLL {a b : Addr} {vs us : List Value} {n1 n2 : Nat} {css : List (List Int)} {K : Bool → Led → Prop} (ha : (a, lstO vs n1) ∈ nw) (hb : (b, lstO us n2) ∈ nw) (hi : LsAre nw vs css) (hj : LsAre nw us css) (hK : K true nw) : Co c m nw .Eq (.ref a) (.ref b) K :=
  ⟨fun h tk Q I hQ => eq_LL I.N ha hi hb hj c.un64 (hQ _ _ _ _ I hK)⟩
section
variable {l : List Stmt} {K : Flow → Fm → Led → Prop}
theorem It.tup {target : Expr} {b : List Stmt} {a : Addr} {vs : List Value} (ha : (a, tupO vs) ∈ nw) (h : ∀ I, (∀ p ∈ nw, p.1 < I) → Fx c target b l K [(I, "tuple_iterator")] (a, tupO vs) (vs.map .val) m nw) : It c target b l K m nw (.ref a) :=
  ⟨fun h0 tk Q I hQ => iter_tupTurns rfl I.F I.N ha rfl rfl fun J l1 => Fx.rest hQ _ m nw (h J l1)⟩
theorem St.ls {l' : List Stmt} (e : l = l') (h : St c m nw l' K) : St c m nw l K := e ▸ h
/-- a statement whose ways come together -/
theorem St.cut {s : Stmt} (J : Fm → Led → Prop) (h : St c m nw [s] fun f m' n' => f = .next ∧ J m' n') (k : ∀ m' n', J m' n' → St c m' n' l K) : St c m nw (s :: l) K := by
  refine ⟨fun h0 tk Q I hQ => wpAny_execs_cons ?_⟩
  have := h.run h0 tk (fun f s' => f = .next ∧ ∃ m' n' h' tk', s' = c.st h' tk' ∧ c.I m' n' h' ∧ J m' n') I fun f m' n' h' tk' I' hK => ⟨hK.1, m', n', h', tk', rfl, I', hK.2⟩
  refine wpAny_mono (wpAny_execs_one this) (fun f s' q => ?_) fun _ _ e => e
  obtain ⟨rfl, m', n', h', tk', rfl, I', hJ⟩ := q
  exact (k m' n' hJ).run h' tk' Q I' hQ
end
/-- the text is chosen -/
inductive TxL (scr : Addr) (dc : Addr × Obj) (ds : Led) (m : Fm) (n : Led) : Prop
  | mk (ta : Addr) (its : List Value) (k : Nat) (cs : List Int) : ((∀ y, lk m y = lk [(Str.ofString "script", some (.ref scr)), (Str.ofString "text", some (.ref ta))] y)) → ((∀ p ∈ (ta, lstO its k) :: dc :: (119, tabObj #[]) :: ds, p ∈ n)) → (IntsAre its cs) → ((∀ c ∈ cs, InD c)) → (cs.length ≤ 5) → (∀ p ∈ dc :: (119, tabObj #[]) :: ds, p.1 ≠ ta) → TxL scr dc ds m n
theorem TxL.ex {scr : Addr} {dc : Addr × Obj} {ds : Led} {m : Fm} {n : Led} (h : TxL scr dc ds m n) : TxL scr dc ds m n := h
theorem St.cutTx {scr : Addr} {x1 x2 x3 dc : Addr × Obj} {ds : Led} {s : Stmt} {l : List Stmt} {K : Flow → Fm → Led → Prop} (h : St c [(Str.ofString "script", some (.ref scr))] (x1 :: x2 :: dc :: x3 :: (119, tabObj #[]) :: ds) [s] fun f m' n' => f = .next ∧ TxL scr dc ds m' n') (k : ∀ m' n', TxL scr dc ds m' n' → St c m' n' l K) : St c [(Str.ofString "script", some (.ref scr))] (x1 :: x2 :: dc :: x3 :: (119, tabObj #[]) :: ds) (s :: l) K := St.cut _ h k
theorem Ty.cj (P : Prop) {q : Cv} {e : Expr} {K : Bool → Led → Prop} (h : Ty c q m nw e (Cj nw P)) (h1 : P → K true nw) (h2 : ¬ P → K false nw) : Ty c q m nw e K :=
  ⟨fun h0 tk Q I hQ => h.run h0 tk Q I fun b n h' t' I' q => by
    obtain ⟨rfl, q⟩ := q
    cases b with
    | true => exact hQ _ _ _ _ I' (h1 (q.mp rfl))
    | false => exact hQ _ _ _ _ I' (h2 fun p => Bool.false_ne_true (q.mpr p))⟩
/-- the way into a body by its state -/
theorem Cx.go {l : List Stmt} {h0 : Heap} {tk : Nat} {Q : Flow → Shared → Prop} (I : c.I m nw h0) (h : ∀ c' : Cx w D i, c'.g = c.g → c'.L = c.L → ∀ KK : Flow → Fm → Led → Prop, (∀ f m' n', (∀ h' tk', c'.I m' n' h' → Q f (c.st h' tk')) → KK f m' n') → St c' m nw l KK) : wpAny (Mo w) c.A (execs l c.env) Q c.E (c.st h0 tk) :=
  (h c rfl rfl (fun f m' n' => ∀ h' tk', c.I m' n' h' → Q f (c.st h' tk')) fun _ _ _ h => h).run h0 tk Q I fun _ _ _ h' tk' I' hK => hK h' tk' I'
end
theorem kw59 : True := by
  (k_with "m:hca" => (first | ((with_reducible apply Ca.deck); (with_reducible assumption); walk_at "hom"; (with_reducible assumption); exact rfl) | ((with_reducible apply Ca.ldata5); exact rfl) | ((with_reducible apply Ca.apart); walk_at "hmem"; (with_reducible assumption); (with_reducible assumption); exact rfl) | ((with_reducible apply Ca.together); walk_at "hmem"; (with_reducible assumption); (with_reducible assumption); exact rfl) | ((with_reducible apply Ca.ends); walk_at "hmem"; (with_reducible assumption); (with_reducible assumption); (with_reducible assumption); exact rfl) | ((with_reducible apply Ca.places); walk_at "hmem"; (with_reducible assumption); (with_reducible assumption); (with_reducible assumption); walk_at "hdt"; exact rfl) | (with_reducible apply Ca.rg) | ((with_reducible apply Ca.copyB); (with_reducible assumption); walk_at "hom")))
  (k_with "m:hca" => (first | ((with_reducible apply Ca.nfd); (with_reducible assumption); walk_at "hshf"; exact rfl; (with_reducible assumption); walk_at "hmem"; (with_reducible assumption); (with_reducible assumption); walk_at "hom"; walk_at "hdt"; walk_at "hdis") | ((with_reducible apply Ca.nfc); (with_reducible assumption); walk_at "hshf"; exact rfl; (with_reducible assumption); walk_at "hmem"; (with_reducible assumption); (with_reducible assumption); walk_at "hom"; walk_at "hdt"; walk_at "hdis") | ((with_reducible apply Ca.equiv); (with_reducible assumption); walk_at "hshf"; exact rfl; (with_reducible assumption); walk_at "hmem"; (with_reducible assumption); walk_at "hmem"; (with_reducible assumption); (with_reducible assumption); walk_at "hom"; (with_reducible assumption); walk_at "hom"; walk_at "hdt"; walk_at "hdis") | ((with_reducible apply Ca.isf); (with_reducible assumption); (with_reducible assumption); (with_reducible assumption); walk_at "hshf"; exact rfl; (with_reducible assumption); walk_at "hmem"; (with_reducible assumption); (with_reducible assumption); walk_at "hom"; walk_at "hdt"; walk_at "hdis")))
  (k_with "m:hco" => (first | (with_reducible apply Co.isN) | (with_reducible apply Co.neB)))
  (k_with "m:hk" => ((with_reducible apply It.tup); walk_at "hmem"))
  (k_with "m:hneR" => ((with_reducible apply ne_lo); (with_reducible assumption); walk_at "hmem"))
  (k_with "m:hval" => (with_reducible apply pair_i))
  trivial
/-! the law's two Ifs and its two turns -/
section
variable {D : Nat} {i : Fn} {c : Cx w D i} {m : Fm} {nw : Led} {l : List Stmt} {K : Flow → Fm → Led → Prop}
theorem St.mono {K' : Flow → Fm → Led → Prop} (h : St c m nw l K') (hK : ∀ f m n, K' f m n → K f m n) : St c m nw l K :=
  ⟨fun h0 tk Q I hQ => h.run h0 tk Q I fun f m' n' h' t' I' k => hQ _ _ _ _ _ I' (hK _ _ _ k)⟩
structure SmL (nw : Led) (m0 m : Fm) (n : Led) : Prop where
  ex : m = m0 ∧ ∃ T, LamL T ∧ Dis T nw ∧ ∀ p ∈ T ++ nw, p ∈ n
theorem SmL.mk' {m0 : Fm} {n T : Led} (hT : LamL T) (hd : Dis T nw) (hs : ∀ p ∈ T ++ nw, p ∈ n) : SmL nw m0 m0 n := ⟨rfl, T, hT, hd, hs⟩
theorem St.cutS {T : Led} {s : Stmt} (h : St c m (T ++ nw) [s] fun f m' n' => f = .next ∧ SmL nw m m' n') (k : ∀ T, LamL T → Dis T nw → St c m (T ++ nw) l K) : St c m (T ++ nw) (s :: l) K :=
  St.cut _ h fun m' n' hS => by
    obtain ⟨rfl, T', hT, hd, hs⟩ := hS
    exact St.drop hs (k T' hT hd)
theorem St.canon {x1 x2 x3 x4 x5 : Addr × Obj} {ds : Led} {d tp : Addr} (hD : DataIn w ds d tp) (h : ∀ q ∈ [x1, x2, x3, x4, x5], (119 : Addr) ≠ q.1) (hds : ∀ q ∈ ds, q.1 ≠ 119) (k : ∀ nw, Dis [(119, tabObj #[])] nw → (∀ p ∈ [x1, x2, x3, x4, x5], p ∈ nw) → DataIn w nw d tp → St c m ([(119, tabObj #[])] ++ nw) l K) : St c m (x1 :: x2 :: x3 :: x4 :: x5 :: (119, tabObj #[]) :: ds) l K := by
  refine St.drop (fun p hp => ?_) (k ([x1, x2, x3, x4, x5] ++ ds) (fun p hp q hq => ?_) (fun p hp => List.mem_append_left _ hp) (hD.mono fun p hp => List.mem_append_right _ hp))
  · rcases List.mem_append.mp hp with h | h
    · rw [List.mem_singleton.mp h]
      exact .tail _ (.tail _ (.tail _ (.tail _ (.tail _ (.head _)))))
    rcases List.mem_append.mp h with h | h
    · exact List.mem_append_left ((119, tabObj #[]) :: ds) h
    · exact List.mem_append_right [x1, x2, x3, x4, x5] (.tail _ h)
  · rw [List.mem_singleton.mp hp]
    rcases List.mem_append.mp hq with q' | q'
    · exact h q q'
    · exact fun e => hds q q' e.symm
@[reducible] noncomputable def lF (scr ta wa aa ea : Addr) (o1 o2 o3 o4 : Option Value) : Fm := [(Str.ofString "script", some (.ref scr)), (Str.ofString "text", some (.ref ta)), (Str.ofString "apart", some (.ref aa)), (Str.ofString "was", some (.ref wa)), (Str.ofString "due", some (.ref ea)), (Str.ofString "word", o1), (Str.ofString "form", o2), (Str.ofString "quick", o3), (Str.ofString "loose", o4)]
/-- one of the two words -/
structure WdOk (w : World) (cs : List Int) (nw : Led) (ws : Str) (fa : Addr) (fq : Int → Str) (fo : List Int → List Int) (P : List Int) : Prop where
  hq : FqOk w ws fq
  ho : FoOk w ws fo
  fa : ∃ fits fn, (fa, lstO fits fn) ∈ nw ∧ IntsAre fits P
  isf : isfP fq fo cs = decide (cs = P)
  yes : quickP fq (Str.ofString "yes") 0 cs = Str.ofString "yes" → cs = P
  no : quickP fq (Str.ofString "yes") 0 cs = Str.ofString "no" → cs ≠ P
  mb : quickP fq (Str.ofString "yes") 0 cs = Str.ofString "maybe" → ws ≠ Str.ofString "nfd" ∧ cs.filter Ls ≠ []
theorem wd_d {cs : List Int} {fits : List Value} {fn : Nat} {fa : Addr} (hm : (fa, lstO fits fn) ∈ nw) (hi : IntsAre fits (decP cs)) : WdOk w cs nw (Str.ofString "nfd") fa fqD decP (decP cs) :=
  ⟨fqok_d, fook_d, ⟨fits, fn, hm, hi⟩, isf_d cs, qd_yes, qd_no, fun h => absurd h (qd_maybe cs)⟩
theorem wd_c {cs : List Int} {fits : List Value} {fn : Nat} {fa : Addr} (hc : ∀ c ∈ cs, InD c) (hm : (fa, lstO fits fn) ∈ nw) (hi : IntsAre fits (togP (decP cs))) : WdOk w cs nw (Str.ofString "nfc") fa fqC (fun l => compP (decP l)) (togP (decP cs)) :=
  ⟨fqok_c, fook_c, ⟨fits, fn, hm, hi⟩, isf_c hc, qc_yes hc, qc_no hc, fun h => ⟨by decide, fun e => by
    obtain ⟨c, hc, h1⟩ := qc_maybe h
    have : c ∈ cs.filter Ls := List.mem_filter.mpr ⟨hc, decide_eq_true h1⟩
    rw [e] at this; cases this⟩⟩
structure LtE (F : Option Value → Option Value → Fm) (r : Led) (m : Fm) (n : Led) : Prop where
  ex : ∃ o3 o4 T, m = F o3 o4 ∧ LamL T ∧ Dis T r ∧ ∀ p ∈ T ++ r, p ∈ n
section
variable {cs : List Int} {scr ta wa aa ea I a : Addr} {q p2 p1 : Addr × Obj} {vs0 : List Value} {es : List Expr} {k : Nat} {tp : Pos} {b : List Stmt}
theorem law_step {t fa : Addr} {ws : Str} {u : Tok} {T : Led} {fq : Int → Str} {fo : List Int → List Int} {P : List Int} {vs : List Value} {o1 o2 o3 o4 : Option Value}
    (hx : namesOf i.scope es = some [Str.ofString "word", Str.ofString "form"]) (hI : ∀ p ∈ q :: p2 :: p1 :: nw, p.1 < I)
    (turn : ∀ o o3 o4 ws u fa fq fo P T, WdOk w cs nw ws fa fq fo P → LamL T → Dis T ((I, o) :: q :: p2 :: p1 :: nw) → St c (lF scr ta wa aa ea (some (.str ws u)) (some (.ref fa)) o3 o4) ((I, o) :: q :: p2 :: p1 :: (T ++ nw)) b (fun f m' n' => f = .next ∧ LtE (lF scr ta wa aa ea (some (.str ws u)) (some (.ref fa))) ((I, o) :: q :: p2 :: p1 :: nw) m' n'))
    (hW : WdOk w cs nw ws fa fq fo P) (hT : LamL T) (hd : Dis T (q :: p2 :: p1 :: nw)) (hTI : ∀ p ∈ T, p.1 ≠ I) (ht : (t, tupO [.str ws u, .ref fa]) ∈ q :: p2 :: p1 :: (T ++ nw))
    (rest : ∀ o1 o2 o3 o4 T, LamL T → Dis T (q :: p2 :: p1 :: nw) → (∀ p ∈ T, p.1 ≠ I) → Fx c (.Tuple es k tp) b l K [(I, "tuple_iterator")] q (vs.map .val) (lF scr ta wa aa ea o1 o2 o3 o4) (q :: p2 :: p1 :: (T ++ nw))) :
    Fx c (.Tuple es k tp) b l K [(I, "tuple_iterator")] q ((Value.ref t :: vs).map .val) (lF scr ta wa aa ea o1 o2 o3 o4) (q :: p2 :: p1 :: (T ++ nw)) := by
  refine Fx.mp fun o => As.tup hx (.tail _ ht) rfl (St.fr (m' := lF scr ta wa aa ea (some (.str ws u)) (some (.ref fa)) o3 o4) rfl (St.mono (turn o o3 o4 ws u fa fq fo P T hW hT (Dis.cons hTI hd)) fun f m' n' e => ?_))
  obtain ⟨rfl, o3', o4', T', rfl, hT', hd', hs⟩ := e
  have hI' := hd'.head
  refine KfF.next ⟨q :: p2 :: p1 :: (T' ++ nw), rest _ _ _ _ T' hT' hd'.tail hI', .head _, fun p hp => hs p ?_, fun p hp => ?_, fun p hp r hr => ?_⟩
  · rcases List.mem_cons.mp hp with e | hp
    · exact List.mem_append_right _ (e ▸ .tail _ (.head _))
    rcases List.mem_cons.mp hp with e | hp
    · exact List.mem_append_right _ (e ▸ .tail _ (.tail _ (.head _)))
    rcases List.mem_cons.mp hp with e | hp
    · exact List.mem_append_right _ (e ▸ .tail _ (.tail _ (.tail _ (.head _))))
    rcases List.mem_append.mp hp with h | h
    · exact List.mem_append_left _ h
    · exact List.mem_append_right _ (.tail _ (.tail _ (.tail _ (.tail _ h))))
  · rw [List.mem_singleton.mp hp]
    exact hs _ (List.mem_append_right _ (.head _))
  · rw [List.mem_singleton.mp hr]
    rcases List.mem_cons.mp hp with e | hp
    · exact Nat.ne_of_lt (hI p (e ▸ .head _))
    rcases List.mem_cons.mp hp with e | hp
    · exact Nat.ne_of_lt (hI p (e ▸ .tail _ (.head _)))
    rcases List.mem_cons.mp hp with e | hp
    · exact Nat.ne_of_lt (hI p (e ▸ .tail _ (.tail _ (.head _))))
    rcases List.mem_append.mp hp with h | h
    · exact hI' p h
    · exact Nat.ne_of_lt (hI p (.tail _ (.tail _ (.tail _ h))))
theorem law_for {t1 t2 : Addr} {u1 u2 : Tok} {T : Led} {fq fq' : Int → Str} {fo fo' : List Int → List Int} {P P' : List Int} {o1 o2 o3 o4 : Option Value}
    (hx : namesOf i.scope es = some [Str.ofString "word", Str.ofString "form"]) (hI : ∀ p ∈ q :: p2 :: p1 :: (T ++ nw), p.1 < I)
    (hW : WdOk w cs nw (Str.ofString "nfd") aa fq fo P) (hW' : WdOk w cs nw (Str.ofString "nfc") ea fq' fo' P') (hT : LamL T) (hd : Dis T (q :: p2 :: p1 :: nw))
    (h1 : (t1, tupO [.str (Str.ofString "nfd") u1, .ref aa]) ∈ [q, p2, p1]) (h2 : (t2, tupO [.str (Str.ofString "nfc") u2, .ref ea]) ∈ [q, p2, p1])
    (turn : ∀ o o3 o4 ws u fa fq fo P T, WdOk w cs nw ws fa fq fo P → LamL T → Dis T ((I, o) :: q :: p2 :: p1 :: nw) → St c (lF scr ta wa aa ea (some (.str ws u)) (some (.ref fa)) o3 o4) ((I, o) :: q :: p2 :: p1 :: (T ++ nw)) b (fun f m' n' => f = .next ∧ LtE (lF scr ta wa aa ea (some (.str ws u)) (some (.ref fa))) ((I, o) :: q :: p2 :: p1 :: nw) m' n'))
    (done : ∀ o1 o2 o3 o4 T, LamL T → Dis T nw → St c (lF scr ta wa aa ea o1 o2 o3 o4) (T ++ nw) l K) :
    Fx c (.Tuple es k tp) b l K [(I, "tuple_iterator")] q ([Value.ref t1, .ref t2].map .val) (lF scr ta wa aa ea o1 o2 o3 o4) (q :: p2 :: p1 :: (T ++ nw)) := by
  have up : ∀ {T : Led}, ∀ p ∈ [q, p2, p1], p ∈ q :: p2 :: p1 :: (T ++ nw) := fun p hp => List.mem_append_left _ hp
  have hI3 : ∀ p ∈ q :: p2 :: p1 :: nw, p.1 < I := fun p hp => hI p (by
    rcases List.mem_append.mp (show p ∈ [q, p2, p1] ++ nw from hp) with h | h
    · exact up p h
    · exact .tail _ (.tail _ (.tail _ (List.mem_append_right _ h))))
  refine law_step hx hI3 turn hW hT hd (fun p hp => Nat.ne_of_lt (hI p (.tail _ (.tail _ (.tail _ (List.mem_append_left _ hp)))))) (up _ h1) fun o1 o2 o3 o4 T hT hd hTI => ?_
  refine law_step hx hI3 turn hW' hT hd hTI (up _ h2) fun o1 o2 o3 o4 T hT hd hTI => ?_
  exact Fx.mpN (St.drop (fun p hp => .tail _ (.tail _ (.tail _ hp))) (done o1 o2 o3 o4 T hT hd.tail.tail.tail))
end
end
theorem Ce.top {I C a : Addr} {oI oC o : Obj} {p b : Addr × Obj} {R : Led → Prop} {l : Led} (h : ∀ r ∈ b :: (I, oI) :: (C, oC) :: p :: l, r.1 < a) (off : PyProof.Rows.LCg.Off3 I C p.1 l) (hR : R ((a, o) :: l)) : Ce I oI C oC p R ((a, o) :: b :: (I, oI) :: (C, oC) :: p :: l) := by
  refine ⟨(a, o) :: l, fun r hr => ?_, ⟨⟨(Nat.ne_of_lt (h _ (.tail _ (.head _)))).symm, (Nat.ne_of_lt (h _ (.tail _ (.tail _ (.head _))))).symm, (Nat.ne_of_lt (h _ (.tail _ (.tail _ (.tail _ (.head _)))))).symm⟩, off⟩, hR⟩
  rcases List.mem_cons.mp hr with rfl | hr
  · exact .tail _ (.tail _ (.head _))
  rcases List.mem_cons.mp hr with rfl | hr
  · exact .tail _ (.tail _ (.tail _ (.head _)))
  rcases List.mem_cons.mp hr with rfl | hr
  · exact .tail _ (.tail _ (.tail _ (.tail _ (.head _))))
  rcases List.mem_cons.mp hr with rfl | hr
  · exact .head _
  · exact .tail _ (.tail _ (.tail _ (.tail _ (.tail _ hr))))
theorem LamL.tab {T : Led} (h : LamL T) : ∃ ps, (119, tabObj ps) ∈ T := by
  rcases h with rfl | ⟨c, oc, vs, t, rfl, _⟩
  · exact ⟨_, .head _⟩
  · exact ⟨_, .head _⟩
theorem kw60 : True := by
  (k_with "m:hmem" => ((with_reducible apply List.mem_append_right); walk_at "hmem"))
  trivial
theorem law_holds : PySem.Challenge.rw_nt0050_01.Holds := hdw (by rfl) (by rfl) (by rfl) (by
  k_go0
  all_goals try k_fold
  iterate 8 (try (first | (rename Ground .. => g9; clear g9) | (rename Flt.MathXP .. => g9; clear g9) | (rename LooseAre .. => g9; clear g9) | (rename Tables .. => g9; clear g9) | (rename TopE .. => g9; clear g9) | (rename TopW .. => g9; clear g9) | (rename Dflts .. => g9; clear g9) | (rename Well .. => g9; clear g9) | (rename Reads .. => g9; clear g9) | (rename ReadsAll .. => g9; clear g9) | (rename ReadsAllW .. => g9; clear g9) | (rename Heap.CodeRec .. => g9; clear g9)))
  rename World => w
  rename Fr _ _ _ _ => F1
  rename News _ _ _ _ => N1
  rename Below _ _ _ _ => B1
  rename Frag.In _ (ghostOf _ _) => X1
  rename Top _ _ _ _ _ (ghostOf _ _) => T1
  rename Heap.IsList (ghostOf _ _) _ _ => hS1
  rename CodeHd (ghostOf _ _) _ _ => hC1
  rename (119 < _) => l119
  rename Heap => h9
  rename IntsAre _ _ => hi1
  refine Cx.go (w := w) (D := 40) (i := { name := _, scope := _, addr := _, code := _, cells := fun L => [(Str.ofString "data", L + 1 + 1), (Str.ofString "deck", L + 1)] }) (c := { k := ⟨h9, 0, fun _ => none, _, fun _ _ => True⟩, p := _, loose := _, mean := _, mg := _, mb := _, g := _, L := _, dp := _, un := _, gd := _, outer := _, A0 := _, base := _, E := _, B := B1, X := X1, T := T1, hk := ?hk, hd := ?hd, hu := ?hu, po := ?po }) ⟨frTo F1 (fun y => bindL_lk _ [] y ?fr), N1⟩ fun c hg hL KK hKK => St.fr (m' := [(Str.ofString "script", some (.ref _))]) (by exact rfl) ?_
  case hk => rfl
  case hd => decide
  case hu => decide
  case po => passes_own
  case fr => exact List.forall_mem_singleton.mpr rfl
  have hS : c.g.IsList _ _ := (congrArg (fun h => Heap.IsList h _ _) hg).mpr hS1
  have hC : CodeHd c.g 121 119 := (congrArg (fun h => CodeHd h 121 119) hg).mpr hC1
  have hL2 : c.L = Array.size _ := hL
  rw [← hL2] at l119 ⊢
  have hg2 : c.g = ghostOf _ _ := hg
  clear hg hL hS1 hC1 F1 N1
  have n1 : (c.L + 1 + 1 : Addr) ≠ c.L + 1 := Nat.succ_ne_self _
  have n2 : (119 : Addr) ≠ c.L + 1 := Nat.ne_of_lt (Nat.lt_succ_of_lt l119)
  have n3 : (119 : Addr) ≠ c.L + 1 + 1 := Nat.ne_of_lt (Nat.lt_succ_of_lt (Nat.lt_succ_of_lt l119))
  rename Obj.data _ = Data.cell _ => d1
  rename Obj.data _ = Data.cell _ => d2
  refine St.ls (l' := _ :: _) (by exact rfl) ?_
  walk_at "hif"
  rename DataIn w _ _ _ => hDa
  rename DkOk w _ _ _ _ _ => hDk
  rename (∀ p : Addr × Obj, p ∈ _ → ∀ q : Addr × Obj, q ∈ _ → p.1 < q.1) => lo
  have f1 := ne_lo lo (.tail _ (.tail _ (.head _)))
  have f2 := ne_lo lo (.tail _ (.tail _ (.tail _ (.tail _ (.head _)))))
  refine St.cutTx ?_ fun m1 nw1 hJ => ?_
  · skip
    have kn := known_ex w
    obtain ⟨cvs, hcv, hcs⟩ := codes_ex w
    have hcl : cvs.length = 21 := hcv.length
    walk_at "hgo"
    · rename (_ ∈ (_ : List Value)) => hv
      obtain ⟨ka, vs, cs, rfl, hi, hc, hl, hs⟩ := known_all w _ hv
      have hz := hi.length
      walk_at "hgo"
      exact ⟨rfl, _, _, _, cs, fun _ => rfl, by walk_at "hsub", hi, hc, hl, by walk_at "hneR"⟩
    · rename DkOk w (0 + 1 + 1) _ _ _ _ => hD2
      rename (0 ≤ _) => h0
      rename (_ < 6) => h6
      refine LcU.rg (CdSt w _ _ _ (0 + 1 + 1)) (.head _) h0 (by omega) (fun p hp => .tail _ hp) (CdSt.zero hD2) ⟨fun j ys nw v I oI C oC D m2 hj hJ hP hC h1 off ne => ?_⟩ fun ys n hJ D hD => ?_
      · obtain ⟨o, its, n, zs, rfl, hDj, hy, hz, hzl⟩ := hJ.ex
        obtain ⟨t2, rfl⟩ := hP
        obtain ⟨q1, q2, q3⟩ := off.mem _ (.head _)
        obtain ⟨q4, q5, q6⟩ := off.mem _ (.tail _ (.head _))
        have q1' := q1.symm
        have q2' := q2.symm
        have q3' := q3.symm
        have q4' := q4.symm
        have q5' := q5.symm
        have q6' := q6.symm
        have hk8 : Nat.ble (0 + 1 + 1 + j) 99 = true := Nat.ble_eq.mpr (by omega)
        have hv1 : 0 < cvs.length := by omega
        have hv2 : cvs.length < 1000 := by omega
        walk_at "hgo"
        exact Ce.mk' _ sub_r off (CdSt.succ (by assumption) hcv InD_codes (by assumption) hy hz hzl)
      · obtain ⟨o, its, n, zs, rfl, hDj, hy, hz, hzl⟩ := hJ.ex
        walk_at "hgo"
        exact ⟨rfl, _, _, _, zs, fun _ => rfl, by walk_at "hsub", hy, hz, by omega, by walk_at "hneR"⟩
  · skip
    obtain ⟨ta, its, k, cs, hm, hsub, hi, hc, hl, hta⟩ := hJ.ex
    refine St.frE hm (St.drop hsub ?_)
    clear hm hsub hJ
    have hcl6 : cs.length < 6 := by omega
    have hz400 : its.length ≤ 400 := by rw [hi.length]; omega
    have hdl : (decP cs).length < 16 := by have := dec_len hl; omega
    walk_at "hif"
    rename IntsAre _ (decP cs) => hia
    rename IntsAre _ (togP (decP cs)) => hie
    refine St.canon hDa ?hn f2 fun nw hdis hx hDw => ?_
    case hn => exact List.forall_mem_cons.mpr ⟨by walk_at "hne", List.forall_mem_cons.mpr ⟨by walk_at "hne", List.forall_mem_cons.mpr ⟨by walk_at "hne", List.forall_mem_cons.mpr ⟨by walk_at "hne", List.forall_mem_cons.mpr ⟨by walk_at "hne", fun _ h => nomatch h⟩⟩⟩⟩⟩
    have x1 := hx _ (.head _)
    have x2 := hx _ (.tail _ (.head _))
    have x3 := hx _ (.tail _ (.tail _ (.head _)))
    have x4 := hx _ (.tail _ (.tail _ (.tail _ (.head _))))
    have x5 := hx _ (.tail _ (.tail _ (.tail _ (.tail _ (.head _)))))
    clear hx
    refine St.pad [Str.ofString "word", Str.ofString "form", Str.ofString "quick", Str.ofString "loose"] (St.fr (m' := lF _ ta _ _ _ none none none none) (by exact rfl) ?_)
    have hT : LamL [(119, tabObj #[])] := .inl rfl
    generalize [((119 : Addr), tabObj #[])] = T at hT hdis ⊢
    have hp1 : ∀ c ∈ cs, 0 ≤ c := fun c h => (InD_rng (hc c h)).1
    have hp2 : ∀ c ∈ decP cs, 0 ≤ c := fun c h => (InD_rng (InD_dec hc c h)).1
    have hp3 : ∀ c ∈ togP (decP cs), 0 ≤ c := fun c h => (InD_rng (InD_due hc c h)).1
    have htl : (togP (decP cs)).length < 16 := by have := due_len hl; omega
    have b1 : (!decide (decP cs = decP cs)) = false := by rw [decide_eq_true rfl]; rfl
    have b2 : (!decide (compP (decP cs) = togP (decP cs))) = false := by rw [decide_eq_true (tog_comp _).symm]; rfl
    have b3 : (!decide (cs = cs)) = false := by rw [decide_eq_true rfl]; rfl
    have b4 : (!decide (decP (togP (decP cs)) = decP cs)) = false := by rw [decide_eq_true (dec_tog _)]; rfl
    have b5 : (!decide (compP (decP (decP cs)) = togP (decP cs))) = false := by rw [decide_eq_true (nfc_apart _)]; rfl
    have b6 : (decide (decP cs = decP (togP (decP cs))) != true) = false := by rw [decide_eq_true (dec_tog _).symm]; rfl
    refine St.cutS ?_ fun T2 hT2 hdis2 => ?_
    · walk_at "hgo"
      exact ⟨rfl, SmL.mk' (by assumption) (Dis.sub (by assumption) (by walk_at "hsub")) (by walk_at "hsub")⟩
    clear hdis hT T
    refine St.cutS ?_ fun T hT hdis => ?_
    · walk_at "hgo"
      exact ⟨rfl, SmL.mk' (by assumption) (Dis.sub (by assumption) (by walk_at "hsub")) (by walk_at "hsub")⟩
    clear hdis2 hT2 T2
    clear b1 b2 b3 b4 b5 b6
    repeat' ((fail_if_success (with_reducible show Fx _ _ _ _ _ _ _ _ _ _)); walk_at "h1")
    rename (∀ p : Addr × Obj, p ∈ (_, _) :: (_, _) :: (_, _) :: (T ++ nw) → p.1 < _) => hI
    refine law_for (cs := cs) (by exact rfl) hI (wd_d x2 hia) (wd_c hc x1 hie) hT ?hd3 (.tail _ (.tail _ (.head _))) (.tail _ (.head _)) ?turn ?done
    case hd3 => walk_at "hdis"
    case turn =>
      clear hp2 hp3 htl hdis hT x1 x2 x3 hia hie
      intro o o3 o4 ws u fa fq fo P T0 hW hT0 hd0
      obtain ⟨hfq, hfo, ⟨fits, fn, hfm, hif⟩, hisf, hyes, hno, hmb⟩ := hW
      walk_at "hif"
      rename LamL _ => hT1
      rename Dis _ _ => hd1
      refine St.fr (m' := lF _ ta _ _ _ (some (.str ws u)) (some (.ref fa)) (some (.str (quickP fq (Str.ofString "yes") 0 cs) _)) o4) (by exact rfl) ?_
      refine St.drop (Shf.sub (Shf.cons (Shf.cons (Shf.cons (Shf.cons Shf.nil))))) ?_
      clear hd0 hT0 T0
      have y0 : (!(isfP fq fo cs == decide (cs = P))) = false := by rw [hisf, beq_self_eq_true]; rfl
      refine St.cutS ?_ fun T2 hT2 hd2 => ?_
      · walk_at "hgo"
        all_goals first
          | exact ⟨rfl, SmL.mk' (by assumption) (by assumption) sub_r⟩
          | (exfalso; exact absurd (hyes (eq_of_beq (by assumption))) (of_decide_eq_false (by assumption)))
          | (exfalso; exact absurd (of_decide_eq_true (by assumption)) (hno (eq_of_beq (by assumption))))
      clear y0 hd1 hT1
      walk_at "hgo"
      refine LcT.mk' (vs := its) (k := k) (StLs _ cs) (fun j ys n hJ => by obtain ⟨_, rfl, _⟩ := hJ.ex; walk_at "hmem") (by omega) ⟨[], rfl, .nil, rfl⟩ ⟨fun j ys nw' v I2 oI C oC D2 m2 hj hJ hv2 hC h1 off ne => ?_⟩ fun ys n hJ D2 hD2 => ?_
      · obtain ⟨zs, rfl, hy9, hz9⟩ := hJ.ex
        obtain ⟨c3, t3, hc3, rfl⟩ := ints_at hi hv2
        refine Ty.cj (Ls c3 = true) ?_ (fun hP => ?_) (fun hP => ?_)
        · walk_at "hgo"
          all_goals first
            | exact Cj.t (decide_eq_true (by omega))
            | exact Cj.f (fun e => absurd (of_decide_eq_true e) (by omega))
        · walk_at "hgo"
          exact Ce.mk' _ sub_r off (StLs.yes hz9 hc3 hP hy9)
        · walk_at "hgo"
          exact Ce.mk' _ sub_r off (StLs.no hz9 hc3 hP hy9)
      · obtain ⟨zs, rfl, hy9, hz9⟩ := hJ.ex
        have hz0 : zs = cs.filter Ls := by rw [← hz9, hi.length, List.drop_length]; exact (List.append_nil _).symm
        subst hz0
        clear hz9
        walk_at "hgo"
        trace_state
        all_goals first
          | exact ⟨rfl, ⟨_, _, T2, rfl, hT2, hd2, by walk_at "hsub"⟩⟩
          | (exfalso; exact absurd (eq_of_beq (by assumption)) (hmb (eq_of_beq (by assumption))).1)
          | (exfalso; exact absurd (of_decide_eq_true (by assumption)) (hmb (eq_of_beq (by assumption))).2)
    case done =>
      clear hI hdis hT
      intro o1 o2 o3 o4 T3 hT3 hd3
      walk_at "hgo"
      refine ⟨_, [.ref ta, .ref _, .ref _], StPl _ [placesP cs, placesP (decP cs), placesP (togP (decP cs))], rfl, fun j ys n hJ => hJ.sub _ (.head _), Nat.le_of_ble_eq_true rfl, StPl.zero _ _, ⟨fun j ys nw2 v I oI C oC D m2 hj hJ hv2 hC h1 off ne => ?_⟩, fun ys n hJ D hD => ?_⟩
      · obtain ⟨la, its', n', cs', rfl, hm', hi', hcd, hln, hcss⟩ := pl_key x4 x2 x1 hi hia hie hc hl j v hv2
        have hm2 := hJ.sub _ (.tail _ (List.mem_append_right _ hm'))
        have hc2 := hJ.sub _ (.tail _ (List.mem_append_right _ x5))
        have hD2 := hDw.mono fun p hp => hJ.sub p (.tail _ (List.mem_append_right _ hp))
        have hpl := InD_pl hcd
        walk_at "hgo"
        rename (∀ p : Addr × Obj, p ∈ (_, _) :: (I, oI) :: _ → p.1 < _) => l9
        exact Ce.top l9 off (hJ.succ hcss (by assumption))
      · clear hDw
        have ct := hJ.sub _ (.tail _ (List.mem_append_right _ x4))
        have ca := hJ.sub _ (.tail _ (List.mem_append_right _ x2))
        have ce := hJ.sub _ (.tail _ (List.mem_append_right _ x1))
        obtain ⟨tb, b119⟩ := hT3.tab
        have c119 := hJ.sub _ (.tail _ (List.mem_append_left _ b119))
        have hls : LsAre n ys [placesP cs, placesP (decP cs), placesP (togP (decP cs))] := hJ.ls
        rw [places_ends cs hc, places_ends _ (InD_dec hc), places_ends _ (InD_due hc)] at hls
        have hr1 : ∀ c ∈ cs, c < 55204 := fun c h => (InD_rng (hc c h)).2
        have hr2 : ∀ c ∈ decP cs, c < 55204 := fun c h => (InD_rng (InD_dec hc c h)).2
        have hr3 : ∀ c ∈ togP (decP cs), c < 55204 := fun c h => (InD_rng (InD_due hc c h)).2
        have hcl16 : cs.length < 16 := by omega
        clear x1 x2 x3 x4 x5 hJ hT3 hd3 b119
        walk_at "hgo"
        rename IntsAre _ (endsP cs) => g1
        rename IntsAre _ (endsP (decP cs)) => g2
        rename IntsAre _ (endsP (togP (decP cs))) => g3
        refine Co.eqLL (css := [endsP cs, endsP (decP cs), endsP (togP (decP cs))]) (.tail _ (.tail _ (.tail _ (.tail _ (.head _))))) (.head _) (hls.mono fun p hp => .tail _ (.tail _ (.tail _ (.tail _ (.tail _ hp))))) (.cons (.tail _ (.tail _ (.tail _ (.head _)))) g1 (.cons (.tail _ (.tail _ (.head _))) g2 (.cons (.tail _ (.head _)) g3 .nil))) ?_
        refine hKK _ _ _ fun h9 tk9 I9 => ?_
        obtain ⟨F9, N9⟩ := I9
        rw [hg2] at F9 N9
        refine ⟨?_, ⟨GrownAt.of N9 (.tail _ (.tail _ (.tail _ (.tail _ (.tail _ c119))))), trivial⟩⟩
        refine goodW_reads (d := .bool true) F9 (by assumption) (raisesW_false ?hn) (.bool true) (fun _ => ⟨List.nodup_nil, (fun _ h => nomatch h)⟩) ?hp
        case hn => wrow_none_raised
        case hp => exact law_post _
)

end
end Mine
set_option maxRecDepth 100000 in
set_option maxHeartbeats 8000000 in
theorem PySem.Challenge.cw_nt0050_01_holds : PySem.Challenge.rw_nt0050_01.Holds :=
  Mine.law_holds
