import PyProof.Rows.All
import Wide.All
import OpenK.AllK
import Wide.FinOn
import Lean
import PySem.Challenge.RW_on0068_01
open PySem PySem.W PyProof.Rows PySem.Calls
set_option Elab.async false
set_option maxRecDepth 100000
set_option maxHeartbeats 0
set_option linter.unusedVariables false
set_option compiler.extract_closed false
set_option hygiene false
namespace Mine
abbrev Led0 := List (Addr × Obj)
abbrev Ev := Int ⊕ Str
def evIs : Ev → Value → Bool
  | .inl a, v => Value.isInt a v
  | .inr x, v => Value.isStrOf x v
theorem evIs_shape {k : Ev} {v : Value} (h : evIs k v = true) : (∃ a t, k = .inl a ∧ v = .int a t) ∨ ∃ x t, k = .inr x ∧ v = .str x t := by
  cases k with
  | inl a => obtain ⟨t, e⟩ := Value.isInt_shape h; exact .inl ⟨a, t, rfl, e⟩
  | inr x => obtain ⟨t, e⟩ := Value.isStrOf_shape h; exact .inr ⟨x, t, rfl, e⟩
def evKind (prog : Program) (w : World) : KeyKind prog w Ev where
  is := evIs
  hash := fun k => match k with | .inl a => hashInt a | .inr x => hashStr w x
  inj := fun v a b ha hb => by
    rcases evIs_shape ha with ⟨x, t, ea, ev⟩ | ⟨x, t, ea, ev⟩ <;> rcases evIs_shape hb with ⟨y, u, eb, ev'⟩ | ⟨y, u, eb, ev'⟩ <;> rw [ev] at ev' <;> cases ev' <;> rw [ea, eb]
  byValue := fun k v h => by rcases evIs_shape h with ⟨a, t, _, rfl⟩ | ⟨a, t, _, rfl⟩ <;> rfl
  pyHash := fun {A E s k v Q} hv h => by
    rcases evIs_shape hv with ⟨a, t, ek, ev⟩ | ⟨a, t, ek, ev⟩
    · rw [ek] at h; rw [ev]; exact wpAny_pyHash_int h
    · rw [ek] at h; rw [ev]; exact wpAny_pyHash_str h
  eqBool := fun {A E s a b u v Q} hu hv h => by
    rcases evIs_shape hu with ⟨x, t, ek, ev⟩ | ⟨x, t, ek, ev⟩ <;> rcases evIs_shape hv with ⟨y, t', ek', ev'⟩ | ⟨y, t', ek', ev'⟩
    · rw [ek, ek'] at h; rw [ev, ev']; refine wpAny_eqBool_int ?_; have e9 : (x == y) = decide ((Sum.inl x : Ev) = Sum.inl y) := by by_cases e : x = y <;> simp [e]
      rw [e9]; exact h
    · rw [ek, ek'] at h; rw [ev, ev']; exact PySem.SeqAt.EqAt.int_str _ _ _ _ _ _ _ _ (by simpa using h)
    · rw [ek, ek'] at h; rw [ev, ev']; exact PySem.SeqAt.EqAt.str_int _ _ _ _ _ _ _ _ (by simpa using h)
    · rw [ek, ek'] at h; rw [ev, ev']; refine wpAny_eqBool_str ?_; simpa using h
  «strs» := fun k x t v h => by
    rcases evIs_shape h with ⟨y, u, ek, ev⟩ | ⟨y, u, ek, ev⟩
    · cases ev
    · cases ev; rw [ek]; cases v <;> rfl
/-- an event as a value -/
def evVal : Ev → Tok → Value
  | .inl a, t => .int a t
  | .inr x, t => .str x t
theorem evVal_is (e : Ev) (t : Tok) : evIs e (evVal e t) = true := by
  cases e with
  | inl a => simp [evIs, evVal, Value.isInt]
  | inr a => simp [evIs, evVal, Value.isStrOf]
section
variable {prog : Program} {w : World} {A : Around} {E : Value → Shared → Prop} {s : Shared} {env : Env} {h₀ : Heap} {x : Str} {body : List Stmt} {Q : Flow → Shared → Prop} {I : Addr}
theorem unrEnd_mono {L : Addr} {s₁ : Shared} {it : Obj} {r r' : (Str → Option Value) → Led0 → Prop} {s₂ : Shared} (h : UnrEnd h₀ L s₁ I it r s₂) (hr : ∀ m n, r m n → r' m n) : UnrEnd h₀ L s₁ I it r' s₂ := by
  obtain ⟨h', tk, m', n', e, F, N, o, x⟩ := h
  exact ⟨h', tk, m', n', e, F, N, o, hr _ _ x⟩
theorem unrPost_mono {L : Addr} {s₁ : Shared} {it : Obj} {r r' : (Str → Option Value) → Led0 → Prop} {f : Flow} {s₂ : Shared} (h : UnrPost h₀ L s₁ I it r Q f s₂) (hr : ∀ m n, r m n → r' m n) : UnrPost h₀ L s₁ I it r' Q f s₂ := by
  cases f with
  | ret v => exact h
  | brk => exact h
  | next => exact unrEnd_mono h hr
  | cont => exact unrEnd_mono h hr
/-- a loop over a text, by induction over its signs -/
theorem strRest_ind {P : List Nat → (Str → Option Value) → Led0 → Prop}
    (step : ∀ c r m news u it h tk, P (c :: r) m news → Fr h₀ env.locals h (fun y => if y = x then some (.str ⟨#[c]⟩ u) else m y) → News h₀ env.locals h ((I, it) :: news) →
      wpAny (model prog w) A (execs body env) (UnrPost h₀ env.locals { s with heap := h, toks := tk } I it (P r) Q) E { s with heap := h, toks := tk })
    (fin : ∀ m news h tk, P [] m news → Fr h₀ env.locals h m → News h₀ env.locals h news → Q .next { s with heap := h, toks := tk }) :
    ∀ (l : List Nat) m news, P l m news → StrRest prog w A E h₀ env x body Q s I (l.map fun c => (⟨#[c]⟩ : Str)) m news
  | [], m, news, hp => fun h tk F N => fin m news h tk hp F N
  | c :: r, m, news, hp => fun u it h tk F N =>
    wpAny_mono (step c r m news u it h tk hp F N) (fun f s₂ h' => unrPost_mono h' fun m n hp' => strRest_ind step fin r m n hp') fun _ _ e => e
end
inductive All2 {α : Type} (R : Value → α → Prop) : List Value → List α → Prop
  | nil : All2 R [] []
  | cons {v y vs ys} : R v y → All2 R vs ys → All2 R (v :: vs) (y :: ys)
def IsS (v : Value) (y : Str) : Prop := ∃ t, v = .str y t
theorem strsAre_all2 : ∀ {vs : List Value} {ys : List Str}, StrsAre vs ys → All2 IsS vs ys
  | _, _, .nil => .nil
  | _, _, .cons y t h => .cons ⟨t, rfl⟩ (strsAre_all2 h)
section
variable {prog : Program} {w : World} {A : Around} {E : Value → Shared → Prop} {s : Shared} {env : Env} {h₀ : Heap} {target : PySem.Expr} {body : List Stmt} {Q : Flow → Shared → Prop} {I : Addr}
theorem unrEndW_mono {L : Addr} {s₁ : Shared} {its : Led0} {r r' : (Str → Option Value) → Led0 → Prop} {s₂ : Shared} (h : UnrEndW h₀ L s₁ its r s₂) (hr : ∀ m n, r m n → r' m n) : UnrEndW h₀ L s₁ its r' s₂ := by
  obtain ⟨h', tk, m', n', e, F, N, o, x⟩ := h
  exact ⟨h', tk, m', n', e, F, N, o, hr _ _ x⟩
theorem unrPostW_mono {L : Addr} {s₁ : Shared} {its : Led0} {r r' : (Str → Option Value) → Led0 → Prop} {f : Flow} {s₂ : Shared} (h : UnrPostW h₀ L s₁ its r Q f s₂) (hr : ∀ m n, r m n → r' m n) : UnrPostW h₀ L s₁ its r' Q f s₂ := by
  cases f with
  | ret v => exact h
  | brk => exact h
  | next => exact unrEndW_mono h hr
  | cont => exact unrEndW_mono h hr
/-- a loop over a list's items, by induction -/
theorem items_ind {α : Type} {R : Value → α → Prop} {P : List α → (Str → Option Value) → Led0 → Prop} {T : String} {keep : Led0}
    (step : ∀ y r v m news o h tk, P (y :: r) m news → R v y → Fr h₀ env.locals h m → News h₀ env.locals h ((I, o) :: news) →
      wpAny (model prog w) A (assign target env v) (fun _ s₂ => wpAny (model prog w) A (execs body env) (UnrPostW h₀ env.locals { s with heap := h, toks := tk } [(I, o)] (fun m' n' => SubL keep n' ∧ P r m' n') Q) E s₂) E { s with heap := h, toks := tk })
    (fin : ∀ m news h tk, P [] m news → Fr h₀ env.locals h m → News h₀ env.locals h news → Q .next { s with heap := h, toks := tk }) :
    ∀ {vs : List Value} {ys : List α}, All2 R vs ys → ∀ m news, P ys m news → ItemsRest prog w A E h₀ env target body Q s [(I, T)] keep (vs.map .val) m news
  | _, _, .nil, m, news, hp => fun h tk F N => fin m news h tk hp F N
  | _, _, .cons hR hr, m, news, hp => fun v h tk hv F o _ N => by
    have hv' : v = _ := hv
    subst hv'
    exact wpAny_mono (step _ _ _ m news o h tk hp hR F N) (fun _ s₂ h' => wpAny_mono h' (fun f s₃ h'' => unrPostW_mono h'' fun m n hp' => ⟨hp'.1, items_ind step fin hr m n hp'.2⟩) fun _ _ e => e) fun _ _ e => e
end
theorem All2.app {α : Type} {R : Value → α → Prop} : ∀ {a b : List Value} {f g : List α}, All2 R a f → All2 R b g → All2 R (a ++ b) (f ++ g)
  | _, _, _, _, .nil, h => h
  | _, _, _, _, .cons x r, h => .cons x (All2.app r h)
theorem all2_size {α : Type} {R : Value → α → Prop} : ∀ {vs : List Value} {ys : List α}, All2 R vs ys → vs.length = ys.length
  | _, _, .nil => rfl
  | _, _, .cons _ r => congrArg (· + 1) (all2_size r)
theorem list_ne_lens (l : Addr) (items : Array Value) (n : Nat) (b : Addr) (items2 : Array Value) (n2 : Nat) (hc0 : (items.size != items2.size) = true) :
    Meets (Builtin.«list.__ne__» ⟨[.ref l, .ref b], []⟩) (fun _ R s => s.heap.get? l = some { cls := .type "list", dict := none, data := .seq items n, slots := #[] } ∧ s.heap.get? b = some { cls := .type "list", dict := none, data := .seq items2 n2, slots := #[] } ∧ R (.ok (.ret (Value.bool true))) { s with heap := s.heap, toks := s.toks }) :=
  .of_wp fun prog w A R s h => by
    obtain ⟨hp, g, d, tk, os⟩ := s
    obtain ⟨hl, hb, h⟩ := h
    have f1 := AutoSeq1.idx_int
    have f2 := AutoSeq1.sub_tuple_tuple
    have f3 := AutoSeq1.sub_list_list
    have f4 := AutoSeq1.sub_tuple_list
    have f5 := AutoSeq1.sub_list_tuple
    wp_walk using AutoSeq1.wpAny_loadPart' hl, AutoSeq1.wpAny_loadPart' hb
    exact ⟨_, rfl, h⟩
theorem eq_lens {prog : Program} {w : World} {A : Around} {E : Value → Shared → Prop} {s : Shared} {h₀ : Heap} {L : Addr} {news : List (Addr × Obj)} {l b : Addr} {xs ys : Array Value} {n n2 : Nat} {Q : Value → Shared → Prop} (N : News h₀ L s.heap news)
    (hl : (l, { cls := .type "list", data := .seq xs n }) ∈ news) (hb : (b, { cls := .type "list", data := .seq ys n2 }) ∈ news) (hsz : (xs.size != ys.size) = true) (hu : A.units < cLine) (h : Q (.bool false) s) :
    wpAny (model prog w) A (compareOp .Eq (.ref l) (.ref b)) Q E s := PySem.P.eq_list_lengths (N _ hl).1 (N _ hb).1 hsz hu h
theorem ne_lens {prog : Program} {w : World} {A : Around} {E : Value → Shared → Prop} {s : Shared} {h₀ : Heap} {L : Addr} {news : List (Addr × Obj)} {l b : Addr} {xs ys : Array Value} {n n2 : Nat} {Q : Value → Shared → Prop} (N : News h₀ L s.heap news)
    (hl : (l, { cls := .type "list", data := .seq xs n }) ∈ news) (hb : (b, { cls := .type "list", data := .seq ys n2 }) ∈ news) (hsz : (xs.size != ys.size) = true) (hu : A.units < cLine) (h : Q (.bool true) s) :
    wpAny (model prog w) A (compareOp .NotEq (.ref l) (.ref b)) Q E s :=
  richCompare_meets_room (op := .NotEq) ⟨_, (N _ hl).1, rfl⟩ ⟨_, (N _ hb).1, rfl⟩ PySem.F.slot_list_ne PySem.F.entry_list_ne (PySem.F.args_list_ne_2 _ _) (list_ne_lens l xs n b ys n2 hsz)
    ⟨(N _ hl).1, (N _ hb).1, show Value.bool true ≠ Value.notImplemented ∧ Q (.bool true) s from ⟨(fun x => nomatch x), h⟩⟩ hu
section
local macro_rules | `(tactic| o_head $_) => `(tactic| exact False.elim (by assumption))
theorem hd0 (no : False) : PySem.Challenge.rw_on0068_01.row.Holds := by
  k_head
end
noncomputable def VW : Program := { PySem.Challenge.rw_on0068_01.row.prog with main := { PySem.Challenge.rw_on0068_01.row.prog.main with body := [77, 76, 65, 58, 39, 35, 9, 7, 1].foldl List.eraseIdx PySem.Challenge.rw_on0068_01.row.prog.main.body } }
noncomputable abbrev LN : List Str := [Str.ofString "ALT", Str.ofString "SUPER", Str.ofString "HYPER", Str.ofString "SHIFT", Str.ofString "CONTROL", Str.ofString "META", Str.ofString "CODES", Str.ofString "BITS", Str.ofString "lookup_keys"]
noncomputable abbrev LV : List (Str × WData) := [(Str.ofString "ALT", WData.int 4194304), (Str.ofString "SUPER", WData.int 8388608), (Str.ofString "HYPER", WData.int 16777216), (Str.ofString "SHIFT", WData.int 33554432), (Str.ofString "CONTROL", WData.int 67108864), (Str.ofString "META", WData.int 134217728), (Str.ofString "CODES", WData.int 4194304), (Str.ofString "BITS", WData.tuple [WData.int 4194304, WData.int 67108864, WData.int 16777216, WData.int 134217728, WData.int 33554432, WData.int 8388608])]
abbrev AD : List Addr := [2, 3, 15, 17, 18, 20, 21, 22, 24, 25, 27, 28, 29, 31, 32, 34, 35, 36, 38, 39, 41, 42, 43, 45, 46, 48, 49, 50, 52, 53, 55, 56, 57, 64, 66, 67, 69, 70, 71, 72, 73, 74, 77, 78, 80, 81, 83, 84, 85, 87, 88, 90, 91, 92, 95, 96, 97, 99, 100, 102, 103, 104, 106, 107, 109, 110, 111, 113, 114, 116, 117, 118, 121, 122, 123, 125, 126, 128, 129, 130, 132, 133, 135, 136, 137, 139, 140, 142, 143, 144, 146, 147, 149, 150, 151, 153, 154, 156, 157, 158, 160, 161, 163, 164, 165, 167, 168, 170, 171, 172, 174, 175, 177, 178, 179, 180, 181, 182, 183, 184, 185, 186, 187, 189, 190, 192, 193, 194, 196, 197, 199, 200, 201, 203, 204, 206, 207, 208, 210, 211, 213, 214, 215, 217, 218, 220, 221, 222, 224, 225, 227, 228, 229, 231, 232, 234, 235, 236, 238, 239, 241, 242, 243, 245, 246, 248, 249, 250, 253, 254, 255, 257, 258, 260, 261, 262, 264, 265, 267, 268, 269, 271, 272, 274, 275, 276, 278, 279, 281, 282, 283, 285, 286, 288, 289, 290, 292, 293, 295, 296, 304, 305, 307, 308, 310, 311, 312, 314, 315, 317, 318, 319, 321, 322, 324, 325, 326, 328, 329, 331, 332, 333, 335, 336, 338, 339, 340, 342, 343, 345, 346, 347, 348, 349, 350, 351, 354, 356, 357, 359, 360, 361, 363, 364, 366, 367, 368, 370, 371, 373, 374, 375, 377, 378, 380, 381, 382, 384, 385, 387, 388, 389, 392, 393, 394, 397, 398, 399, 401, 402, 404, 405, 406, 408, 409, 411, 412, 413, 415, 416, 418, 419, 420, 422, 423, 425, 426, 427, 428, 430, 431, 433, 434, 435, 438, 439, 440, 442, 443, 445, 446, 447, 450, 451, 452, 455, 456, 457, 460, 461]
theorem defOne {q : Program} {n : Str} {d d' : DefRec} {k k' : List (Str × PySem.Expr)} (e : defOf q n = some (d, k)) (e' : defOf q n = some (d', k')) : d = d' ∧ k = k' := by
  rw [e] at e'; cases e'; exact ⟨rfl, rfl⟩
theorem adOk : ∀ P, AD = (hd0.heap_1 P).map (·.1) := fun _ => by kernel_rfl

noncomputable abbrev Led := List (Addr × Obj)
noncomputable abbrev VAL := Value
noncomputable abbrev PR : Program := PySem.Challenge.rw_on0068_01.row.prog
noncomputable abbrev LS : List Str := looseW VW
    [Str.ofString "ALT", Str.ofString "SUPER", Str.ofString "HYPER", Str.ofString "SHIFT", Str.ofString "CONTROL",
      Str.ofString "META", Str.ofString "CODES", Str.ofString "BITS", Str.ofString "lookup_keys"]
/-- what a call of the def at f answers: from any state whose ledger is news -/
structure Ct (w : World) (mean : ExcName → Option Value) (mg mb : Str → Option Value) (f : Addr) (D U : Nat) (news : Led) (vs : List Value) (Out : Value → Led → Prop) : Prop where
  mk ::
  go : ∀ (dp un : Nat) (gd : Option (List Code)) (cn : Str) (cs : Scope) (a : Addr) (ccd : Value) (cl : List (Str × Addr)) (outer : List Env) (A₀ : Around) (base h₀ : Heap) (L : Addr) (m : Str → Option Value) (s : Shared) (Q E : Value → Shared → Prop),
    Below A₀ base outer h₀ → Fr h₀ L s.heap m → (hd0.heap_1 w.params).In h₀ → News h₀ L s.heap news → Top VW LS mean mg mb h₀ → cs.kind = .function → dp + D < recursionLimit → un + U < cLine →
    (∀ r news' h' tk', Fr h₀ L h' m → News h₀ L h' news' → Out r news' → Q r { s with heap := h', toks := tk' }) →
    wpAny (model PySem.Challenge.rw_on0068_01.row.prog w) (ktrTop dp un gd cn cs L a ccd cl outer) (call (.ref f) vs) Q E s
variable {w : World} {mean : ExcName → Option Value} {mg mb : Str → Option Value}
theorem room3 {dp a b c R : Nat} (h : dp + a < R) (k : Nat.ble (b + c) a = true) : dp + b + c < R := by
  have := Nat.le_of_ble_eq_true k
  omega
theorem room2 {dp a b R : Nat} (h : dp + a < R) (k : Nat.ble b a = true) : dp + b < R := by
  have := Nat.le_of_ble_eq_true k
  omega
theorem room1 {dp a R : Nat} (h : dp + a < R) : dp < R := by omega
theorem atR (f : Addr) {prog : Program} {w : World} {A : Around} {vs : List Value} {Q E : Value → Shared → Prop} {s : Shared} (h : wpAny (model prog w) A (call (.ref f) vs) Q E s) : wpAny (model prog w) A (call (.ref f) vs) Q E s := h
-- texts: len, an item, a look at equality, a membership; what a text says is left to be reckoned
theorem r_len {prog : Program} {w : World} {A : Around} {E : Value → Shared → Prop} {s : Shared} {x : Str} {t : Tok} {Q : Value → Shared → Prop} {n : Nat} (e : x.length = n) (hn : Nat.blt n (2 ^ 62) = true) (h : Q (.int (n : Int) (s.toks + 1)) { s with toks := s.toks + 1 + 1 }) :
    wpAny (model prog w) A (call (.builtin "len") [.str x t]) Q E s := PySem.P.len_str (by have := Nat.le_of_ble_eq_true hn; rw [e]; omega) (by rw [e]; exact h)
theorem subs_C {c0 : PySem.Const} {k0 : Nat} {p0 : Pos} {x : Str} {t u : Tok} {i : Int} : subscripted (.Constant c0 k0 p0) false (.str x t) (.int i u) = operate [.str x t, .int i u] (getItem (.str x t) (.int i u)) := by with_unfolding_all rfl
theorem subs_N {n0 : Str} {p0 : Pos} {x : Str} {t u : Tok} {i : Int} : subscripted (.Name n0 p0) false (.str x t) (.int i u) = operate [.str x t, .int i u] (getItem (.str x t) (.int i u)) := by with_unfolding_all rfl
theorem r_item {prog : Program} {w : World} {A : Around} {E : Value → Shared → Prop} {s : Shared} {value slice : Expr} {x : Str} {t u : Tok} {i : Int} {c : Nat} {Q : Value → Shared → Prop} (hr : (decide (i < -(2 ^ 63 : Int)) || decide (i ≥ 2 ^ 63)) = false) (hc : (seqIndex? i x.length).bind (x.cps[·]?) = some c)
    (h : Q (.str ⟨#[c]⟩ s.toks) { s with toks := s.toks + 1 })
    (hs : subscripted slice false (.str x t) (.int i u) = operate [.str x t, .int i u] (getItem (.str x t) (.int i u)) := by with_unfolding_all rfl) :
    wpAny (model prog w) A (subscriptTail value slice (.str x t) (.int i u)) Q E s :=
  tail_any (typeIs_str s x t) slot_str_getitem.lookup (PySem.P.getItem_str hr hc h) hs
/-- a fact kept from the arithmetic -/
def Is (b c : Bool) : Prop := b = c
theorem Is.out {b c : Bool} (h : Is b c) : b = c := h
theorem ite_bT {b : Bool} {p q : Prop} (h : b = true) (hq : p) : if b = true then p else q := by rw [if_pos h]; exact hq
theorem ite_bNT {b : Bool} {p q : Prop} (h : b = true) (hq : q) : if (!b) = true then p else q := by rw [h]; exact hq
theorem ite_bNF {b : Bool} {p q : Prop} (h : b = false) (hq : p) : if (!b) = true then p else q := by rw [h]; exact hq
theorem unrW1 {h₀ h' : Heap} {L I : Addr} {it : Obj} {rest : (Str → Option Value) → List (Addr × Obj) → Prop} {s₁ : Shared} {tk : Nat} {m' : Str → Option Value} {news' : List (Addr × Obj)} (F : Fr h₀ L h' m') (N : News h₀ L h' ((I, it) :: news'))
    (off : ∀ p ∈ news', p.1 ≠ I) (r : rest m' news') : UnrEndW h₀ L s₁ [(I, it)] rest { s₁ with heap := h', toks := tk } :=
  ⟨h', tk, m', news', rfl, F, N, fun p hp q hq => by rw [List.mem_singleton.mp hq]; exact off p hp, r⟩
theorem unrW2 {h₀ h' : Heap} {L I : Addr} {it : Obj} {rest : (Str → Option Value) → List (Addr × Obj) → Prop} {s₁ : Shared} {tk : Nat} {m' : Str → Option Value} {news' : List (Addr × Obj)} {x : Addr × Obj} (F : Fr h₀ L h' m') (N : News h₀ L h' (x :: (I, it) :: news'))
    (off : ∀ p ∈ x :: news', p.1 ≠ I) (r : rest m' (x :: news')) : UnrEndW h₀ L s₁ [(I, it)] rest { s₁ with heap := h', toks := tk } :=
  unrW1 F (fun p hp => N p (by simp only [List.mem_cons] at hp ⊢; rcases hp with h | h | h <;> simp [h])) off r
theorem unrW3 {h₀ h' : Heap} {L I : Addr} {it : Obj} {rest : (Str → Option Value) → List (Addr × Obj) → Prop} {s₁ : Shared} {tk : Nat} {m' : Str → Option Value} {news' : List (Addr × Obj)} {x y : Addr × Obj} (F : Fr h₀ L h' m') (N : News h₀ L h' (x :: y :: (I, it) :: news'))
    (off : ∀ p ∈ x :: y :: news', p.1 ≠ I) (r : rest m' (x :: y :: news')) : UnrEndW h₀ L s₁ [(I, it)] rest { s₁ with heap := h', toks := tk } :=
  unrW1 F (fun p hp => N p (by simp only [List.mem_cons] at hp ⊢; rcases hp with h | h | h | h <;> simp [h])) off r
theorem off_cons {I a : Addr} {o : Obj} {l : List (Addr × Obj)} (h : a ≠ I) (r : ∀ p ∈ l, p.1 ≠ I) : ∀ p ∈ (a, o) :: l, p.1 ≠ I := List.forall_mem_cons.mpr ⟨h, r⟩
theorem off_lt {I : Addr} {l : List (Addr × Obj)} (h : ∀ p ∈ l, p.1 < I) : ∀ p ∈ l, p.1 ≠ I := fun p hp => Nat.ne_of_lt (h p hp)
theorem off_all {I : Addr} {l : List (Addr × Obj)} (h : AllLt I l) : ∀ p ∈ l, p.1 ≠ I := fun p hp => Nat.ne_of_lt (ktn_ltOf h p hp)
section
open PyProof.Rows.LCg PyProof.Rows.LCt
variable {prog : Program} {w : World} {A : Around} {E : Value → Shared → Prop} {s : Shared} {h₀ : Heap} {L : Addr} {m : Str → Option Value} {env : Env}
theorem strIter_st {I : Addr} {T : String} {x : Str} {t : Tok} : ∀ i (h h' : Heap) (o : Obj) (nw : List (Addr × Obj)), h.IsStrIter I T x t i → h.get? I = some o → h'.get? I = some o → (∀ b o, h₀.get? b = some o → h'.get? b = some o) → News h₀ L h' nw → True → h'.IsStrIter I T x t i :=
  fun i h h' o nw st e e' _ _ _ => by
    obtain ⟨o', ho, r⟩ := st
    rw [e] at ho
    cases ho
    exact ⟨o, e', r⟩
/-- a comprehension with a test over a text -/
theorem ListComp_TS {ct elt iter : PySem.Expr} {x : Str} {px : Pos} {scope : Scope} {cl : List (Str × Addr)} {pos : Pos} {Q : Value → Shared → Prop} (F₀ : Fr h₀ L s.heap m)
    (hclos : closureFor scope env = pure cl) (hcell : ∀ y ∈ scope.names, y.2 ≠ .cell) (hkind : scope.kind = .function)
    (hnames : ∀ y ∈ scope.names, y.2 = .local → scope.names.lookup y.1 = some .local) (hx : scope.names.lookup x = some .local)
    (h : wpAny (model prog w) A (eval iter env) (fun xv s₁ => ∃ tx t news, xv = .str tx t ∧ A.handled = none ∧ Fr h₀ L s₁.heap m ∧ News h₀ L s₁.heap news ∧ tx.cps.size ≤ sizeLine ∧
      ∀ s₂ : Shared, (∃ h, s₂ = { s₁ with heap := h }) → CompRestT prog w A h₀ L m env ct elt x scope cl s₂ (fun _ => True) (SignAt tx) (FinE h₀ L m s₂ Q) tx.cps.size 0 [] news) E s)
    (hs : ∀ x, foldedSetIterable iter env x = pure x := by intro _; rfl) :
    wpAny (model prog w) A (eval (.ListComp elt [⟨.Name x px, iter, [ct], 0⟩] scope pos) env) Q E s := by
  rw [eval_ListComp]
  refine wpAny_comprehension_free (use := none) rfl hs hclos hkind hnames (wpAny_mono h (fun xv s₁ h₁ => ?_) fun _ _ e => e)
  obtain ⟨tx, t, news, rfl, hh, F, N, hsz, R⟩ := h₁
  have fin : ∀ (s₂ : Shared) (C : Addr), ∀ D C h tk m' ys news', Fr h₀ L h m → News h₀ L h ((D, lst ys) :: news') → Off1 D news' → h.Ns C m' → h₀.get? C = none → h₀.get? D = none → C ≠ L → D ≠ L → C ≠ D → (∀ p ∈ news', p.1 ≠ C) → FinE h₀ L m s₂ Q ys news' →
      ∃ m, h.Ns C m ∧ ∀ h', Heap.SameBut C h h' → Q (.ref D) { s₂ with heap := h', toks := tk } := by
    intro s₂ _ D C h tk m' ys news' F' N' o1 hn hC₀ hD₀ hCL hDL hCD offC fin
    refine ⟨m', hn, fun h'' hs'' => fin D h'' tk (F'.change hs'' hCL hC₀) (fun p hp => ?_) o1⟩
    refine ⟨hs''.extBut _ _ ?_ (N' p hp).1, (N' p hp).2⟩
    rcases List.mem_cons.mp hp with rfl | hp
    · exact Ne.symm hCD
    · exact offC p hp
  have sz : ∀ o : Obj, ∀ b ∈ [s₁.heap.objs.size], b < (s₁.heap.push o).objs.size := fun o b hb => by
    rw [List.mem_singleton.mp hb, Heap.size_push]; exact Nat.lt_succ_self _
  cases ha : tx.cps.all (· < 128)
  · refine wpAny_pyIter_wide ha ?_
    exact block_T (Walks.strWide hh _ tx t) hsz (fun i h st => by obtain ⟨o, e, _⟩ := st; exact ⟨o, e⟩) strIter_st hcell hkind hx ⟨_, Heap.get?_push_size _ rfl, rfl, rfl⟩ (sz _)
      (F.keeps fun _ _ e => Heap.get?_push_of_some _ e) (N.grown fun _ _ e => Heap.get?_push_of_some _ e) (Nat.ne_of_lt F.ns.lt) (next_is_new F) (fun p hp => Nat.ne_of_lt (Heap.lt_size (N p hp).1)) trivial (R _ ⟨_, rfl⟩) (fin _ 0)
  · refine wpAny_pyIter_ascii ha ?_
    exact block_T (Walks.strAscii hh _ tx t) hsz (fun i h st => by obtain ⟨o, e, _⟩ := st; exact ⟨o, e⟩) strIter_st hcell hkind hx ⟨_, Heap.get?_push_size _ rfl, rfl, rfl⟩ (sz _)
      (F.keeps fun _ _ e => Heap.get?_push_of_some _ e) (N.grown fun _ _ e => Heap.get?_push_of_some _ e) (Nat.ne_of_lt F.ns.lt) (next_is_new F) (fun p hp => Nat.ne_of_lt (Heap.lt_size (N p hp).1)) trivial (R _ ⟨_, rfl⟩) (fin _ 0)
/-- a comprehension without a test over a text -/
theorem ListComp_US {elt iter : PySem.Expr} {x : Str} {px : Pos} {scope : Scope} {cl : List (Str × Addr)} {pos : Pos} {Q : Value → Shared → Prop} (F₀ : Fr h₀ L s.heap m)
    (hclos : closureFor scope env = pure cl) (hcell : ∀ y ∈ scope.names, y.2 ≠ .cell) (hkind : scope.kind = .function)
    (hnames : ∀ y ∈ scope.names, y.2 = .local → scope.names.lookup y.1 = some .local) (hx : scope.names.lookup x = some .local)
    (h : wpAny (model prog w) A (eval iter env) (fun xv s₁ => ∃ tx t news, xv = .str tx t ∧ A.handled = none ∧ Fr h₀ L s₁.heap m ∧ News h₀ L s₁.heap news ∧ tx.cps.size ≤ sizeLine ∧
      ∀ s₂ : Shared, (∃ h, s₂ = { s₁ with heap := h }) → CompRest prog w A h₀ L m env elt x scope cl s₂ (fun _ => True) (SignAt tx) (FinE h₀ L m s₂ Q) tx.cps.size 0 [] news) E s)
    (hs : ∀ x, foldedSetIterable iter env x = pure x := by intro _; rfl) :
    wpAny (model prog w) A (eval (.ListComp elt [⟨.Name x px, iter, [], 0⟩] scope pos) env) Q E s := by
  rw [eval_ListComp]
  refine wpAny_comprehension_free (use := none) rfl hs hclos hkind hnames (wpAny_mono h (fun xv s₁ h₁ => ?_) fun _ _ e => e)
  obtain ⟨tx, t, news, rfl, hh, F, N, hsz, R⟩ := h₁
  have fin : ∀ (s₂ : Shared) (C : Addr), ∀ D C h tk m' ys news', Fr h₀ L h m → News h₀ L h ((D, lst ys) :: news') → Off1 D news' → h.Ns C m' → h₀.get? C = none → h₀.get? D = none → C ≠ L → D ≠ L → C ≠ D → (∀ p ∈ news', p.1 ≠ C) → FinE h₀ L m s₂ Q ys news' →
      ∃ m, h.Ns C m ∧ ∀ h', Heap.SameBut C h h' → Q (.ref D) { s₂ with heap := h', toks := tk } := by
    intro s₂ _ D C h tk m' ys news' F' N' o1 hn hC₀ hD₀ hCL hDL hCD offC fin
    refine ⟨m', hn, fun h'' hs'' => fin D h'' tk (F'.change hs'' hCL hC₀) (fun p hp => ?_) o1⟩
    refine ⟨hs''.extBut _ _ ?_ (N' p hp).1, (N' p hp).2⟩
    rcases List.mem_cons.mp hp with rfl | hp
    · exact Ne.symm hCD
    · exact offC p hp
  have sz : ∀ o : Obj, ∀ b ∈ [s₁.heap.objs.size], b < (s₁.heap.push o).objs.size := fun o b hb => by
    rw [List.mem_singleton.mp hb, Heap.size_push]; exact Nat.lt_succ_self _
  cases ha : tx.cps.all (· < 128)
  · refine wpAny_pyIter_wide ha ?_
    exact block_U (Walks.strWide hh _ tx t) hsz (fun i h st => by obtain ⟨o, e, _⟩ := st; exact ⟨o, e⟩) strIter_st hcell hkind hx ⟨_, Heap.get?_push_size _ rfl, rfl, rfl⟩ (sz _)
      (F.keeps fun _ _ e => Heap.get?_push_of_some _ e) (N.grown fun _ _ e => Heap.get?_push_of_some _ e) (Nat.ne_of_lt F.ns.lt) (next_is_new F) (fun p hp => Nat.ne_of_lt (Heap.lt_size (N p hp).1)) trivial (R _ ⟨_, rfl⟩) (fin _ 0)
  · refine wpAny_pyIter_ascii ha ?_
    exact block_U (Walks.strAscii hh _ tx t) hsz (fun i h st => by obtain ⟨o, e, _⟩ := st; exact ⟨o, e⟩) strIter_st hcell hkind hx ⟨_, Heap.get?_push_size _ rfl, rfl, rfl⟩ (sz _)
      (F.keeps fun _ _ e => Heap.get?_push_of_some _ e) (N.grown fun _ _ e => Heap.get?_push_of_some _ e) (Nat.ne_of_lt F.ns.lt) (next_is_new F) (fun p hp => Nat.ne_of_lt (Heap.lt_size (N p hp).1)) trivial (R _ ⟨_, rfl⟩) (fin _ 0)
end
section
open PyProof.Rows.LCg PyProof.Rows.LCt
variable {prog : Program} {w : World} {A : Around} {h₀ : Heap} {L : Addr} {m : Str → Option Value} {env : Env} {s : Shared}
theorem signT {ct elt : PySem.Expr} {x : Str} {scope : Scope} {cl : List (Str × Addr)} {S : List (Addr × Obj) → Prop} {tx : Str} {Fin : List Value → List (Addr × Obj) → Prop} {k i : Nat} {ys : List Value} {news : List (Addr × Obj)} {c : Nat} (hc : tx.cps[i]? = some c)
    (h : ∀ u I oI C oC D m₂ h tk (E' : Value → Shared → Prop), NsObj oC m₂ → m₂ x = some (.str ⟨#[c]⟩ u) → Fr h₀ L h m → News h₀ L h ((I, oI) :: (C, oC) :: (D, lst ys) :: news) → Off3 I C D news → ((@Ne Nat I C) ∧ (@Ne Nat I D) ∧ (@Ne Nat C D)) →
      wpAny (model prog w) A (isTrue ct (compEnvC scope cl C env) (eval ct (compEnvC scope cl C env))) (fun ok s' => if ok = true then
        wpAny (model prog w) A (eval elt (compEnvC scope cl C env)) (CompEnd h₀ L m { s with heap := h, toks := tk } I oI C oC D (lst ys) S (fun y news' => CompRestT prog w A h₀ L m env ct elt x scope cl s S (SignAt tx) Fin k (i + 1) (ys ++ [y]) news')) E' s'
        else CompEnd h₀ L m { s with heap := h, toks := tk } I oI C oC D (lst ys) S (fun _ news' => CompRestT prog w A h₀ L m env ct elt x scope cl s S (SignAt tx) Fin k (i + 1) ys news') Value.none s') E' { s with heap := h, toks := tk }) :
    CompRestT prog w A h₀ L m env ct elt x scope cl s S (SignAt tx) Fin (k + 1) i ys news := by
  intro v I oI C oC D m₂ h' tk E' hv hC hx F N off ne
  obtain ⟨c', u, hc', rfl⟩ := hv
  rw [hc] at hc'
  cases hc'
  exact h u I oI C oC D m₂ h' tk E' hC hx F N off ne
theorem signU {elt : PySem.Expr} {x : Str} {scope : Scope} {cl : List (Str × Addr)} {S : List (Addr × Obj) → Prop} {tx : Str} {Fin : List Value → List (Addr × Obj) → Prop} {k i : Nat} {ys : List Value} {news : List (Addr × Obj)} {c : Nat} (hc : tx.cps[i]? = some c)
    (h : ∀ u I oI C oC D m₂ h tk (E' : Value → Shared → Prop), NsObj oC m₂ → m₂ x = some (.str ⟨#[c]⟩ u) → Fr h₀ L h m → News h₀ L h ((I, oI) :: (C, oC) :: (D, lst ys) :: news) → Off3 I C D news → ((@Ne Nat I C) ∧ (@Ne Nat I D) ∧ (@Ne Nat C D)) →
      wpAny (model prog w) A (eval elt (compEnvC scope cl C env)) (CompEnd h₀ L m { s with heap := h, toks := tk } I oI C oC D (lst ys) S (fun y news' => CompRest prog w A h₀ L m env elt x scope cl s S (SignAt tx) Fin k (i + 1) (ys ++ [y]) news')) E' { s with heap := h, toks := tk }) :
    CompRest prog w A h₀ L m env elt x scope cl s S (SignAt tx) Fin (k + 1) i ys news := by
  intro v I oI C oC D m₂ h' tk E' hv hC hx F N off ne
  obtain ⟨c', u, hc', rfl⟩ := hv
  rw [hc] at hc'
  cases hc'
  exact h u I oI C oC D m₂ h' tk E' hC hx F N off ne
theorem cmpEnd0 {I C D : Addr} {s₁ : Shared} {oI oC oD : Obj} {S : List (Addr × Obj) → Prop} {rest : Value → List (Addr × Obj) → Prop} {y : Value} {h' : Heap} {tk : Nat} {news' : List (Addr × Obj)}
    (F : Fr h₀ L h' m) (N : News h₀ L h' ((I, oI) :: (C, oC) :: (D, oD) :: news')) (off : Off3 I C D news') (hS : S news') (r : rest y news') :
    CompEnd h₀ L m s₁ I oI C oC D oD S rest y { s₁ with heap := h', toks := tk } := ⟨h', tk, news', rfl, F, N, off, hS, r⟩
end
theorem ndrop {h₀ h : Heap} {L : Addr} {x : Addr × Obj} {news : List (Addr × Obj)} (N : News h₀ L h (x :: news)) : News h₀ L h news := fun p hp => N p (.tail _ hp)


section
variable {w : World} {mean : ExcName → Option Value} {mg mb : Str → Option Value} {f : Addr} {D U : Nat} {news : Led} {vs : List Value}
    {dp un : Nat} {gd : Option (List Code)} {cn : Str} {cs : Scope} {a : Addr} {ccd : Value} {cl : List (Str × Addr)} {outer : List Env} {A₀ : Around} {base h₀ : Heap} {L : Addr} {m : Str → Option Value} {s : Shared} {Q E : Value → Shared → Prop}
theorem use_ct {Out : Value → Led → Prop}
    (B : Below A₀ base outer h₀ := by k_asm) (F : Fr h₀ L s.heap m := by k_asm) (X : (hd0.heap_1 w.params).In h₀ := by k_asm) (N : News h₀ L s.heap news := by k_asm) (T : Top VW LS mean mg mb h₀ := by k_asm) (C : Ct w mean mg mb f D U news vs Out) (hk : cs.kind = .function := by first | exact rfl | assumption) (hd : dp + D < recursionLimit := by ktr_room) (hu : un + U < cLine := by ktr_units)
    (ret : ∀ r news' h' tk', Fr h₀ L h' m → News h₀ L h' news' → Out r news' → Q r { s with heap := h', toks := tk' }) :
    wpAny (model PySem.Challenge.rw_on0068_01.row.prog w) (ktrTop dp un gd cn cs L a ccd cl outer) (call (.ref f) vs) Q E s := C.go _ _ _ _ _ _ _ _ _ _ _ _ _ _ _ _ _ B F X N T hk hd hu ret
theorem use_ctV {R : Tok → Value}
    (B : Below A₀ base outer h₀ := by k_asm) (F : Fr h₀ L s.heap m := by k_asm) (X : (hd0.heap_1 w.params).In h₀ := by k_asm) (N : News h₀ L s.heap news := by k_asm) (T : Top VW LS mean mg mb h₀ := by k_asm) (C : Ct w mean mg mb f D U news vs (fun r n => n = news ∧ ∃ t, r = R t)) (hk : cs.kind = .function := by first | exact rfl | assumption) (hd : dp + D < recursionLimit := by ktr_room) (hu : un + U < cLine := by ktr_units)
    (ret : ∀ t h' tk', Fr h₀ L h' m → News h₀ L h' news → Q (R t) { s with heap := h', toks := tk' }) :
    wpAny (model PySem.Challenge.rw_on0068_01.row.prog w) (ktrTop dp un gd cn cs L a ccd cl outer) (call (.ref f) vs) Q E s :=
  C.go _ _ _ _ _ _ _ _ _ _ _ _ _ _ _ _ _ B F X N T hk hd hu fun r n h' tk' F' N' o => by obtain ⟨rfl, t, rfl⟩ := o; exact ret t h' tk' F' N'
theorem use_ctB {R : Value}
    (B : Below A₀ base outer h₀ := by k_asm) (F : Fr h₀ L s.heap m := by k_asm) (X : (hd0.heap_1 w.params).In h₀ := by k_asm) (N : News h₀ L s.heap news := by k_asm) (T : Top VW LS mean mg mb h₀ := by k_asm) (C : Ct w mean mg mb f D U news vs (fun r n => n = news ∧ r = R)) (hk : cs.kind = .function := by first | exact rfl | assumption) (hd : dp + D < recursionLimit := by ktr_room) (hu : un + U < cLine := by ktr_units)
    (ret : ∀ h' tk', Fr h₀ L h' m → News h₀ L h' news → Q R { s with heap := h', toks := tk' }) :
    wpAny (model PySem.Challenge.rw_on0068_01.row.prog w) (ktrTop dp un gd cn cs L a ccd cl outer) (call (.ref f) vs) Q E s :=
  C.go _ _ _ _ _ _ _ _ _ _ _ _ _ _ _ _ _ B F X N T hk hd hu fun r n h' tk' F' N' o => by obtain ⟨rfl, rfl⟩ := o; exact ret h' tk' F' N'
/-- a new object comes back -/
theorem use_ctO {P : Obj → Prop}
    (B : Below A₀ base outer h₀ := by k_asm) (F : Fr h₀ L s.heap m := by k_asm) (X : (hd0.heap_1 w.params).In h₀ := by k_asm) (N : News h₀ L s.heap news := by k_asm) (T : Top VW LS mean mg mb h₀ := by k_asm) (C : Ct w mean mg mb f D U news vs (fun r n => ∃ l o, r = .ref l ∧ n = (l, o) :: news ∧ (∀ p ∈ news, p.1 < l) ∧ P o)) (hk : cs.kind = .function := by first | exact rfl | assumption) (hd : dp + D < recursionLimit := by ktr_room) (hu : un + U < cLine := by ktr_units)
    (ret : ∀ l o h' tk', Fr h₀ L h' m → News h₀ L h' ((l, o) :: news) → (∀ p ∈ news, p.1 < l) → P o → Q (.ref l) { s with heap := h', toks := tk' }) :
    wpAny (model PySem.Challenge.rw_on0068_01.row.prog w) (ktrTop dp un gd cn cs L a ccd cl outer) (call (.ref f) vs) Q E s :=
  C.go _ _ _ _ _ _ _ _ _ _ _ _ _ _ _ _ _ B F X N T hk hd hu fun r n h' tk' F' N' o => by obtain ⟨l, o, rfl, rfl, h1, h2⟩ := o; exact ret l o h' tk' F' N' h1 h2
/-- a new object of known make comes back -/
theorem use_ctP {R : Tok → Tok → Obj}
    (B : Below A₀ base outer h₀ := by k_asm) (F : Fr h₀ L s.heap m := by k_asm) (X : (hd0.heap_1 w.params).In h₀ := by k_asm) (N : News h₀ L s.heap news := by k_asm) (T : Top VW LS mean mg mb h₀ := by k_asm) (C : Ct w mean mg mb f D U news vs (fun r n => ∃ l o, r = .ref l ∧ n = (l, o) :: news ∧ (∀ p ∈ news, p.1 < l) ∧ ∃ a b, o = R a b)) (hk : cs.kind = .function := by first | exact rfl | assumption) (hd : dp + D < recursionLimit := by ktr_room) (hu : un + U < cLine := by ktr_units)
    (ret : ∀ l a b h' tk', Fr h₀ L h' m → News h₀ L h' ((l, R a b) :: news) → (∀ p ∈ news, p.1 < l) → Q (.ref l) { s with heap := h', toks := tk' }) :
    wpAny (model PySem.Challenge.rw_on0068_01.row.prog w) (ktrTop dp un gd cn cs L a ccd cl outer) (call (.ref f) vs) Q E s :=
  C.go _ _ _ _ _ _ _ _ _ _ _ _ _ _ _ _ _ B F X N T hk hd hu fun r n h' tk' F' N' o => by obtain ⟨l, o, rfl, rfl, h1, a, b, rfl⟩ := o; exact ret l a b h' tk' F' N' h1
/-- a new object of known make comes back -/
theorem use_ctQ {R : Tok → Tok → Obj}
    (B : Below A₀ base outer h₀ := by k_asm) (F : Fr h₀ L s.heap m := by k_asm) (X : (hd0.heap_1 w.params).In h₀ := by k_asm) (N : News h₀ L s.heap news := by k_asm) (T : Top VW LS mean mg mb h₀ := by k_asm) (C : Ct w mean mg mb f D U news vs (fun r n => ∃ l o, r = .ref l ∧ n = (l, o) :: news ∧ (∀ p ∈ news, p.1 ≠ l) ∧ ∃ a b, o = R a b)) (hk : cs.kind = .function := by first | exact rfl | assumption) (hd : dp + D < recursionLimit := by ktr_room) (hu : un + U < cLine := by ktr_units)
    (ret : ∀ l a b h' tk', Fr h₀ L h' m → News h₀ L h' ((l, R a b) :: news) → (∀ p ∈ news, p.1 ≠ l) → Q (.ref l) { s with heap := h', toks := tk' }) :
    wpAny (model PySem.Challenge.rw_on0068_01.row.prog w) (ktrTop dp un gd cn cs L a ccd cl outer) (call (.ref f) vs) Q E s :=
  C.go _ _ _ _ _ _ _ _ _ _ _ _ _ _ _ _ _ B F X N T hk hd hu fun r n h' tk' F' N' o => by obtain ⟨l, o, rfl, rfl, h1, a, b, rfl⟩ := o; exact ret l a b h' tk' F' N' h1
end
theorem unrE1 {h₀ h' : Heap} {L I : Addr} {it : Obj} {rest : (Str → Option Value) → List (Addr × Obj) → Prop} {s₁ : Shared} {tk : Nat} {m' : Str → Option Value} {news' : List (Addr × Obj)} (F : Fr h₀ L h' m') (N : News h₀ L h' ((I, it) :: news'))
    (off : ∀ p ∈ news', p.1 ≠ I) (r : rest m' news') : UnrEnd h₀ L s₁ I it rest { s₁ with heap := h', toks := tk } := ⟨h', tk, m', news', rfl, F, N, off, r⟩
theorem unrE2 {h₀ h' : Heap} {L I : Addr} {it : Obj} {rest : (Str → Option Value) → List (Addr × Obj) → Prop} {s₁ : Shared} {tk : Nat} {m' : Str → Option Value} {news' : List (Addr × Obj)} {x : Addr × Obj} (F : Fr h₀ L h' m') (N : News h₀ L h' (x :: (I, it) :: news'))
    (off : ∀ p ∈ x :: news', p.1 ≠ I) (r : rest m' (x :: news')) : UnrEnd h₀ L s₁ I it rest { s₁ with heap := h', toks := tk } :=
  unrE1 F (fun p hp => N p (by simp only [List.mem_cons] at hp ⊢; rcases hp with h | h | h <;> simp [h])) off r
theorem noArgs {M : Model} {A : Around} {pos : Pos} {f : Value} {first : List Value} {env : Env} {Q E : Value → Shared → Prop} {s : Shared} (h : wpAny M A (callWith pos f first (backTo pos (starEach [] env)) []) Q E s) : wpAny M A (callWith pos f first (backTo pos (starEach [] env)) []) Q E s := h
section
variable {prog : Program} {w : World} {A : Around} {E : Value → Shared → Prop} {s : Shared} {value slice : PySem.Expr} {t u : Tok} {Q : Value → Shared → Prop}
theorem slice2_1 (a b c : Nat) : Txt.slice (Str.mk #[a, b, c]) (some 2) none = Str.mk #[c] := by with_unfolding_all rfl
theorem slice2_3 (a b c d e : Nat) : Txt.slice (Str.mk #[a, b, c, d, e]) (some 2) none = Str.mk #[c, d, e] := by with_unfolding_all rfl
theorem r_item0 {c0 : PySem.Const} {k0 : Nat} {p0 : Pos} {a : Nat} {l : List Nat} (h : Q (.str ⟨#[a]⟩ s.toks) { s with toks := s.toks + 1 }) :
    wpAny (model prog w) A (subscriptTail value (.Constant c0 k0 p0) (.str (Str.mk (List.toArray (a :: l))) t) (.int 0 u)) Q E s :=
  r_item (by decide) (by simp [seqIndex?, Str.length]) h subs_C
theorem r_item1 {c0 : PySem.Const} {k0 : Nat} {p0 : Pos} {a b : Nat} {l : List Nat} (h : Q (.str ⟨#[b]⟩ s.toks) { s with toks := s.toks + 1 }) :
    wpAny (model prog w) A (subscriptTail value (.Constant c0 k0 p0) (.str (Str.mk (List.toArray (a :: b :: l))) t) (.int 1 u)) Q E s :=
  r_item (by decide) (by simp [seqIndex?, Str.length]; rw [if_pos (by omega)]; rfl) h subs_C
end
section
variable {prog : Program} {w : World} {A : Around} {E : Value → Shared → Prop} {s : Shared} {value slice : PySem.Expr} {t u : Tok} {Q : Value → Shared → Prop}
theorem seq_at {x : Str} {k c : Nat} (hc : x.cps[k]? = some c) : (seqIndex? (k : Int) x.length).bind (x.cps[·]?) = some c := by
  have hk : k < x.cps.size := by
    rcases Nat.lt_or_ge k x.cps.size with h | h
    · exact h
    · rw [Array.getElem?_eq_none h] at hc; cases hc
  have e : seqIndex? (k : Int) x.length = some k := by
    unfold seqIndex?
    have hk' : k < x.length := hk
    have h1 : ¬ ((k : Int) < 0) := by omega
    simp only [h1, if_false]
    rw [if_pos (by simp only [Bool.and_eq_true, decide_eq_true_eq]; omega)]
    simp
  rw [e]; exact hc
theorem r_itemA {x : Str} {c : Nat} (hc : x.cps[0]? = some c) (h : Q (.str ⟨#[c]⟩ s.toks) { s with toks := s.toks + 1 })
    (hs : subscripted slice false (.str x t) (.int 0 u) = operate [.str x t, .int 0 u] (getItem (.str x t) (.int 0 u)) := by with_unfolding_all rfl) :
    wpAny (model prog w) A (subscriptTail value slice (.str x t) (.int 0 u)) Q E s := r_item (by decide) (seq_at (k := 0) hc) h hs
theorem r_itemB {x : Str} {c : Nat} (hc : x.cps[1]? = some c) (h : Q (.str ⟨#[c]⟩ s.toks) { s with toks := s.toks + 1 })
    (hs : subscripted slice false (.str x t) (.int 1 u) = operate [.str x t, .int 1 u] (getItem (.str x t) (.int 1 u)) := by with_unfolding_all rfl) :
    wpAny (model prog w) A (subscriptTail value slice (.str x t) (.int 1 u)) Q E s := r_item (by decide) (seq_at (k := 1) hc) h hs
/-- the last sign -/
def LastIs (x : Str) (c : Nat) : Prop := (seqIndex? (-1) x.length).bind (x.cps[·]?) = some c
theorem r_itemZ {x : Str} {c : Nat} (hc : LastIs x c) (h : Q (.str ⟨#[c]⟩ s.toks) { s with toks := s.toks + 1 })
    (hs : subscripted slice false (.str x t) (.int (-1) u) = operate [.str x t, .int (-1) u] (getItem (.str x t) (.int (-1) u)) := by with_unfolding_all rfl) :
    wpAny (model prog w) A (subscriptTail value slice (.str x t) (.int (-1) u)) Q E s := r_item (by decide) hc h hs
end
local macro_rules | `(tactic| walk_at "bk") => `(tactic| first | exact rfl | assumption)
local macro_rules | `(tactic| walk_at "bi") => `(tactic| first | exact BindsTo.of_eq rfl | exact binds_K (by k_in) rfl (by k_is) rfl rfl rfl)
local macro_rules | `(tactic| k_enter) => `(tactic| first | (refine' code_def (by k_asm) (by k_asm) (by k_asm) (by k_asm) (by k_asm) rfl rfl (by walk_at "bk") (by k_is) (by k_is) (by ktr_room) (by walk_at "bi") (by exact locs rfl) ?_ (by exact rfl) (by exact rfl) (by exact rfl) (by decide); k_whole; intro zg' zL' zh' zFG' zF' zN' zB' zX' zT'; (try dsimp only); (try k_lift zB'); (try k_fold)) | (refine' code_defC (by k_asm) (by k_asm) (by k_asm) (by k_asm) (by k_asm) rfl rfl (by walk_at "bk") (by k_is) (by k_is) (by ktr_room) (by walk_at "bi") (by exact rfl) (by decide +kernel) ?_ (by exact rfl) (by exact rfl) (by exact rfl); k_whole; intro zg' zL' zh' ztk' zcells' zFG' zF' zN' zY' zB' zX' zT' zl1; (try k_lt zl1); k_cells zY'; (try simp only [List.cons_append, List.nil_append] at zN'); (try dsimp only); (try k_lift zB'); (try k_fold)))
local macro_rules | `(tactic| ktr_room) => `(tactic| first | exact room3 (by with_reducible assumption) (by rfl) | exact room2 (by with_reducible assumption) (by rfl) | exact room1 (by with_reducible assumption) | ((try simp only [depth_under_make, depth_under_kw, depth_in1, depth_deeper, depth_caller]); (try dsimp only [ktrTop]); first | exact room3 (by with_reducible assumption) (by rfl) | exact room2 (by with_reducible assumption) (by rfl) | exact room1 (by with_reducible assumption)))
local macro_rules | `(tactic| ktr_units) => `(tactic| first | exact room3 (by with_reducible assumption) (by rfl) | exact room2 (by with_reducible assumption) (by rfl) | exact room1 (by with_reducible assumption))
local macro_rules | `(tactic| walk_at "call builtin:len") => `(tactic| (k_here; (with_reducible show wpAny _ _ (call (Value.builtin "len") [Value.str _ _]) _ _ _); k_dflt (refine' r_len (by first | with_reducible assumption | exact rfl) (by first | with_reducible assumption | exact rfl | with_unfolding_all exact rfl) ?_)))
local macro_rules | `(tactic| walk_at "subscriptTail Name Constant str int") => `(tactic| (k_here; (with_reducible show wpAny _ _ (subscriptTail _ _ (Value.str _ _) (Value.int _ _)) _ _ _); k_dflt (refine' r_item (by decide) (by exact rfl) ?_ subs_C; k_whole)))
local macro_rules | `(tactic| walk_at "subscriptTail Name Name str int") => `(tactic| (k_here; (with_reducible show wpAny _ _ (subscriptTail _ _ (Value.str _ _) (Value.int _ _)) _ _ _); k_dflt (refine' r_item (by decide) (by exact rfl) ?_ subs_N; k_whole)))
local macro_rules | `(tactic| walk_at "subscriptTail Name UnaryOp str int") => `(tactic| (k_here; (with_reducible show wpAny _ _ (subscriptTail _ _ (Value.str _ _) (Value.int _ _)) _ _ _); k_dflt (refine' r_item (by decide) (by exact rfl) ?_; k_whole)))
local macro_rules | `(tactic| walk_at "subscriptTail Name BinOp str int") => `(tactic| (k_here; (with_reducible show wpAny _ _ (subscriptTail _ _ (Value.str _ _) (Value.int _ _)) _ _ _); k_dflt (refine' r_item (by decide) (by exact rfl) ?_; k_whole)))
local macro_rules | `(tactic| walk_at "exec While") => `(tactic| (k_here; k_dflt (refine whl_start 100 ?_)))
local macro_rules | `(tactic| walk_at "ite") => `(tactic| (k_here; k_dflt (first
  | (refine ite_isFalse (by with_unfolding_all rfl) ?_; walk_say "BY RFL")
  | (refine ite_bT (by with_unfolding_all rfl) ?_; walk_say "BY RFL"))))

local macro_rules | `(tactic| ktu_off1L) => `(tactic| first | exact off_lt (by assumption) | exact List.forall_mem_nil _ | (refine off_cons (by first | omega | (refine neN ?_; (try dsimp only); omega)) ?_; ktu_off1L))
local macro_rules | `(tactic| walk_at "UnrEndW") => `(tactic| (k_here; k_dflt (first
  | refine unrW1 (by assumption) (by assumption) (by ktu_off1L) ⟨by k_subL, ?_⟩
  | refine unrW2 (by assumption) (by assumption) (by ktu_off1L) ⟨by k_subL, ?_⟩
  | refine unrW3 (by assumption) (by assumption) (by ktu_off1L) ⟨by k_subL, ?_⟩)))
local macro_rules | `(tactic| walk_at "CompEnd") => `(tactic| (k_here; k_dflt (refine cmpEnd0 (by assumption) (by assumption) (by assumption) (by first | exact True.intro | exact Or.inl (by assumption) | exact Or.inr ⟨_, by k_mem, rfl, _, rfl⟩) ?_)))
local macro_rules | `(tactic| walk_at "CompRestT") => `(tactic| (k_dflt (refine signT (by exact rfl) ?_; intro zu' zI' zoI' zC' zoC' zD' zm' zh' ztk' zE' zhC' zhx' zF' zN' zoff' zne')))
local macro_rules | `(tactic| walk_at "CompRest") => `(tactic| (k_dflt (refine signU (by exact rfl) ?_; intro zu' zI' zoI' zC' zoC' zD' zm' zh' ztk' zE' zhC' zhx' zF' zN' zoff' zne')))

local macro_rules | `(tactic| walk_at "eval Call") => `(tactic| (k_here; (with_reducible show wpAny _ _ (eval (PySem.Expr.Call (PySem.Expr.Name _ _) _ [] _) _) _ _ _); refine Call_ ?_))
local macro_rules | `(tactic| walk_at "eval Call Attribute") => `(tactic| (k_here; (with_reducible show wpAny _ _ (eval (PySem.Expr.Call (PySem.Expr.Attribute _ _ _) _ [] _) _) _ _ _); refine MethodCall_ ?_))

local macro_rules | `(tactic| walk_at "callWith ref") => `(tactic| (k_here; with_reducible refine noArgs ?_; k_dflt (refine' callWith_K0 (Frag.In.keeps (by k_asm) (Fr.keep (by k_asm))) (by k_is) ?_; k_whole)))
local macro_rules | `(tactic| walk_at "UnrEnd") => `(tactic| (k_here; k_dflt (first
  | refine unrE1 (by assumption) (by assumption) (by ktu_off1L) ?_
  | refine unrE2 (by assumption) (by assumption) (by ktu_off1L) ?_)))

local macro_rules | `(tactic| walk_at "call builtin:str.index") => `(tactic| (k_here; k_dflt (first
  | (refine' PySem.SC.index (i := 3) (rest := []) (by decide +kernel) ?_)
  | (refine' PySem.SC.index (i := 4) (rest := []) (by decide +kernel) ?_))))

local macro_rules | `(tactic| walk_at "subscriptTail Name Constant str int") => `(tactic| (k_here; (with_reducible show wpAny _ _ (subscriptTail _ _ (Value.str (Str.mk (List.toArray (_ :: _))) _) (Value.int _ _)) _ _ _); k_dflt (first | (with_reducible refine r_item0 ?_) | (with_reducible refine r_item1 ?_))))
local macro_rules | `(tactic| walk_at "subscriptTail Name Slice str ref") => `(tactic| (k_here; (with_reducible show wpAny _ _ (subscriptTail _ (PySem.Expr.Slice (some _) none none _) (Value.str (Str.mk (List.toArray (_ :: _))) _) (Value.ref _)) _ _ _); k_dflt ((with_reducible rename Fr _ _ _ _ => zF'); (with_reducible rename News _ _ _ _ => zN'); (refine slice_strN_sn (hsz := (by exact Nat.le_of_ble_eq_true rfl)) (s := ⟨_, _, _, _, _⟩) zF' zN' ?_); intro zh8 zt8 zk8 zF8 zN8; first | rw [slice2_1] | rw [slice2_3])))

local macro_rules | `(tactic| walk_at "subscriptTail Name Constant str int") => `(tactic| (k_here; (with_reducible show wpAny _ _ (subscriptTail _ _ (Value.str _ _) (Value.int 0 _)) _ _ _); k_dflt (refine' r_itemA (by with_reducible assumption) ?_ subs_C; k_whole)))
local macro_rules | `(tactic| walk_at "subscriptTail Name Constant str int") => `(tactic| (k_here; (with_reducible show wpAny _ _ (subscriptTail _ _ (Value.str _ _) (Value.int 1 _)) _ _ _); k_dflt (refine' r_itemB (by with_reducible assumption) ?_ subs_C; k_whole)))
local macro_rules | `(tactic| walk_at "subscriptTail Name Name str int") => `(tactic| (k_here; (with_reducible show wpAny _ _ (subscriptTail _ _ (Value.str _ _) (Value.int 0 _)) _ _ _); k_dflt (refine' r_itemA (by with_reducible assumption) ?_ subs_N; k_whole)))
local macro_rules | `(tactic| walk_at "subscriptTail Name Name str int") => `(tactic| (k_here; (with_reducible show wpAny _ _ (subscriptTail _ _ (Value.str _ _) (Value.int 1 _)) _ _ _); k_dflt (refine' r_itemB (by with_reducible assumption) ?_ subs_N; k_whole)))
local macro_rules | `(tactic| walk_at "subscriptTail Name UnaryOp str int") => `(tactic| (k_here; (with_reducible show wpAny _ _ (subscriptTail _ _ (Value.str _ _) (Value.int (-1) _)) _ _ _); k_dflt (refine' r_itemZ (by with_reducible assumption) ?_; k_whole)))
local macro_rules | `(tactic| walk_at "ite") => `(tactic| (k_here; (first
  | (refine ite_isFalse (by with_reducible assumption) ?_; walk_say "BY HYP")
  | (refine ite_bT (by with_reducible assumption) ?_; walk_say "BY HYP")
  | (refine ite_bNT (by with_reducible assumption) ?_; walk_say "BY HYP")
  | (refine ite_bNF (by with_reducible assumption) ?_; walk_say "BY HYP")
  | (refine ite_pos (by with_reducible assumption) ?_; walk_say "BY HYP")
  | (refine ite_neg (by with_reducible assumption) ?_; walk_say "BY HYP"))))

local macro_rules | `(tactic| walk_at "ite") => `(tactic| (k_here; (first
  | (refine ite_isFalse (Is.out (by with_reducible assumption)) ?_; walk_say "BY HYP")
  | (refine ite_bT (Is.out (by with_reducible assumption)) ?_; walk_say "BY HYP")
  | (refine ite_bNT (Is.out (by with_reducible assumption)) ?_; walk_say "BY HYP")
  | (refine ite_bNF (Is.out (by with_reducible assumption)) ?_; walk_say "BY HYP"))))
local macro_rules | `(tactic| walk_at "ct v") => `(tactic| (k_whole; intro zt9 zh9 ztk9 zF9 zN9; (try dsimp only); (try k_sweep); (try k_fold)))
local macro_rules | `(tactic| walk_at "ct b") => `(tactic| (k_whole; intro zh9 ztk9 zF9 zN9; (try dsimp only); (try k_sweep); (try k_fold)))
local macro_rules | `(tactic| walk_at "ct o") => `(tactic| (k_whole; intro zl9 zo9 zh9 ztk9 zF9 zN9 zl1 zp9; (try dsimp only); (try k_sweep); (try k_fold)))
local macro_rules | `(tactic| walk_at "ct p") => `(tactic| (k_whole; intro zl9 za9 zb9 zh9 ztk9 zF9 zN9 zl1; (try k_lt zl1); (try dsimp only); (try k_sweep); (try k_fold)))
local macro_rules | `(tactic| walk_at "ct q") => `(tactic| (k_whole; intro zl9 za9 zb9 zh9 ztk9 zF9 zN9 zl1; (try dsimp only); (try k_sweep); (try k_fold)))
local macro_rules | `(tactic| walk_at "ct z") => `(tactic| ((try dsimp only); (try k_sweep); (try k_fold)))
local macro_rules | `(tactic| walk_at "pa") => `(tactic| first | with_reducible assumption | assumption | omega)
local macro_rules | `(tactic| walk_at "pb") => `(tactic| first | assumption | exact rfl | exact Nat.le_of_ble_eq_true rfl | with_unfolding_all exact rfl)
local macro_rules | `(tactic| walk_at "ps") => `(tactic| (intro zp9 zhp9; first | ((repeat (first | exact zhp9 | refine List.Mem.tail _ ?_)); done) | simp [zhp9]))
local macro_rules | `(tactic| walk_at "ph") => `(tactic| first | exact .head _ | exact .tail _ (.head _) | exact .tail _ (.tail _ (.head _)))
local macro_rules | `(tactic| ktr_call $a $c) => `(tactic| (k_here; with_reducible refine atR $a ?_; k_dflt (refine' use_ctV (C := $c ..) (ret := ?_); walk_at "ct v")))
local macro_rules | `(tactic| ktn_call $a $c) => `(tactic| (k_here; with_reducible refine atR $a ?_; k_dflt (refine' use_ctB (C := $c ..) (ret := ?_); walk_at "ct b")))
local macro_rules | `(tactic| ktd_call $a $c) => `(tactic| (k_here; with_reducible refine atR $a ?_; k_dflt (refine' use_ctP (C := $c ..) (ret := ?_); walk_at "ct p")))
local macro_rules | `(tactic| tb_from $a $c) => `(tactic| (k_here; with_reducible refine atR $a ?_; k_dflt (refine' use_ctQ (C := $c ..) (ret := ?_); walk_at "ct q")))

section
def ctl (x : Int) : Int := if (64 ≤ x ∧ x ≤ 95) ∨ (97 ≤ x ∧ x ≤ 122) then (if 65 ≤ x ∧ x ≤ 90 then Int.fmod x 32 + 33554432 else Int.fmod x 32) else if x < 32 then x else x + 67108864
theorem fmod_small {x n : Int} (h0 : 0 ≤ x) (h1 : x < n) : Int.fmod x n = x := by
  rw [Int.fmod_eq_emod_of_nonneg _ (by omega)]; exact Int.emod_eq_of_lt h0 h1
theorem bits1 : Builtin.bitAnd (Builtin.bitOr 0 33554432) (Builtin.bitXor (Builtin.bitOr 0 33554432) 67108864) = 33554432 := by decide +kernel
theorem bits2 : Builtin.bitAnd 0 (Builtin.bitXor 0 67108864) = 0 := by decide +kernel
theorem bits3 : Builtin.bitOr 0 67108864 = 67108864 := by decide +kernel
theorem bits4 : Builtin.bitOr 0 134217728 = 134217728 := by decide +kernel
theorem ctl1 {x : Int} (h : (64 ≤ x ∧ x ≤ 95) ∨ (97 ≤ x ∧ x ≤ 122)) (g : 65 ≤ x ∧ x ≤ 90) : x.fmod 32 + Builtin.bitAnd (Builtin.bitOr 0 33554432) (Builtin.bitXor (Builtin.bitOr 0 33554432) 67108864) = ctl x := by
  rw [bits1, ctl, if_pos h, if_pos g]
theorem ctl2 {x : Int} (h : (64 ≤ x ∧ x ≤ 95) ∨ (97 ≤ x ∧ x ≤ 122)) (g : ¬ (65 ≤ x ∧ x ≤ 90)) : x.fmod 32 + Builtin.bitAnd 0 (Builtin.bitXor 0 67108864) = ctl x := by
  rw [bits2, ctl, if_pos h, if_neg g, Int.add_zero]
theorem ctl3 {x : Int} (h : ¬ ((64 ≤ x ∧ x ≤ 95) ∨ (97 ≤ x ∧ x ≤ 122))) (g : x < 32) : x = ctl x := by
  rw [ctl, if_neg h, if_pos g]
theorem ctl4 {x : Int} (h : ¬ ((64 ≤ x ∧ x ≤ 95) ∨ (97 ≤ x ∧ x ≤ 122))) (g : ¬ x < 32) : x + Builtin.bitOr 0 67108864 = ctl x := by
  rw [bits3, ctl, if_neg h, if_neg g]
theorem intEq {x y : Int} {t : Tok} (e : x = y) : Value.int x t = Value.int y t := by rw [e]
theorem off1_ne {D : Addr} : ∀ {l : Led}, PyProof.Rows.LCg.Off1 D l → ∀ p ∈ l, p.1 ≠ D
  | [], _, _, h => nomatch h
  | q :: r, x, p, h => by
    rcases List.mem_cons.mp h with rfl | h
    · exact x.1
    · exact off1_ne x.2 p h
theorem nd2 {h₀ h : Heap} {L : Addr} {x y : Addr × Obj} {l : Led} (N : News h₀ L h (x :: y :: l)) : News h₀ L h (x :: l) := fun p hp => N p (by rcases List.mem_cons.mp hp with h | h <;> simp [h])
theorem off_tl {q : Addr × Obj} {l : Led} {a : Addr} (h : ∀ p ∈ q :: l, p.1 ≠ a) : ∀ p ∈ l, p.1 ≠ a := fun p hp => h p (.tail _ hp)
theorem off_fin {l : Led} {a : Addr} (h : ∀ p ∈ l, p.1 < a) : ∀ p ∈ l, p.1 ≠ a := fun p hp => Nat.ne_of_lt (h p hp)

end
section
section
open PyProof.Rows.LCg PyProof.Rows.LCt
variable {prog : Program} {w : World} {A : Around} {h₀ : Heap} {L : Addr} {m : Str → Option Value} {env : Env} {s : Shared}
theorem compEnd_mono {I C D : Addr} {s₁ s₂ : Shared} {oI oC oD : Obj} {S : List (Addr × Obj) → Prop} {r r' : Value → List (Addr × Obj) → Prop} {y : Value} (h : CompEnd h₀ L m s₁ I oI C oC D oD S r y s₂) (g : ∀ n, r y n → r' y n) : CompEnd h₀ L m s₁ I oI C oC D oD S r' y s₂ := by
  obtain ⟨h', tk, n, e, F, N, o, hS, hr⟩ := h
  exact ⟨h', tk, n, e, F, N, o, hS, g _ hr⟩
/-- a comprehension without a test, by induction -/
theorem compU_ind {elt : PySem.Expr} {x : Str} {scope : Scope} {cl : List (Str × Addr)} {S : List (Addr × Obj) → Prop} {At : Nat → Value → Prop} {Fin : List Value → List (Addr × Obj) → Prop} {n : Nat} {P : Nat → List Value → Led0 → Prop}
    (step : ∀ i ys news v I oI C oC D m₂ h tk (E' : Value → Shared → Prop), i < n → P i ys news → At i v → NsObj oC m₂ → m₂ x = some v → Fr h₀ L h m → News h₀ L h ((I, oI) :: (C, oC) :: (D, lst ys) :: news) → Off3 I C D news → ((@Ne Nat I C) ∧ (@Ne Nat I D) ∧ (@Ne Nat C D)) →
      wpAny (model prog w) A (eval elt (compEnvC scope cl C env)) (CompEnd h₀ L m { s with heap := h, toks := tk } I oI C oC D (lst ys) S (fun y news' => P (i + 1) (ys ++ [y]) news')) E' { s with heap := h, toks := tk })
    (fin : ∀ ys news, P n ys news → Fin ys news) :
    ∀ k i ys news, i + k = n → P i ys news → CompRest prog w A h₀ L m env elt x scope cl s S At Fin k i ys news
  | 0, i, ys, news, e, hp => CompRest.zero (fin _ _ (by rw [Nat.add_zero] at e; rw [← e]; exact hp))
  | k + 1, i, ys, news, e, hp => CompRest.succ fun v I oI C oC D m₂ h tk E' hv hC hx F N off ne =>
    wpAny_mono (step i ys news v I oI C oC D m₂ h tk E' (by omega) hp hv hC hx F N off ne) (fun y s₂ h' => compEnd_mono h' fun n' hr => compU_ind step fin k (i + 1) _ n' (by omega) hr) fun _ _ e => e
/-- a comprehension with a test, by induction -/
theorem compT_ind {ct elt : PySem.Expr} {x : Str} {scope : Scope} {cl : List (Str × Addr)} {S : List (Addr × Obj) → Prop} {At : Nat → Value → Prop} {Fin : List Value → List (Addr × Obj) → Prop} {n : Nat} {P : Nat → List Value → Led0 → Prop}
    (step : ∀ i ys news v I oI C oC D m₂ h tk (E' : Value → Shared → Prop), i < n → P i ys news → At i v → NsObj oC m₂ → m₂ x = some v → Fr h₀ L h m → News h₀ L h ((I, oI) :: (C, oC) :: (D, lst ys) :: news) → Off3 I C D news → ((@Ne Nat I C) ∧ (@Ne Nat I D) ∧ (@Ne Nat C D)) →
      wpAny (model prog w) A (isTrue ct (compEnvC scope cl C env) (eval ct (compEnvC scope cl C env))) (fun ok s' => if ok = true then
        wpAny (model prog w) A (eval elt (compEnvC scope cl C env)) (CompEnd h₀ L m { s with heap := h, toks := tk } I oI C oC D (lst ys) S (fun y news' => P (i + 1) (ys ++ [y]) news')) E' s'
        else CompEnd h₀ L m { s with heap := h, toks := tk } I oI C oC D (lst ys) S (fun _ news' => P (i + 1) ys news') Value.none s') E' { s with heap := h, toks := tk })
    (fin : ∀ ys news, P n ys news → Fin ys news) :
    ∀ k i ys news, i + k = n → P i ys news → CompRestT prog w A h₀ L m env ct elt x scope cl s S At Fin k i ys news
  | 0, i, ys, news, e, hp => CompRestT.zero (fin _ _ (by rw [Nat.add_zero] at e; rw [← e]; exact hp))
  | k + 1, i, ys, news, e, hp => CompRestT.succ fun v I oI C oC D m₂ h tk E' hv hC hx F N off ne =>
    wpAny_mono (step i ys news v I oI C oC D m₂ h tk E' (by omega) hp hv hC hx F N off ne) (fun ok s₂ h' => by
      cases ok
      · rw [if_neg (by decide)] at h' ⊢
        exact compEnd_mono h' fun n' hr => compT_ind step fin k (i + 1) _ n' (by omega) hr
      · rw [if_pos rfl] at h' ⊢
        exact wpAny_mono h' (fun y s₃ h'' => compEnd_mono h'' fun n' hr => compT_ind step fin k (i + 1) _ n' (by omega) hr) fun _ _ e => e) fun _ _ e => e
end
section
open PyProof.Rows.LCg PyProof.Rows.LCt
variable {prog : Program} {w : World} {A : Around} {h₀ : Heap} {L : Addr} {m : Str → Option Value} {env : Env} {s₁ : Shared}
/-- a comprehension with a test over a list of the ledger, which stays as it is -/
theorem compT_led {ct elt : PySem.Expr} {x : Str} {scope : Scope} {cl : List (Str × Addr)} {Fin : Shared → List Value → List (Addr × Obj) → Prop} {ax : Addr} {its : Array Value} {k : Nat} {base : Led0} (P0 : Nat → List Value → Prop)
    (hh : A.handled = none) (F : Fr h₀ L s₁.heap m) (N : News h₀ L s₁.heap base) (hm : (ax, ({ cls := .type "list", data := .seq its k } : Obj)) ∈ base) (hsz : its.size ≤ sizeLine) (h0 : P0 0 [])
    (step : ∀ g i ys v I oI C oC D m₂ h tk (E' : Value → Shared → Prop), i < its.size → P0 i ys → its[i]? = some v → NsObj oC m₂ → m₂ x = some v → Fr h₀ L h m → News h₀ L h ((I, oI) :: (C, oC) :: (D, lst ys) :: base) → Off3 I C D base → ((@Ne Nat I C) ∧ (@Ne Nat I D) ∧ (@Ne Nat C D)) →
      wpAny (model prog w) A (isTrue ct (compEnvC scope cl C env) (eval ct (compEnvC scope cl C env))) (fun ok s' => if ok = true then
        wpAny (model prog w) A (eval elt (compEnvC scope cl C env)) (CompEnd h₀ L m { { s₁ with heap := g } with heap := h, toks := tk } I oI C oC D (lst ys) (SrcAt h₀ ax its) (fun y n => n = base ∧ P0 (i + 1) (ys ++ [y]))) E' s'
        else CompEnd h₀ L m { { s₁ with heap := g } with heap := h, toks := tk } I oI C oC D (lst ys) (SrcAt h₀ ax its) (fun _ n => n = base ∧ P0 (i + 1) ys) Value.none s') E' { { s₁ with heap := g } with heap := h, toks := tk })
    (fin : ∀ g ys, P0 its.size ys → Fin { s₁ with heap := g } ys base) :
    CompSrcT prog w A h₀ L m env ct elt x scope cl Fin (.ref ax) s₁ :=
  CompSrcT.ledger hh F N hm hsz (fun g => compT_ind (P := fun i ys n => n = base ∧ P0 i ys) (fun i ys n v I oI C oC D m₂ h tk E' hi hp hv hC hx F' N' off ne => by
    obtain ⟨rfl, hp⟩ := hp
    exact step g i ys v I oI C oC D m₂ h tk E' hi hp hv hC hx F' N' off ne) (fun ys n hp => by
    obtain ⟨rfl, hp⟩ := hp
    exact fin g ys hp) _ _ _ _ (Nat.zero_add _) ⟨rfl, h0⟩)
end
def BigsP (i : Nat) (zs : List Value) : Prop := ∃ bs, IntsAre zs bs ∧ bs.length ≤ i
theorem BigsP.push {i : Nat} {zs : List Value} (h : BigsP i zs) (x : Int) (t : Tok) : BigsP (i + 1) (zs ++ [.int x t]) := by
  obtain ⟨bs, hb, hl⟩ := h
  refine ⟨bs ++ [x], ?_, by rw [List.length_append, List.length_singleton]; omega⟩
  clear hl
  induction hb with
  | nil => exact .cons _ _ .nil
  | cons y u r ih => exact .cons _ _ ih
theorem BigsP.keep {i : Nat} {zs : List Value} (h : BigsP i zs) : BigsP (i + 1) zs := by
  obtain ⟨bs, hb, hl⟩ := h
  exact ⟨bs, hb, Nat.le_succ_of_le hl⟩
theorem BigsP.nil : BigsP 0 [] := ⟨[], .nil, Nat.le_refl _⟩
/-- the ledger parted into what will be changed and the rest -/
noncomputable def restOf (muts n : Led0) : Led0 := n.filter fun p => muts.all fun q => decide (p.1 ≠ q.1)
theorem restOf_sub {muts n : Led0} {p : Addr × Obj} (h : p ∈ restOf muts n) : p ∈ n := (List.mem_filter.mp h).1
theorem restOf_ne {muts n : Led0} {p q : Addr × Obj} (h : p ∈ restOf muts n) (hq : q ∈ muts) : p.1 ≠ q.1 := by
  have := List.all_eq_true.mp (List.mem_filter.mp h).2 q hq
  simpa using this
theorem restOf_mem {h₀ h : Heap} {L : Addr} {muts n : Led0} {a : Addr} {o : Obj} (N : News h₀ L h n) (hm : ∀ q ∈ muts, q ∈ n) (hp : (a, o) ∈ n) (hne : ∀ q ∈ muts, q.2 ≠ o) : (a, o) ∈ restOf muts n := by
  refine List.mem_filter.mpr ⟨hp, List.all_eq_true.mpr fun q hq => ?_⟩
  simp only [decide_eq_true_eq]
  intro e
  have h1 := (N _ hp).1
  have h2 := (N _ (hm q hq)).1
  dsimp only at h1 e
  rw [e] at h1
  rw [h1] at h2
  exact hne q hq (Option.some.inj h2).symm
theorem restOf_news {h₀ h : Heap} {L : Addr} {muts n : Led0} (N : News h₀ L h n) (hm : ∀ q ∈ muts, q ∈ n) : News h₀ L h (muts ++ restOf muts n) := fun p hp => by
  rcases List.mem_append.mp hp with h | h
  · exact N p (hm p h)
  · exact N p (restOf_sub h)

end
section
noncomputable def ordS (x : Str) (i : Nat) : List Str := (((Str.ofString "ACHMSs").cps.toList.take i).map fun c => (⟨#[c]⟩ : Str)).filter fun y => !(Builtin.Str.occurrences x y 0 x.length 1).isEmpty
noncomputable def ordF (x : Str) : Str := Txt.join (Str.ofString "") (ordS x 6)
theorem sum_filter {p : Str → Bool} : ∀ l : List Str, ((l.filter p).map (·.length)).sum + (l.filter p).length ≤ (l.map (·.length)).sum + l.length
  | [] => Nat.le_refl _
  | a :: r => by
    have := sum_filter (p := p) r
    rw [List.filter_cons]
    split <;> simp only [List.map_cons, List.sum_cons, List.length_cons] <;> omega
theorem ordS_small (x : Str) : ((ordS x 6).map (·.length)).sum + (ordS x 6).length ≤ 1048576 :=
  Nat.le_trans (sum_filter _) (by decide +kernel)
theorem sA_app : ∀ {a b : List Value} {f g : List Str}, StrsAre a f → StrsAre b g → StrsAre (a ++ b) (f ++ g)
  | _, _, _, _, .nil, h => h
  | _, _, _, _, .cons y t r, h => .cons y t (sA_app r h)
theorem ordS_succ {x : Str} {i c : Nat} (hc : (Str.ofString "ACHMSs").cps[i]? = some c) : ordS x (i + 1) = ordS x i ++ (if (Builtin.Str.occurrences x ⟨#[c]⟩ 0 x.length 1).isEmpty then [] else [⟨#[c]⟩]) := by
  have h : (Str.ofString "ACHMSs").cps.toList[i]? = some c := by rw [Array.getElem?_toList]; exact hc
  unfold ordS
  rw [List.take_add_one, h, List.map_append, List.filter_append]
  congr 1
  cases hq : (Builtin.Str.occurrences x ⟨#[c]⟩ 0 x.length 1).isEmpty <;> simp [hq]
theorem c_ordered (x : Str) (t : Tok) (news : Led) : Ct w mean mg mb 96 3 60 news [.str x t] (fun r n => n = news ∧ ∃ t', r = .str (ordF x) t') := by
  constructor
  k_fill
  intro dp un gd cn cs a ccd cl outer A₀ base h₀ L m s Q E B F X N T hk hd hu hret
  refine wpAny_call ?_
  k_dflt k_enter
  repeat ((fail_if_success (with_reducible show wpAny _ _ (eval (PySem.Expr.ListComp _ _ _ _) _) _ _ _)); walk1)
  k_dflt (refine ListComp_TS (F₀ := by k_asm) (by with_unfolding_all rfl) (by decide) (by rfl) (by decide) (by rfl) ?_)
  repeat ((fail_if_success (with_reducible show ∃ _, _)); first | walk1 | (dsimp only; walk1))
  refine ⟨Str.ofString "ACHMSs", _, _, rfl, by with_unfolding_all rfl, by k_asm, by k_asm, Nat.le_of_ble_eq_true rfl, fun s₂ hs₂ => ?_⟩
  obtain ⟨g9, e9⟩ := hs₂
  subst e9
  rw [show (Str.ofString "ACHMSs").cps.size = 6 from by decide]
  refine compT_ind (P := fun i ys n => n = (_, _) :: news ∧ StrsAre ys (ordS x i)) ?_ ?_ _ _ _ _ (Nat.zero_add _) ⟨rfl, .nil⟩
  · intro i ys n8 v I oI C oC D m8 h8 tk8 E8 hi8 hp8 hv8 hC8 hx8 F8 N8 off8 ne8
    obtain ⟨e8, hys⟩ := hp8
    subst e8
    obtain ⟨c8, t8, hc8, e8⟩ := hv8
    subst e8
    k_steps
    · rw [ordS_succ hc8, if_pos (by assumption), List.append_nil]; exact hys
    · rw [ordS_succ hc8, if_neg (by rename _ = false => h9; rw [h9]; decide)]; exact sA_app hys (.cons _ _ .nil)
  · intro ys n8 hp8
    obtain ⟨e8, hys⟩ := hp8
    subst e8
    repeat ((fail_if_success (with_reducible show wpAny _ _ (call (Value.builtin "str.join") _) _ _ _)); walk1)
    (with_reducible rename News _ _ _ _ => N9)
    refine join_listW (News.isList N9 (.head _)) hys (by decide) (ordS_small x) ?_
    intro t9 k9
    k_whole; (try dsimp only)
    k_steps
    (with_reducible rename News h₀ _ _ _ => N7)
    exact hret _ _ _ _ (by k_asm) (ndrop (ndrop N7)) ⟨rfl, _, rfl⟩
theorem ordF_C : ordF (Str.ofString "C") = Str.ofString "C" := by decide +kernel
theorem ordF_M : ordF (Str.ofString "M") = Str.ofString "M" := by decide +kernel
theorem ordF_CM : ordF (Str.ofString "CM") = Str.ofString "CM" := by decide +kernel
theorem ordF_CS : ordF (Str.ofString "CS") = Str.ofString "CS" := by decide +kernel
theorem ordF_nil : ordF (Str.ofString "") = Str.ofString "" := by decide +kernel
theorem c_ordered_C {w : World} {mean : ExcName → Option Value} {mg mb : Str → Option Value} (t : Tok) (news : Led) : Ct w mean mg mb 96 3 60 news [.str (Str.ofString "C") t] (fun r n => n = news ∧ ∃ t', r = .str (Str.ofString "C") t') := by
  have := c_ordered (w := w) (mean := mean) (mg := mg) (mb := mb) (Str.ofString "C") t news
  rwa [ordF_C] at this
theorem c_ordered_M {w : World} {mean : ExcName → Option Value} {mg mb : Str → Option Value} (t : Tok) (news : Led) : Ct w mean mg mb 96 3 60 news [.str (Str.ofString "M") t] (fun r n => n = news ∧ ∃ t', r = .str (Str.ofString "M") t') := by
  have := c_ordered (w := w) (mean := mean) (mg := mg) (mb := mb) (Str.ofString "M") t news
  rwa [ordF_M] at this
theorem c_ordered_CM {w : World} {mean : ExcName → Option Value} {mg mb : Str → Option Value} (t : Tok) (news : Led) : Ct w mean mg mb 96 3 60 news [.str (Str.ofString "CM") t] (fun r n => n = news ∧ ∃ t', r = .str (Str.ofString "CM") t') := by
  have := c_ordered (w := w) (mean := mean) (mg := mg) (mb := mb) (Str.ofString "CM") t news
  rwa [ordF_CM] at this
theorem c_ordered_CS {w : World} {mean : ExcName → Option Value} {mg mb : Str → Option Value} (t : Tok) (news : Led) : Ct w mean mg mb 96 3 60 news [.str (Str.ofString "CS") t] (fun r n => n = news ∧ ∃ t', r = .str (Str.ofString "CS") t') := by
  have := c_ordered (w := w) (mean := mean) (mg := mg) (mb := mb) (Str.ofString "CS") t news
  rwa [ordF_CS] at this
theorem c_ordered_nil {w : World} {mean : ExcName → Option Value} {mg mb : Str → Option Value} (t : Tok) (news : Led) : Ct w mean mg mb 96 3 60 news [.str (Str.ofString "") t] (fun r n => n = news ∧ ∃ t', r = .str (Str.ofString "") t') := by
  have := c_ordered (w := w) (mean := mean) (mg := mg) (mb := mb) (Str.ofString "") t news
  rwa [ordF_nil] at this
def ncF : List (Int × Str) → Str → Option Int
  | [], _ => none
  | a :: r, x => if (a.2 == x) = true then some a.1 else ncF r x
noncomputable def NC : List (Int × Str) := [(0, Str.ofString "NUL"), (9, Str.ofString "TAB"), (10, Str.ofString "LFD"), (13, Str.ofString "RET"), (27, Str.ofString "ESC"), (32, Str.ofString "SPC"), (127, Str.ofString "DEL")]
noncomputable def cnF (x : Str) : Option Int := ncF NC x
def CnOut : Option Int → Value → Prop
  | some c, r => ∃ t', r = .int c t'
  | none, r => r = .none
def NcT (g : Heap) (v : Value) (y : Int × Str) : Prop := ∃ a t u, v = .ref a ∧ PyProof.Rows.IsTup g a #[.int y.1 t, .str y.2 u]
theorem ncO_pos {y : Int × Str} {l : List (Int × Str)} {x : Str} {o : Option Int} {u : Tok} (h : (y.2 == x) = true) (hy : ncF (y :: l) x = o) : CnOut o (.int y.1 u) := by
  rw [← hy, ncF, if_pos h]; exact ⟨_, rfl⟩
theorem ncF_neg {y : Int × Str} {l : List (Int × Str)} {x : Str} {o : Option Int} (h : (y.2 == x) = false) (hy : ncF (y :: l) x = o) : ncF l x = o := by
  rw [← hy, ncF, h]; rfl
section
local macro_rules | `(tactic| walk_at "eval Name") => `(tactic| (k_here; k_dflt (refine' ld (by k_asm) (by ((try dsimp only); (repeat (refine (if_neg (by decide)).trans ?_)); first | assumption | exact if_pos rfl)) ?_; k_whole)))
theorem c_cn (x : Str) (t : Tok) (news : Led) : Ct w mean mg mb 193 3 60 news [.str x t] (fun r n => n = news ∧ CnOut (cnF x) r) := by
  constructor
  k_fill
  intro dp un gd cn cs a ccd cl outer A₀ base h₀ L m s Q E B F X N T hk hd hu hret
  refine wpAny_call ?_
  k_dflt k_enter
  repeat ((fail_if_success (with_reducible show ItemsRest _ _ _ _ _ _ _ _ _ _ _ _ _ _ _)); first | (k_unfold; (try dsimp only)) | walk1)
  have hA : All2 (NcT zg') [Value.ref 179, Value.ref 180, Value.ref 181, Value.ref 182, Value.ref 183, Value.ref 184, Value.ref 185] NC := by
    repeat (first | exact .nil | refine .cons ⟨_, _, _, rfl, ⟨_, zX' _ _ (by k_is), rfl, _, rfl⟩⟩ ?_)
  refine items_ind (R := NcT zg') (P := fun r m n => n = news ∧ m (Str.ofString "name") = some (.str x t) ∧ ncF r x = cnF x) ?_ ?_ hA _ _ ⟨rfl, by rfl, rfl⟩
  · intro y r v m1 n1 o2 h2 tk2 hp hv F6 N6
    obtain ⟨e1, hm, hy⟩ := hp
    obtain ⟨a1, t1, u1, ev, T1⟩ := hv
    subst ev; subst e1
    have T2 := T1.keeps F6.keep
    clear T1 hA
    k_whole; (try dsimp only)
    k_steps
    · exact hret _ _ _ _ (by k_asm) (ndrop (by assumption)) ⟨rfl, ncO_pos (by assumption) hy⟩
    · exact ncF_neg (by assumption) hy
  · intro m1 n1 h2 tk2 hp F6 N6
    obtain ⟨e1, hm, hy⟩ := hp
    subst e1
    clear hA
    k_whole; (try dsimp only)
    k_steps
    exact hret _ _ _ _ (by k_asm) (by with_reducible assumption) ⟨rfl, by rw [← hy]; rfl⟩
end
theorem c_cn_some {w : World} {mean : ExcName → Option Value} {mg mb : Str → Option Value} {x : Str} {c : Int} (h : cnF x = some c := by walk_at "pr") (t : Tok) (news : Led) : Ct w mean mg mb 193 3 60 news [.str x t] (fun r n => n = news ∧ ∃ t', r = .int c t') := by
  have := c_cn (w := w) (mean := mean) (mg := mg) (mb := mb) x t news
  rw [h] at this
  exact this
theorem c_cn_none {w : World} {mean : ExcName → Option Value} {mg mb : Str → Option Value} {x : Str} (h : cnF x = none := by walk_at "pr") (t : Tok) (news : Led) : Ct w mean mg mb 193 3 60 news [.str x t] (fun r n => n = news ∧ r = .none) := by
  have := c_cn (w := w) (mean := mean) (mg := mg) (mb := mb) x t news
  rw [h] at this
  exact this
theorem c_is_sign_i (x : Int) (t : Tok) (news : Led) : Ct w mean mg mb 84 3 60 news [.int x t] (fun r n => n = news ∧ r = .bool true) := by
  constructor
  k_fill
  intro dp un gd cn cs a ccd cl outer A₀ base h₀ L m s Q E B F X N T hk hd hu hret
  refine wpAny_call ?_
  k_dflt k_enter
  repeat' ((fail_if_success (with_reducible show Q _ _)); first | (k_unfold; (try dsimp only)) | walk1 | (dsimp only; walk1) | (leave1; try dsimp only) | (k_end; wrow_close))
  all_goals exact hret _ _ _ _ (by k_asm) (by first | with_reducible assumption | assumption | exact ndrop (by assumption) | exact ndrop (ndrop (by assumption)) | exact ndrop (ndrop (ndrop (by assumption))) | exact ndrop (ndrop (ndrop (ndrop (by assumption))))) ⟨rfl, rfl⟩
theorem c_is_sign_s (x : Str) (t : Tok) (news : Led) : Ct w mean mg mb 84 3 60 news [.str x t] (fun r n => n = news ∧ r = .bool false) := by
  constructor
  k_fill
  intro dp un gd cn cs a ccd cl outer A₀ base h₀ L m s Q E B F X N T hk hd hu hret
  refine wpAny_call ?_
  k_dflt k_enter
  repeat' ((fail_if_success (with_reducible show Q _ _)); first | (k_unfold; (try dsimp only)) | walk1 | (dsimp only; walk1) | (leave1; try dsimp only) | (k_end; wrow_close))
  all_goals exact hret _ _ _ _ (by k_asm) (by first | with_reducible assumption | assumption | exact ndrop (by assumption) | exact ndrop (ndrop (by assumption)) | exact ndrop (ndrop (ndrop (by assumption))) | exact ndrop (ndrop (ndrop (ndrop (by assumption))))) ⟨rfl, rfl⟩
theorem c_code_of (x : Int) (t : Tok) (hx : 0 ≤ x ∧ x < 4194304 := by walk_at "pa") (news : Led) : Ct w mean mg mb 103 3 60 news [.int x t] (fun r n => n = news ∧ ∃ t', r = .int x t') := by
  constructor
  k_fill
  intro dp un gd cn cs a ccd cl outer A₀ base h₀ L m s Q E B F X N T hk hd hu hret
  refine wpAny_call ?_
  k_dflt k_enter
  repeat' ((fail_if_success (with_reducible show Q _ _)); first | (k_unfold; (try dsimp only)) | walk1 | (dsimp only; walk1) | (leave1; try dsimp only) | (k_end; wrow_close))
  all_goals exact hret _ _ _ _ (by k_asm) (by first | with_reducible assumption | assumption | exact ndrop (by assumption) | exact ndrop (ndrop (by assumption)) | exact ndrop (ndrop (ndrop (by assumption))) | exact ndrop (ndrop (ndrop (ndrop (by assumption))))) ⟨rfl, _, by rw [fmod_small hx.1 hx.2]⟩
theorem c_bits_of (x : Int) (t : Tok) (hx : 0 ≤ x ∧ x < 4194304 := by walk_at "pa") (news : Led) : Ct w mean mg mb 110 3 60 news [.int x t] (fun r n => n = news ∧ ∃ t', r = .int 0 t') := by
  constructor
  k_fill
  intro dp un gd cn cs a ccd cl outer A₀ base h₀ L m s Q E B F X N T hk hd hu hret
  refine wpAny_call ?_
  k_dflt k_enter
  repeat' ((fail_if_success (with_reducible show Q _ _)); first | (k_unfold; (try dsimp only)) | walk1 | (dsimp only; walk1) | (leave1; try dsimp only) | (k_end; wrow_close))
  all_goals exact hret _ _ _ _ (by k_asm) (by first | with_reducible assumption | assumption | exact ndrop (by assumption) | exact ndrop (ndrop (by assumption)) | exact ndrop (ndrop (ndrop (by assumption))) | exact ndrop (ndrop (ndrop (ndrop (by assumption))))) ⟨rfl, _, by rw [fmod_small hx.1 hx.2, Int.sub_self]⟩
theorem c_has_cc (x : Int) (t : Tok) (news : Led) : Ct w mean mg mb 129 3 60 news [.int x t] (fun r n => n = news ∧ r = .bool (decide ((64 ≤ x ∧ x ≤ 95) ∨ (97 ≤ x ∧ x ≤ 122)))) := by
  constructor
  k_fill
  intro dp un gd cn cs a ccd cl outer A₀ base h₀ L m s Q E B F X N T hk hd hu hret
  refine wpAny_call ?_
  k_dflt k_enter
  repeat' ((fail_if_success (with_reducible show Q _ _)); first | (k_unfold; (try dsimp only)) | walk1 | (dsimp only; walk1) | (leave1; try dsimp only) | (k_end; wrow_close))
  all_goals exact hret _ _ _ _ (by k_asm) (by first | with_reducible assumption | assumption | exact ndrop (by assumption) | exact ndrop (ndrop (by assumption)) | exact ndrop (ndrop (ndrop (by assumption))) | exact ndrop (ndrop (ndrop (ndrop (by assumption))))) ⟨rfl, congrArg Value.bool (by rw [decide_eq_decide]; omega)⟩
theorem c_is_great (x : Int) (t : Tok) (news : Led) : Ct w mean mg mb 136 3 60 news [.int x t] (fun r n => n = news ∧ r = .bool (decide (65 ≤ x ∧ x ≤ 90))) := by
  constructor
  k_fill
  intro dp un gd cn cs a ccd cl outer A₀ base h₀ L m s Q E B F X N T hk hd hu hret
  refine wpAny_call ?_
  k_dflt k_enter
  repeat' ((fail_if_success (with_reducible show Q _ _)); first | (k_unfold; (try dsimp only)) | walk1 | (dsimp only; walk1) | (leave1; try dsimp only) | (k_end; wrow_close))
  all_goals exact hret _ _ _ _ (by k_asm) (by first | with_reducible assumption | assumption | exact ndrop (by assumption) | exact ndrop (ndrop (by assumption)) | exact ndrop (ndrop (ndrop (by assumption))) | exact ndrop (ndrop (ndrop (ndrop (by assumption))))) ⟨rfl, congrArg Value.bool (by rw [decide_eq_decide]; omega)⟩
theorem c_bit_M (t : Tok) (news : Led) : Ct w mean mg mb 91 3 60 news [.str (Str.ofString "M") t] (fun r n => n = news ∧ ∃ t', r = .int 134217728 t') := by
  constructor
  k_fill
  intro dp un gd cn cs a ccd cl outer A₀ base h₀ L m s Q E B F X N T hk hd hu hret
  refine wpAny_call ?_
  k_dflt k_enter
  repeat' ((fail_if_success (with_reducible show Q _ _)); first | (k_unfold; (try dsimp only)) | walk1 | (dsimp only; walk1) | (leave1; try dsimp only) | (k_end; wrow_close))
  all_goals exact hret _ _ _ _ (by k_asm) (by first | with_reducible assumption | assumption | exact ndrop (by assumption) | exact ndrop (ndrop (by assumption)) | exact ndrop (ndrop (ndrop (by assumption))) | exact ndrop (ndrop (ndrop (ndrop (by assumption))))) ⟨rfl, _, by with_unfolding_all rfl⟩
theorem c_bit_S (t : Tok) (news : Led) : Ct w mean mg mb 91 3 60 news [.str (Str.ofString "S") t] (fun r n => n = news ∧ ∃ t', r = .int 33554432 t') := by
  constructor
  k_fill
  intro dp un gd cn cs a ccd cl outer A₀ base h₀ L m s Q E B F X N T hk hd hu hret
  refine wpAny_call ?_
  k_dflt k_enter
  repeat' ((fail_if_success (with_reducible show Q _ _)); first | (k_unfold; (try dsimp only)) | walk1 | (dsimp only; walk1) | (leave1; try dsimp only) | (k_end; wrow_close))
  all_goals exact hret _ _ _ _ (by k_asm) (by first | with_reducible assumption | assumption | exact ndrop (by assumption) | exact ndrop (ndrop (by assumption)) | exact ndrop (ndrop (ndrop (by assumption))) | exact ndrop (ndrop (ndrop (ndrop (by assumption))))) ⟨rfl, _, by with_unfolding_all rfl⟩
theorem c_code_ofD (t : Tok) (news : Led) : Ct w mean mg mb 103 3 60 news [.int (ctl 127) t] (fun r n => n = news ∧ ∃ t', r = .int 127 t') := by
  constructor
  k_fill
  intro dp un gd cn cs a ccd cl outer A₀ base h₀ L m s Q E B F X N T hk hd hu hret
  refine wpAny_call ?_
  k_dflt k_enter
  repeat' ((fail_if_success (with_reducible show Q _ _)); first | (k_unfold; (try dsimp only)) | walk1 | (dsimp only; walk1) | (leave1; try dsimp only) | (k_end; wrow_close))
  all_goals exact hret _ _ _ _ (by k_asm) (by first | with_reducible assumption | assumption | exact ndrop (by assumption) | exact ndrop (ndrop (by assumption)) | exact ndrop (ndrop (ndrop (by assumption))) | exact ndrop (ndrop (ndrop (ndrop (by assumption))))) ⟨rfl, _, intEq (by decide +kernel)⟩
theorem c_bits_ofD (t : Tok) (news : Led) : Ct w mean mg mb 110 3 60 news [.int (ctl 127) t] (fun r n => n = news ∧ ∃ t', r = .int 67108864 t') := by
  constructor
  k_fill
  intro dp un gd cn cs a ccd cl outer A₀ base h₀ L m s Q E B F X N T hk hd hu hret
  refine wpAny_call ?_
  k_dflt k_enter
  rw [show ctl 127 = 67108991 from by decide +kernel]
  repeat' ((fail_if_success (with_reducible show Q _ _)); first | (k_unfold; (try dsimp only)) | walk1 | (dsimp only; walk1) | (leave1; try dsimp only) | (k_end; wrow_close))
  all_goals exact hret _ _ _ _ (by k_asm) (by first | with_reducible assumption | assumption | exact ndrop (by assumption) | exact ndrop (ndrop (by assumption)) | exact ndrop (ndrop (ndrop (by assumption))) | exact ndrop (ndrop (ndrop (ndrop (by assumption))))) ⟨rfl, _, intEq (by decide +kernel)⟩
theorem c_times_g (x : Str) (c0 k : Nat) (t : Tok) (hn : x.length = k) (h0 : 0 < (k : Int)) (hb : Nat.blt k (2 ^ 62) = true) (hc : x.cps[0]? = some c0) (hd9 : Is (Builtin.Str.occurrences (Str.ofString "0123456789") (Str.mk #[c0]) 0 (Str.ofString "0123456789").length 1).isEmpty true) (news : Led) : Ct w mean mg mb 228 3 80 news [.str x t] (fun r n => ∃ l o, r = .ref l ∧ n = (l, o) :: news ∧ (∀ p ∈ news, p.1 < l) ∧ ∃ a b, o = { cls := .type "tuple", data := .seq #[.int 1 a, .str x b] }) := by
  constructor
  k_fill
  intro dp un gd cn cs a ccd cl outer A₀ base h₀ L m s Q E B F X N T hk hd hu hret
  refine wpAny_call ?_
  k_dflt k_enter
  repeat' ((fail_if_success (with_reducible show Q _ _)); first | (k_unfold; (try dsimp only)) | walk1 | (dsimp only; walk1) | (leave1; try dsimp only) | (k_end; wrow_close))
  all_goals exact hret _ _ _ _ (by k_asm) (by k_asm) ⟨_, _, rfl, rfl, by assumption, _, _, rfl⟩
theorem c_iscmd_g (x : Str) (k : Nat) (t : Tok) (hn : x.length = k) (h0 : ¬ 4 < (k : Int)) (hb : Nat.blt k (2 ^ 62) = true) (news : Led) : Ct w mean mg mb 242 3 80 news [.str x t] (fun r n => n = news ∧ r = .bool false) := by
  constructor
  k_fill
  intro dp un gd cn cs a ccd cl outer A₀ base h₀ L m s Q E B F X N T hk hd hu hret
  refine wpAny_call ?_
  k_dflt k_enter
  repeat' ((fail_if_success (with_reducible show Q _ _)); first | (k_unfold; (try dsimp only)) | walk1 | (dsimp only; walk1) | (leave1; try dsimp only) | (k_end; wrow_close))
  all_goals exact hret _ _ _ _ (by k_asm) (by first | with_reducible assumption | assumption | exact ndrop (by assumption) | exact ndrop (ndrop (by assumption)) | exact ndrop (ndrop (ndrop (by assumption))) | exact ndrop (ndrop (ndrop (ndrop (by assumption))))) ⟨rfl, congrArg Value.bool (decide_eq_false h0)⟩
theorem c_iscmd_h (x : Str) (k : Nat) (t : Tok) (hn : x.length = k) (h0 : 4 < (k : Int)) (hb : Nat.blt k (2 ^ 62) = true) (hz : x.length ≤ sizeLine) (h2 : Is ((Txt.slice x none (some 2) == Str.ofString "<<")) false) (news : Led) : Ct w mean mg mb 242 3 80 news [.str x t] (fun r n => n = news ∧ r = .bool false) := by
  constructor
  k_fill
  intro dp un gd cn cs a ccd cl outer A₀ base h₀ L m s Q E B F X N T hk hd hu hret
  refine wpAny_call ?_
  k_dflt k_enter
  repeat' ((fail_if_success (with_reducible show Q _ _)); first | (k_unfold; (try dsimp only)) | walk1 | (dsimp only; walk1) | (leave1; try dsimp only) | (k_end; wrow_close))
  all_goals exact hret _ _ _ _ (by k_asm) (by first | with_reducible assumption | assumption | exact ndrop (by assumption) | exact ndrop (ndrop (by assumption)) | exact ndrop (ndrop (ndrop (by assumption))) | exact ndrop (ndrop (ndrop (ndrop (by assumption))))) ⟨rfl, congrArg Value.bool h2⟩
theorem c_isang_g (x : Str) (k c0 : Nat) (t : Tok) (hn : x.length = k) (h0 : 2 < (k : Int)) (hb : Nat.blt k (2 ^ 62) = true) (hc : x.cps[0]? = some c0) (h2 : Is ((Str.mk #[c0] == Str.ofString "<")) false) (news : Led) : Ct w mean mg mb 249 3 80 news [.str x t] (fun r n => n = news ∧ r = .bool false) := by
  constructor
  k_fill
  intro dp un gd cn cs a ccd cl outer A₀ base h₀ L m s Q E B F X N T hk hd hu hret
  refine wpAny_call ?_
  k_dflt k_enter
  repeat' ((fail_if_success (with_reducible show Q _ _)); first | (k_unfold; (try dsimp only)) | walk1 | (dsimp only; walk1) | (leave1; try dsimp only) | (k_end; wrow_close))
  all_goals exact hret _ _ _ _ (by k_asm) (by first | with_reducible assumption | assumption | exact ndrop (by assumption) | exact ndrop (ndrop (by assumption)) | exact ndrop (ndrop (ndrop (by assumption))) | exact ndrop (ndrop (ndrop (ndrop (by assumption))))) ⟨rfl, congrArg Value.bool h2⟩
theorem c_isang_h (x : Str) (k c0 c1 : Nat) (t : Tok) (hn : x.length = k) (h0 : 2 < (k : Int)) (hb : Nat.blt k (2 ^ 62) = true) (hc : x.cps[0]? = some c0) (h2 : Is ((Str.mk #[c0] == Str.ofString "<")) true) (hz : LastIs x c1) (h3 : Is ((Str.mk #[c1] == Str.ofString ">")) true) (news : Led) : Ct w mean mg mb 249 3 80 news [.str x t] (fun r n => n = news ∧ r = .bool true) := by
  constructor
  k_fill
  intro dp un gd cn cs a ccd cl outer A₀ base h₀ L m s Q E B F X N T hk hd hu hret
  refine wpAny_call ?_
  k_dflt k_enter
  repeat' ((fail_if_success (with_reducible show Q _ _)); first | (k_unfold; (try dsimp only)) | walk1 | (dsimp only; walk1) | (leave1; try dsimp only) | (k_end; wrow_close))
  all_goals exact hret _ _ _ _ (by k_asm) (by first | with_reducible assumption | assumption | exact ndrop (by assumption) | exact ndrop (ndrop (by assumption)) | exact ndrop (ndrop (ndrop (by assumption))) | exact ndrop (ndrop (ndrop (ndrop (by assumption))))) ⟨rfl, congrArg Value.bool h3⟩
theorem c_times_1 (c : Nat) (t : Tok) (news : Led) : Ct w mean mg mb 228 3 80 news [.str (Str.mk #[c]) t] (fun r n => ∃ l o, r = .ref l ∧ n = (l, o) :: news ∧ (∀ p ∈ news, p.1 < l) ∧ ∃ a b, o = { cls := .type "tuple", data := .seq #[.int 1 a, .str (Str.mk #[c]) b] }) := by
  constructor
  k_fill
  intro dp un gd cn cs a ccd cl outer A₀ base h₀ L m s Q E B F X N T hk hd hu hret
  refine wpAny_call ?_
  k_dflt k_enter
  repeat' ((fail_if_success (with_reducible show Q _ _)); first | (k_unfold; (try dsimp only)) | walk1 | (dsimp only; walk1) | (leave1; try dsimp only) | (k_end; wrow_close))
  all_goals exact hret _ _ _ _ (by k_asm) (by k_asm) ⟨_, _, rfl, rfl, by assumption, _, _, rfl⟩
theorem c_isang_1 (c : Nat) (t : Tok) (news : Led) : Ct w mean mg mb 249 3 80 news [.str (Str.mk #[c]) t] (fun r n => n = news ∧ r = .bool false) := by
  constructor
  k_fill
  intro dp un gd cn cs a ccd cl outer A₀ base h₀ L m s Q E B F X N T hk hd hu hret
  refine wpAny_call ?_
  k_dflt k_enter
  repeat' ((fail_if_success (with_reducible show Q _ _)); first | (k_unfold; (try dsimp only)) | walk1 | (dsimp only; walk1) | (leave1; try dsimp only) | (k_end; wrow_close))
  all_goals exact hret _ _ _ _ (by k_asm) (by first | with_reducible assumption | assumption | exact ndrop (by assumption) | exact ndrop (ndrop (by assumption)) | exact ndrop (ndrop (ndrop (by assumption))) | exact ndrop (ndrop (ndrop (ndrop (by assumption))))) ⟨rfl, congrArg Value.bool (by with_unfolding_all rfl)⟩
theorem c_signs_1 (c : Nat) (t : Tok) (news : Led) : Ct w mean mg mb 254 3 80 news [.str (Str.mk #[c]) t] (fun r n => ∃ l o, r = .ref l ∧ n = (l, o) :: news ∧ (∀ p ∈ news, p.1 ≠ l) ∧ ∃ a b, o = { cls := .type "list", data := .seq #[.int (c : Int) a] b }) := by
  constructor
  k_fill
  intro dp un gd cn cs a ccd cl outer A₀ base h₀ L m s Q E B F X N T hk hd hu hret
  refine wpAny_call ?_
  k_dflt k_enter
  repeat ((fail_if_success (with_reducible show wpAny _ _ (eval (PySem.Expr.ListComp _ _ _ _) _) _ _ _)); walk1)
  k_dflt (refine ListComp_US (F₀ := by k_asm) (by with_unfolding_all rfl) (by decide) (by rfl) (by decide) (by rfl) ?_)
  repeat ((fail_if_success (with_reducible show ∃ _, _)); first | walk1 | (dsimp only; walk1))
  refine ⟨_, _, _, rfl, by with_unfolding_all rfl, by k_asm, by k_asm, Nat.le_of_ble_eq_true rfl, fun s₂ hs₂ => ?_⟩
  obtain ⟨g9, e9⟩ := hs₂
  subst e9
  rw [show (Str.mk #[c]).cps.size = 1 from rfl]
  repeat' ((fail_if_success (with_reducible show Q _ _)); first | (k_unfold; (try dsimp only)) | walk1 | (dsimp only; walk1) | (leave1; try dsimp only) | (k_end; wrow_close))
  all_goals exact hret _ _ _ _ (by k_asm) (by k_asm) ⟨_, _, rfl, rfl, off1_ne (by assumption), _, _, rfl⟩
theorem c_la_s (c0 c : Nat) (hin : Is (Builtin.Str.occurrences (Str.ofString "ACHMSs") (Str.mk #[c0]) 0 (Str.ofString "ACHMSs").length 1).isEmpty false) (t : Tok) (news : Led) : Ct w mean mg mb 235 4 120 news [.str (Str.mk #[c0, 45, c]) t] (fun r n => ∃ l o, r = .ref l ∧ n = (l, o) :: news ∧ (∀ p ∈ news, p.1 < l) ∧ ∃ a b, o = { cls := .type "tuple", data := .seq #[.str (Str.mk #[c0]) a, .str (Str.mk #[c]) b] }) := by
  constructor
  k_fill
  intro dp un gd cn cs a ccd cl outer A₀ base h₀ L m s Q E B F X N T hk hd hu hret
  refine wpAny_call ?_
  k_dflt k_enter
  repeat' ((fail_if_success (with_reducible show Q _ _)); first | (k_unfold; (try dsimp only)) | walk1 | (dsimp only; walk1) | (leave1; try dsimp only) | (k_end; wrow_close))
  all_goals exact hret _ _ _ _ (by k_asm) (by k_asm) ⟨_, _, rfl, rfl, by assumption, _, _, by with_unfolding_all rfl⟩
theorem c_la_t (c0 c1 c2 c3 : Nat) (hin : Is (Builtin.Str.occurrences (Str.ofString "ACHMSs") (Str.mk #[c0]) 0 (Str.ofString "ACHMSs").length 1).isEmpty false) (hne : Is (Str.mk #[c2] == Str.ofString "-") false) (t : Tok) (news : Led) : Ct w mean mg mb 235 4 120 news [.str (Str.mk #[c0, 45, c1, c2, c3]) t] (fun r n => ∃ l o, r = .ref l ∧ n = (l, o) :: news ∧ (∀ p ∈ news, p.1 < l) ∧ ∃ a b, o = { cls := .type "tuple", data := .seq #[.str (Str.mk #[c0]) a, .str (Str.mk #[c1, c2, c3]) b] }) := by
  constructor
  k_fill
  intro dp un gd cn cs a ccd cl outer A₀ base h₀ L m s Q E B F X N T hk hd hu hret
  refine wpAny_call ?_
  k_dflt k_enter
  repeat' ((fail_if_success (with_reducible show Q _ _)); first | (k_unfold; (try dsimp only)) | walk1 | (dsimp only; walk1) | (leave1; try dsimp only) | (k_end; wrow_close))
  all_goals exact hret _ _ _ _ (by k_asm) (by k_asm) ⟨_, _, rfl, rfl, by assumption, _, _, by with_unfolding_all rfl⟩
theorem c_la_CM (c : Nat) (t : Tok) (news : Led) : Ct w mean mg mb 235 4 120 news [.str (Str.mk #[67, 45, 77, 45, c]) t] (fun r n => ∃ l o, r = .ref l ∧ n = (l, o) :: news ∧ (∀ p ∈ news, p.1 < l) ∧ ∃ a b, o = { cls := .type "tuple", data := .seq #[.str (Str.ofString "CM") a, .str (Str.mk #[c]) b] }) := by
  constructor
  k_fill
  intro dp un gd cn cs a ccd cl outer A₀ base h₀ L m s Q E B F X N T hk hd hu hret
  refine wpAny_call ?_
  k_dflt k_enter
  repeat' ((fail_if_success (with_reducible show Q _ _)); first | (k_unfold; (try dsimp only)) | walk1 | (dsimp only; walk1) | (leave1; try dsimp only) | (k_end; wrow_close))
  all_goals exact hret _ _ _ _ (by k_asm) (by k_asm) ⟨_, _, rfl, rfl, by assumption, _, _, by with_unfolding_all rfl⟩
theorem c_la_1 (c : Nat) (t : Tok) (news : Led) : Ct w mean mg mb 235 4 120 news [.str (Str.mk #[c]) t] (fun r n => ∃ l o, r = .ref l ∧ n = (l, o) :: news ∧ (∀ p ∈ news, p.1 < l) ∧ ∃ a b, o = { cls := .type "tuple", data := .seq #[.str (Str.ofString "") a, .str (Str.mk #[c]) b] }) := by
  constructor
  k_fill
  intro dp un gd cn cs a ccd cl outer A₀ base h₀ L m s Q E B F X N T hk hd hu hret
  refine wpAny_call ?_
  k_dflt k_enter
  repeat' ((fail_if_success (with_reducible show Q _ _)); first | (k_unfold; (try dsimp only)) | walk1 | (dsimp only; walk1) | (leave1; try dsimp only) | (k_end; wrow_close))
  all_goals exact hret _ _ _ _ (by k_asm) (by k_asm) ⟨_, _, rfl, rfl, by assumption, _, _, by with_unfolding_all rfl⟩
theorem c_la_C_S_DEL (t : Tok) (news : Led) : Ct w mean mg mb 235 4 120 news [.str (Str.mk #[67, 45, 83, 45, 68, 69, 76]) t] (fun r n => ∃ l o, r = .ref l ∧ n = (l, o) :: news ∧ (∀ p ∈ news, p.1 < l) ∧ ∃ a b, o = { cls := .type "tuple", data := .seq #[.str (Str.ofString "CS") a, .str (Str.mk #[68, 69, 76]) b] }) := by
  constructor
  k_fill
  intro dp un gd cn cs a ccd cl outer A₀ base h₀ L m s Q E B F X N T hk hd hu hret
  refine wpAny_call ?_
  k_dflt k_enter
  repeat' ((fail_if_success (with_reducible show Q _ _)); first | (k_unfold; (try dsimp only)) | walk1 | (dsimp only; walk1) | (leave1; try dsimp only) | (k_end; wrow_close))
  all_goals exact hret _ _ _ _ (by k_asm) (by k_asm) ⟨_, _, rfl, rfl, by assumption, _, _, by with_unfolding_all rfl⟩
theorem c_la_g (x : Str) (k c1 : Nat) (t : Tok) (hn : x.length = k) (h0 : 2 < (k : Int)) (hb : Nat.blt k (2 ^ 62) = true) (hc : x.cps[1]? = some c1) (h2 : Is ((Str.mk #[c1] == Str.ofString "-")) false) (news : Led) : Ct w mean mg mb 235 4 120 news [.str x t] (fun r n => ∃ l o, r = .ref l ∧ n = (l, o) :: news ∧ (∀ p ∈ news, p.1 < l) ∧ ∃ a b, o = { cls := .type "tuple", data := .seq #[.str (Str.ofString "") a, .str x b] }) := by
  constructor
  k_fill
  intro dp un gd cn cs a ccd cl outer A₀ base h₀ L m s Q E B F X N T hk hd hu hret
  refine wpAny_call ?_
  k_dflt k_enter
  repeat' ((fail_if_success (with_reducible show Q _ _)); first | (k_unfold; (try dsimp only)) | walk1 | (dsimp only; walk1) | (leave1; try dsimp only) | (k_end; wrow_close))
  all_goals exact hret _ _ _ _ (by k_asm) (by k_asm) ⟨_, _, rfl, rfl, by assumption, _, _, rfl⟩
local macro_rules | `(tactic| walk_at "call ref") => `(tactic| ktn_call 84 c_is_sign_i)
local macro_rules | `(tactic| walk_at "call ref") => `(tactic| ktn_call 84 c_is_sign_s)
local macro_rules | `(tactic| walk_at "call ref") => `(tactic| ktr_call 103 c_code_of)
local macro_rules | `(tactic| walk_at "call ref") => `(tactic| ktr_call 110 c_bits_of)
local macro_rules | `(tactic| walk_at "call ref") => `(tactic| ktn_call 129 c_has_cc)
local macro_rules | `(tactic| walk_at "call ref") => `(tactic| ktn_call 136 c_is_great)
local macro_rules | `(tactic| walk_at "call ref") => `(tactic| ktr_call 91 c_bit_M)
local macro_rules | `(tactic| walk_at "call ref") => `(tactic| ktr_call 91 c_bit_S)
local macro_rules | `(tactic| walk_at "call ref") => `(tactic| ktr_call 96 c_ordered_C)
local macro_rules | `(tactic| walk_at "call ref") => `(tactic| ktr_call 96 c_ordered_M)
local macro_rules | `(tactic| walk_at "call ref") => `(tactic| ktr_call 96 c_ordered_CM)
local macro_rules | `(tactic| walk_at "call ref") => `(tactic| ktr_call 96 c_ordered_CS)
local macro_rules | `(tactic| walk_at "call ref") => `(tactic| ktr_call 96 c_ordered_nil)
local macro_rules | `(tactic| walk_at "call ref") => `(tactic| ktr_call 103 c_code_ofD)
local macro_rules | `(tactic| walk_at "call ref") => `(tactic| ktr_call 110 c_bits_ofD)
theorem c_with_control (x : Int) (t : Tok) (hx : 0 ≤ x ∧ x < 128 := by walk_at "pa") (news : Led) : Ct w mean mg mb 143 4 120 news [.int x t] (fun r n => n = news ∧ ∃ t', r = .int (ctl x) t') := by
  constructor
  k_fill
  intro dp un gd cn cs a ccd cl outer A₀ base h₀ L m s Q E B F X N T hk hd hu hret
  refine wpAny_call ?_
  k_dflt k_enter
  repeat' ((fail_if_success (with_reducible show Q _ _)); first | (k_unfold; (try dsimp only)) | walk1 | (dsimp only; walk1) | (leave1; try dsimp only) | (k_end; wrow_close))
  all_goals exact hret _ _ _ _ (by k_asm) (by first | with_reducible assumption | assumption | exact ndrop (by assumption) | exact ndrop (ndrop (by assumption)) | exact ndrop (ndrop (ndrop (by assumption))) | exact ndrop (ndrop (ndrop (ndrop (by assumption))))) ⟨rfl, _, intEq (by first | exact ctl1 (by assumption) (by assumption) | exact ctl2 (by assumption) (by assumption) | exact ctl3 (by assumption) (by assumption) | exact ctl4 (by assumption) (by assumption))⟩
theorem c_split_n (x : Str) (k c1 : Nat) (hn : x.length = k := by walk_at "pb") (hb : Nat.blt k (2 ^ 62) = true := by walk_at "pb") (hz : x.length ≤ sizeLine := by walk_at "pb") (hc : x.cps[1]? = some c1 := by walk_at "pb") (h2 : Is (Str.mk #[c1] == Str.ofString "-") false := by walk_at "pb") (t : Tok) (news : Led) : Ct w mean mg mb 117 5 160 news [.str x t] (fun r n => ∃ l o, r = .ref l ∧ n = (l, o) :: news ∧ (∀ p ∈ news, p.1 < l) ∧ ∃ a b, o = { cls := .type "tuple", data := .seq #[.str (Str.ofString "") a, .str x b] }) := by
  constructor
  k_fill
  intro dp un gd cn cs a ccd cl outer A₀ base h₀ L m s Q E B F X N T hk hd hu hret
  refine wpAny_call ?_
  k_dflt k_enter
  repeat' ((fail_if_success (with_reducible show Q _ _)); first | (k_unfold; (try dsimp only)) | walk1 | (dsimp only; walk1) | (leave1; try dsimp only) | (k_end; wrow_close))
  all_goals exact hret _ _ _ _ (by k_asm) (by k_asm) ⟨_, _, rfl, rfl, by assumption, _, _, rfl⟩
theorem join_nil (x : Str) : Txt.join (Str.ofString "") [] ++ x = x := by
  obtain ⟨c⟩ := x
  show Str.mk (#[] ++ c) = Str.mk c
  simp
theorem c_join_n (x : Str) (hz : x.length ≤ sizeLine := by walk_at "pa") (t u : Tok) (news : Led) : Ct w mean mg mb 122 5 160 news [.str (Str.ofString "") u, .str x t] (fun r n => n = news ∧ ∃ t', r = .str x t') := by
  constructor
  k_fill
  intro dp un gd cn cs a ccd cl outer A₀ base h₀ L m s Q E B F X N T hk hd hu hret
  refine wpAny_call ?_
  k_dflt k_enter
  repeat ((fail_if_success (with_reducible show wpAny _ _ (eval (PySem.Expr.ListComp _ _ _ _) _) _ _ _)); walk1)
  k_dflt (refine ListComp_US (F₀ := by k_asm) (by with_unfolding_all rfl) (by decide) (by rfl) (by decide) (by rfl) ?_)
  repeat ((fail_if_success (with_reducible show ∃ _, _)); first | walk1 | (dsimp only; walk1))
  refine ⟨_, _, _, rfl, by with_unfolding_all rfl, by k_asm, by k_asm, Nat.le_of_ble_eq_true rfl, fun s₂ hs₂ => ?_⟩
  obtain ⟨g9, e9⟩ := hs₂
  subst e9
  rw [show (Str.ofString "").cps.size = 0 from by decide]
  repeat' ((fail_if_success (with_reducible show Q _ _)); first | (k_unfold; (try dsimp only)) | walk1 | (dsimp only; walk1) | (leave1; try dsimp only) | (k_end; wrow_close))
  all_goals exact hret _ _ _ _ (by k_asm) (by first | with_reducible assumption | assumption | exact ndrop (by assumption) | exact ndrop (ndrop (by assumption)) | exact ndrop (ndrop (ndrop (by assumption))) | exact ndrop (ndrop (ndrop (ndrop (by assumption))))) ⟨rfl, _, congrArg (fun z => Value.str z _) (join_nil x)⟩
local macro_rules | `(tactic| walk_at "call ref") => `(tactic| ktr_call 143 c_with_control)
local macro_rules | `(tactic| walk_at "call ref") => `(tactic| ktd_call 117 c_split_n)
local macro_rules | `(tactic| walk_at "call ref") => `(tactic| ktr_call 122 c_join_n)
theorem c_with_letter_C (x : Int) (t u : Tok) (hx : 0 ≤ x ∧ x < 128 := by walk_at "pa") (news : Led) : Ct w mean mg mb 150 5 160 news [.int x t, .str (Str.ofString "C") u] (fun r n => n = news ∧ ∃ t', r = .int (ctl x) t') := by
  constructor
  k_fill
  intro dp un gd cn cs a ccd cl outer A₀ base h₀ L m s Q E B F X N T hk hd hu hret
  refine wpAny_call ?_
  k_dflt k_enter
  repeat' ((fail_if_success (with_reducible show Q _ _)); first | (k_unfold; (try dsimp only)) | walk1 | (dsimp only; walk1) | (leave1; try dsimp only) | (k_end; wrow_close))
  all_goals exact hret _ _ _ _ (by k_asm) (by first | with_reducible assumption | assumption | exact ndrop (by assumption) | exact ndrop (ndrop (by assumption)) | exact ndrop (ndrop (ndrop (by assumption))) | exact ndrop (ndrop (ndrop (ndrop (by assumption))))) ⟨rfl, _, rfl⟩
theorem c_with_letter_M (x : Int) (t u : Tok) (hx : 0 ≤ x ∧ x < 128 := by walk_at "pa") (news : Led) : Ct w mean mg mb 150 5 160 news [.int x t, .str (Str.ofString "M") u] (fun r n => n = news ∧ ∃ t', r = .int (x + 134217728) t') := by
  constructor
  k_fill
  intro dp un gd cn cs a ccd cl outer A₀ base h₀ L m s Q E B F X N T hk hd hu hret
  refine wpAny_call ?_
  k_dflt k_enter
  repeat' ((fail_if_success (with_reducible show Q _ _)); first | (k_unfold; (try dsimp only)) | walk1 | (dsimp only; walk1) | (leave1; try dsimp only) | (k_end; wrow_close))
  all_goals exact hret _ _ _ _ (by k_asm) (by first | with_reducible assumption | assumption | exact ndrop (by assumption) | exact ndrop (ndrop (by assumption)) | exact ndrop (ndrop (ndrop (by assumption))) | exact ndrop (ndrop (ndrop (ndrop (by assumption))))) ⟨rfl, _, intEq (by rw [bits4])⟩
theorem c_with_letter_SD (t u : Tok) (news : Led) : Ct w mean mg mb 150 5 160 news [.int (ctl 127) t, .str (Str.ofString "S") u] (fun r n => n = news ∧ ∃ t', r = .int 100663423 t') := by
  constructor
  k_fill
  intro dp un gd cn cs a ccd cl outer A₀ base h₀ L m s Q E B F X N T hk hd hu hret
  refine wpAny_call ?_
  k_dflt k_enter
  repeat' ((fail_if_success (with_reducible show Q _ _)); first | (k_unfold; (try dsimp only)) | walk1 | (dsimp only; walk1) | (leave1; try dsimp only) | (k_end; wrow_close))
  all_goals exact hret _ _ _ _ (by k_asm) (by first | with_reducible assumption | assumption | exact ndrop (by assumption) | exact ndrop (ndrop (by assumption)) | exact ndrop (ndrop (ndrop (by assumption))) | exact ndrop (ndrop (ndrop (ndrop (by assumption))))) ⟨rfl, _, intEq (by decide +kernel)⟩
local macro_rules | `(tactic| walk_at "call ref") => `(tactic| ktr_call 150 c_with_letter_C)
local macro_rules | `(tactic| walk_at "call ref") => `(tactic| ktr_call 150 c_with_letter_M)
local macro_rules | `(tactic| walk_at "call ref") => `(tactic| ktr_call 150 c_with_letter_SD)
theorem c_make_C (x : Int) (t u : Tok) (hx : 0 ≤ x ∧ x < 128) (news : Led) : Ct w mean mg mb 157 6 200 news [.int x t, .str (Str.ofString "C") u] (fun r n => n = news ∧ ∃ t', r = .int (ctl x) t') := by
  constructor
  k_fill
  intro dp un gd cn cs a ccd cl outer A₀ base h₀ L m s Q E B F X N T hk hd hu hret
  refine wpAny_call ?_
  k_dflt k_enter
  repeat' ((fail_if_success (with_reducible show Q _ _)); first | (k_unfold; (try dsimp only)) | walk1 | (dsimp only; walk1) | (leave1; try dsimp only) | (k_end; wrow_close))
  all_goals exact hret _ _ _ _ (by k_asm) (by first | with_reducible assumption | assumption | exact ndrop (by assumption) | exact ndrop (ndrop (by assumption)) | exact ndrop (ndrop (ndrop (by assumption))) | exact ndrop (ndrop (ndrop (ndrop (by assumption))))) ⟨rfl, _, rfl⟩
theorem c_make_M (x : Int) (t u : Tok) (hx : 0 ≤ x ∧ x < 128) (news : Led) : Ct w mean mg mb 157 6 200 news [.int x t, .str (Str.ofString "M") u] (fun r n => n = news ∧ ∃ t', r = .int (x + 134217728) t') := by
  constructor
  k_fill
  intro dp un gd cn cs a ccd cl outer A₀ base h₀ L m s Q E B F X N T hk hd hu hret
  refine wpAny_call ?_
  k_dflt k_enter
  repeat' ((fail_if_success (with_reducible show Q _ _)); first | (k_unfold; (try dsimp only)) | walk1 | (dsimp only; walk1) | (leave1; try dsimp only) | (k_end; wrow_close))
  all_goals exact hret _ _ _ _ (by k_asm) (by first | with_reducible assumption | assumption | exact ndrop (by assumption) | exact ndrop (ndrop (by assumption)) | exact ndrop (ndrop (ndrop (by assumption))) | exact ndrop (ndrop (ndrop (ndrop (by assumption))))) ⟨rfl, _, rfl⟩
theorem c_make_CM (x : Int) (t u : Tok) (hx : 0 ≤ x ∧ x < 128) (hc : 0 ≤ ctl x ∧ ctl x < 128) (news : Led) : Ct w mean mg mb 157 6 200 news [.int x t, .str (Str.ofString "CM") u] (fun r n => n = news ∧ ∃ t', r = .int (ctl x + 134217728) t') := by
  constructor
  k_fill
  intro dp un gd cn cs a ccd cl outer A₀ base h₀ L m s Q E B F X N T hk hd hu hret
  refine wpAny_call ?_
  k_dflt k_enter
  repeat' ((fail_if_success (with_reducible show Q _ _)); first | (k_unfold; (try dsimp only)) | walk1 | (dsimp only; walk1) | (leave1; try dsimp only) | (k_end; wrow_close))
  all_goals exact hret _ _ _ _ (by k_asm) (by first | with_reducible assumption | assumption | exact ndrop (by assumption) | exact ndrop (ndrop (by assumption)) | exact ndrop (ndrop (ndrop (by assumption))) | exact ndrop (ndrop (ndrop (ndrop (by assumption))))) ⟨rfl, _, rfl⟩
theorem c_make_nil (x : Int) (t u : Tok) (news : Led) : Ct w mean mg mb 157 6 200 news [.int x t, .str (Str.ofString "") u] (fun r n => n = news ∧ ∃ t', r = .int x t') := by
  constructor
  k_fill
  intro dp un gd cn cs a ccd cl outer A₀ base h₀ L m s Q E B F X N T hk hd hu hret
  refine wpAny_call ?_
  k_dflt k_enter
  repeat' ((fail_if_success (with_reducible show Q _ _)); first | (k_unfold; (try dsimp only)) | walk1 | (dsimp only; walk1) | (leave1; try dsimp only) | (k_end; wrow_close))
  all_goals exact hret _ _ _ _ (by k_asm) (by first | with_reducible assumption | assumption | exact ndrop (by assumption) | exact ndrop (ndrop (by assumption)) | exact ndrop (ndrop (ndrop (by assumption))) | exact ndrop (ndrop (ndrop (ndrop (by assumption))))) ⟨rfl, _, rfl⟩
theorem c_make_CSD (t u : Tok) (news : Led) : Ct w mean mg mb 157 6 200 news [.int 127 t, .str (Str.ofString "CS") u] (fun r n => n = news ∧ ∃ t', r = .int 100663423 t') := by
  constructor
  k_fill
  intro dp un gd cn cs a ccd cl outer A₀ base h₀ L m s Q E B F X N T hk hd hu hret
  refine wpAny_call ?_
  k_dflt k_enter
  repeat' ((fail_if_success (with_reducible show Q _ _)); first | (k_unfold; (try dsimp only)) | walk1 | (dsimp only; walk1) | (leave1; try dsimp only) | (k_end; wrow_close))
  all_goals exact hret _ _ _ _ (by k_asm) (by first | with_reducible assumption | assumption | exact ndrop (by assumption) | exact ndrop (ndrop (by assumption)) | exact ndrop (ndrop (ndrop (by assumption))) | exact ndrop (ndrop (ndrop (ndrop (by assumption))))) ⟨rfl, _, rfl⟩
theorem c_make_n (x : Str) (k c1 : Nat) (hn : x.length = k := by walk_at "pb") (hb : Nat.blt k (2 ^ 62) = true := by walk_at "pb") (hz : x.length ≤ sizeLine := by walk_at "pb") (hc : x.cps[1]? = some c1 := by walk_at "pb") (h2 : Is (Str.mk #[c1] == Str.ofString "-") false := by walk_at "pb") (t u : Tok) (news : Led) : Ct w mean mg mb 157 6 260 news [.str x t, .str (Str.ofString "") u] (fun r n => n = news ∧ ∃ t', r = .str x t') := by
  constructor
  k_fill
  intro dp un gd cn cs a ccd cl outer A₀ base h₀ L m s Q E B F X N T hk hd hu hret
  refine wpAny_call ?_
  k_dflt k_enter
  repeat' ((fail_if_success (with_reducible show Q _ _)); first | (k_unfold; (try dsimp only)) | walk1 | (dsimp only; walk1) | (leave1; try dsimp only) | (k_end; wrow_close))
  all_goals exact hret _ _ _ _ (by k_asm) (by first | with_reducible assumption | assumption | exact ndrop (by assumption) | exact ndrop (ndrop (by assumption)) | exact ndrop (ndrop (ndrop (by assumption))) | exact ndrop (ndrop (ndrop (ndrop (by assumption))))) ⟨rfl, _, rfl⟩

end
section
theorem cnF_1 (c : Nat) : cnF (Str.mk #[c]) = none := by with_unfolding_all rfl
local macro_rules | `(tactic| walk_at "pr") => `(tactic| with_reducible first | assumption | exact cnF_1 _)
def MkOk (c : Int) (L : Str) (e : Int) : Prop := ∀ (w : World) (mean : ExcName → Option Value) (mg mb : Str → Option Value) (news : Led) (t u : Tok), Ct w mean mg mb 157 6 200 news [.int c t, .str L u] (fun r n => n = news ∧ ∃ t', r = .int e t')
def LaOk (x L y : Str) : Prop := ∀ (w : World) (mean : ExcName → Option Value) (mg mb : Str → Option Value) (news : Led) (t : Tok), Ct w mean mg mb 235 4 120 news [.str x t] (fun r n => ∃ l o, r = .ref l ∧ n = (l, o) :: news ∧ (∀ p ∈ news, p.1 < l) ∧ ∃ a b, o = { cls := .type "tuple", data := .seq #[.str L a, .str y b] })
def CmdNo (x : Str) : Prop := ∀ (w : World) (mean : ExcName → Option Value) (mg mb : Str → Option Value) (news : Led) (t : Tok), Ct w mean mg mb 242 3 80 news [.str x t] (fun r n => n = news ∧ r = .bool false)
def AngIs (x : Str) (b : Bool) : Prop := ∀ (w : World) (mean : ExcName → Option Value) (mg mb : Str → Option Value) (news : Led) (t : Tok), Ct w mean mg mb 249 3 80 news [.str x t] (fun r n => n = news ∧ r = .bool b)
def ModOk (L y x : Str) (e : Ev) : Prop := ∀ (w : World) (mean : ExcName → Option Value) (mg mb : Str → Option Value) (news : Led) (t u v : Tok), Ct w mean mg mb 282 8 400 news [.str L u, .str y t, .str x v] (fun r n => ∃ l o, r = .ref l ∧ n = (l, o) :: news ∧ (∀ p ∈ news, p.1 ≠ l) ∧ ∃ a b, o = { cls := .type "list", data := .seq #[evVal e a] b })
def NamedOk (y : Str) : Prop := ∀ (w : World) (mean : ExcName → Option Value) (mg mb : Str → Option Value) (news : Led) (t u : Tok), Ct w mean mg mb 275 7 320 news [.str (Str.ofString "") u, .str y t] (fun r n => ∃ l o, r = .ref l ∧ n = (l, o) :: news ∧ (∀ p ∈ news, p.1 ≠ l) ∧ ∃ a b, o = { cls := .type "list", data := .seq #[.str y a] b })
theorem mk_use {c : Int} {L : Str} {e : Int} (h : MkOk c L e := by walk_at "pr") (t u : Tok) (news : Led) : Ct w mean mg mb 157 6 200 news [.int c t, .str L u] (fun r n => n = news ∧ ∃ t', r = .int e t') := h w mean mg mb news t u
theorem la_use {x L y : Str} (h : LaOk x L y := by walk_at "pr") (t : Tok) (news : Led) : Ct w mean mg mb 235 4 120 news [.str x t] (fun r n => ∃ l o, r = .ref l ∧ n = (l, o) :: news ∧ (∀ p ∈ news, p.1 < l) ∧ ∃ a b, o = { cls := .type "tuple", data := .seq #[.str L a, .str y b] }) := h w mean mg mb news t
theorem cmd_use {x : Str} (h : CmdNo x := by walk_at "pr") (t : Tok) (news : Led) : Ct w mean mg mb 242 3 80 news [.str x t] (fun r n => n = news ∧ r = .bool false) := h w mean mg mb news t
theorem ang_use {x : Str} {b : Bool} (h : AngIs x b := by walk_at "pr") (t : Tok) (news : Led) : Ct w mean mg mb 249 3 80 news [.str x t] (fun r n => n = news ∧ r = .bool b) := h w mean mg mb news t
theorem mod_use {L y x : Str} {e : Ev} (h : ModOk L y x e := by walk_at "pr") (t u v : Tok) (news : Led) : Ct w mean mg mb 282 8 400 news [.str L u, .str y t, .str x v] (fun r n => ∃ l o, r = .ref l ∧ n = (l, o) :: news ∧ (∀ p ∈ news, p.1 ≠ l) ∧ ∃ a b, o = { cls := .type "list", data := .seq #[evVal e a] b }) := h w mean mg mb news t u v
theorem named_use {y : Str} (h : NamedOk y := by walk_at "pr") (t u : Tok) (news : Led) : Ct w mean mg mb 275 7 320 news [.str (Str.ofString "") u, .str y t] (fun r n => ∃ l o, r = .ref l ∧ n = (l, o) :: news ∧ (∀ p ∈ news, p.1 ≠ l) ∧ ∃ a b, o = { cls := .type "list", data := .seq #[.str y a] b }) := h w mean mg mb news t u
section
local macro_rules | `(tactic| walk_at "call ref") => `(tactic| ktr_call 157 c_make_n)
local macro_rules | `(tactic| walk_at "call ref") => `(tactic| ktn_call 193 c_cn_none)
theorem c_named_n (y : Str) (k c1 : Nat) (hn : y.length = k) (hb : Nat.blt k (2 ^ 62) = true) (hz : y.length ≤ sizeLine) (hc : y.cps[1]? = some c1) (h2 : Is (Str.mk #[c1] == Str.ofString "-") false) (hcn : cnF y = none) (t u : Tok) (news : Led) : Ct w mean mg mb 275 7 320 news [.str (Str.ofString "") u, .str y t] (fun r n => ∃ l o, r = .ref l ∧ n = (l, o) :: news ∧ (∀ p ∈ news, p.1 ≠ l) ∧ ∃ a b, o = { cls := .type "list", data := .seq #[.str y a] b }) := by
  constructor
  k_fill
  intro dp un gd cn cs a ccd cl outer A₀ base h₀ L m s Q E B F X N T hk hd hu hret
  refine wpAny_call ?_
  k_dflt k_enter
  repeat' ((fail_if_success (with_reducible show Q _ _)); first | (k_unfold; (try dsimp only)) | walk1 | (dsimp only; walk1) | (leave1; try dsimp only) | (k_end; wrow_close))
  all_goals (with_reducible rename News _ _ _ _ => N9)
  all_goals (first | refine hret _ _ _ _ (by k_asm) N9 ⟨_, _, rfl, rfl, ?_, _, _, rfl⟩ | refine hret _ _ _ _ (by k_asm) (nd2 N9) ⟨_, _, rfl, rfl, ?_, _, _, rfl⟩ | refine hret _ _ _ _ (by k_asm) (nd2 (nd2 N9)) ⟨_, _, rfl, rfl, ?_, _, _, rfl⟩)
  all_goals (first | with_reducible assumption | exact off_fin (by with_reducible assumption) | exact off_tl (by with_reducible assumption) | exact off_tl (off_tl (by with_reducible assumption)))
end
local macro_rules | `(tactic| walk_at "call ref") => `(tactic| ktr_call 157 mk_use)
local macro_rules | `(tactic| walk_at "call ref") => `(tactic| ktd_call 235 la_use)
local macro_rules | `(tactic| walk_at "call ref") => `(tactic| ktn_call 242 cmd_use)
local macro_rules | `(tactic| walk_at "call ref") => `(tactic| ktn_call 249 ang_use)
local macro_rules | `(tactic| walk_at "call ref") => `(tactic| tb_from 282 mod_use)
local macro_rules | `(tactic| walk_at "call ref") => `(tactic| tb_from 275 named_use)
local macro_rules | `(tactic| walk_at "call ref") => `(tactic| ktr_call 193 c_cn_some)
local macro_rules | `(tactic| walk_at "call ref") => `(tactic| ktn_call 193 c_cn_none)
theorem c_mod_1 (L x : Str) (c : Nat) (e : Int) (hm : MkOk c L e) (ha : AngIs (Str.mk #[c]) false) (t u v : Tok) (news : Led) : Ct w mean mg mb 282 8 400 news [.str L u, .str (Str.mk #[c]) t, .str x v] (fun r n => ∃ l o, r = .ref l ∧ n = (l, o) :: news ∧ (∀ p ∈ news, p.1 ≠ l) ∧ ∃ a b, o = { cls := .type "list", data := .seq #[.int e a] b }) := by
  constructor
  k_fill
  intro dp un gd cn cs a ccd cl outer A₀ base h₀ L m s Q E B F X N T hk hd hu hret
  refine wpAny_call ?_
  k_dflt k_enter
  repeat' ((fail_if_success (with_reducible show Q _ _)); first | (k_unfold; (try dsimp only)) | walk1 | (dsimp only; walk1) | (leave1; try dsimp only) | (k_end; wrow_close))
  all_goals (with_reducible rename News _ _ _ _ => N9)
  all_goals (first | refine hret _ _ _ _ (by k_asm) N9 ⟨_, _, rfl, rfl, ?_, _, _, rfl⟩ | refine hret _ _ _ _ (by k_asm) (nd2 N9) ⟨_, _, rfl, rfl, ?_, _, _, rfl⟩ | refine hret _ _ _ _ (by k_asm) (nd2 (nd2 N9)) ⟨_, _, rfl, rfl, ?_, _, _, rfl⟩)
  all_goals (first | with_reducible assumption | exact off_fin (by with_reducible assumption) | exact off_tl (by with_reducible assumption) | exact off_tl (off_tl (by with_reducible assumption)))
theorem c_mod_nm (L y x : Str) (c e : Int) (hcn : cnF y = some c) (hm : MkOk c L e) (ha : AngIs y false) (t u v : Tok) (news : Led) : Ct w mean mg mb 282 8 400 news [.str L u, .str y t, .str x v] (fun r n => ∃ l o, r = .ref l ∧ n = (l, o) :: news ∧ (∀ p ∈ news, p.1 ≠ l) ∧ ∃ a b, o = { cls := .type "list", data := .seq #[.int e a] b }) := by
  constructor
  k_fill
  intro dp un gd cn cs a ccd cl outer A₀ base h₀ L m s Q E B F X N T hk hd hu hret
  refine wpAny_call ?_
  k_dflt k_enter
  repeat' ((fail_if_success (with_reducible show Q _ _)); first | (k_unfold; (try dsimp only)) | walk1 | (dsimp only; walk1) | (leave1; try dsimp only) | (k_end; wrow_close))
  all_goals (with_reducible rename News _ _ _ _ => N9)
  all_goals (first | refine hret _ _ _ _ (by k_asm) N9 ⟨_, _, rfl, rfl, ?_, _, _, rfl⟩ | refine hret _ _ _ _ (by k_asm) (nd2 N9) ⟨_, _, rfl, rfl, ?_, _, _, rfl⟩ | refine hret _ _ _ _ (by k_asm) (nd2 (nd2 N9)) ⟨_, _, rfl, rfl, ?_, _, _, rfl⟩)
  all_goals (first | with_reducible assumption | exact off_fin (by with_reducible assumption) | exact off_tl (by with_reducible assumption) | exact off_tl (off_tl (by with_reducible assumption)))
theorem c_mod_ang (y x : Str) (ha : AngIs y true) (hy : y.length ≤ sizeLine) (hn : NamedOk (Txt.slice y (some 1) (some (-1)))) (t u v : Tok) (news : Led) : Ct w mean mg mb 282 8 400 news [.str (Str.ofString "") u, .str y t, .str x v] (fun r n => ∃ l o, r = .ref l ∧ n = (l, o) :: news ∧ (∀ p ∈ news, p.1 ≠ l) ∧ ∃ a b, o = { cls := .type "list", data := .seq #[.str (Txt.slice y (some 1) (some (-1))) a] b }) := by
  constructor
  k_fill
  intro dp un gd cn cs a ccd cl outer A₀ base h₀ L m s Q E B F X N T hk hd hu hret
  refine wpAny_call ?_
  k_dflt k_enter
  repeat' ((fail_if_success (with_reducible show Q _ _)); first | (k_unfold; (try dsimp only)) | walk1 | (dsimp only; walk1) | (leave1; try dsimp only) | (k_end; wrow_close))
  all_goals (with_reducible rename News _ _ _ _ => N9)
  all_goals (first | refine hret _ _ _ _ (by k_asm) N9 ⟨_, _, rfl, rfl, ?_, _, _, rfl⟩ | refine hret _ _ _ _ (by k_asm) (nd2 N9) ⟨_, _, rfl, rfl, ?_, _, _, rfl⟩ | refine hret _ _ _ _ (by k_asm) (nd2 (nd2 N9)) ⟨_, _, rfl, rfl, ?_, _, _, rfl⟩)
  all_goals (first | with_reducible assumption | exact off_fin (by with_reducible assumption) | exact off_tl (by with_reducible assumption) | exact off_tl (off_tl (by with_reducible assumption)))
theorem c_wk_mod (x L y : Str) (e : Ev) (hc : CmdNo x) (hl : LaOk x L y) (hL : Is (L != Str.ofString "") true) (hm : ModOk L y x e) (t : Tok) (news : Led) : Ct w mean mg mb 289 9 480 news [.str x t] (fun r n => ∃ l o, r = .ref l ∧ n = (l, o) :: news ∧ (∀ p ∈ news, p.1 ≠ l) ∧ ∃ a b, o = { cls := .type "list", data := .seq #[evVal e a] b }) := by
  constructor
  k_fill
  intro dp un gd cn cs a ccd cl outer A₀ base h₀ L m s Q E B F X N T hk hd hu hret
  refine wpAny_call ?_
  k_dflt k_enter
  repeat' ((fail_if_success (with_reducible show Q _ _)); first | (k_unfold; (try dsimp only)) | walk1 | (dsimp only; walk1) | (leave1; try dsimp only) | (k_end; wrow_close))
  all_goals (with_reducible rename News _ _ _ _ => N9)
  all_goals (first | refine hret _ _ _ _ (by k_asm) N9 ⟨_, _, rfl, rfl, ?_, _, _, rfl⟩ | refine hret _ _ _ _ (by k_asm) (nd2 N9) ⟨_, _, rfl, rfl, ?_, _, _, rfl⟩ | refine hret _ _ _ _ (by k_asm) (nd2 (nd2 N9)) ⟨_, _, rfl, rfl, ?_, _, _, rfl⟩)
  all_goals (first | with_reducible assumption | exact off_fin (by with_reducible assumption) | exact off_tl (by with_reducible assumption) | exact off_tl (off_tl (by with_reducible assumption)))
theorem c_wk_nm (x : Str) (c : Int) (e : Ev) (hc : CmdNo x) (hl : LaOk x (Str.ofString "") x) (ha : AngIs x false) (hcn : cnF x = some c) (hm : ModOk (Str.ofString "") x x e) (t : Tok) (news : Led) : Ct w mean mg mb 289 9 480 news [.str x t] (fun r n => ∃ l o, r = .ref l ∧ n = (l, o) :: news ∧ (∀ p ∈ news, p.1 ≠ l) ∧ ∃ a b, o = { cls := .type "list", data := .seq #[evVal e a] b }) := by
  constructor
  k_fill
  intro dp un gd cn cs a ccd cl outer A₀ base h₀ L m s Q E B F X N T hk hd hu hret
  refine wpAny_call ?_
  k_dflt k_enter
  repeat' ((fail_if_success (with_reducible show Q _ _)); first | (k_unfold; (try dsimp only)) | walk1 | (dsimp only; walk1) | (leave1; try dsimp only) | (k_end; wrow_close))
  all_goals (with_reducible rename News _ _ _ _ => N9)
  all_goals (first | refine hret _ _ _ _ (by k_asm) N9 ⟨_, _, rfl, rfl, ?_, _, _, rfl⟩ | refine hret _ _ _ _ (by k_asm) (nd2 N9) ⟨_, _, rfl, rfl, ?_, _, _, rfl⟩ | refine hret _ _ _ _ (by k_asm) (nd2 (nd2 N9)) ⟨_, _, rfl, rfl, ?_, _, _, rfl⟩)
  all_goals (first | with_reducible assumption | exact off_fin (by with_reducible assumption) | exact off_tl (by with_reducible assumption) | exact off_tl (off_tl (by with_reducible assumption)))
theorem c_wk_ang (x : Str) (e : Ev) (hc : CmdNo x) (hl : LaOk x (Str.ofString "") x) (ha : AngIs x true) (hm : ModOk (Str.ofString "") x x e) (t : Tok) (news : Led) : Ct w mean mg mb 289 9 480 news [.str x t] (fun r n => ∃ l o, r = .ref l ∧ n = (l, o) :: news ∧ (∀ p ∈ news, p.1 ≠ l) ∧ ∃ a b, o = { cls := .type "list", data := .seq #[evVal e a] b }) := by
  constructor
  k_fill
  intro dp un gd cn cs a ccd cl outer A₀ base h₀ L m s Q E B F X N T hk hd hu hret
  refine wpAny_call ?_
  k_dflt k_enter
  repeat' ((fail_if_success (with_reducible show Q _ _)); first | (k_unfold; (try dsimp only)) | walk1 | (dsimp only; walk1) | (leave1; try dsimp only) | (k_end; wrow_close))
  all_goals (with_reducible rename News _ _ _ _ => N9)
  all_goals (first | refine hret _ _ _ _ (by k_asm) N9 ⟨_, _, rfl, rfl, ?_, _, _, rfl⟩ | refine hret _ _ _ _ (by k_asm) (nd2 N9) ⟨_, _, rfl, rfl, ?_, _, _, rfl⟩ | refine hret _ _ _ _ (by k_asm) (nd2 (nd2 N9)) ⟨_, _, rfl, rfl, ?_, _, _, rfl⟩)
  all_goals (first | with_reducible assumption | exact off_fin (by with_reducible assumption) | exact off_tl (by with_reducible assumption) | exact off_tl (off_tl (by with_reducible assumption)))
local macro_rules | `(tactic| walk_at "call ref") => `(tactic| tb_from 254 c_signs_1)
theorem c_wk_1 (c : Nat) (hcm : CmdNo (Str.mk #[c])) (hl : LaOk (Str.mk #[c]) (Str.ofString "") (Str.mk #[c])) (ha : AngIs (Str.mk #[c]) false) (t : Tok) (news : Led) : Ct w mean mg mb 289 9 480 news [.str (Str.mk #[c]) t] (fun r n => ∃ l o, r = .ref l ∧ n = (l, o) :: news ∧ (∀ p ∈ news, p.1 ≠ l) ∧ ∃ a b, o = { cls := .type "list", data := .seq #[.int (c : Int) a] b }) := by
  constructor
  k_fill
  intro dp un gd cn cs a ccd cl outer A₀ base h₀ L m s Q E B F X N T hk hd hu hret
  refine wpAny_call ?_
  k_dflt k_enter
  repeat' ((fail_if_success (with_reducible show Q _ _)); first | (k_unfold; (try dsimp only)) | walk1 | (dsimp only; walk1) | (leave1; try dsimp only) | (k_end; wrow_close))
  all_goals (with_reducible rename News _ _ _ _ => N9)
  all_goals (first | refine hret _ _ _ _ (by k_asm) N9 ⟨_, _, rfl, rfl, ?_, _, _, rfl⟩ | refine hret _ _ _ _ (by k_asm) (nd2 N9) ⟨_, _, rfl, rfl, ?_, _, _, rfl⟩ | refine hret _ _ _ _ (by k_asm) (nd2 (nd2 N9)) ⟨_, _, rfl, rfl, ?_, _, _, rfl⟩)
  all_goals (first | with_reducible assumption | exact off_fin (by with_reducible assumption) | exact off_tl (by with_reducible assumption) | exact off_tl (off_tl (by with_reducible assumption)))

end
section
local macro_rules | `(tactic| walk_at "eval Name") => `(tactic| (k_here; k_dflt (refine' ld (by k_asm) (by ((try dsimp only); (repeat (refine (if_neg (by decide)).trans ?_)); first | assumption | exact if_pos rfl)) ?_; k_whole)))
local macro_rules | `(tactic| ktu_off1L) => `(tactic| exact off_cons (Nat.ne_of_lt (by assumption)) (off_lt (by assumption)))
theorem upd_2 {I D : Addr} {it o o' : Obj} {news : Led} (h : D < I) (hD : ∀ p ∈ news, p.1 < D) : Upd D o o' ((I, it) :: (D, o) :: news) ((I, it) :: (D, o') :: news) := .tail (Nat.ne_of_gt h) (.head (off_lt hD))
local macro_rules | `(tactic| walk_at "call builtin:list.append") => `(tactic| (k_here; (with_reducible show wpAny _ _ (call (Value.builtin _) [Value.ref _, _]) _ _ _); k_dflt (refine' append_K (by k_asm) (by k_asm) (upd_2 (by assumption) (by assumption)) ?_ (by assumption); k_whole); intro zh' zF' zN'; (try k_sweep)))
def isBl (c : Nat) : Bool := !(Builtin.Str.occurrences (Str.ofString " \t\n\x0c\r") ⟨#[c]⟩ 0 (Str.ofString " \t\n\x0c\r").length 1).isEmpty
noncomputable def bwF : List Nat → List Str → Str → List Str
  | [], f, _ => f
  | c :: r, f, wd => if isBl c then bwF r (if wd == Str.ofString "" then f else f ++ [wd]) (Str.ofString "") else bwF r f (wd ++ ⟨#[c]⟩)
theorem bwF_cons {c : Nat} {r : List Nat} {f : List Str} {wd : Str} : bwF (c :: r) f wd = if isBl c then bwF r (if wd == Str.ofString "" then f else f ++ [wd]) (Str.ofString "") else bwF r f (wd ++ ⟨#[c]⟩) := rfl
structure BwP (D : Addr) (tgt : List Str) (news : Led) (l : List Nat) (m : Str → Option Value) (n : Led) (its : Array Value) (k : Nat) (f : List Str) (wd : Str) (tk : Tok) : Prop where
  hn : n = (D, W.listOf its k) :: news
  hf : m (Str.ofString "found") = some (.ref D)
  hw : m (Str.ofString "word") = some (.str wd tk)
  ha : StrsAre its.toList f
  hb : bwF l f wd = tgt
  hs : its.size + l.length ≤ 1002
  hl : wd.length + l.length ≤ 1002
inductive BwE (D : Addr) (tgt : List Str) (news : Led) (l : List Nat) (m : Str → Option Value) (n : Led) : Prop
  | mk (its : Array Value) (k : Nat) (f : List Str) (wd : Str) (tk : Tok) (h : BwP D tgt news l m n its k f wd tk)
theorem str_len_app (a b : Str) : (a ++ b).length = a.length + b.length := by
  show (a.cps ++ b.cps).size = _; exact Array.size_append
theorem strsAre_app : ∀ {a b : List Value} {f g : List Str}, StrsAre a f → StrsAre b g → StrsAre (a ++ b) (f ++ g)
  | _, _, _, _, .nil, h => h
  | _, _, _, _, .cons y t r, h => .cons y t (strsAre_app r h)
theorem strsAre_push {its : Array Value} {f : List Str} {wd : Str} {t : Tok} (h : StrsAre its.toList f) : StrsAre (its.push (.str wd t)).toList (f ++ [wd]) := by
  rw [Array.toList_push]
  exact strsAre_app h (.cons _ _ .nil)
theorem c_blank (x : Str) (t : Tok) (hz : x.length ≤ 1000) (news : Led) : Ct w mean mg mb 221 5 200 news [.str x t] (fun r n => ∃ l its k, r = .ref l ∧ n = (l, W.listOf its k) :: news ∧ (∀ p ∈ news, p.1 < l) ∧ StrsAre its.toList (bwF (x ++ Str.ofString " ").cps.toList [] (Str.ofString ""))) := by
  constructor
  k_fill
  intro dp un gd cn cs a ccd cl outer A₀ base h₀ L m s Q E B F X N T hk hd hu hret
  refine wpAny_call ?_
  k_dflt k_enter
  repeat ((fail_if_success (with_reducible show wpAny _ _ (exec (PySem.Stmt.For _ _ _ _ _) _) _ _ _)); first | (k_unfold; (try dsimp only)) | walk1)
  (with_reducible rename Fr _ _ _ _ => F1); (with_reducible rename News _ _ _ _ => N1)
  k_dflt (refine For_invVF F1 (by exact rfl) (by exact rfl) ?_)
  repeat ((fail_if_success (with_reducible show wpAny _ _ (pyIter _) _ _ _)); first | (k_unfold; (try dsimp only)) | walk1)
  rename News _ _ _ _ => N2
  rename ∀ p ∈ news, p.1 < _ => hD
  have hz2 : (x ++ Str.ofString " ").length = x.length + 1 := str_len_app _ _
  k_dflt (refine iter_strUnr (by exact rfl) (by assumption) N2 rfl fun I hI => strRest_ind (P := BwE _ (bwF (x ++ Str.ofString " ").cps.toList [] (Str.ofString "")) news) ?_ ?_ _ _ _ ⟨_, _, [], Str.ofString "", _, ⟨rfl, by rfl, by rfl, by exact .nil, rfl, by rw [Array.length_toList]; show 0 + (x ++ Str.ofString " ").length ≤ _; omega, by rw [Array.length_toList]; show 0 + (x ++ Str.ofString " ").length ≤ _; omega⟩⟩)
  · intro c r m1 n1 u it h2 tk2 hp F3 N3
    have hI1 := hI _ (.head _)
    have hI2 : ∀ p ∈ news, p.1 < I := fun p hp => hI p (.tail _ hp)
    obtain ⟨its, k, f, wd, tw, hn, hf, hw, ha, hb, hs, hl⟩ := hp
    subst hn
    have hs' : its.size ≤ sizeLine := by rw [sizeLine_eq]; simp only [List.length_cons] at hs; omega
    dsimp only at hI1
    k_steps
    all_goals simp only [List.length_cons] at hs hl
    all_goals rw [bwF_cons] at hb
    · rename _ = true => h9
      rw [if_neg (by show ¬ ((!_) = true); rw [h9]; decide)] at hb
      exact ⟨_, _, _, _, _, ⟨rfl, by assumption, by rfl, ha, hb, by omega, by rw [str_len_app]; show _ + 1 + _ ≤ _; omega⟩⟩
    · rename (_ != _) = true => h8; rename _ = false => h9
      rw [if_pos (by show (!_) = true; rw [h9]; rfl), if_neg (by simp only [bne, Bool.not_eq_true'] at h8; rw [h8]; decide)] at hb
      exact ⟨_, _, _, _, _, ⟨rfl, by assumption, by rfl, strsAre_push ha, hb, by rw [Array.size_push]; omega, by show 0 + _ ≤ _; omega⟩⟩
    · rename (_ != _) = false => h8; rename List.isEmpty _ = false => h9
      rw [if_pos (by show (!_) = true; rw [h9]; rfl), if_pos (by simpa [bne] using h8)] at hb
      exact ⟨_, _, _, _, _, ⟨rfl, by assumption, by rfl, ha, hb, by omega, by show 0 + _ ≤ _; omega⟩⟩
  · intro m1 n1 h2 tk2 hp F3 N3
    obtain ⟨its, k, f, wd, tw, hn, hf, hw, ha, hb, hs, hl⟩ := hp
    subst hn
    k_steps
    exact hret _ _ _ _ (by k_asm) (by k_asm) ⟨_, _, _, rfl, rfl, hD, by rw [← hb]; exact ha⟩

end
section
local macro_rules | `(tactic| walk_at "call ref") => `(tactic| (k_here; with_reducible refine atR 221 ?_; k_dflt (refine' use_ct (C := c_blank _ _ (by assumption) _) (ret := ?_); k_whole; intro zr9 zn9 zh9 ztk9 zF9 zN9 zo9; obtain ⟨zl9, zits9, zk9, zre9, zne9, zoff9, zst9⟩ := zo9; subst zre9; subst zne9; walk_at "ct z")))
theorem endW {h₀ h' : Heap} {L I : Addr} {it : Obj} {rest : (Str → Option Value) → Led → Prop} {s₁ : Shared} {tk : Nat} {m' : Str → Option Value} {all X : Led} (F : Fr h₀ L h' m') (N : News h₀ L h' all)
    (sub : ∀ p ∈ (I, it) :: X, p ∈ all) (off : ∀ p ∈ X, p.1 ≠ I) (r : rest m' X) : UnrEndW h₀ L s₁ [(I, it)] rest { s₁ with heap := h', toks := tk } :=
  ⟨h', tk, m', X, rfl, F, fun p hp => N p (sub p hp), fun p hp q hq => by rw [List.mem_singleton.mp hq]; exact off p hp, r⟩
structure WoP (ws : List Str) (pre news : Led) (D : Addr) (r : List Str) (m : Str → Option Value) (n : Led) (its : Array Value) (k : Nat) (f : List Str) : Prop where
  hn : n = pre ++ (D, W.listOf its k) :: news
  hf : m (Str.ofString "found") = some (.ref D)
  ha : StrsAre its.toList f
  hb : f ++ r = ws
  hs : its.size + r.length ≤ 1001
inductive WoE (ws : List Str) (pre news : Led) (D : Addr) (r : List Str) (m : Str → Option Value) (n : Led) : Prop
  | mk (its : Array Value) (k : Nat) (f : List Str) (h : WoP ws pre news D r m n its k f)
local macro_rules | `(tactic| walk_at "eval Name") => `(tactic| (k_here; k_dflt (refine' ld (by k_asm) (by ((try dsimp only); (repeat (refine (if_neg (by decide)).trans ?_)); first | assumption | exact if_pos rfl)) ?_; k_whole)))
local macro_rules | `(tactic| walk_at "zz") => `(tactic| fail)
theorem c_words (x : Str) (t : Tok) (hz : x.length ≤ 1000) (hsp : Txt.split x (Str.ofString "\n") = [x]) (hno : ∀ y ∈ bwF (x ++ Str.ofString " ").cps.toList [] (Str.ofString ""), ([Str.ofString "\x3b\x3b", Str.ofString "REM"].any fun z => z == y) = false) (hlen : (bwF (x ++ Str.ofString " ").cps.toList [] (Str.ofString "")).length ≤ 1001) (news : Led) : Ct w mean mg mb 214 6 260 news [.str x t] (fun r n => ∃ l its k, r = .ref l ∧ n = (l, W.listOf its k) :: news ∧ (∀ p ∈ news, p.1 < l) ∧ StrsAre its.toList (bwF (x ++ Str.ofString " ").cps.toList [] (Str.ofString ""))) := by
  constructor
  k_fill
  intro dp un gd cn cs a ccd cl outer A₀ base h₀ L m s Q E B F X N T hk hd hu hret
  refine wpAny_call ?_
  k_dflt k_enter
  repeat ((fail_if_success (with_reducible show wpAny _ _ (exec (PySem.Stmt.For _ _ _ _ _) _) _ _ _)); first | (k_unfold; (try dsimp only)) | walk1)
  (with_reducible rename Fr _ _ _ _ => F1)
  k_dflt (refine For_turns F1 ?_)
  repeat ((fail_if_success (with_reducible show wpAny _ _ (call (Value.builtin "str.split") _) _ _ _)); first | (k_unfold; (try dsimp only)) | walk1)
  k_dflt (refine KSpl.split1 (by k_asm) (by k_asm) (by decide) ?_ (by rw [sizeLine_eq]; omega))
  rename ∀ p ∈ news, p.1 < _ => lt0
  intro D1 l1 h1 k1 e1 a1 F2 N2 o1
  rw [hsp] at e1
  obtain ⟨t1, l2, e2, e3⟩ := KSpl.cons_of e1
  have e4 := KSpl.nil_of e3
  subst e4; subst e2
  have lt1 := o1 _ (.head _)
  have lt2 : ∀ p ∈ news, p.1 < D1 := fun p hp => o1 p (.tail _ hp)
  dsimp only at lt1
  simp only [strValues, List.map_cons, List.map_nil] at N2 a1
  k_dflt (refine iter_listTurns (by exact rfl) F2 N2 (.head _) rfl rfl fun I hI => ?_)
  have lt3 := hI _ (.head _)
  have lt4 := hI _ (.tail _ (.head _))
  have lt5 : ∀ p ∈ news, p.1 < I := fun p hp => hI p (.tail _ (.tail _ hp))
  dsimp only at lt3 lt4
  rename ∀ p ∈ news, p.1 < _ => lt5
  repeat ((fail_if_success (with_reducible show wpAny _ _ (exec (PySem.Stmt.For _ _ _ _ _) _) _ _ _)); first | (k_unfold; (try dsimp only)) | walk1)
  (with_reducible rename Fr _ _ _ _ => F3)
  k_dflt (refine For_turns F3 ?_)
  repeat ((fail_if_success (with_reducible show wpAny _ _ (pyIter _) _ _ _)); first | (k_unfold; (try dsimp only)) | walk1)
  rename News _ _ _ ((_, W.listOf _ _) :: (_, _) :: _) => N5
  rename ∀ p ∈ (I, _) :: _, p.1 < _ => off5
  rename StrsAre _ (bwF _ _ _) => st5
  have lt6 := off5 _ (.head _)
  have lt7 := off5 _ (.tail _ (.head _))
  have lt8 := off5 _ (.tail _ (.tail _ (.head _)))
  dsimp only at lt6 lt7 lt8
  generalize hws : bwF (x ++ Str.ofString " ").cps.toList [] (Str.ofString "") = ws at *
  (with_reducible rename Fr _ _ _ _ => F5)
  k_dflt (refine iter_listTurns (by exact rfl) F5 N5 (.head _) rfl rfl fun I2 hI2 => items_ind (P := WoE ws [_, _, _] news _) ?_ ?_ (strsAre_all2 st5) _ _ ⟨_, _, [], ⟨rfl, by rfl, by exact .nil, rfl, by show 0 + ws.length ≤ 1001; omega⟩⟩)
  · intro y r v m1 n1 o2 h2 tk2 hp hv F6 N6
    obtain ⟨t6, e6⟩ := hv
    subst e6
    have gt1 := hI2 _ (.head _)
    have gt2 := hI2 _ (.tail _ (.head _))
    have gt3 := hI2 _ (.tail _ (.tail _ (.head _)))
    have gt4 := hI2 _ (.tail _ (.tail _ (.tail _ (.head _))))
    have gt5 : ∀ p ∈ news, p.1 < I2 := fun p hp => hI2 p (.tail _ (.tail _ (.tail _ (.tail _ hp))))
    dsimp only at gt1 gt2 gt3 gt4
    obtain ⟨its, k, f, hn, hf, ha, hb, hs⟩ := hp
    subst hn
    have hs' : its.size ≤ sizeLine := by rw [sizeLine_eq]; simp only [List.length_cons] at hs; omega
    simp only [List.cons_append, List.nil_append] at N6
    have hny := hno y (by rw [← hb]; simp)
    repeat ((fail_if_success (with_reducible show wpAny _ _ (call (Value.builtin "list.append") _) _ _ _)); walk1)
    (with_reducible rename News _ _ _ _ => N7)
    (with_reducible rename Fr _ _ _ _ => F7)
    refine append_K F7 (ndrop N7) (.tail (Nat.ne_of_gt gt4) (.tail (Nat.ne_of_gt lt8) (.tail (Nat.ne_of_gt lt4) (.tail (Nat.ne_of_gt lt1) (.head (off_lt lt0)))))) ?_ hs'
    intro h8 F8 N8
    repeat' ((fail_if_success (with_reducible show UnrEndW _ _ _ _ _ _)); first | (k_unfold; (try dsimp only)) | walk1)
    all_goals (refine endW (X := [_, _, _] ++ (_, W.listOf _ _) :: news) F8 N8 (fun p hp => hp) (off_cons (Nat.ne_of_lt gt1) (off_cons (Nat.ne_of_lt gt2) (off_cons (Nat.ne_of_lt gt3) (off_cons (Nat.ne_of_lt gt4) (off_lt gt5))))) ⟨⟨.head _, trivial⟩, ⟨_, _, _, ⟨rfl, by assumption, strsAre_push ha, by rw [← hb, List.append_assoc]; rfl, by rw [Array.size_push]; simp only [List.length_cons] at hs; omega⟩⟩⟩)
  · intro m1 n1 h2 tk2 hp F6 N6
    obtain ⟨its, k, f, hn, hf, ha, hb, hs⟩ := hp
    subst hn
    simp only [List.cons_append, List.nil_append] at N6
    repeat' ((fail_if_success (with_reducible show UnrEndW _ _ _ _ _ _)); first | (k_unfold; (try dsimp only)) | walk1)
    refine endW (X := [_] ++ (_, W.listOf _ _) :: news) F6 (ndrop N6) (fun p hp => hp) (off_cons (Nat.ne_of_lt lt3) (off_cons (Nat.ne_of_lt lt4) (off_lt lt5))) ⟨⟨.head _, trivial⟩, ?_⟩
    k_steps
    all_goals (rw [List.append_nil] at hb; subst hb; exact hret _ _ _ _ (by k_asm) (ndrop (by assumption)) ⟨_, _, _, rfl, rfl, lt0, ha⟩)

end
section
theorem ndrop3 {h₀ h : Heap} {L : Addr} {a x y : Addr × Obj} {news : Led} (N : News h₀ L h (a :: x :: y :: news)) : News h₀ L h (a :: news) := fun p hp => N p (by rcases List.mem_cons.mp hp with h | h <;> simp [h])
theorem ndrop12 {h₀ h : Heap} {L : Addr} {a x y : Addr × Obj} {news : Led} (N : News h₀ L h (a :: x :: y :: news)) : News h₀ L h (a :: news) := ndrop3 N
def IsEv (v : Value) (e : Ev) : Prop := ∃ t, v = evVal e t
def TupO (its : Array Value) : Obj := { cls := .type "tuple", data := .seq its }
def WordOk (wd : Str) (e : Ev) : Prop := ∀ (w : World) (mean : ExcName → Option Value) (mg mb : Str → Option Value) (news : Led) (t : Tok),
  Ct w mean mg mb 228 4 100 news [.str wd t] (fun r n => ∃ l o, r = .ref l ∧ n = (l, o) :: news ∧ (∀ p ∈ news, p.1 < l) ∧ ∃ a b, o = { cls := .type "tuple", data := .seq #[.int 1 a, .str wd b] }) ∧
  Ct w mean mg mb 289 9 480 news [.str wd t] (fun r n => ∃ l o, r = .ref l ∧ n = (l, o) :: news ∧ (∀ p ∈ news, p.1 ≠ l) ∧ ∃ a b, o = { cls := .type "list", data := .seq #[evVal e a] b })
def IsW (v : Value) (y : Str × Ev) : Prop := IsS v y.1 ∧ WordOk y.1 y.2
theorem c_times_w {w : World} {mean : ExcName → Option Value} {mg mb : Str → Option Value} {wd : Str} {e : Ev} (h : WordOk wd e := by walk_at "pa") (t : Tok) (news : Led) : Ct w mean mg mb 228 4 100 news [.str wd t] (fun r n => ∃ l o, r = .ref l ∧ n = (l, o) :: news ∧ (∀ p ∈ news, p.1 < l) ∧ ∃ a b, o = { cls := .type "tuple", data := .seq #[.int 1 a, .str wd b] }) := (h w mean mg mb news t).1
theorem c_wk_w {w : World} {mean : ExcName → Option Value} {mg mb : Str → Option Value} {wd : Str} {e : Ev} (h : WordOk wd e := by walk_at "pa") (t : Tok) (news : Led) : Ct w mean mg mb 289 9 480 news [.str wd t] (fun r n => ∃ l o, r = .ref l ∧ n = (l, o) :: news ∧ (∀ p ∈ news, p.1 ≠ l) ∧ ∃ a b, o = { cls := .type "list", data := .seq #[evVal e a] b }) := (h w mean mg mb news t).2
theorem all2_words : ∀ {vs : List Value} {ws : List (Str × Ev)}, StrsAre vs (ws.map (·.1)) → (∀ y ∈ ws, WordOk y.1 y.2) → All2 IsW vs ws
  | [], [], _, _ => .nil
  | _, _ :: _, .cons _ t h, g => .cons ⟨⟨t, rfl⟩, g _ (.head _)⟩ (all2_words h fun y hy => g y (.tail _ hy))
structure KbP (ws : List (Str × Ev)) (pre news : Led) (D : Addr) (r : List (Str × Ev)) (m : Str → Option Value) (n : Led) (its : Array Value) (k : Nat) (f : List Ev) : Prop where
  hn : n = pre ++ (D, W.listOf its k) :: news
  hf : m (Str.ofString "found") = some (.ref D)
  ha : All2 IsEv its.toList f
  hb : f ++ r.map (·.2) = ws.map (·.2)
  hs : its.size + r.length ≤ 1001
inductive KbE (ws : List (Str × Ev)) (pre news : Led) (D : Addr) (r : List (Str × Ev)) (m : Str → Option Value) (n : Led) : Prop
  | mk (its : Array Value) (k : Nat) (f : List Ev) (h : KbP ws pre news D r m n its k f)
local macro_rules | `(tactic| walk_at "call ref") => `(tactic| ktd_call 228 c_times_w)
local macro_rules | `(tactic| walk_at "call ref") => `(tactic| tb_from 289 c_wk_w)
local macro_rules | `(tactic| walk_at "call ref") => `(tactic| (k_here; with_reducible refine atR 214 ?_; k_dflt (refine' use_ct (C := c_words _ _ (by assumption) (by assumption) (by assumption) (by assumption) _) (ret := ?_); k_whole; intro zr9 zn9 zh9 ztk9 zF9 zN9 zo9; obtain ⟨zl9, zits9, zk9, zre9, zne9, zoff9, zst9⟩ := zo9; subst zre9; subst zne9; walk_at "ct z")))
local macro_rules | `(tactic| walk_at "eval Name") => `(tactic| (k_here; k_dflt (refine' ld (by k_asm) (by ((try dsimp only); (repeat (refine (if_neg (by decide)).trans ?_)); first | assumption | exact if_pos rfl)) ?_; k_whole)))
theorem c_kbd (x : Str) (t : Tok) (ws : List (Str × Ev)) (hz : x.length ≤ 1000) (hsp : Txt.split x (Str.ofString "\n") = [x]) (hno : ∀ y ∈ bwF (x ++ Str.ofString " ").cps.toList [] (Str.ofString ""), ([Str.ofString "\x3b\x3b", Str.ofString "REM"].any fun z => z == y) = false) (hlen : (bwF (x ++ Str.ofString " ").cps.toList [] (Str.ofString "")).length ≤ 1001) (hw : bwF (x ++ Str.ofString " ").cps.toList [] (Str.ofString "") = ws.map (·.1)) (hok : ∀ y ∈ ws, WordOk y.1 y.2) (news : Led) : Ct w mean mg mb 296 11 620 news [.str x t] (fun r n => ∃ l its, r = .ref l ∧ n = (l, TupO its) :: news ∧ (∀ p ∈ news, p.1 < l) ∧ All2 IsEv its.toList (ws.map (·.2))) := by
  constructor
  k_fill
  intro dp un gd cn cs a ccd cl outer A₀ base h₀ L m s Q E B F X N T hk hd hu hret
  refine wpAny_call ?_
  k_dflt k_enter
  repeat ((fail_if_success (with_reducible show wpAny _ _ (exec (PySem.Stmt.For _ _ _ _ _) _) _ _ _)); first | (k_unfold; (try dsimp only)) | walk1)
  (with_reducible rename Fr _ _ _ _ => F1)
  k_dflt (refine For_turns F1 ?_)
  rename ∀ p ∈ news, p.1 < _ => lt0
  repeat ((fail_if_success (with_reducible show wpAny _ _ (pyIter _) _ _ _)); first | (k_unfold; (try dsimp only)) | walk1)
  rename News _ _ _ _ => N5
  rename ∀ p ∈ (_, W.listOf #[] 0) :: _, p.1 < _ => off5
  rename StrsAre _ (bwF _ _ _) => st5
  rw [hw] at st5
  have lt6 := off5 _ (.head _)
  dsimp only at lt6
  have hlen' : ws.length ≤ 1001 := by rw [hw, List.length_map] at hlen; exact hlen
  (with_reducible rename Fr _ _ _ _ => F5)
  k_dflt (refine iter_listTurns (by exact rfl) F5 N5 (.head _) rfl rfl fun I2 hI2 => items_ind (P := KbE ws [_] news _) ?_ ?_ (all2_words st5 hok) _ _ ⟨_, _, [], ⟨rfl, by rfl, by exact .nil, rfl, by show 0 + ws.length ≤ 1001; omega⟩⟩)
  · intro y r v m1 n1 o2 h2 tk2 hp hv F6 N6
    obtain ⟨⟨t6, e6⟩, hok6⟩ := hv
    subst e6
    have gt1 := hI2 _ (.head _)
    have gt2 := hI2 _ (.tail _ (.head _))
    have gt5 : ∀ p ∈ news, p.1 < I2 := fun p hp => hI2 p (.tail _ (.tail _ hp))
    dsimp only at gt1 gt2
    obtain ⟨its, k, f, hn, hf, ha, hb, hs⟩ := hp
    subst hn
    have hs' : its.size ≤ sizeLine := by rw [sizeLine_eq]; simp only [List.length_cons] at hs; omega
    simp only [List.cons_append, List.nil_append] at N6
    repeat' ((fail_if_success (with_reducible show wpAny _ _ (binaryOp Operator.Mult _ _) _ _ _)); first | (k_unfold; (try dsimp only)) | walk1)
    (with_reducible rename News _ _ _ _ => N7)
    (with_reducible rename Fr _ _ _ _ => F7)
    refine KMa.mul (vs := [evVal _ _]) (ws := [evVal _ _]) F7 N7 (News.isList N7 (.head _)) (by decide) (by decide) (Nat.le_of_ble_eq_true rfl) rfl ?_
    intro D3 h3 F8 N8 o3
    have N9 := ndrop3 N8
    have ht1 := o3 _ (.tail _ (.tail _ (.head _)))
    have ht2 := o3 _ (.tail _ (.tail _ (.tail _ (.head _))))
    have ht3 := o3 _ (.tail _ (.tail _ (.tail _ (.tail _ (.head _)))))
    dsimp only at ht1 ht2 ht3
    clear N8
    repeat' ((fail_if_success (with_reducible show wpAny _ _ (call (Value.builtin "list.extend") _) _ _ _)); first | (k_unfold; (try dsimp only)) | walk1)
    refine kl_extend (its2 := #[evVal _ _]) (by k_asm) N9 (.head _) rfl (Nat.succ_ne_zero _) (.tail (Nat.ne_of_gt ht3) (.tail (Nat.ne_of_gt gt2) (.tail (Nat.ne_of_gt lt6) (.head (off_lt lt0))))) ?_ ?_ ?_ ?_
    · simp only [List.length_cons] at hs
      simp [Builtin.List.listTooLong, sizeLine]; omega
    · rw [Array.length_toList]; exact hs'
    · show its.size + 1 ≤ _; omega
    intro h4 F10 N10
    repeat' ((fail_if_success (with_reducible show UnrEndW _ _ _ _ _ _)); first | (k_unfold; (try dsimp only)) | walk1)
    all_goals (refine endW (X := [_] ++ (_, W.listOf _ _) :: news) (by assumption) (ndrop N10) (fun p hp => hp) (off_cons (Nat.ne_of_lt gt1) (off_cons (Nat.ne_of_lt gt2) (off_lt gt5))) ⟨⟨.head _, trivial⟩, ⟨_, _, f ++ [y.2], ⟨rfl, by assumption, All2.app ha (.cons ⟨_, rfl⟩ .nil), by rw [← hb, List.append_assoc]; rfl, ?_⟩⟩⟩)
    all_goals (simp only [List.length_cons] at hs; show (its.toList ++ [_]).toArray.size + _ ≤ _; simp; omega)
  · intro m1 n1 h2 tk2 hp F6 N6
    obtain ⟨its, k, f, hn, hf, ha, hb, hs⟩ := hp
    subst hn
    simp only [List.cons_append, List.nil_append] at N6
    repeat' ((fail_if_success (with_reducible show wpAny _ _ (call (Value.type "tuple") _) _ _ _)); first | (k_unfold; (try dsimp only)) | walk1)
    refine kde_tupleOf (items := its) (by k_asm) N6 (News.isList N6 (.tail _ (.head _))) (by simp only [List.length_nil] at hs; omega) rfl ?_
    intro D9 h9 F9 N9 o9
    k_steps
    all_goals (refine hret _ _ _ _ (by k_asm) (ndrop12 (by assumption)) ⟨_, its, rfl, rfl, fun p hp => o9 p (.tail _ (.tail _ hp)), ?_⟩; rw [List.map_nil, List.append_nil] at hb; rw [← hb]; exact ha)

end
section
noncomputable def metaI (x : Int) : Bool := Builtin.bitAnd x 134217728 != 0
local macro_rules | `(tactic| walk_at "call ref") => `(tactic| ktn_call 84 c_is_sign_i)
local macro_rules | `(tactic| walk_at "call ref") => `(tactic| ktn_call 84 c_is_sign_s)
theorem c_hm_i (x : Int) (t : Tok) (news : Led) : Ct w mean mg mb 164 4 100 news [.int x t] (fun r n => n = news ∧ r = .bool (metaI x)) := by
  constructor
  k_fill
  intro dp un gd cn cs a ccd cl outer A₀ base h₀ L m s Q E B F X N T hk hd hu hret
  refine wpAny_call ?_
  k_dflt k_enter
  repeat' ((fail_if_success (with_reducible show Q _ _)); first | (k_unfold; (try dsimp only)) | walk1 | (dsimp only; walk1) | (leave1; try dsimp only) | (k_end; wrow_close))
  all_goals exact hret _ _ _ _ (by k_asm) (by first | with_reducible assumption | assumption | exact ndrop (by assumption) | exact ndrop (ndrop (by assumption)) | exact ndrop (ndrop (ndrop (by assumption))) | exact ndrop (ndrop (ndrop (ndrop (by assumption))))) ⟨rfl, rfl⟩
theorem c_hm_s (x : Str) (t : Tok) (news : Led) : Ct w mean mg mb 164 4 100 news [.str x t] (fun r n => n = news ∧ r = .bool false) := by
  constructor
  k_fill
  intro dp un gd cn cs a ccd cl outer A₀ base h₀ L m s Q E B F X N T hk hd hu hret
  refine wpAny_call ?_
  k_dflt k_enter
  repeat' ((fail_if_success (with_reducible show Q _ _)); first | (k_unfold; (try dsimp only)) | walk1 | (dsimp only; walk1) | (leave1; try dsimp only) | (k_end; wrow_close))
  all_goals exact hret _ _ _ _ (by k_asm) (by first | with_reducible assumption | assumption | exact ndrop (by assumption) | exact ndrop (ndrop (by assumption)) | exact ndrop (ndrop (ndrop (by assumption))) | exact ndrop (ndrop (ndrop (ndrop (by assumption))))) ⟨rfl, rfl⟩
local macro_rules | `(tactic| walk_at "call ref") => `(tactic| ktn_call 164 c_hm_i)
local macro_rules | `(tactic| walk_at "call ref") => `(tactic| ktn_call 164 c_hm_s)
theorem c_wm_T (x : Int) (t : Tok) (h : metaI x = true := by walk_at "pa") (news : Led) : Ct w mean mg mb 171 5 140 news [.int x t] (fun r n => n = news ∧ ∃ t', r = .int (x - 134217728) t') := by
  constructor
  k_fill
  intro dp un gd cn cs a ccd cl outer A₀ base h₀ L m s Q E B F X N T hk hd hu hret
  refine wpAny_call ?_
  k_dflt k_enter
  repeat' ((fail_if_success (with_reducible show Q _ _)); first | (k_unfold; (try dsimp only)) | walk1 | (dsimp only; walk1) | (leave1; try dsimp only) | (k_end; wrow_close))
  all_goals exact hret _ _ _ _ (by k_asm) (by first | with_reducible assumption | assumption | exact ndrop (by assumption) | exact ndrop (ndrop (by assumption)) | exact ndrop (ndrop (ndrop (by assumption))) | exact ndrop (ndrop (ndrop (ndrop (by assumption))))) ⟨rfl, _, rfl⟩
theorem c_wm_F (x : Int) (t : Tok) (h : metaI x = false := by walk_at "pa") (news : Led) : Ct w mean mg mb 171 5 140 news [.int x t] (fun r n => n = news ∧ r = .int x t) := by
  constructor
  k_fill
  intro dp un gd cn cs a ccd cl outer A₀ base h₀ L m s Q E B F X N T hk hd hu hret
  refine wpAny_call ?_
  k_dflt k_enter
  repeat' ((fail_if_success (with_reducible show Q _ _)); first | (k_unfold; (try dsimp only)) | walk1 | (dsimp only; walk1) | (leave1; try dsimp only) | (k_end; wrow_close))
  all_goals exact hret _ _ _ _ (by k_asm) (by first | with_reducible assumption | assumption | exact ndrop (by assumption) | exact ndrop (ndrop (by assumption)) | exact ndrop (ndrop (ndrop (by assumption))) | exact ndrop (ndrop (ndrop (ndrop (by assumption))))) ⟨rfl, rfl⟩
theorem c_wm_s (x : Str) (t : Tok) (news : Led) : Ct w mean mg mb 171 5 140 news [.str x t] (fun r n => n = news ∧ r = .str x t) := by
  constructor
  k_fill
  intro dp un gd cn cs a ccd cl outer A₀ base h₀ L m s Q E B F X N T hk hd hu hret
  refine wpAny_call ?_
  k_dflt k_enter
  repeat' ((fail_if_success (with_reducible show Q _ _)); first | (k_unfold; (try dsimp only)) | walk1 | (dsimp only; walk1) | (leave1; try dsimp only) | (k_end; wrow_close))
  all_goals exact hret _ _ _ _ (by k_asm) (by first | with_reducible assumption | assumption | exact ndrop (by assumption) | exact ndrop (ndrop (by assumption)) | exact ndrop (ndrop (ndrop (by assumption))) | exact ndrop (ndrop (ndrop (ndrop (by assumption))))) ⟨rfl, rfl⟩
local macro_rules | `(tactic| walk_at "call ref") => `(tactic| ktr_call 171 c_wm_T)
local macro_rules | `(tactic| walk_at "call ref") => `(tactic| ktn_call 171 c_wm_F)
local macro_rules | `(tactic| walk_at "call ref") => `(tactic| ktn_call 171 c_wm_s)
noncomputable def spF : List Ev → List Ev
  | [] => []
  | .inl x :: r => if metaI x then .inl 27 :: .inl (x - 134217728) :: spF r else .inl x :: spF r
  | .inr n :: r => .inr n :: spF r
theorem spF_i {x : Int} {r : List Ev} : spF (.inl x :: r) = if metaI x then .inl 27 :: .inl (x - 134217728) :: spF r else .inl x :: spF r := rfl
theorem spF_len : ∀ es, (spF es).length ≤ 2 * es.length
  | [] => Nat.le_refl _
  | .inl x :: r => by
    have := spF_len r
    unfold spF
    split <;> simp only [List.length_cons] <;> omega
  | .inr n :: r => by
    have := spF_len r
    unfold spF
    simp only [List.length_cons]; omega
structure SpP (es : List Ev) (news : Led) (D : Addr) (r : List Ev) (m : Str → Option Value) (n : Led) (its : Array Value) (k : Nat) (f : List Ev) : Prop where
  hn : n = (D, W.listOf its k) :: news
  hf : m (Str.ofString "found") = some (.ref D)
  ha : All2 IsEv its.toList f
  hb : f ++ spF r = spF es
  hs : its.size + 2 * r.length ≤ 1001
inductive SpE (es : List Ev) (news : Led) (D : Addr) (r : List Ev) (m : Str → Option Value) (n : Led) : Prop
  | mk (its : Array Value) (k : Nat) (f : List Ev) (h : SpP es news D r m n its k f)
local macro_rules | `(tactic| walk_at "eval Name") => `(tactic| (k_here; k_dflt (refine' ld (by k_asm) (by ((try dsimp only); (repeat (refine (if_neg (by decide)).trans ?_)); first | assumption | exact if_pos rfl)) ?_; k_whole)))
theorem upd_2b {I D : Addr} {it o o' : Obj} {news : Led} (h : D < I) (hD : ∀ p ∈ news, p.1 < D) : Upd D o o' ((I, it) :: (D, o) :: news) ((I, it) :: (D, o') :: news) := .tail (Nat.ne_of_gt h) (.head (off_lt hD))
local macro_rules | `(tactic| walk_at "call builtin:list.append") => `(tactic| (k_here; (with_reducible show wpAny _ _ (call (Value.builtin _) [Value.ref _, _]) _ _ _); k_dflt (refine' append_K (by k_asm) (by k_asm) (upd_2b (by assumption) (by assumption)) ?_ (by first | assumption | (rw [Array.size_push]; assumption)); k_whole); intro zh' zF' zN'; (try k_sweep)))
theorem ndrop11 {h₀ h : Heap} {L : Addr} {a x : Addr × Obj} {news : Led} (N : News h₀ L h (a :: x :: news)) : News h₀ L h (a :: news) := fun p hp => N p (by rcases List.mem_cons.mp hp with h | h <;> simp [h])
theorem c_spread (news : Led) (l : Addr) (its0 : Array Value) (es : List Ev) (hm : (l, TupO its0) ∈ news) (hA : All2 IsEv its0.toList es) (hlen : es.length ≤ 100) : Ct w mean mg mb 178 7 220 news [.ref l] (fun r n => ∃ l its, r = .ref l ∧ n = (l, TupO its) :: news ∧ (∀ p ∈ news, p.1 < l) ∧ All2 IsEv its.toList (spF es)) := by
  constructor
  k_fill
  intro dp un gd cn cs a ccd cl outer A₀ base h₀ L m s Q E B F X N T hk hd hu hret
  refine wpAny_call ?_
  k_dflt k_enter
  repeat ((fail_if_success (with_reducible show wpAny _ _ (exec (PySem.Stmt.For _ _ _ _ _) _) _ _ _)); first | (k_unfold; (try dsimp only)) | walk1)
  (with_reducible rename Fr _ _ _ _ => F1)
  k_dflt (refine For_turns F1 ?_)
  rename ∀ p ∈ news, p.1 < _ => lt0
  repeat ((fail_if_success (with_reducible show wpAny _ _ (pyIter _) _ _ _)); first | (k_unfold; (try dsimp only)) | walk1)
  (with_reducible rename Fr _ _ _ _ => F5)
  (with_reducible rename News _ _ _ _ => N5)
  k_dflt (refine iter_tupTurns (vs := its0.toList) (by exact rfl) F5 N5 (.tail _ hm) rfl rfl fun I2 hI2 => items_ind (P := SpE es news _) ?_ ?_ hA _ _ ⟨_, _, [], ⟨rfl, by rfl, by exact .nil, rfl, by show 0 + 2 * es.length ≤ 1001; omega⟩⟩)
  · intro y r v m1 n1 o2 h2 tk2 hp hv F6 N6
    obtain ⟨t6, e6⟩ := hv
    subst e6
    have gt1 := hI2 _ (.head _)
    have gt2 : ∀ p ∈ news, p.1 < I2 := fun p hp => hI2 p (.tail _ hp)
    dsimp only at gt1
    obtain ⟨its, k, f, hn, hf, ha, hb, hs⟩ := hp
    subst hn
    have hs' : its.size ≤ sizeLine := by rw [sizeLine_eq]; simp only [List.length_cons] at hs; omega
    have hs'' : its.size + 1 ≤ sizeLine := by rw [sizeLine_eq]; simp only [List.length_cons] at hs; omega
    rcases y with x | x
    · cases hx : metaI x
      · dsimp only [evVal]
        repeat' ((fail_if_success (with_reducible show UnrEndW _ _ _ _ _ _)); first | (k_unfold; (try dsimp only)) | walk1)
        all_goals (refine endW (X := (_, W.listOf _ _) :: news) (by assumption) (by assumption) (fun p hp => hp) (off_cons (Nat.ne_of_lt gt1) (off_lt gt2)) ⟨⟨.tail _ hm, trivial⟩, ⟨_, _, f ++ [.inl x], ⟨rfl, by assumption, by rw [Array.toList_push]; exact All2.app ha (.cons ⟨_, rfl⟩ .nil), by rw [← hb, List.append_assoc]; rw [spF_i, if_neg (by rw [hx]; decide)]; rfl, ?_⟩⟩⟩)
        all_goals (simp only [Array.size_push, List.length_cons] at hs ⊢; omega)
      · dsimp only [evVal]
        repeat' ((fail_if_success (with_reducible show UnrEndW _ _ _ _ _ _)); first | (k_unfold; (try dsimp only)) | walk1)
        all_goals (refine endW (X := (_, W.listOf _ _) :: news) (by assumption) (by assumption) (fun p hp => hp) (off_cons (Nat.ne_of_lt gt1) (off_lt gt2)) ⟨⟨.tail _ hm, trivial⟩, ⟨_, _, f ++ [.inl 27, .inl (x - 134217728)], ⟨rfl, by assumption, by rw [Array.toList_push, Array.toList_push, List.append_assoc]; exact All2.app ha (.cons ⟨_, rfl⟩ (.cons ⟨_, rfl⟩ .nil)), by rw [← hb, List.append_assoc]; rw [spF_i, if_pos hx]; rfl, ?_⟩⟩⟩)
        all_goals (simp only [Array.size_push, List.length_cons] at hs ⊢; omega)
    · dsimp only [evVal]
      repeat' ((fail_if_success (with_reducible show UnrEndW _ _ _ _ _ _)); first | (k_unfold; (try dsimp only)) | walk1)
      all_goals (refine endW (X := (_, W.listOf _ _) :: news) (by assumption) (by assumption) (fun p hp => hp) (off_cons (Nat.ne_of_lt gt1) (off_lt gt2)) ⟨⟨.tail _ hm, trivial⟩, ⟨_, _, f ++ [.inr x], ⟨rfl, by assumption, by rw [Array.toList_push]; exact All2.app ha (.cons ⟨_, rfl⟩ .nil), by rw [← hb, List.append_assoc]; rfl, ?_⟩⟩⟩)
      all_goals (simp only [Array.size_push, List.length_cons] at hs ⊢; omega)
  · intro m1 n1 h2 tk2 hp F6 N6
    obtain ⟨its, k, f, hn, hf, ha, hb, hs⟩ := hp
    subst hn
    repeat' ((fail_if_success (with_reducible show wpAny _ _ (call (Value.type "tuple") _) _ _ _)); first | (k_unfold; (try dsimp only)) | walk1)
    refine kde_tupleOf (items := its) (by k_asm) N6 (News.isList N6 (.head _)) (by simp only [List.length_nil] at hs; omega) rfl ?_
    intro D9 h9 F9 N9 o9
    k_steps
    all_goals (refine hret _ _ _ _ (by k_asm) (ndrop11 (by assumption)) ⟨_, its, rfl, rfl, fun p hp => o9 p (.tail _ hp), ?_⟩; rw [show spF [] = [] from rfl, List.append_nil] at hb; rw [← hb]; exact ha)

end
section
noncomputable def attrs (w : World) (r : Addr) (t1 t2 t3 t4 t5 : Tok) : Obj :=
  dictOf [{ hash := PyData.keyHash w.params (Str.ofString "prompt"), key := .str (Str.ofString "prompt") t1, val := .str (Str.ofString "") 582 },
    { hash := PyData.keyHash w.params (Str.ofString "rows"), key := .str (Str.ofString "rows") t2, val := .ref r },
    { hash := PyData.keyHash w.params (Str.ofString "has_default"), key := .str (Str.ofString "has_default") t3, val := .bool false },
    { hash := PyData.keyHash w.params (Str.ofString "default"), key := .str (Str.ofString "default") t4, val := .none },
    { hash := PyData.keyHash w.params (Str.ofString "parent"), key := .str (Str.ofString "parent") t5, val := .none }] 5
theorem evk_nil {prog : Program} {w : World} {o : Obj} (h : o.IsDictOf (PySem.strKind prog w) []) : o.IsDictOf (evKind prog w) [] := by
  obtain ⟨es, ep, h1, h2, h3, h4, h5⟩ := h
  have e : es = #[] := by
    cases es with
    | mk l => cases h4; rfl
  subst e
  exact ⟨#[], ep, h1, h2, (fun e he => by simp at he), PySem.Pairs.nil, List.nodup_nil⟩
theorem c_new (news : Led) : Ct w mean mg mb 349 6 200 news [] (fun v n => ∃ k d r o t1 t2 t3 t4 t5, v = .ref k ∧ n = (r, o) :: (k, instObj 349 d) :: (d, attrs w r t1 t2 t3 t4 t5) :: news ∧ d < k ∧ k < r ∧ (∀ p ∈ news, p.1 < d) ∧ (r == sysModules) = false ∧ o.IsDictOf (evKind PR w) []) := by
  constructor
  k_fill
  intro dp un gd cn cs a ccd cl outer A₀ base h₀ L m s Q E B F X N T hk hd hu hret
  k_steps
  obtain ⟨_, _, _⟩ := ‹_ < _ ∧ _ < _ ∧ _›
  exact hret _ _ _ _ (by k_asm) (by assumption) ⟨_, _, _, _, _, _, _, _, _, rfl, rfl, by assumption, by assumption, by assumption, by assumption, evk_nil (by assumption)⟩
def KmAt (w : World) (news : Led) (k d r : Addr) (o : Obj) (kvs : List (Ev × Value)) : Prop :=
  ∃ t1 t2 t3 t4 t5, (k, instObj 349 d) ∈ news ∧ (d, attrs w r t1 t2 t3 t4 t5) ∈ news ∧ (r, o) ∈ news ∧ (r == sysModules) = false ∧ o.IsDictOf (evKind PR w) kvs
theorem kmNews {w : World} {h₀ h : Heap} {L : Addr} {news : Led} {a b c : Addr × Obj} (N : News h₀ L h news) (ha : a ∈ news) (hb : b ∈ news) (hc : c ∈ news) : News h₀ L h (a :: b :: c :: news) := fun p hp => by
  rcases List.mem_cons.mp hp with rfl | hp
  · exact N _ ha
  rcases List.mem_cons.mp hp with rfl | hp
  · exact N _ hb
  rcases List.mem_cons.mp hp with rfl | hp
  · exact N _ hc
  exact N _ hp
theorem ndr3 {h₀ h : Heap} {L : Addr} {news : Led} {a b c : Addr × Obj} (N : News h₀ L h (a :: b :: c :: news)) : News h₀ L h news := ndrop (ndrop (ndrop N))
def setAll (d : Addr) (o' : Obj) (news : Led) : Led := news.map fun p => if p.1 = d then (d, o') else p
theorem kda_setM {prog : Program} {w : World} {K : Type} [DecidableEq K] {knd : KeyKind prog w K} {A : Around} {E : Value → Shared → Prop} {s : Shared} {h₀ : Heap} {L d : Addr} {m : Str → Option Value} {news : Led} {o : Obj} {kvs : List (K × Value)} {k : K} {key v : Value} {Q : Unit → Shared → Prop}
    (F : Fr h₀ L s.heap m) (N : News h₀ L s.heap news) (hp : (d, o) ∈ news) (hd : o.IsDictOf knd kvs) (hkey : knd.is k key = true) (hsz : kvs.length ≤ sizeLine)
    (h : ∀ h' o', Fr h₀ L h' m → News h₀ L h' (setAll d o' news) → o'.IsDictOf knd (stored kvs k v) → Q () { s with heap := h', toks := s.toks + 1 }) : wpAny (model prog w) A (setItem (.ref d) key v) Q E s := by
  have hm := N (d, o) hp
  refine wpAny_setItem_pairs (hsz := hsz) hkey (Heap.dictOf_iff.mpr ⟨o, hm.1, hd⟩) fun h' hmm hs => ?_
  obtain ⟨o', ho', hd'⟩ := Heap.dictOf_iff.mp hmm
  refine h h' o' (F.change hs hm.2.1 hm.2.2) (fun p hp => ?_) hd'
  obtain ⟨q, hq, rfl⟩ := List.mem_map.mp hp
  by_cases e : q.1 = d
  · rw [if_pos e]; exact ⟨ho', hm.2⟩
  · rw [if_neg e]; exact ⟨(hs.2 _ e).trans (N q hq).1, (N q hq).2⟩
theorem c_bound (news : Led) (k d r : Addr) (o : Obj) (kvs : List (Ev × Value)) (e : Ev) (te : Tok) (hK : KmAt w news k d r o kvs) : Ct w mean mg mb 318 3 60 news [.ref k, evVal e te] (fun r n => n = news ∧ r = .bool (valueAt kvs e).isSome) := by
  constructor
  k_fill
  intro dp un gd cn cs a ccd cl outer A₀ base h₀ L m s Q E B F X N T hk hd hu hret
  obtain ⟨t1, t2, t3, t4, t5, hk1, hd1, hr1, lo, ho⟩ := hK; have N9 := kmNews (w := w) N hk1 hd1 hr1; clear N; simp only [attrs] at N9
  refine wpAny_call ?_
  k_dflt k_enter
  repeat' ((fail_if_success (with_reducible show Q _ _)); first | (k_unfold; (try dsimp only)) | walk1 | (dsimp only; walk1) | (leave1; try dsimp only) | (k_end; wrow_close))
  with_reducible rename News _ _ _ _ => N8
  refine kda_in (knd := evKind _ _) N8 (.tail _ (.tail _ (.head _))) ho lo (evVal_is e te) _ rfl ?_
  repeat' ((fail_if_success (with_reducible show Q _ _)); first | (k_unfold; (try dsimp only)) | walk1 | (dsimp only; walk1) | (leave1; try dsimp only) | (k_end; wrow_close))
  exact hret _ _ _ _ (by k_asm) (ndr3 (by assumption)) ⟨rfl, rfl⟩
theorem c_own (news : Led) (k d r : Addr) (o : Obj) (kvs : List (Ev × Value)) (e : Ev) (te : Tok) (hK : KmAt w news k d r o kvs) : Ct w mean mg mb 325 3 60 news [.ref k, evVal e te] (fun r n => n = news ∧ r = (valueAt kvs e).getD .none) := by
  constructor
  k_fill
  intro dp un gd cn cs a ccd cl outer A₀ base h₀ L m s Q E B F X N T hk hd hu hret
  obtain ⟨t1, t2, t3, t4, t5, hk1, hd1, hr1, lo, ho⟩ := hK; have N9 := kmNews (w := w) N hk1 hd1 hr1; clear N; simp only [attrs] at N9
  refine wpAny_call ?_
  k_dflt k_enter
  repeat' ((fail_if_success (with_reducible show Q _ _)); first | (k_unfold; (try dsimp only)) | walk1 | (dsimp only; walk1) | (leave1; try dsimp only) | (k_end; wrow_close))
  with_reducible rename News _ _ _ _ => N8
  refine kdg_method (knd := evKind _ _) N8 (.tail _ (.tail _ (.head _))) ho ?_
  repeat' ((fail_if_success (with_reducible show Q _ _)); first | (k_unfold; (try dsimp only)) | walk1 | (dsimp only; walk1) | (leave1; try dsimp only) | (k_end; wrow_close))
  refine kdg_get2 (knd := evKind _ _) N8 (.tail _ (.tail _ (.head _))) ho lo (evVal_is e te) _ rfl ?_
  repeat' ((fail_if_success (with_reducible show Q _ _)); first | (k_unfold; (try dsimp only)) | walk1 | (dsimp only; walk1) | (leave1; try dsimp only) | (k_end; wrow_close))
  exact hret _ _ _ _ (by k_asm) (ndr3 (by assumption)) ⟨rfl, rfl⟩
theorem c_put (news : Led) (k d r0 : Addr) (o : Obj) (kvs : List (Ev × Value)) (e : Ev) (te : Tok) (v : Value) (hK : KmAt w news k d r0 o kvs) (hsz : kvs.length ≤ sizeLine) : Ct w mean mg mb 332 3 60 news [.ref k, evVal e te, v] (fun r n => r = .none ∧ ∃ o', n = setAll r0 o' news ∧ o'.IsDictOf (evKind PR w) (stored kvs e v)) := by
  constructor
  k_fill
  intro dp un gd cn cs a ccd cl outer A₀ base h₀ L m s Q E B F X N T hk hd hu hret
  obtain ⟨t1, t2, t3, t4, t5, hk1, hd1, hr1, lo, ho⟩ := hK; have N9 := kmNews (w := w) N hk1 hd1 hr1; clear N; simp only [attrs] at N9
  refine wpAny_call ?_
  k_dflt k_enter
  repeat' ((fail_if_success (with_reducible show Q _ _)); first | (k_unfold; (try dsimp only)) | walk1 | (dsimp only; walk1) | (leave1; try dsimp only) | (k_end; wrow_close))
  with_reducible rename News _ _ _ _ => N8
  with_reducible rename Fr _ _ _ _ => F8
  refine kda_setM (knd := evKind _ _) F8 (ndr3 N8) hr1 ho (evVal_is e te) hsz ?_
  intro h7 o7 F7 N7 hd7
  repeat' ((fail_if_success (with_reducible show Q _ _)); first | (k_unfold; (try dsimp only)) | walk1 | (dsimp only; walk1) | (leave1; try dsimp only) | (k_end; wrow_close))
  exact hret _ _ _ _ (by k_asm) (by assumption) ⟨rfl, _, rfl, hd7⟩

end
section
theorem kmNews1 {h₀ h : Heap} {L : Addr} {news : Led} {a : Addr × Obj} (N : News h₀ L h news) (ha : a ∈ news) : News h₀ L h (a :: news) := fun p hp => by
  rcases List.mem_cons.mp hp with rfl | hp
  · exact N _ ha
  exact N _ hp
theorem kmNews2 {h₀ h : Heap} {L : Addr} {news : Led} {a b : Addr × Obj} (N : News h₀ L h news) (ha : a ∈ news) (hb : b ∈ news) : News h₀ L h (a :: b :: news) := kmNews1 (kmNews1 N hb) (.tail _ ha)
theorem ndr23 {h₀ h : Heap} {L : Addr} {news : Led} {x a b : Addr × Obj} (N : News h₀ L h (x :: a :: b :: news)) : News h₀ L h (x :: news) := fun p hp => N p (by rcases List.mem_cons.mp hp with h | h <;> simp [h])
local macro_rules | `(tactic| walk_at "zz") => `(tactic| fail)
theorem c_isk_ref (news : Led) (k d r0 : Addr) (t1 t2 t3 t4 t5 : Tok) (hk1 : (k, instObj 349 d) ∈ news) (hd1 : (d, attrs w r0 t1 t2 t3 t4 t5) ∈ news) : Ct w mean mg mb 360 3 60 news [.ref k] (fun r n => n = news ∧ r = .bool true) := by
  constructor
  k_fill
  intro dp un gd cn cs a ccd cl outer A₀ base h₀ L m s Q E B F X N T hk hd hu hret
  have N9 := kmNews2 N hk1 hd1; clear N; simp only [attrs] at N9
  refine wpAny_call ?_
  k_dflt k_enter
  repeat' ((fail_if_success (with_reducible show Q _ _)); first | (k_unfold; (try dsimp only)) | walk1 | (dsimp only; walk1) | (leave1; try dsimp only) | (k_end; wrow_close))
  exact hret _ _ _ _ (by k_asm) (ndrop (ndrop (by assumption))) ⟨rfl, rfl⟩
theorem c_isk_str (x : Str) (t : Tok) (news : Led) : Ct w mean mg mb 360 3 60 news [.str x t] (fun r n => n = news ∧ r = .bool false) := by
  constructor
  k_fill
  intro dp un gd cn cs a ccd cl outer A₀ base h₀ L m s Q E B F X N T hk hd hu hret
  refine wpAny_call ?_
  k_dflt k_enter
  repeat' ((fail_if_success (with_reducible show Q _ _)); first | (k_unfold; (try dsimp only)) | walk1 | (dsimp only; walk1) | (leave1; try dsimp only) | (k_end; wrow_close))
  exact hret _ _ _ _ (by k_asm) (by assumption) ⟨rfl, rfl⟩
theorem c_chain (news : Led) (k d r0 : Addr) (t1 t2 t3 t4 t5 : Tok) (hk1 : (k, instObj 349 d) ∈ news) (hd1 : (d, attrs w r0 t1 t2 t3 t4 t5) ∈ news) : Ct w mean mg mb 367 3 60 news [.ref k] (fun r n => ∃ l o, r = .ref l ∧ n = (l, o) :: news ∧ (∀ p ∈ news, p.1 < l) ∧ ∃ (a b : Tok), o = { cls := .type "list", data := .seq #[.ref k] b }) := by
  constructor
  k_fill
  intro dp un gd cn cs a ccd cl outer A₀ base h₀ L m s Q E B F X N T hk hd hu hret
  have N9 := kmNews2 N hk1 hd1; clear N; simp only [attrs] at N9
  refine wpAny_call ?_
  k_dflt k_enter
  repeat' ((fail_if_success (with_reducible show Q _ _)); first | (k_unfold; (try dsimp only)) | walk1 | (dsimp only; walk1) | (leave1; try dsimp only) | (k_end; wrow_close))
  obtain ⟨_, _, h9⟩ := ‹_ < _ ∧ _ < _ ∧ _›
  exact hret _ _ _ _ (by k_asm) (ndr23 (by assumption)) ⟨_, _, rfl, rfl, ktn_ltOf h9, 0, _, rfl⟩

end
section
theorem KmAt.mono {w : World} {a b : Led} {k d r : Addr} {o : Obj} {kvs : List (Ev × Value)} (h : ∀ p ∈ a, p ∈ b) (x : KmAt w a k d r o kvs) : KmAt w b k d r o kvs := by
  obtain ⟨t1, t2, t3, t4, t5, h1, h2, h3, h4⟩ := x
  exact ⟨t1, t2, t3, t4, t5, h _ h1, h _ h2, h _ h3, h4⟩
theorem c_bound_m {a news : Led} {k d r : Addr} {o : Obj} {kvs : List (Ev × Value)} {e : Ev} {te : Tok} (hK : KmAt w a k d r o kvs) (sub : ∀ p ∈ a, p ∈ news) :
    Ct w mean mg mb 318 3 60 news [.ref k, evVal e te] (fun r n => n = news ∧ r = .bool (valueAt kvs e).isSome) := c_bound _ _ _ _ _ _ _ _ (hK.mono sub)
theorem c_own_m {a news : Led} {k d r : Addr} {o : Obj} {kvs : List (Ev × Value)} {e : Ev} {te : Tok} (hK : KmAt w a k d r o kvs) (sub : ∀ p ∈ a, p ∈ news) :
    Ct w mean mg mb 325 3 60 news [.ref k, evVal e te] (fun r n => n = news ∧ r = (valueAt kvs e).getD .none) := c_own _ _ _ _ _ _ _ _ (hK.mono sub)
theorem c_isk_m {a news : Led} {k d r : Addr} {o : Obj} {kvs : List (Ev × Value)} (hK : KmAt w a k d r o kvs := by walk_at "pa") (sub : ∀ p ∈ a, p ∈ news := by walk_at "ps") :
    Ct w mean mg mb 360 3 60 news [.ref k] (fun r n => n = news ∧ r = .bool true) := by
  obtain ⟨t1, t2, t3, t4, t5, h1, h2, h3, h4⟩ := hK
  exact c_isk_ref _ _ _ _ _ _ _ _ _ (sub _ h1) (sub _ h2)
theorem c_chain_m {a news : Led} {k d r : Addr} {o : Obj} {kvs : List (Ev × Value)} (hK : KmAt w a k d r o kvs := by walk_at "pa") (sub : ∀ p ∈ a, p ∈ news := by walk_at "ps") :
    Ct w mean mg mb 367 3 60 news [.ref k] (fun r n => ∃ l o, r = .ref l ∧ n = (l, o) :: news ∧ (∀ p ∈ news, p.1 < l) ∧ ∃ (a b : Tok), o = { cls := .type "list", data := .seq #[.ref k] b }) := by
  obtain ⟨t1, t2, t3, t4, t5, h1, h2, h3, h4⟩ := hK
  exact c_chain _ _ _ _ _ _ _ _ _ (sub _ h1) (sub _ h2)
theorem c_bound_t {a news : Led} {k d r : Addr} {o : Obj} {kvs : List (Ev × Value)} {e : Ev} {te : Tok} {v : Value} (hK : KmAt w a k d r o kvs := by walk_at "pa") (hv : valueAt kvs e = some v := by walk_at "pa") (sub : ∀ p ∈ a, p ∈ news := by walk_at "ps") :
    Ct w mean mg mb 318 3 60 news [.ref k, evVal e te] (fun r n => n = news ∧ r = .bool true) := by have := c_bound_m (mean := mean) (mg := mg) (mb := mb) (te := te) (e := e) hK sub; rw [hv] at this; exact this
theorem c_bound_f {a news : Led} {k d r : Addr} {o : Obj} {kvs : List (Ev × Value)} {e : Ev} {te : Tok} (hK : KmAt w a k d r o kvs := by walk_at "pa") (hv : valueAt kvs e = none := by walk_at "pa") (sub : ∀ p ∈ a, p ∈ news := by walk_at "ps") :
    Ct w mean mg mb 318 3 60 news [.ref k, evVal e te] (fun r n => n = news ∧ r = .bool false) := by have := c_bound_m (mean := mean) (mg := mg) (mb := mb) (te := te) (e := e) hK sub; rw [hv] at this; exact this
theorem c_own_s {a news : Led} {k d r : Addr} {o : Obj} {kvs : List (Ev × Value)} {e : Ev} {te : Tok} {v : Value} (hK : KmAt w a k d r o kvs := by walk_at "pa") (hv : valueAt kvs e = some v := by walk_at "pa") (sub : ∀ p ∈ a, p ∈ news := by walk_at "ps") :
    Ct w mean mg mb 325 3 60 news [.ref k, evVal e te] (fun r n => n = news ∧ r = v) := by have := c_own_m (mean := mean) (mg := mg) (mb := mb) (te := te) (e := e) hK sub; rw [hv] at this; exact this
theorem c_own_n {a news : Led} {k d r : Addr} {o : Obj} {kvs : List (Ev × Value)} {e : Ev} {te : Tok} (hK : KmAt w a k d r o kvs := by walk_at "pa") (hv : valueAt kvs e = none := by walk_at "pa") (sub : ∀ p ∈ a, p ∈ news := by walk_at "ps") :
    Ct w mean mg mb 325 3 60 news [.ref k, evVal e te] (fun r n => n = news ∧ r = .none) := by have := c_own_m (mean := mean) (mg := mg) (mb := mb) (te := te) (e := e) hK sub; rw [hv] at this; exact this
local macro_rules | `(tactic| walk_at "call ref") => `(tactic| ktn_call 318 c_bound_t)
local macro_rules | `(tactic| walk_at "call ref") => `(tactic| ktn_call 318 c_bound_f)
local macro_rules | `(tactic| walk_at "call ref") => `(tactic| ktn_call 325 c_own_s)
local macro_rules | `(tactic| walk_at "call ref") => `(tactic| ktn_call 325 c_own_n)
local macro_rules | `(tactic| walk_at "call ref") => `(tactic| ktn_call 360 c_isk_m)
local macro_rules | `(tactic| walk_at "call ref") => `(tactic| ktd_call 367 c_chain_m)
theorem ndr4m {h₀ h : Heap} {L : Addr} {news : Led} {x a b c d : Addr × Obj} (N : News h₀ L h (x :: a :: b :: c :: d :: news)) : News h₀ L h (x :: news) := fun p hp => N p (by rcases List.mem_cons.mp hp with h | h <;> simp [h])
theorem c_rows_N (news : Led) (k d r0 : Addr) (o : Obj) (kvs : List (Ev × Value)) (e : Ev) (te : Tok) (hK : KmAt w news k d r0 o kvs) (hv : valueAt kvs e = none) : Ct w mean mg mb 393 5 140 news [.ref k, evVal e te] (fun r n => ∃ l o, r = .ref l ∧ n = (l, o) :: news ∧ (∀ p ∈ news, p.1 ≠ l) ∧ ∃ (a b : Tok), o = { cls := .type "list", data := .seq #[] b }) := by
  constructor
  k_fill
  intro dp un gd cn cs a ccd cl outer A₀ base h₀ L m s Q E B F X N T hk hd hu hret
  have hK2 := id hK; obtain ⟨t1, t2, t3, t4, t5, hk1, hd1, hr1, lo, ho⟩ := hK2; have N9 := kmNews2 N hk1 hd1; clear N hr1 lo ho
  refine wpAny_call ?_
  k_dflt k_enter
  repeat ((fail_if_success (with_reducible show wpAny _ _ (eval (PySem.Expr.ListComp _ _ _ _) _) _ _ _)); first | (k_unfold; (try dsimp only)) | walk1)
  k_dflt (refine LCt.ListComp_T (F₀ := by k_asm) (by with_unfolding_all rfl) (by decide) (by rfl) (by decide) (by rfl) ?_)
  repeat' ((fail_if_success (with_reducible show Q _ _)); first | (k_unfold; (try dsimp only)) | walk1 | (dsimp only; walk1) | (leave1; try dsimp only) | (k_end; wrow_close))
  obtain ⟨_, _, _, _, h9⟩ := ‹_ ≠ _ ∧ _ ≠ _ ∧ _ ≠ _ ∧ _ ≠ _ ∧ _›
  exact hret _ _ _ _ (by k_asm) (ndr4m (by assumption)) ⟨_, _, rfl, rfl, off1_ne h9, 0, _, rfl⟩
theorem c_rows_S (news : Led) (k d r0 : Addr) (o : Obj) (kvs : List (Ev × Value)) (e : Ev) (te : Tok) (v : Value) (hK : KmAt w news k d r0 o kvs) (hv : valueAt kvs e = some v) : Ct w mean mg mb 393 5 140 news [.ref k, evVal e te] (fun r n => ∃ l o, r = .ref l ∧ n = (l, o) :: news ∧ (∀ p ∈ news, p.1 ≠ l) ∧ ∃ (a b : Tok), o = { cls := .type "list", data := .seq #[v] b }) := by
  constructor
  k_fill
  intro dp un gd cn cs a ccd cl outer A₀ base h₀ L m s Q E B F X N T hk hd hu hret
  have hK2 := id hK; obtain ⟨t1, t2, t3, t4, t5, hk1, hd1, hr1, lo, ho⟩ := hK2; have N9 := kmNews2 N hk1 hd1; clear N hr1 lo ho
  refine wpAny_call ?_
  k_dflt k_enter
  repeat ((fail_if_success (with_reducible show wpAny _ _ (eval (PySem.Expr.ListComp _ _ _ _) _) _ _ _)); first | (k_unfold; (try dsimp only)) | walk1)
  k_dflt (refine LCt.ListComp_T (F₀ := by k_asm) (by with_unfolding_all rfl) (by decide) (by rfl) (by decide) (by rfl) ?_)
  repeat' ((fail_if_success (with_reducible show Q _ _)); first | (k_unfold; (try dsimp only)) | walk1 | (dsimp only; walk1) | (leave1; try dsimp only) | (k_end; wrow_close))
  obtain ⟨_, _, _, _, h9⟩ := ‹_ ≠ _ ∧ _ ≠ _ ∧ _ ≠ _ ∧ _ ≠ _ ∧ _›
  exact hret _ _ _ _ (by k_asm) (ndr4m (by assumption)) ⟨_, _, rfl, rfl, off1_ne h9, 0, _, rfl⟩

end
section
local macro_rules | `(tactic| walk_at "compareOp Eq ref ref") => `(tactic| (k_here; (with_reducible show wpAny _ _ (compareOp CmpOp.Eq (Value.ref _) (Value.ref _)) _ _ _); k_dflt (refine' eq_lens (by k_asm) (by k_mem) (by k_mem) (by exact rfl) (by first | units_room | ktr_units) ?_)))
local macro_rules | `(tactic| walk_at "compareOp NotEq ref ref") => `(tactic| (k_here; (with_reducible show wpAny _ _ (compareOp CmpOp.NotEq (Value.ref _) (Value.ref _)) _ _ _); k_dflt (refine' ne_lens (by k_asm) (by k_mem) (by k_mem) (by exact rfl) (by first | units_room | ktr_units) ?_)))
local macro_rules | `(tactic| walk_at "exec For Name Name cons nil") => `(tactic| (k_here; (with_reducible rename Fr _ _ _ _ => zlF'); (k_dflt (refine For_turns zlF' ?_))))
local macro_rules | `(tactic| walk_at "pyIter ref") => `(tactic| (k_here; (with_reducible show wpAny _ _ (pyIter (Value.ref _)) (fun it s₂ => TurnsAt _ _ _ _ _ _ _ _ _ it s₂) _ _); (with_reducible rename Fr _ _ _ _ => zlF'); (with_reducible rename News _ _ _ _ => zlN'); k_dflt (refine' iter_listTurns (by exact rfl) zlF' zlN' (by k_mem) (by exact rfl) (by exact rfl) ?_); intro zI' zhI'))
theorem ndrA {h₀ h : Heap} {L : Addr} {news : Led} {a x b : Addr × Obj} (N : News h₀ L h (a :: x :: b :: news)) : News h₀ L h (x :: news) := fun p hp => N p (by rcases List.mem_cons.mp hp with h | h <;> simp [h])
def LstO (vs : Array Value) (b : Tok) : Obj := { cls := .type "list", data := .seq vs b }
theorem c_rows_Nm {a news : Led} {k d r : Addr} {o : Obj} {kvs : List (Ev × Value)} {e : Ev} {te : Tok} (hK : KmAt w a k d r o kvs := by walk_at "pa") (hv : valueAt kvs e = none := by walk_at "pa") (sub : ∀ p ∈ a, p ∈ news := by walk_at "ps") :
  Ct w mean mg mb 393 5 140 news [.ref k, evVal e te] (fun r n => ∃ l o, r = .ref l ∧ n = (l, o) :: news ∧ (∀ p ∈ news, p.1 ≠ l) ∧ ∃ (a b : Tok), o = { cls := .type "list", data := .seq #[] b }) := c_rows_N _ _ _ _ _ _ _ _ (hK.mono sub) hv
theorem c_rows_Sm {a news : Led} {k d r : Addr} {o : Obj} {kvs : List (Ev × Value)} {e : Ev} {te : Tok} {v : Value} (hK : KmAt w a k d r o kvs := by walk_at "pa") (hv : valueAt kvs e = some v := by walk_at "pa") (sub : ∀ p ∈ a, p ∈ news := by walk_at "ps") :
  Ct w mean mg mb 393 5 140 news [.ref k, evVal e te] (fun r n => ∃ l o, r = .ref l ∧ n = (l, o) :: news ∧ (∀ p ∈ news, p.1 ≠ l) ∧ ∃ (a b : Tok), o = { cls := .type "list", data := .seq #[v] b }) := c_rows_S _ _ _ _ _ _ _ _ _ (hK.mono sub) hv
local macro_rules | `(tactic| walk_at "call ref") => `(tactic| tb_from 393 c_rows_Nm)
local macro_rules | `(tactic| walk_at "call ref") => `(tactic| tb_from 393 c_rows_Sm)
local macro_rules | `(tactic| walk_at "call ref") => `(tactic| ktn_call 360 c_isk_m)
local macro_rules | `(tactic| walk_at "call ref") => `(tactic| ktn_call 360 c_isk_str)
theorem c_bindings_N (news : Led) (k d r0 : Addr) (o : Obj) (kvs : List (Ev × Value)) (e : Ev) (te : Tok) (hK : KmAt w news k d r0 o kvs) (hv : valueAt kvs e = none) : Ct w mean mg mb 405 6 400 news [.ref k, evVal e te, .bool false] (fun r n => ∃ l o, r = .ref l ∧ n = (l, o) :: news ∧ (∀ p ∈ news, p.1 ≠ l) ∧ ∃ (a b : Tok), o = { cls := .type "list", data := .seq #[] b }) := by
  constructor
  k_fill
  intro dp un gd cn cs a ccd cl outer A₀ base h₀ L m s Q E B F X N T hk hd hu hret
  refine wpAny_call ?_
  k_dflt k_enter
  repeat' ((fail_if_success (with_reducible show Q _ _)); first | (k_unfold; (try dsimp only)) | walk1 | (dsimp only; walk1) | (leave1; try dsimp only) | (k_end; wrow_close))
  exact hret _ _ _ _ (by k_asm) (ndrop (by assumption)) ⟨_, _, rfl, rfl, by assumption, 0, _, rfl⟩
theorem c_bindings_T (news : Led) (k d r0 : Addr) (o : Obj) (kvs : List (Ev × Value)) (e : Ev) (te : Tok) (c : Str) (tc : Tok) (hK : KmAt w news k d r0 o kvs) (hv : valueAt kvs e = some (.str c tc)) : Ct w mean mg mb 405 6 400 news [.ref k, evVal e te, .bool false] (fun r n => ∃ l o, r = .ref l ∧ n = (l, o) :: news ∧ (∀ p ∈ news, p.1 ≠ l) ∧ ∃ (a b : Tok), o = { cls := .type "list", data := .seq #[.str c tc] b }) := by
  constructor
  k_fill
  intro dp un gd cn cs a ccd cl outer A₀ base h₀ L m s Q E B F X N T hk hd hu hret
  refine wpAny_call ?_
  k_dflt k_enter
  repeat' ((fail_if_success (with_reducible show Q _ _)); first | (k_unfold; (try dsimp only)) | walk1 | (dsimp only; walk1) | (leave1; try dsimp only) | (k_end; wrow_close))
  exact hret _ _ _ _ (by k_asm) (ndrop (by assumption)) ⟨_, _, rfl, rfl, by assumption, 0, _, rfl⟩
theorem c_bindings_R (news : Led) (k d r0 : Addr) (o : Obj) (kvs : List (Ev × Value)) (e : Ev) (te : Tok) (k2 : Addr) (hK : KmAt w news k d r0 o kvs) (hv : valueAt kvs e = some (.ref k2)) : Ct w mean mg mb 405 6 400 news [.ref k, evVal e te, .bool false] (fun r n => ∃ l o, r = .ref l ∧ n = (l, o) :: news ∧ (∀ p ∈ news, p.1 ≠ l) ∧ ∃ (a b : Tok), o = { cls := .type "list", data := .seq #[.ref k2] b }) := by
  constructor
  k_fill
  intro dp un gd cn cs a ccd cl outer A₀ base h₀ L m s Q E B F X N T hk hd hu hret
  refine wpAny_call ?_
  k_dflt k_enter
  repeat' ((fail_if_success (with_reducible show Q _ _)); first | (k_unfold; (try dsimp only)) | walk1 | (dsimp only; walk1) | (leave1; try dsimp only) | (k_end; wrow_close))
  exact hret _ _ _ _ (by k_asm) (ndrop (by assumption)) ⟨_, _, rfl, rfl, by assumption, 0, _, rfl⟩
theorem c_joined_T (news : Led) (c : Str) (tc b0 : Tok) (l0 : Addr) (hl : (l0, LstO #[.str c tc] b0) ∈ news) : Ct w mean mg mb 412 5 300 news [.ref l0] (fun r n => n = news ∧ r = .str c tc) := by
  constructor
  k_fill
  intro dp un gd cn cs a ccd cl outer A₀ base h₀ L m s Q E B F X N T hk hd hu hret
  have N9 := kmNews1 N hl; clear N; simp only [LstO] at N9
  refine wpAny_call ?_
  k_dflt k_enter
  repeat' ((fail_if_success (with_reducible show Q _ _)); first | (k_unfold; (try dsimp only)) | walk1 | (dsimp only; walk1) | (leave1; try dsimp only) | (k_end; wrow_close))
  exact hret _ _ _ _ (by k_asm) (ndrop (ndrop (ndrop (ndrop (by assumption))))) ⟨rfl, rfl⟩
theorem c_joined_R (news : Led) (k2 d2 r2 : Addr) (o2 : Obj) (kvs2 : List (Ev × Value)) (b0 : Tok) (l0 : Addr) (hl : (l0, LstO #[.ref k2] b0) ∈ news) (hK : KmAt w news k2 d2 r2 o2 kvs2) : Ct w mean mg mb 412 5 300 news [.ref l0] (fun r n => ∃ l o, r = .ref l ∧ n = (l, o) :: news ∧ (∀ p ∈ news, p.1 ≠ l) ∧ ∃ (a b : Tok), o = { cls := .type "list", data := .seq #[.ref k2] b }) := by
  constructor
  k_fill
  intro dp un gd cn cs a ccd cl outer A₀ base h₀ L m s Q E B F X N T hk hd hu hret
  have N9 := kmNews1 N hl; clear N; simp only [LstO] at N9
  refine wpAny_call ?_
  k_dflt k_enter
  repeat' ((fail_if_success (with_reducible show Q _ _)); first | (k_unfold; (try dsimp only)) | walk1 | (dsimp only; walk1) | (leave1; try dsimp only) | (k_end; wrow_close))
  rename _ < _ ∧ AllLt _ _ => hz
  rename ∀ p ∈ (_, W.listOf #[] 0) :: _, p.1 < _ => hI
  have hI0 := hI _ (.head _)
  have hI1 := hI _ (.tail _ (.head _))
  dsimp only at hI0 hI1
  have hI2 : ∀ p ∈ news, p.1 < _ := fun p hp => hI p (.tail _ (.tail _ hp))
  refine append_K (by k_asm) (by k_asm) (.tail (Nat.ne_of_gt hI0) (.head (off_cons (Nat.ne_of_lt hz.1) (off_lt (ktn_ltOf hz.2))))) ?_ (Nat.zero_le _)
  intro h8 F8 N8
  repeat' ((fail_if_success (with_reducible show Q _ _)); first | (k_unfold; (try dsimp only)) | walk1 | (dsimp only; walk1) | (leave1; try dsimp only) | (k_end; wrow_close))
  refine endW (X := [_, _] ++ news) F8 N8 (fun p hp => hp) (off_cons (Nat.ne_of_lt hI0) (off_cons (Nat.ne_of_lt hI1) (off_lt hI2))) ⟨⟨.tail _ (.head _), trivial⟩, ?_⟩
  repeat' ((fail_if_success (with_reducible show Q _ _)); first | (k_unfold; (try dsimp only)) | walk1 | (dsimp only; walk1) | (leave1; try dsimp only) | (k_end; wrow_close))
  (with_reducible rename News h₀ _ _ _ => N9)
  exact hret _ _ _ _ (by k_asm) (ndrA N9) ⟨_, _, rfl, rfl, fun p hp => Nat.ne_of_lt (ktn_ltOf hz.2 p hp), 0, _, rfl⟩

end
section
local macro_rules | `(tactic| walk_at "mine: one more") => `(tactic| skip)
local macro_rules | `(tactic| walk_at "compareOp Eq ref ref") => `(tactic| (k_here; (with_reducible show wpAny _ _ (compareOp CmpOp.Eq (Value.ref _) (Value.ref _)) _ _ _); k_dflt (refine' eq_lens (by k_asm) (by k_mem) (by k_mem) (by exact rfl) (by first | units_room | ktr_units) ?_)))
local macro_rules | `(tactic| walk_at "compareOp NotEq ref ref") => `(tactic| (k_here; (with_reducible show wpAny _ _ (compareOp CmpOp.NotEq (Value.ref _) (Value.ref _)) _ _ _); k_dflt (refine' ne_lens (by k_asm) (by k_mem) (by k_mem) (by exact rfl) (by first | units_room | ktr_units) ?_)))
local macro_rules | `(tactic| walk_at "exec For Name Name cons nil") => `(tactic| (k_here; (with_reducible rename Fr _ _ _ _ => zlF'); (k_dflt (refine For_turns zlF' ?_))))
local macro_rules | `(tactic| walk_at "pyIter ref") => `(tactic| (k_here; (with_reducible show wpAny _ _ (pyIter (Value.ref _)) (fun it s₂ => TurnsAt _ _ _ _ _ _ _ _ _ it s₂) _ _); (with_reducible rename Fr _ _ _ _ => zlF'); (with_reducible rename News _ _ _ _ => zlN'); k_dflt (refine' iter_listTurns (by exact rfl) zlF' zlN' (by k_mem) (by exact rfl) (by exact rfl) ?_); intro zI' zhI'))
theorem c_bindings_Nm {a news : Led} {k d r : Addr} {o : Obj} {kvs : List (Ev × Value)} {e : Ev} {te : Tok} (hK : KmAt w a k d r o kvs := by walk_at "pa") (hv : valueAt kvs e = none := by walk_at "pa") (sub : ∀ p ∈ a, p ∈ news := by walk_at "ps") :
  Ct w mean mg mb 405 6 400 news [.ref k, evVal e te, .bool false] (fun r n => ∃ l o, r = .ref l ∧ n = (l, o) :: news ∧ (∀ p ∈ news, p.1 ≠ l) ∧ ∃ (a b : Tok), o = { cls := .type "list", data := .seq #[] b }) := c_bindings_N _ _ _ _ _ _ _ _ (hK.mono sub) hv
theorem c_bindings_Tm {a news : Led} {k d r : Addr} {o : Obj} {kvs : List (Ev × Value)} {e : Ev} {te : Tok} {c : Str} {tc : Tok} (hK : KmAt w a k d r o kvs := by walk_at "pa") (hv : valueAt kvs e = some (.str c tc) := by walk_at "pa") (sub : ∀ p ∈ a, p ∈ news := by walk_at "ps") :
  Ct w mean mg mb 405 6 400 news [.ref k, evVal e te, .bool false] (fun r n => ∃ l o, r = .ref l ∧ n = (l, o) :: news ∧ (∀ p ∈ news, p.1 ≠ l) ∧ ∃ (a b : Tok), o = { cls := .type "list", data := .seq #[.str c tc] b }) := c_bindings_T _ _ _ _ _ _ _ _ _ _ (hK.mono sub) hv
theorem c_bindings_Rm {a news : Led} {k d r : Addr} {o : Obj} {kvs : List (Ev × Value)} {e : Ev} {te : Tok} {k2 : Addr} (hK : KmAt w a k d r o kvs := by walk_at "pa") (hv : valueAt kvs e = some (.ref k2) := by walk_at "pa") (sub : ∀ p ∈ a, p ∈ news := by walk_at "ps") :
  Ct w mean mg mb 405 6 400 news [.ref k, evVal e te, .bool false] (fun r n => ∃ l o, r = .ref l ∧ n = (l, o) :: news ∧ (∀ p ∈ news, p.1 ≠ l) ∧ ∃ (a b : Tok), o = { cls := .type "list", data := .seq #[.ref k2] b }) := c_bindings_R _ _ _ _ _ _ _ _ _ (hK.mono sub) hv
theorem c_joined_Tm {news : Led} {c : Str} {tc b0 : Tok} {l0 : Addr} (hl : (l0, ({ cls := .type "list", data := .seq #[.str c tc] b0 } : Obj)) ∈ news := by walk_at "ph") :
  Ct w mean mg mb 412 5 300 news [.ref l0] (fun r n => n = news ∧ r = .str c tc) := c_joined_T _ _ _ _ _ hl
theorem c_joined_Rm {a news : Led} {k2 d2 r2 : Addr} {o2 : Obj} {kvs2 : List (Ev × Value)} {b0 : Tok} {l0 : Addr} (hK : KmAt w a k2 d2 r2 o2 kvs2) (sub : ∀ p ∈ a, p ∈ news) (hl : (l0, ({ cls := .type "list", data := .seq #[.ref k2] b0 } : Obj)) ∈ news) :
  Ct w mean mg mb 412 5 300 news [.ref l0] (fun r n => ∃ l o, r = .ref l ∧ n = (l, o) :: news ∧ (∀ p ∈ news, p.1 ≠ l) ∧ ∃ (a b : Tok), o = { cls := .type "list", data := .seq #[.ref k2] b }) := c_joined_R _ _ _ _ _ _ _ _ hl (hK.mono sub)
local macro_rules | `(tactic| walk_at "call ref") => `(tactic| tb_from 405 c_bindings_Nm)
local macro_rules | `(tactic| walk_at "call ref") => `(tactic| tb_from 405 c_bindings_Tm)
local macro_rules | `(tactic| walk_at "call ref") => `(tactic| tb_from 405 c_bindings_Rm)
local macro_rules | `(tactic| walk_at "call ref") => `(tactic| ktn_call 412 c_joined_Tm)
theorem c_first_N (news : Led) (k d r0 : Addr) (o : Obj) (kvs : List (Ev × Value)) (e : Ev) (te : Tok) (hK : KmAt w news k d r0 o kvs) (hv : valueAt kvs e = none) : Ct w mean mg mb 419 7 460 news [.ref k, evVal e te, .bool false] (fun r n => n = news ∧ r = .none) := by
  constructor
  k_fill
  intro dp un gd cn cs a ccd cl outer A₀ base h₀ L m s Q E B F X N T hk hd hu hret
  refine wpAny_call ?_
  k_dflt k_enter
  repeat' ((fail_if_success (with_reducible show Q _ _)); first | (k_unfold; (try dsimp only)) | walk1 | (dsimp only; walk1) | (leave1; try dsimp only) | (k_end; wrow_close))
  exact hret _ _ _ _ (by k_asm) (ndrop (ndrop (by assumption))) ⟨rfl, rfl⟩
theorem c_first_T (news : Led) (k d r0 : Addr) (o : Obj) (kvs : List (Ev × Value)) (e : Ev) (te : Tok) (c : Str) (tc : Tok) (hK : KmAt w news k d r0 o kvs) (hv : valueAt kvs e = some (.str c tc)) : Ct w mean mg mb 419 7 460 news [.ref k, evVal e te, .bool false] (fun r n => n = news ∧ r = .str c tc) := by
  constructor
  k_fill
  intro dp un gd cn cs a ccd cl outer A₀ base h₀ L m s Q E B F X N T hk hd hu hret
  refine wpAny_call ?_
  k_dflt k_enter
  repeat' ((fail_if_success (with_reducible show Q _ _)); first | (k_unfold; (try dsimp only)) | walk1 | (dsimp only; walk1) | (leave1; try dsimp only) | (k_end; wrow_close))
  exact hret _ _ _ _ (by k_asm) (ndrop (ndrop (by assumption))) ⟨rfl, rfl⟩
theorem c_first_R (news : Led) (k d r0 : Addr) (o : Obj) (kvs : List (Ev × Value)) (e : Ev) (te : Tok) (k2 d2 r2 : Addr) (o2 : Obj) (kvs2 : List (Ev × Value)) (hK2 : KmAt w news k2 d2 r2 o2 kvs2) (hK : KmAt w news k d r0 o kvs) (hv : valueAt kvs e = some (.ref k2)) : Ct w mean mg mb 419 7 460 news [.ref k, evVal e te, .bool false] (fun r n => ∃ l o, r = .ref l ∧ n = (l, o) :: news ∧ (∀ p ∈ news, p.1 ≠ l) ∧ ∃ (a b : Tok), o = { cls := .type "list", data := .seq #[.ref k2] b }) := by
  constructor
  k_fill
  intro dp un gd cn cs a ccd cl outer A₀ base h₀ L m s Q E B F X N T hk hd hu hret
  refine wpAny_call ?_
  k_dflt k_enter
  repeat ((fail_if_success (with_reducible show wpAny _ _ (call (Value.ref 412) _) _ _ _)); first | (k_unfold; (try dsimp only)) | walk1)
  k_here
  k_dflt (refine' use_ctQ ?k1 ?k2 ?k3 ?k4 ?k5 (c_joined_Rm hK2 (fun p hp => .tail _ (.tail _ hp)) (.tail _ (.head _))) ?kK ?kd ?ku ?_; (case k1 => k_asm); (case k2 => k_asm); (case k3 => k_asm); (case k4 => k_asm); (case k5 => k_asm); (case kK => first | exact rfl | assumption); (case kd => ktr_room); (case ku => ktr_units); k_whole)
  intro l9 a9 b9 h9 tk9 F9 N9 l1
  repeat' ((fail_if_success (with_reducible show Q _ _)); first | (k_unfold; (try dsimp only)) | walk1 | (dsimp only; walk1) | (leave1; try dsimp only) | (k_end; wrow_close))
  exact hret _ _ _ _ (by k_asm) (ndr23 (by assumption)) ⟨_, _, rfl, rfl, off_tl (off_tl l1), 0, _, rfl⟩

end
section
local macro_rules | `(tactic| walk_at "compareOp Eq ref ref") => `(tactic| (k_here; (with_reducible show wpAny _ _ (compareOp CmpOp.Eq (Value.ref _) (Value.ref _)) _ _ _); k_dflt (refine' eq_lens (by k_asm) (by k_mem) (by k_mem) (by exact rfl) (by first | units_room | ktr_units) ?_)))
local macro_rules | `(tactic| walk_at "compareOp NotEq ref ref") => `(tactic| (k_here; (with_reducible show wpAny _ _ (compareOp CmpOp.NotEq (Value.ref _) (Value.ref _)) _ _ _); k_dflt (refine' ne_lens (by k_asm) (by k_mem) (by k_mem) (by exact rfl) (by first | units_room | ktr_units) ?_)))
local macro_rules | `(tactic| walk_at "exec For Name Name cons nil") => `(tactic| (k_here; (with_reducible rename Fr _ _ _ _ => zlF'); (k_dflt (refine For_turns zlF' ?_))))
local macro_rules | `(tactic| walk_at "pyIter ref") => `(tactic| (k_here; (with_reducible show wpAny _ _ (pyIter (Value.ref _)) (fun it s₂ => TurnsAt _ _ _ _ _ _ _ _ _ it s₂) _ _); (with_reducible rename Fr _ _ _ _ => zlF'); (with_reducible rename News _ _ _ _ => zlN'); k_dflt (refine' iter_listTurns (by exact rfl) zlF' zlN' (by k_mem) (by exact rfl) (by exact rfl) ?_); intro zI' zhI'))
theorem c_first_Nm {a news : Led} {k d r : Addr} {o : Obj} {kvs : List (Ev × Value)} {e : Ev} {te : Tok} (hK : KmAt w a k d r o kvs := by walk_at "pa") (hv : valueAt kvs e = none := by walk_at "pa") (sub : ∀ p ∈ a, p ∈ news := by walk_at "ps") :
  Ct w mean mg mb 419 7 460 news [.ref k, evVal e te, .bool false] (fun r n => n = news ∧ r = .none) := c_first_N _ _ _ _ _ _ _ _ (hK.mono sub) hv
theorem c_first_Tm {a news : Led} {k d r : Addr} {o : Obj} {kvs : List (Ev × Value)} {e : Ev} {te : Tok} {c : Str} {tc : Tok} (hK : KmAt w a k d r o kvs := by walk_at "pa") (hv : valueAt kvs e = some (.str c tc) := by walk_at "pa") (sub : ∀ p ∈ a, p ∈ news := by walk_at "ps") :
  Ct w mean mg mb 419 7 460 news [.ref k, evVal e te, .bool false] (fun r n => n = news ∧ r = .str c tc) := c_first_T _ _ _ _ _ _ _ _ _ _ (hK.mono sub) hv
theorem c_first_Rm {a news : Led} {k d r : Addr} {o : Obj} {kvs : List (Ev × Value)} {e : Ev} {te : Tok} {k2 d2 r2 : Addr} {o2 : Obj} {kvs2 : List (Ev × Value)} (hK2 : KmAt w a k2 d2 r2 o2 kvs2) (hK : KmAt w a k d r o kvs) (hv : valueAt kvs e = some (.ref k2)) (sub : ∀ p ∈ a, p ∈ news) :
  Ct w mean mg mb 419 7 460 news [.ref k, evVal e te, .bool false] (fun r n => ∃ l o, r = .ref l ∧ n = (l, o) :: news ∧ (∀ p ∈ news, p.1 ≠ l) ∧ ∃ (a b : Tok), o = { cls := .type "list", data := .seq #[.ref k2] b }) := c_first_R _ _ _ _ _ _ _ _ _ _ _ _ _ (hK2.mono sub) (hK.mono sub) hv
local macro_rules | `(tactic| walk_at "call ref") => `(tactic| ktn_call 419 c_first_Nm)
local macro_rules | `(tactic| walk_at "call ref") => `(tactic| ktn_call 419 c_first_Tm)
theorem c_found_N (news : Led) (k d r0 : Addr) (o : Obj) (kvs : List (Ev × Value)) (e : Ev) (te : Tok) (lm : Addr) (bm : Tok) (hlm : (lm, LstO #[.ref k] bm) ∈ news) (hK : KmAt w news k d r0 o kvs) (hv : valueAt kvs e = none) : Ct w mean mg mb 426 8 540 news [.ref lm, evVal e te, .bool false] (fun r n => n = news ∧ r = .none) := by
  constructor
  k_fill
  intro dp un gd cn cs a ccd cl outer A₀ base h₀ L m s Q E B F X N T hk hd hu hret
  have N9 := kmNews1 N hlm; clear N; simp only [LstO] at N9
  refine wpAny_call ?_
  k_dflt k_enter
  repeat' ((fail_if_success (with_reducible show Q _ _)); first | (k_unfold; (try dsimp only)) | walk1 | (dsimp only; walk1) | (leave1; try dsimp only) | (k_end; wrow_close))
  exact hret _ _ _ _ (by k_asm) (ndrop (ndrop (ndrop (by assumption)))) ⟨rfl, rfl⟩
theorem c_found_T (news : Led) (k d r0 : Addr) (o : Obj) (kvs : List (Ev × Value)) (e : Ev) (te : Tok) (c : Str) (tc : Tok) (lm : Addr) (bm : Tok) (hlm : (lm, LstO #[.ref k] bm) ∈ news) (hK : KmAt w news k d r0 o kvs) (hv : valueAt kvs e = some (.str c tc)) : Ct w mean mg mb 426 8 540 news [.ref lm, evVal e te, .bool false] (fun r n => n = news ∧ r = .str c tc) := by
  constructor
  k_fill
  intro dp un gd cn cs a ccd cl outer A₀ base h₀ L m s Q E B F X N T hk hd hu hret
  have N9 := kmNews1 N hlm; clear N; simp only [LstO] at N9
  refine wpAny_call ?_
  k_dflt k_enter
  repeat' ((fail_if_success (with_reducible show Q _ _)); first | (k_unfold; (try dsimp only)) | walk1 | (dsimp only; walk1) | (leave1; try dsimp only) | (k_end; wrow_close))
  exact hret _ _ _ _ (by k_asm) (ndrop (ndrop (ndrop (ndrop (by assumption))))) ⟨rfl, rfl⟩
theorem c_found_R (news : Led) (k d r0 : Addr) (o : Obj) (kvs : List (Ev × Value)) (e : Ev) (te : Tok) (k2 d2 r2 : Addr) (o2 : Obj) (kvs2 : List (Ev × Value)) (hK2 : KmAt w news k2 d2 r2 o2 kvs2) (lm : Addr) (bm : Tok) (hlm : (lm, LstO #[.ref k] bm) ∈ news) (hK : KmAt w news k d r0 o kvs) (hv : valueAt kvs e = some (.ref k2)) : Ct w mean mg mb 426 8 540 news [.ref lm, evVal e te, .bool false] (fun r n => ∃ l o, r = .ref l ∧ n = (l, o) :: news ∧ (∀ p ∈ news, p.1 ≠ l) ∧ ∃ (a b : Tok), o = { cls := .type "list", data := .seq #[.ref k2] b }) := by
  constructor
  k_fill
  intro dp un gd cn cs a ccd cl outer A₀ base h₀ L m s Q E B F X N T hk hd hu hret
  have N9 := kmNews1 N hlm; clear N; simp only [LstO] at N9
  refine wpAny_call ?_
  k_dflt k_enter
  repeat ((fail_if_success (with_reducible show wpAny _ _ (call (Value.ref 419) _) _ _ _)); first | (k_unfold; (try dsimp only)) | walk1)
  k_here
  k_dflt (refine' use_ctQ ?k1 ?k2 ?k3 ?k4 ?k5 (c_first_Rm hK2 hK hv ?sub) ?kK ?kd ?ku ?_; (case k1 => k_asm); (case k2 => k_asm); (case k3 => k_asm); (case k4 => k_asm); (case k5 => k_asm); (case kK => first | exact rfl | assumption); (case kd => ktr_room); (case ku => ktr_units); (case sub => (intro p9 hp9; repeat (first | exact hp9 | refine List.Mem.tail _ ?_))); k_whole)
  intro l9 a9 b9 h9 tk9 F9 N9 l1
  repeat' ((fail_if_success (with_reducible show Q _ _)); first | (k_unfold; (try dsimp only)) | walk1 | (dsimp only; walk1) | (leave1; try dsimp only) | (k_end; wrow_close))
  rename _ < _ ∧ AllLt _ _ => hz
  rename ∀ p ∈ (_, W.listOf #[] 0) :: _, p.1 < _ => hI
  have hI0 := hI _ (.head _)
  have hI1 := hI _ (.tail _ (.head _))
  have hI3 := l1 _ (.tail _ (.head _))
  dsimp only at hI0 hI1 hI3
  have hI2 : ∀ p ∈ news, p.1 < _ := fun p hp => hI p (.tail _ (.tail _ hp))
  refine kl_extend (its2 := #[.ref k2]) (l := [.ref k2]) (by k_asm) (by k_asm) (.head _) rfl (Nat.succ_ne_zero _) (.tail (Ne.symm hI3) (.tail (Nat.ne_of_gt hI0) (.head (off_cons (Nat.ne_of_lt hz.1) (off_lt (ktn_ltOf hz.2)))))) (by simp) (Nat.zero_le _) (Nat.le_of_ble_eq_true rfl) ?_
  intro h8 F8 N8
  repeat' ((fail_if_success (with_reducible show Q _ _)); first | (k_unfold; (try dsimp only)) | walk1 | (dsimp only; walk1) | (leave1; try dsimp only) | (k_end; wrow_close))
  refine endW (X := [_, _] ++ news) F8 (ndrop N8) (fun p hp => hp) (off_cons (Nat.ne_of_lt hI0) (off_cons (Nat.ne_of_lt hI1) (off_lt hI2))) ⟨⟨.tail _ (.head _), trivial⟩, ?_⟩
  repeat' ((fail_if_success (with_reducible show Q _ _)); first | (k_unfold; (try dsimp only)) | walk1 | (dsimp only; walk1) | (leave1; try dsimp only) | (k_end; wrow_close))
  (with_reducible rename News h₀ _ _ _ => N9)
  exact hret _ _ _ _ (by k_asm) (ndrA N9) ⟨_, _, rfl, rfl, fun p hp => Nat.ne_of_lt (ktn_ltOf hz.2 p hp), 0, _, rfl⟩

end
section
section
open PySem.Builtin
variable {prog : Program} {w : World} {A : Around} {E : Value → Shared → Prop} {s : Shared}
theorem nextOf_tup_item {it t : Addr} {i : Nat} {items : Array Value} {x : Value} {Q : Value → Shared → Prop} (hit : s.heap.IsTupleIter it t i) (ht : s.heap.IsTuple t items) (hx : items[i]? = some x)
    (hQ : ∀ h', h'.IsTupleIter it t (i + 1) → Heap.SameBut it s.heap h' → Q x { s with heap := h' }) : wpAny (model prog w) A (Builtin.SmallTypes.nextOf (.ref it)) Q E s := by
  obtain ⟨o, ho, hc, hd⟩ := id hit
  obtain ⟨ol, hol, _, nl, hdl⟩ := ht
  unfold Builtin.SmallTypes.nextOf
  refine wpAny_bind (wpAny_callSpecial?_slot (name := Str.ofString "__next__") hit.typeIs PySem.F.slot_tuple_iterator_next
    (wpAny_call_entry PySem.F.slot_tuple_iterator_next hit.typeIs PySem.F.entry_tuple_iterator_next ?_ (PySem.F.args_tuple_iterator_next_1 _)))
  show wpAny _ _ (field (.ref it) 0 >>= _) _ _ s
  refine wpAny_bind (wpAny_field ho hd (x := .ref t) rfl ?_)
  show wpAny _ _ (if (Value.ref t == Value.none) = true then _ else _) _ _ s
  rw [if_neg (show ¬ ((Value.ref t == Value.none) = true) from Bool.false_ne_true)]
  show wpAny _ _ (field (.ref it) 1 >>= _) _ _ s
  refine wpAny_bind (wpAny_field ho hd (x := .int i 0) rfl ?_)
  show wpAny _ _ (seqItems? (.ref t) >>= _) _ _ s
  refine wpAny_bind (wpAny_seqItems hol hdl ?_)
  simp only [Int.toNat_natCast, hx]
  refine wpAny_bind (wpAny_setField ho hd (by simp) (wpAny_pure ⟨x, rfl, wpAny_pure (hQ _ ?_ (Heap.SameBut.update ..))⟩))
  exact ⟨_, Heap.get?_update_self _ ho (Obj.isFreed_of_fields (Obj.data_mapFields hd _)), (Obj.cls_mapFields ..).trans hc, by
    rw [Obj.data_mapFields hd]; simp [rawInt]⟩
theorem nextOf_tup_end {it t : Addr} {i : Nat} {items : Array Value} {Q : Value → Shared → Prop} (hh : A.handled = none) (hit : s.heap.IsTupleIter it t i) (ht : s.heap.IsTuple t items) (hx : items[i]? = none)
    (hE : ∀ h' e, Heap.ExtBut it s.heap h' → (∃ o, h'.get? e = some o ∧ o.cls = .type "StopIteration") → E (.ref e) { s with heap := h' }) :
    wpAny (model prog w) A (Builtin.SmallTypes.nextOf (.ref it)) Q E s := by
  obtain ⟨o, ho, hc, hd⟩ := id hit
  obtain ⟨ol, hol, _, nl, hdl⟩ := ht
  unfold Builtin.SmallTypes.nextOf
  refine wpAny_bind (wpAny_callSpecial?_slot (name := Str.ofString "__next__") hit.typeIs PySem.F.slot_tuple_iterator_next
    (wpAny_call_entry PySem.F.slot_tuple_iterator_next hit.typeIs PySem.F.entry_tuple_iterator_next ?_ (PySem.F.args_tuple_iterator_next_1 _)))
  show wpAny _ _ (field (.ref it) 0 >>= _) _ _ s
  refine wpAny_bind (wpAny_field ho hd (x := .ref t) rfl ?_)
  show wpAny _ _ (if (Value.ref t == Value.none) = true then _ else _) _ _ s
  rw [if_neg (show ¬ ((Value.ref t == Value.none) = true) from Bool.false_ne_true)]
  show wpAny _ _ (field (.ref it) 1 >>= _) _ _ s
  refine wpAny_bind (wpAny_field ho hd (x := .int i 0) rfl ?_)
  show wpAny _ _ (seqItems? (.ref t) >>= _) _ _ s
  refine wpAny_bind (wpAny_seqItems hol hdl ?_)
  simp only [Int.toNat_natCast, hx]
  refine wpAny_bind (wpAny_rule (wpAny_bind (wpAny_setField ho hd (by simp) ?_)))
  show wpAny _ _ (newExc (.type "StopIteration") [] >>= _) _ _ _
  refine wpAny_bind ?_
  simp only [newExc, newTuple]
  refine wpAny_bind (wpAny_newObj_type ?_ (by size_fits))
  refine wpAny_bind (m := firstArgMember _ _) (wpAny_of_eq (a := Value.none) (by first | rfl | (simp only [firstArgMember]; rfl)) ?_)
  refine wpAny_newObj_type ?_ (by size_fits)
  simp only [raiseNew]
  refine wpAny_bind (wpAny_handled ?_)
  first | rw [show A.in1.handled = none from hh] | rw [hh]
  refine wpAny_bind (wpAny_pure (wpAny_throw ?_))
  exact hE _ _ (((Heap.SameBut.update ..).extBut.push _).push _) ⟨_, Heap.get?_push_size _ rfl, rfl⟩
end
theorem draws_tup {prog : Program} {w : World} {A : Around} (hh : A.handled = none) (it t : Addr) (hne : t ≠ it) (items : Array Value) :
    Draws prog w A it [it, t] items.size (fun i v => items[i]? = some v) (fun i h => h.IsTupleIter it t i ∧ h.IsTuple t items) where
  live := fun _ _ st => let ⟨o, ho, _⟩ := st.1; ⟨o, ho⟩
  frame := fun _ _ _ st hk => ⟨st.1.at fun o e => hk it (by simp) o e, st.2.at fun o e => hk t (by simp) o e⟩
  item := fun i s Q E hi st hQ => by
    refine nextOf_tup_item st.1 st.2 (x := items[i]) (by simp [hi]) fun h' hit' hs' => ?_
    exact hQ _ h' s.toks (by simp [hi]) ⟨hit', st.2.extBut hs'.extBut hne⟩ hs'
  done := fun s Q E st hE => nextOf_tup_end hh st.1 st.2 (by simp) hE
theorem enum_newT (l : Addr) (items : Array Value) (n : Nat) (dct : Option Addr) (sl : Array (Option Value)) :
    Meets (Builtin.«enumerate.__new__» ⟨[.type "enumerate", .ref l], []⟩) (fun _ R s => s.heap.get? l = some { cls := .type "tuple", dict := dct, data := .seq items n, slots := sl } ∧
      R (.ok (.ret (.ref (s.heap.push { cls := .type "tuple_iterator", data := .fields #[.ref l, .int 0 0] }).objs.size)))
        { s with heap := (s.heap.push { cls := .type "tuple_iterator", data := .fields #[.ref l, .int 0 0] }).push { cls := .type "enumerate", data := .fields #[.none, .bool false, .ref s.heap.objs.size, rawInt 0, .none, .none] } }) :=
  .of_wp fun prog w A R s h => by
    obtain ⟨hp, g, d, tk, os⟩ := s
    obtain ⟨hl, h⟩ := h
    have hsub := sub_enumerate
    have hL : Heap.IsTuple (Shared.heap ⟨hp, g, d, tk, os⟩) l items := ⟨_, hl, rfl, n, rfl⟩
    wp_walk using AutoSeq1.wpAny_loadPart' hl
    refine wpAny_stack_any fun st => wpAny_pure ?_
    split
    · rename_i c _ _ _ _ _
      cases (c == Value.type "enumerate")
      · wp_walk using AutoSeq1.wpAny_loadPart' hl, wpAny_pyIter_tuple hL
        exact ⟨_, rfl, h⟩
      · wp_walk using AutoSeq1.wpAny_loadPart' hl, wpAny_pyIter_tuple hL
        exact ⟨_, rfl, h⟩
    · wp_walk using AutoSeq1.wpAny_loadPart' hl, wpAny_pyIter_tuple hL
      exact ⟨_, rfl, h⟩
section
variable {prog : Program} {w : World} {A : Around} {E : Value → Shared → Prop} {s : Shared}
theorem call_enumT {l : Addr} {items : Array Value} {Q : Value → Shared → Prop} (hL : s.heap.IsTuple l items)
    (h : ∀ h', IsEnum h' (s.heap.objs.size + 1) s.heap.objs.size 0 .none → h'.IsTupleIter s.heap.objs.size l 0 → h'.objs.size = s.heap.objs.size + 2 →
      (∀ b o, s.heap.get? b = some o → h'.get? b = some o) → Q (.ref (s.heap.objs.size + 1)) { s with heap := h' }) :
    wpAny (model prog w) A (call (.type "enumerate") [.ref l]) Q E s := by
  obtain ⟨⟨c, dct, dt, sl⟩, hl, hc, n, hd⟩ := hL
  replace hc : c = .type "tuple" := hc
  replace hd : dt = .seq items n := hd
  subst hc hd
  refine callType_new PySem.F.called_enumerate (by decide) (PySem.F.typeCall_enumerate_1 _) (PySem.F.newCall_enumerate_1 _) (fun obj => PySem.F.args_object_init_2 obj _) PySem.F.entry_enumerate_new
    (enum_newT l items n dct sl) ⟨hl, ?_⟩
  have hz : (s.heap.push { cls := .type "tuple_iterator", data := .fields #[.ref l, .int 0 0] }).objs.size = s.heap.objs.size + 1 := Heap.size_push ..
  show _ ∧ _
  rw [hz]
  have he : IsEnum ((s.heap.push { cls := .type "tuple_iterator", data := .fields #[.ref l, .int 0 0] }).push
      { cls := .type "enumerate", data := .fields #[.none, .bool false, .ref s.heap.objs.size, rawInt 0, .none, .none] }) (s.heap.objs.size + 1) s.heap.objs.size 0 .none := by
    have := Heap.get?_push_size (s.heap.push { cls := .type "tuple_iterator", data := .fields #[.ref l, .int 0 0] })
      (o := { cls := .type "enumerate", data := .fields #[.none, .bool false, .ref s.heap.objs.size, rawInt 0, .none, .none] }) rfl
    rw [hz] at this; exact this
  refine ⟨⟨_, he, rfl⟩, h _ he ⟨_, Heap.get?_push_of_some _ (Heap.get?_push_size _ rfl), rfl, rfl⟩ (by rw [Heap.size_push, hz]) fun b o x => Heap.get?_push_of_some _ (Heap.get?_push_of_some _ x)⟩
variable {env : Env} {h₀ : Heap} {body : List Stmt} {Q : Flow → Shared → Prop}
theorem enumT {elts : List PySem.Expr} {k : Nat} {pos : Pos} {l : Addr} {lo : Obj} {vs : List Value} {n : Nat} {m₀ : Str → Option Value} {news : List (Addr × Obj)}
    (hh : A.handled = none) (F : Fr h₀ env.locals s.heap m₀) (N : News h₀ env.locals s.heap news) (hm : (l, lo) ∈ news) (hc : lo.cls = .type "tuple") (hd : lo.data = .seq vs.toArray n)
    (rest₀ : ∀ I : Addr, (∀ p ∈ news, p.1 < I) → ItemsRest prog w A E h₀ env (.Tuple elts k pos) body Q s [(I + 1, "enumerate"), (I, "tuple_iterator")] [(l, lo)] (enumItems 0 vs) m₀ news) :
    wpAny (model prog w) A (call (.type "enumerate") [.ref l]) (fun xv s₁ => wpAny (model prog w) A (pyIter xv) (fun it s₂ => TurnsAt prog w A h₀ env (.Tuple elts k pos) body Q E it s₂) E s₁) E s := by
  have hax := N _ hm
  have hl : s.heap.IsTuple l vs.toArray := ⟨lo, hax.1, hc, n, hd⟩
  have hlt : l < s.heap.objs.size := Heap.lt_size hax.1
  have hLs : env.locals < s.heap.objs.size := F.ns.lt
  refine call_enumT hl fun h' hE hI hsz hk => ?_
  refine wpAny_pyIter_enum hE ?_
  refine ktu_core (tk0 := s.toks) (keep := [(l, lo)]) (KTurns.ofWalksU (WalksT.enumerateD (draws_tup (A := A.in1) hh s.heap.objs.size l (Nat.ne_of_lt hlt) vs.toArray) (s.heap.objs.size + 1) (Nat.succ_ne_self _) (by simp; exact Nat.ne_of_gt (Nat.lt_succ_of_lt hlt)) (by simp)).toU) (by simp [enumItems_length]) ?_ ?_ ?_ ?_ ?_ ?_ ?_ ?_ (F.keeps hk) (N.grown hk) (And.intro hm trivial) (rest₀ _ fun p hp => Heap.lt_size (N p hp).1)
  · rintro i v h ⟨T, vals, rfl, ⟨t, x, hx, rfl⟩, hT⟩
    refine ⟨_, enumItems_get vs 0 i (v := x) (by simpa using hx), T, t, rfl, ?_⟩
    show IsTup h T #[.int ((0 + i : Nat) : Int) t, x]
    rw [Nat.zero_add]
    exact hT
  · rintro i h ⟨⟨old, he⟩, ⟨oi, hoi, hic, _⟩, _⟩
    have he' : ∃ oe : Obj, h.get? (s.heap.objs.size + 1) = some oe ∧ oe.cls = .type "enumerate" := ⟨_, he, rfl⟩
    obtain ⟨oe, h1, h2⟩ := he'
    refine ⟨[(s.heap.objs.size + 1, oe), (s.heap.objs.size, oi)], ⟨⟨rfl, h2⟩, ⟨rfl, hic⟩, trivial⟩, fun p hp => ?_⟩
    rcases List.mem_cons.mp hp with rfl | hp
    · exact h1
    · rw [List.mem_singleton.mp hp]; exact hoi
  · intro b hb
    have hb' : b = s.heap.objs.size + 1 ∨ b = s.heap.objs.size := by simpa using hb
    rcases hb' with rfl | rfl
    · exact ⟨by simp, ktu_new F (Nat.le_add_right _ _)⟩
    · exact ⟨by simp, ktu_new F (Nat.le_refl _)⟩
  · intro b hb
    simpa using hb
  · intro b hb
    have hb' : b = s.heap.objs.size + 1 ∨ b = s.heap.objs.size ∨ b = l := by simpa using hb
    rcases hb' with rfl | rfl | rfl
    · exact .inl (by simp)
    · exact .inl (by simp)
    · exact .inr ⟨lo, by simp⟩
  · intro hI'
    have hb' : env.locals = s.heap.objs.size + 1 ∨ env.locals = s.heap.objs.size ∨ env.locals = l := by simpa using hI'
    rcases hb' with e | e | e
    · exact ktu_ne 1 hLs e
    · exact Nat.ne_of_lt hLs e
    · exact hax.2.1 e.symm
  · intro p hp hI'
    have hb' : p.1 = s.heap.objs.size + 1 ∨ p.1 = s.heap.objs.size := by simpa using hI'
    have hlp := Heap.lt_size (N p hp).1
    rcases hb' with e | e
    · exact ktu_ne 1 hlp e
    · exact Nat.ne_of_lt hlp e
  · exact ⟨⟨.none, hE⟩, hI, hl.at fun o e => hk l o e⟩
end
theorem allObj_mono : ∀ {ws : List (Addr × String)} {k k' : Led0 → Prop}, AllObj ws k → (∀ its, k its → k' its) → AllObj ws k'
  | [], _, _, h, g => g _ h
  | _ :: r, _, _, h, g => fun o ho => allObj_mono (ws := r) (h o ho) fun its hi => g _ hi
section
variable {prog : Program} {w : World} {A : Around} {E : Value → Shared → Prop} {s : Shared} {env : Env} {h₀ : Heap} {target : PySem.Expr} {body : List Stmt} {Q : Flow → Shared → Prop}
/-- a loop over any items, by induction -/
theorem itms_ind {P : List Itm → (Str → Option Value) → Led0 → Prop} {ws : List (Addr × String)} {keep : Led0}
    (step : ∀ a r m news v h tk, P (a :: r) m news → a.Is v h → Fr h₀ env.locals h m → AllObj ws (fun its => News h₀ env.locals h (its ++ news) →
      wpAny (model prog w) A (assign target env v) (fun _ s₂ => wpAny (model prog w) A (execs body env) (UnrPostW h₀ env.locals { s with heap := h, toks := tk } its (fun m' n' => SubL keep n' ∧ P r m' n') Q) E s₂) E { s with heap := h, toks := tk }))
    (fin : ∀ m news h tk, P [] m news → Fr h₀ env.locals h m → News h₀ env.locals h news → Q .next { s with heap := h, toks := tk }) :
    ∀ (l : List Itm) m news, P l m news → ItemsRest prog w A E h₀ env target body Q s ws keep l m news
  | [], m, news, hp => fun h tk F N => fin m news h tk hp F N
  | a :: r, m, news, hp => fun v h tk hv F => allObj_mono (step a r m news v h tk hp hv F) fun its hi N =>
    wpAny_mono (hi N) (fun _ s₂ h' => wpAny_mono h' (fun f s₃ h'' => unrPostW_mono h'' fun m n hp' => ⟨hp'.1, itms_ind step fin r m n hp'.2⟩) fun _ _ e => e) fun _ _ e => e
end

end
section
inductive Res
  | bound (c : Str)
  | long (i : Nat)
  | pre
inductive Trail (w : World) (news : Led) : Addr → List Ev → Nat → Res → Prop
  | done {k i} : Trail w news k [] i .pre
  | node {k d r o kvs k2 d2 r2 o2 kvs2 e rest i res} : KmAt w news k d r o kvs → valueAt kvs e = some (.ref k2) → KmAt w news k2 d2 r2 o2 kvs2 → Trail w news k2 rest (i + 1) res → Trail w news k (e :: rest) i res
  | leaf {k d r o kvs e c t i} : KmAt w news k d r o kvs → valueAt kvs e = some (.str c t) → Trail w news k [e] i (.bound c)
  | long {k d r o kvs e c t e2 rest i} : KmAt w news k d r o kvs → valueAt kvs e = some (.str c t) → Trail w news k (e :: e2 :: rest) i (.long (i + 1))
theorem Trail.mono {w : World} {a b : Led} (h : ∀ p ∈ a, p ∈ b) {k : Addr} {es : List Ev} {i : Nat} {res : Res} (t : Trail w a k es i res) : Trail w b k es i res := by
  induction t with
  | done => exact .done
  | node h1 h2 h3 _ ih => exact .node (h1.mono h) h2 (h3.mono h) ih
  | leaf h1 h2 => exact .leaf (h1.mono h) h2
  | long h1 h2 => exact .long (h1.mono h) h2
inductive ResT : Res → Obj → Prop
  | bound {c t u} : ResT (.bound c) { cls := .type "tuple", data := .seq #[.str (Str.ofString "bound") t, .str c u] }
  | long {i t u} : ResT (.long i) { cls := .type "tuple", data := .seq #[.str (Str.ofString "long") t, .int (i : Int) u] }
  | pre {t v} : ResT .pre { cls := .type "tuple", data := .seq #[.str (Str.ofString "prefix") t, v] }
theorem endWs {h₀ h' : Heap} {L : Addr} {its : Led} {rest : (Str → Option Value) → Led → Prop} {s₁ : Shared} {tk : Nat} {m' : Str → Option Value} {all X : Led} (F : Fr h₀ L h' m') (N : News h₀ L h' all)
    (sub : ∀ p ∈ its ++ X, p ∈ all) (off : ∀ p ∈ X, ∀ q ∈ its, p.1 ≠ q.1) (r : rest m' X) : UnrEndW h₀ L s₁ its rest { s₁ with heap := h', toks := tk } :=
  ⟨h', tk, m', X, rfl, F, fun p hp => N p (sub p hp), off, r⟩
theorem lkN {h₀ h : Heap} {L : Addr} {d a b : Addr × Obj} {X news : Led} (N : News h₀ L h (d :: a :: b :: X)) (sub : ∀ p ∈ news, p ∈ X) : News h₀ L h (d :: news) := fun p hp => by
  rcases List.mem_cons.mp hp with h | h
  · exact N p (by rw [h]; exact .head _)
  · exact N p (.tail _ (.tail _ (.tail _ (sub p h))))
theorem lkN0 {h₀ h : Heap} {L : Addr} {d : Addr × Obj} {X news : Led} (N : News h₀ L h (d :: X)) (sub : ∀ p ∈ news, p ∈ X) : News h₀ L h (d :: news) := fun p hp => by
  rcases List.mem_cons.mp hp with h | h
  · exact N p (by rw [h]; exact .head _)
  · exact N p (.tail _ (sub p h))
structure LkP (w : World) (total : Nat) (res : Res) (news : Led) (I ls : Addr) (its : Array Value) (l : List Itm) (m : Str → Option Value) (n : Led) (i : Nat) (vs : List Value) (es : List Ev) (lh : Addr) (bh : Tok) (k : Addr) : Prop where
  hl : l = enumItems i vs
  ha : All2 IsEv vs es
  ht : i + es.length = total
  hh : m (Str.ofString "here") = some (.ref lh)
  hd : m (Str.ofString "takes_default") = some (.bool false)
  hs : m (Str.ofString "spread") = some (.ref ls)
  hm : (ls, TupO its) ∈ n
  hL : (lh, LstO #[.ref k] bh) ∈ n
  hT : Trail w n k es i res
  sub : ∀ p ∈ news, p ∈ n
  off : ∀ p ∈ n, p.1 ≠ I + 1 ∧ p.1 ≠ I
inductive LkE (w : World) (total : Nat) (res : Res) (news : Led) (I ls : Addr) (its : Array Value) (l : List Itm) (m : Str → Option Value) (n : Led) : Prop
  | mk (i : Nat) (vs : List Value) (es : List Ev) (lh : Addr) (bh : Tok) (k : Addr) (h : LkP w total res news I ls its l m n i vs es lh bh k)
theorem c_spread_m {news : Led} {l : Addr} {its0 : Array Value} {es : List Ev} (hA : All2 IsEv its0.toList es) (hlen : es.length ≤ 100) (hm : (l, TupO its0) ∈ news) :
  Ct w mean mg mb 178 7 220 news [.ref l] (fun r n => ∃ l its, r = .ref l ∧ n = (l, TupO its) :: news ∧ (∀ p ∈ news, p.1 < l) ∧ All2 IsEv its.toList (spF es)) := c_spread _ _ _ _ hm hA hlen
local macro_rules | `(tactic| walk_at "call ref") => `(tactic| (k_here; with_reducible refine atR 178 ?_; k_dflt (refine' use_ct (C := c_spread_m (by assumption) (by assumption) (by first | assumption | (refine List.Mem.tail _ ?_; assumption))) (ret := ?_); k_whole; intro zr9 zn9 zh9 ztk9 zF9 zN9 zo9; obtain ⟨zl9, zits9, zre9, zne9, zoff9, zal9⟩ := zo9; subst zre9; subst zne9; walk_at "ct z")))
local macro_rules | `(tactic| walk_at "eval Name") => `(tactic| (k_here; k_dflt (refine' ld (by k_asm) (by ((try dsimp only); (repeat (refine (if_neg (by decide)).trans ?_)); first | assumption | exact if_pos rfl)) ?_; k_whole)))
theorem c_lookup (news : Led) (lm : Addr) (bm : Tok) (k : Addr) (lt : Addr) (its0 : Array Value) (es : List Ev) (res : Res) (hm : (lt, TupO its0) ∈ news) (hA : All2 IsEv its0.toList es) (hlen : es.length ≤ 100) (hlm : (lm, LstO #[.ref k] bm) ∈ news) (hT : Trail w news k (spF es) 0 res) : Ct w mean mg mb 434 10 640 news [.ref lm, .ref lt] (fun r n => ∃ l o, r = .ref l ∧ n = (l, o) :: news ∧ (∀ p ∈ news, p.1 ≠ l) ∧ ResT res o) := by
  constructor
  k_fill
  intro dp un gd cn cs a ccd cl outer A₀ base h₀ L m s Q E B F X N T hk hd hu hret
  have N9 := kmNews1 N hlm; clear N; simp only [LstO] at N9
  refine wpAny_call ?_
  k_dflt k_enter
  repeat ((fail_if_success (with_reducible show wpAny _ _ (exec (PySem.Stmt.For _ _ _ _ _) _) _ _ _)); first | (k_unfold; (try dsimp only)) | walk1)
  (with_reducible rename Fr _ _ _ _ => F1)
  k_dflt (refine For_turns F1 ?_)
  repeat ((fail_if_success (with_reducible show wpAny _ _ (call (Value.type "enumerate") _) _ _ _)); walk1)
  (with_reducible rename Fr _ _ _ _ => F2)
  (with_reducible rename News _ _ _ _ => N2)
  rename All2 IsEv _ (spF es) => hA2
  have hsz := all2_size hA2
  have hlen2 := spF_len es
  k_dflt (refine enumT (by exact rfl) F2 N2 (.tail _ (.head _)) rfl rfl fun I hI => itms_ind (P := LkE w (spF es).length res news I _ _) ?_ ?_ _ _ _ ⟨0, _, _, _, _, k, ⟨rfl, hA2, Nat.zero_add _, rfl, rfl, rfl, .tail _ (.head _), .head _, ?_, ?_, ?_⟩⟩)
  · intro a1 r1 m1 n1 v1 h2 tk2 hp hv F3
    refine AllObj.cons (fun o1 ho1 => ?_)
    refine AllObj.cons (fun o2 ho2 => ?_)
    refine AllObj.nil (fun N3 => ?_)
    obtain ⟨i, vs, es1, lh, bh, k1, hl, ha, ht, hh, hd1, hs, hm1, hL, hT1, hsub, hoff⟩ := hp
    rcases ha with _ | ⟨hIs, hr⟩
    · cases hl
    cases hl
    obtain ⟨T1, t1, e1, hTup⟩ := hv
    subst e1
    obtain ⟨te, e2⟩ := hIs
    subst e2
    have N4 := kmNews2 N3 (List.mem_append_right _ hL) (List.mem_append_right _ hm1)
    clear N3
    simp only [LstO, TupO] at N4
    cases hT1 with
    | node hK1 hv1 hK2 hT2 =>
      repeat ((fail_if_success (with_reducible show wpAny _ _ (call (Value.ref 426) _) _ _ _)); walk1)
      k_here
      k_dflt (refine' use_ctQ ?k1 ?k2 ?k3 ?k4 ?k5 (c_found_R _ _ _ _ _ _ _ _ _ _ _ _ _ (hK2.mono ?s1) _ _ ?hlm (hK1.mono ?s2) hv1) ?kK ?kd ?ku ?_; (case k1 => k_asm); (case k2 => k_asm); (case k3 => k_asm); (case k4 => k_asm); (case k5 => k_asm); (case kK => first | exact rfl | assumption); (case kd => ktr_room); (case ku => ktr_units); (case s1 => (intro p hp; simp [hp])); (case s2 => (intro p hp; simp [hp])); (case hlm => exact .head _); k_whole)
      intro l9 a9 b9 h9 tk9 F9 N9 lt9
      repeat' ((fail_if_success (with_reducible show UnrEndW _ _ _ _ _ _)); first | (k_unfold; (try dsimp only)) | walk1)
      (with_reducible rename Fr _ _ _ _ => F10)
      (with_reducible rename News _ _ _ _ => N10)
      refine endWs (X := (l9, _) :: n1) F10 N10 (fun p hp => ?_) (fun p hp q hq => ?_) ⟨⟨.tail _ hm1, trivial⟩, ⟨i + 1, _, _, l9, b9, _, ⟨rfl, hr, by rw [← ht, List.length_cons]; omega, by rfl, hd1, hs, .tail _ hm1, .head _, hT2.mono (fun p hp => .tail _ hp), fun p hp => .tail _ (hsub p hp), ?_⟩⟩⟩
      · simp only [List.cons_append, List.nil_append, List.mem_cons] at hp ⊢
        rcases hp with h | h | h | h
        · exact .inr (.inr (.inr (.inl h)))
        · exact .inr (.inr (.inr (.inr (.inl h))))
        · exact .inl h
        · exact .inr (.inr (.inr (.inr (.inr h))))
      · have hq' : q.1 = I + 1 ∨ q.1 = I := by
          rcases List.mem_cons.mp hq with h | h
          · rw [h]; exact .inl rfl
          · rw [List.mem_singleton.mp h]; exact .inr rfl
        have z1 := lt9 (I + 1, o1) (by simp)
        have z2 := lt9 (I, o2) (by simp)
        rcases List.mem_cons.mp hp with h | h
        · rw [h]; rcases hq' with e | e <;> rw [e]; exact Ne.symm z1; exact Ne.symm z2
        · have := hoff p h
          rcases hq' with e | e <;> rw [e]; exact this.1; exact this.2
      · intro p hp
        have z1 := lt9 (I + 1, o1) (by simp)
        have z2 := lt9 (I, o2) (by simp)
        rcases List.mem_cons.mp hp with h | h
        · rw [h]; exact ⟨Ne.symm z1, Ne.symm z2⟩
        · exact hoff p h
    | leaf hK1 hv1 =>
      repeat ((fail_if_success (with_reducible show wpAny _ _ (call (Value.ref 426) _) _ _ _)); walk1)
      k_here
      k_dflt (refine' use_ctB ?k1 ?k2 ?k3 ?k4 ?k5 (c_found_T _ _ _ _ _ _ _ _ _ _ _ _ ?hlm (hK1.mono ?s2) hv1) ?kK ?kd ?ku ?_; (case k1 => k_asm); (case k2 => k_asm); (case k3 => k_asm); (case k4 => k_asm); (case k5 => k_asm); (case kK => first | exact rfl | assumption); (case kd => ktr_room); (case ku => ktr_units); (case s2 => (intro p hp; simp [hp])); (case hlm => exact .head _); k_whole)
      intro h9 tk9 F9 N9
      repeat' ((fail_if_success (with_reducible show wpAny _ _ (call (Value.builtin "len") _) _ _ _)); first | (k_unfold; (try dsimp only)) | walk1)
      (with_reducible rename News _ _ _ _ => N10)
      refine PyProof.Rows.len_tuple (News.isTup N10 (.tail _ (.head _))) ?_ ?_
      · rw [Array.length_toList] at hsz; omega
      k_steps
      all_goals rw [Array.length_toList] at hsz
      all_goals simp only [List.length_cons, List.length_nil] at ht
      rotate_left
      · exfalso; omega
      rename _ < _ ∧ _ < _ ∧ AllLt _ _ => hz
      exact hret _ _ _ _ (by k_asm) (lkN (by assumption) (fun p hp => List.mem_append_right _ (hsub p hp))) ⟨_, _, rfl, rfl, fun p hp => Nat.ne_of_lt (ktn_ltOf hz.2.2 p (List.mem_append_right _ (hsub p hp))), .bound⟩
    | long hK1 hv1 =>
      repeat ((fail_if_success (with_reducible show wpAny _ _ (call (Value.ref 426) _) _ _ _)); walk1)
      k_here
      k_dflt (refine' use_ctB ?k1 ?k2 ?k3 ?k4 ?k5 (c_found_T _ _ _ _ _ _ _ _ _ _ _ _ ?hlm (hK1.mono ?s2) hv1) ?kK ?kd ?ku ?_; (case k1 => k_asm); (case k2 => k_asm); (case k3 => k_asm); (case k4 => k_asm); (case k5 => k_asm); (case kK => first | exact rfl | assumption); (case kd => ktr_room); (case ku => ktr_units); (case s2 => (intro p hp; simp [hp])); (case hlm => exact .head _); k_whole)
      intro h9 tk9 F9 N9
      repeat' ((fail_if_success (with_reducible show wpAny _ _ (call (Value.builtin "len") _) _ _ _)); first | (k_unfold; (try dsimp only)) | walk1)
      (with_reducible rename News _ _ _ _ => N10)
      refine PyProof.Rows.len_tuple (News.isTup N10 (.tail _ (.head _))) ?_ ?_
      · rw [Array.length_toList] at hsz; omega
      k_steps
      all_goals rw [Array.length_toList] at hsz
      all_goals simp only [List.length_cons, List.length_nil] at ht
      · exfalso; omega
      rename _ < _ ∧ _ < _ ∧ AllLt _ _ => hz
      exact hret _ _ _ _ (by k_asm) (lkN (by assumption) (fun p hp => List.mem_append_right _ (hsub p hp))) ⟨_, _, rfl, rfl, fun p hp => Nat.ne_of_lt (ktn_ltOf hz.2.2 p (List.mem_append_right _ (hsub p hp))), .long (i := i + 1)⟩
  · intro m1 n1 h2 tk2 hp F3 N3
    obtain ⟨i, vs, es1, lh, bh, k1, hl, ha, ht, hh, hd1, hs, hm1, hL, hT1, hsub, hoff⟩ := hp
    rcases ha with _ | ⟨hIs, hr⟩
    · cases hT1
      k_steps
      exact hret _ _ _ _ (by k_asm) (lkN0 (by assumption) hsub) ⟨_, _, rfl, rfl, fun p hp => Nat.ne_of_lt (‹∀ p ∈ n1, p.1 < _› p (hsub p hp)), .pre⟩
    · cases hl
  · exact hT.mono (fun p hp => .tail _ (.tail _ (.tail _ hp)))
  · exact fun p hp => .tail _ (.tail _ (.tail _ hp))
  · exact fun p hp => ⟨Nat.ne_of_lt (Nat.lt_succ_of_lt (hI p hp)), Nat.ne_of_lt (hI p hp)⟩

end
section
structure Nd where
  path : List Ev
  k : Addr
  d : Addr
  r : Addr
  o : Obj
  kvs : List (Ev × Value)
inductive Bnd (T : List Nd) (S : List (List Ev × Str)) (p : List Ev) (e : Ev) : Option Value → Prop
  | none : (∀ y ∈ T, y.path ≠ p ++ [e]) → (∀ c, (p ++ [e], c) ∉ S) → Bnd T S p e none
  | node (y : Nd) : y ∈ T → y.path = p ++ [e] → Bnd T S p e (some (.ref y.k))
  | leaf (c : Str) (t : Tok) : (p ++ [e], c) ∈ S → Bnd T S p e (some (.str c t))
structure Store (w : World) (news : Led) (T : List Nd) (S : List (List Ev × Str)) (B : Nat) : Prop where
  ok : ∀ x ∈ T, KmAt w news x.k x.d x.r x.o x.kvs
  sz : ∀ x ∈ T, x.kvs.length ≤ B
  inj : ∀ x ∈ T, ∀ y ∈ T, x.path = y.path → x = y
  ap : ∀ x ∈ T, ∀ y ∈ T, x.d ≠ y.r ∧ x.k ≠ y.r ∧ (x.r = y.r → x = y)
  val : ∀ x ∈ T, ∀ e, Bnd T S x.path e (valueAt x.kvs e)
  dis : ∀ x ∈ T, ∀ c, (x.path, c) ∉ S
  pc : ∀ x ∈ T, ∀ p e, x.path = p ++ [e] → ∃ y ∈ T, y.path = p
  lp : ∀ q ∈ S, ∀ p e, q.1 = p ++ [e] → ∃ y ∈ T, y.path = p
theorem valueAt_cons {K : Type} [DecidableEq K] (a : K × Value) (r : List (K × Value)) (k : K) : valueAt (a :: r) k = if a.1 = k then some a.2 else valueAt r k := by
  unfold valueAt
  by_cases h : a.1 = k <;> simp [h]
theorem va_ne {K : Type} [DecidableEq K] (v : Value) {k k' : K} (e' : k' ≠ k) : ∀ kvs : List (K × Value), valueAt (kvs.map fun kv => if kv.1 = k then (kv.1, v) else kv) k' = valueAt kvs k'
  | [] => rfl
  | a :: r => by
    rw [List.map_cons, valueAt_cons, valueAt_cons, va_ne v e' r]
    by_cases e : a.1 = k
    · rw [if_pos e, if_neg (by show ¬ a.1 = k'; rw [e]; exact fun h => e' h.symm), if_neg (by rw [e]; exact fun h => e' h.symm)]
    · rw [if_neg e]
theorem va_eq {K : Type} [DecidableEq K] (v : Value) (k : K) : ∀ kvs : List (K × Value), kvs.any (fun kv => kv.1 = k) = true → valueAt (kvs.map fun kv => if kv.1 = k then (kv.1, v) else kv) k = some v
  | [], h => by simp at h
  | a :: r, h => by
    rw [List.map_cons, valueAt_cons]
    by_cases e : a.1 = k
    · rw [if_pos e, if_pos e]
    · rw [if_neg e, if_neg e]
      exact va_eq v k r (by simpa [e] using h)
theorem va_app {K : Type} [DecidableEq K] (v : Value) (k k' : K) : ∀ kvs : List (K × Value), kvs.any (fun kv => kv.1 = k) = false → valueAt (kvs ++ [(k, v)]) k' = if k' = k then some v else valueAt kvs k'
  | [], _ => by
    rw [List.nil_append, valueAt_cons]
    by_cases e : k' = k
    · rw [if_pos e, if_pos e.symm]
    · rw [if_neg e, if_neg (Ne.symm e)]
  | a :: r, h => by
    have h1 : ¬ a.1 = k := by intro e; simp [e] at h
    have h2 : r.any (fun kv => kv.1 = k) = false := by simpa [h1] using h
    rw [List.cons_append, valueAt_cons, valueAt_cons, va_app v k k' r h2]
    by_cases e : k' = k
    · simp [e, h1]
    · simp [e]
theorem valueAt_stored {K : Type} [DecidableEq K] (kvs : List (K × Value)) (k k' : K) (v : Value) : valueAt (stored kvs k v) k' = if k' = k then some v else valueAt kvs k' := by
  unfold stored
  by_cases h : kvs.any (fun kv => kv.1 = k) = true
  · rw [if_pos h]
    by_cases e : k' = k
    · rw [if_pos e, e, va_eq v k kvs h]
    · rw [if_neg e, va_ne v e]
  · rw [if_neg h, va_app v k k' kvs ((Bool.not_eq_true _).mp h)]
theorem stored_len {K : Type} [DecidableEq K] (kvs : List (K × Value)) (k : K) (v : Value) : (stored kvs k v).length ≤ kvs.length + 1 := by
  unfold stored; split <;> simp
/-- one node changed -/
def upNd (r : Addr) (o' : Obj) (e : Ev) (v : Value) (y : Nd) : Nd := if y.r = r then { y with o := o', kvs := stored y.kvs e v } else y
theorem upNd_path {r o' e v} (y : Nd) : (upNd r o' e v y).path = y.path := by unfold upNd; split <;> rfl
theorem upNd_k {r o' e v} (y : Nd) : (upNd r o' e v y).k = y.k := by unfold upNd; split <;> rfl
theorem upNd_d {r o' e v} (y : Nd) : (upNd r o' e v y).d = y.d := by unfold upNd; split <;> rfl
theorem upNd_r {r o' e v} (y : Nd) : (upNd r o' e v y).r = y.r := by unfold upNd; split <;> rfl
theorem mem_setAll {d : Addr} {o' : Obj} {news : Led} {p : Addr × Obj} (h : p ∈ news) (hne : p.1 ≠ d) : p ∈ setAll d o' news := List.mem_map.mpr ⟨p, h, if_neg hne⟩
theorem mem_setAll_self {d : Addr} {o o' : Obj} {news : Led} (h : (d, o) ∈ news) : (d, o') ∈ setAll d o' news := List.mem_map.mpr ⟨(d, o), h, if_pos rfl⟩
def Ext (T : List Nd) (news : Led) (T' : List Nd) (n : Led) : Prop := ∀ p ∈ news, (∀ x ∈ T, p.1 ≠ x.r) → p ∈ n ∧ ∀ x ∈ T', p.1 ≠ x.r
theorem Ext.refl (T : List Nd) (news : Led) : Ext T news T news := fun p hp h => ⟨hp, h⟩
theorem Ext.trans {T T' T'' : List Nd} {a b c : Led} (h : Ext T a T' b) (g : Ext T' b T'' c) : Ext T a T'' c := fun p hp hx => let ⟨h1, h2⟩ := h p hp hx; g p h1 h2
theorem Ext.sub {T T' : List Nd} {a b c : Led} (h : Ext T a T' b) (hs : ∀ p ∈ b, p ∈ c) : Ext T a T' c := fun p hp hx => let ⟨h1, h2⟩ := h p hp hx; ⟨hs p h1, h2⟩
theorem Store.mono {w : World} {a b : Led} {T : List Nd} {S : List (List Ev × Str)} {B B' : Nat} (x : Store w a T S B) (h : ∀ p ∈ a, p ∈ b) (hB : B ≤ B') : Store w b T S B' :=
  { x with ok := fun y hy => (x.ok y hy).mono h, sz := fun y hy => Nat.le_trans (x.sz y hy) hB }
theorem ok_up {w : World} {news : Led} {T : List Nd} {x : Nd} {o' : Obj} {e : Ev} {v : Value} (hok : ∀ y ∈ T, KmAt w news y.k y.d y.r y.o y.kvs)
    (hap : ∀ y ∈ T, y.d ≠ x.r ∧ y.k ≠ x.r) (hx : ∀ y ∈ T, y.r = x.r → y.kvs = x.kvs) (ho : o'.IsDictOf (evKind PR w) (stored x.kvs e v)) :
    ∀ y ∈ T.map (upNd x.r o' e v), KmAt w (setAll x.r o' news) y.k y.d y.r y.o y.kvs := by
  intro y' hy'
  obtain ⟨y, hy, rfl⟩ := List.mem_map.mp hy'
  obtain ⟨t1, t2, t3, t4, t5, h1, h2, h3, h4, h5⟩ := hok y hy
  refine ⟨t1, t2, t3, t4, t5, ?_, ?_, ?_, ?_⟩
  · rw [upNd_k, upNd_d]; exact mem_setAll h1 (hap y hy).2
  · rw [upNd_d, upNd_r]; exact mem_setAll h2 (hap y hy).1
  · by_cases e1 : y.r = x.r
    · unfold upNd; rw [if_pos e1]; show (y.r, o') ∈ _; rw [e1]; exact mem_setAll_self (e1 ▸ h3)
    · unfold upNd; rw [if_neg e1]; exact mem_setAll h3 e1
  · rw [upNd_r]; refine ⟨h4, ?_⟩
    by_cases e1 : y.r = x.r
    · unfold upNd; rw [if_pos e1]; show o'.IsDictOf _ (stored y.kvs e v); rw [hx y hy e1]; exact ho
    · unfold upNd; rw [if_neg e1]; exact h5
theorem Bnd.up {T T' : List Nd} {S S' : List (List Ev × Str)} {p : List Ev} {e : Ev} {v : Option Value} (h : Bnd T S p e v)
    (h1 : ∀ y ∈ T, ∃ y' ∈ T', y'.path = y.path ∧ y'.k = y.k) (h2 : ∀ y' ∈ T', (∃ y ∈ T, y'.path = y.path) ∨ y'.path ≠ p ++ [e]) (h3 : ∀ q ∈ S, q ∈ S') (h4 : ∀ q ∈ S', q ∈ S ∨ q.1 ≠ p ++ [e]) : Bnd T' S' p e v := by
  cases h with
  | none a b =>
    refine .none (fun y' hy' hp => ?_) (fun c hc => ?_)
    · rcases h2 y' hy' with ⟨y, hy, e1⟩ | hne
      · exact a y hy (e1 ▸ hp)
      · exact hne hp
    · rcases h4 _ hc with h | h
      · exact b c h
      · exact h rfl
  | node y a b =>
    obtain ⟨y', hy', e1, e2⟩ := h1 y a
    rw [← e2]
    exact .node y' hy' (e1.trans b)
  | leaf c t a => exact .leaf c t (h3 _ a)
/-- a leaf is laid -/
theorem Store.leaf {w : World} {news : Led} {T : List Nd} {S : List (List Ev × Str)} {B : Nat} (s : Store w news T S B) {x : Nd} (hx : x ∈ T) {e : Ev} {c : Str} {t : Tok} {o' : Obj}
    (hn : ∀ y ∈ T, y.path ≠ x.path ++ [e]) (ho : o'.IsDictOf (evKind PR w) (stored x.kvs e (.str c t))) :
    Store w (setAll x.r o' news) (T.map (upNd x.r o' e (.str c t))) ((x.path ++ [e], c) :: S) (B + 1) ∧ Ext T news (T.map (upNd x.r o' e (.str c t))) (setAll x.r o' news) where
  left := {
    ok := ok_up s.ok (fun y hy => ⟨(s.ap y hy x hx).1, (s.ap y hy x hx).2.1⟩) (fun y hy h => by rw [(s.ap y hy x hx).2.2 h]) ho
    sz := fun y' hy' => by
      obtain ⟨y, hy, rfl⟩ := List.mem_map.mp hy'
      unfold upNd; split
      · exact Nat.le_trans (stored_len _ _ _) (Nat.succ_le_succ (s.sz y hy))
      · exact Nat.le_succ_of_le (s.sz y hy)
    inj := fun a ha b hb h => by
      obtain ⟨y, hy, rfl⟩ := List.mem_map.mp ha
      obtain ⟨z, hz, rfl⟩ := List.mem_map.mp hb
      rw [upNd_path, upNd_path] at h
      rw [s.inj y hy z hz h]
    ap := fun a ha b hb => by
      obtain ⟨y, hy, rfl⟩ := List.mem_map.mp ha
      obtain ⟨z, hz, rfl⟩ := List.mem_map.mp hb
      rw [upNd_d, upNd_k, upNd_r, upNd_r]
      refine ⟨(s.ap y hy z hz).1, (s.ap y hy z hz).2.1, fun h => ?_⟩
      rw [(s.ap y hy z hz).2.2 h]
    val := fun a ha e1 => by
      obtain ⟨y, hy, rfl⟩ := List.mem_map.mp ha
      rw [upNd_path]
      by_cases e2 : y.r = x.r
      · have e3 := (s.ap y hy x hx).2.2 e2
        subst e3
        unfold upNd; rw [if_pos rfl]
        show Bnd _ _ y.path e1 (valueAt (stored y.kvs e (.str c t)) e1)
        rw [valueAt_stored]
        by_cases e4 : e1 = e
        · rw [if_pos e4, e4]; exact .leaf c t (.head _)
        · rw [if_neg e4]
          refine (s.val y hy e1).up (fun z hz => ⟨_, List.mem_map_of_mem hz, upNd_path _, upNd_k _⟩) (fun z' hz' => ?_) (fun q hq => .tail _ hq) (fun q hq => ?_)
          · obtain ⟨z, hz, rfl⟩ := List.mem_map.mp hz'
            exact .inl ⟨z, hz, upNd_path _⟩
          · rcases List.mem_cons.mp hq with h | h
            · right; rw [h]; intro h'; have := List.append_cancel_left h'; cases this; exact e4 rfl
            · exact .inl h
      · unfold upNd; rw [if_neg e2]
        refine (s.val y hy e1).up (fun z hz => ⟨_, List.mem_map_of_mem hz, upNd_path _, upNd_k _⟩) (fun z' hz' => ?_) (fun q hq => .tail _ hq) (fun q hq => ?_)
        · obtain ⟨z, hz, rfl⟩ := List.mem_map.mp hz'
          exact .inl ⟨z, hz, upNd_path _⟩
        · rcases List.mem_cons.mp hq with h | h
          · right; rw [h]; intro h'
            have := (List.append_inj' h' rfl).1
            exact e2 (by rw [s.inj y hy x hx this.symm])
          · exact .inl h
    dis := fun a ha c1 hc => by
      obtain ⟨y, hy, rfl⟩ := List.mem_map.mp ha
      rw [upNd_path] at hc
      rcases List.mem_cons.mp hc with h | h
      · exact hn y hy (Prod.mk.inj h).1
      · exact s.dis y hy c1 h
    pc := fun a ha p e1 h => by
      obtain ⟨y, hy, rfl⟩ := List.mem_map.mp ha
      rw [upNd_path] at h
      obtain ⟨z, hz, hp⟩ := s.pc y hy p e1 h
      exact ⟨_, List.mem_map_of_mem hz, (upNd_path _).trans hp⟩
    lp := fun q hq p e1 h => by
      rcases List.mem_cons.mp hq with h' | h'
      · rw [h'] at h
        have := (List.append_inj' h rfl).1
        exact ⟨_, List.mem_map_of_mem hx, (upNd_path _).trans this⟩
      · obtain ⟨z, hz, hp⟩ := s.lp q h' p e1 h
        exact ⟨_, List.mem_map_of_mem hz, (upNd_path _).trans hp⟩ }
  right := fun p hp h => ⟨mem_setAll hp (h x hx), fun a ha => by
    obtain ⟨y, hy, rfl⟩ := List.mem_map.mp ha
    rw [upNd_r]; exact h y hy⟩
/-- a node is laid -/
theorem Store.node {w : World} {news : Led} {T : List Nd} {S : List (List Ev × Str)} {B : Nat} (s : Store w news T S B) {x : Nd} (hx : x ∈ T) {e : Ev} {o' : Obj}
    {k1 d1 r1 : Addr} {o1 : Obj} {t1 t2 t3 t4 t5 : Tok} (hv : valueAt x.kvs e = none) (f1 : d1 < k1) (f2 : k1 < r1) (f3 : ∀ p ∈ news, p.1 < d1) (lo : (r1 == sysModules) = false) (ho1 : o1.IsDictOf (evKind PR w) [])
    (ho : o'.IsDictOf (evKind PR w) (stored x.kvs e (.ref k1))) :
    Store w (setAll x.r o' ((r1, o1) :: (k1, instObj 349 d1) :: (d1, attrs w r1 t1 t2 t3 t4 t5) :: news)) (⟨x.path ++ [e], k1, d1, r1, o1, []⟩ :: T.map (upNd x.r o' e (.ref k1))) S (B + 1) ∧
      Ext T news (⟨x.path ++ [e], k1, d1, r1, o1, []⟩ :: T.map (upNd x.r o' e (.ref k1))) (setAll x.r o' ((r1, o1) :: (k1, instObj 349 d1) :: (d1, attrs w r1 t1 t2 t3 t4 t5) :: news)) := by
  have hin : ∀ y ∈ T, y.k < d1 ∧ y.d < d1 ∧ y.r < d1 := fun y hy => by
    obtain ⟨_, _, _, _, _, h1, h2, h3, _⟩ := s.ok y hy
    exact ⟨f3 _ h1, f3 _ h2, f3 _ h3⟩
  obtain ⟨b1, b2⟩ : (∀ y ∈ T, y.path ≠ x.path ++ [e]) ∧ ∀ c, (x.path ++ [e], c) ∉ S := by
    have := s.val x hx e
    rw [hv] at this
    cases this with
    | none a b => exact ⟨a, b⟩
  have hxr := (hin x hx).2.2
  have n1 : r1 ≠ x.r := Nat.ne_of_gt (Nat.lt_trans hxr (Nat.lt_trans f1 f2))
  have n2 : k1 ≠ x.r := Nat.ne_of_gt (Nat.lt_trans hxr f1)
  have n3 : d1 ≠ x.r := Nat.ne_of_gt hxr
  have up1 : ∀ z ∈ T, ∃ y' ∈ (⟨x.path ++ [e], k1, d1, r1, o1, []⟩ :: T.map (upNd x.r o' e (.ref k1)) : List Nd), y'.path = z.path ∧ y'.k = z.k := fun z hz => ⟨_, .tail _ (List.mem_map_of_mem hz), upNd_path _, upNd_k _⟩
  refine ⟨{ ok := ?_, sz := ?_, inj := ?_, ap := ?_, val := ?_, dis := ?_, pc := ?_, lp := ?_ }, ?_⟩
  · intro y' hy'
    rcases List.mem_cons.mp hy' with h | h
    · subst h
      refine ⟨t1, t2, t3, t4, t5, mem_setAll (.tail _ (.head _)) n2, mem_setAll (.tail _ (.tail _ (.head _))) n3, mem_setAll (.head _) n1, lo, ho1⟩
    · exact ok_up (fun y hy => (s.ok y hy).mono (fun p hp => .tail _ (.tail _ (.tail _ hp)))) (fun y hy => ⟨(s.ap y hy x hx).1, (s.ap y hy x hx).2.1⟩) (fun y hy h => by rw [(s.ap y hy x hx).2.2 h]) ho y' h
  · intro y' hy'
    rcases List.mem_cons.mp hy' with h | h
    · subst h; exact Nat.zero_le _
    · obtain ⟨y, hy, rfl⟩ := List.mem_map.mp h
      unfold upNd; split
      · exact Nat.le_trans (stored_len _ _ _) (Nat.succ_le_succ (s.sz y hy))
      · exact Nat.le_succ_of_le (s.sz y hy)
  · intro a ha b hb h
    rcases List.mem_cons.mp ha with h1 | h1 <;> rcases List.mem_cons.mp hb with h2 | h2
    · rw [h1, h2]
    · obtain ⟨z, hz, rfl⟩ := List.mem_map.mp h2
      rw [upNd_path, h1] at h
      exact absurd h.symm (b1 z hz)
    · obtain ⟨z, hz, rfl⟩ := List.mem_map.mp h1
      rw [upNd_path, h2] at h
      exact absurd h (b1 z hz)
    · obtain ⟨y, hy, rfl⟩ := List.mem_map.mp h1
      obtain ⟨z, hz, rfl⟩ := List.mem_map.mp h2
      rw [upNd_path, upNd_path] at h
      rw [s.inj y hy z hz h]
  · intro a ha b hb
    rcases List.mem_cons.mp ha with h1 | h1 <;> rcases List.mem_cons.mp hb with h2 | h2
    · subst h1; subst h2; exact ⟨Nat.ne_of_lt (Nat.lt_trans f1 f2), Nat.ne_of_lt f2, fun _ => rfl⟩
    · obtain ⟨z, hz, rfl⟩ := List.mem_map.mp h2
      subst h1
      rw [upNd_r]
      have := (hin z hz).2.2
      exact ⟨Nat.ne_of_gt this, Nat.ne_of_gt (Nat.lt_trans this f1), fun h => absurd h (Nat.ne_of_gt (Nat.lt_trans this (Nat.lt_trans f1 f2)))⟩
    · obtain ⟨z, hz, rfl⟩ := List.mem_map.mp h1
      subst h2
      rw [upNd_r, upNd_d, upNd_k]
      have := hin z hz
      exact ⟨Nat.ne_of_lt (Nat.lt_trans this.2.1 (Nat.lt_trans f1 f2)), Nat.ne_of_lt (Nat.lt_trans this.1 (Nat.lt_trans f1 f2)), fun h => absurd h (Nat.ne_of_lt (Nat.lt_trans this.2.2 (Nat.lt_trans f1 f2)))⟩
    · obtain ⟨y, hy, rfl⟩ := List.mem_map.mp h1
      obtain ⟨z, hz, rfl⟩ := List.mem_map.mp h2
      rw [upNd_d, upNd_k, upNd_r, upNd_r]
      refine ⟨(s.ap y hy z hz).1, (s.ap y hy z hz).2.1, fun h => ?_⟩
      rw [(s.ap y hy z hz).2.2 h]
  · intro a ha e1
    rcases List.mem_cons.mp ha with h1 | h1
    · subst h1
      refine .none (fun z' hz' hp => ?_) (fun c hc => ?_)
      · rcases List.mem_cons.mp hz' with h2 | h2
        · subst h2
          have := congrArg List.length hp
          simp at this
        · obtain ⟨z, hz, rfl⟩ := List.mem_map.mp h2
          rw [upNd_path] at hp
          obtain ⟨y, hy, h3⟩ := s.pc z hz _ _ hp
          exact b1 y hy h3
      · obtain ⟨y, hy, h3⟩ := s.lp _ hc _ _ rfl
        exact b1 y hy h3
    · obtain ⟨y, hy, rfl⟩ := List.mem_map.mp h1
      rw [upNd_path]
      have g2 : ∀ e1, (y.path = x.path → e1 ≠ e) → Bnd (⟨x.path ++ [e], k1, d1, r1, o1, []⟩ :: T.map (upNd x.r o' e (.ref k1))) S y.path e1 (valueAt y.kvs e1) := fun e1 hne => by
        refine (s.val y hy e1).up up1 (fun z' hz' => ?_) (fun q hq => hq) (fun q hq => .inl hq)
        rcases List.mem_cons.mp hz' with h2 | h2
        · right; subst h2
          intro h'
          have h5 := List.append_inj' h' rfl
          have h6 := h5.2
          cases h6
          exact hne h5.1.symm rfl
        · obtain ⟨z, hz, rfl⟩ := List.mem_map.mp h2
          exact .inl ⟨z, hz, upNd_path _⟩
      by_cases e2 : y.r = x.r
      · have e3 := (s.ap y hy x hx).2.2 e2
        subst e3
        unfold upNd
        rw [if_pos rfl]
        show Bnd _ _ y.path e1 (valueAt (stored y.kvs e (.ref k1)) e1)
        rw [valueAt_stored]
        by_cases e4 : e1 = e
        · rw [if_pos e4, e4]; exact .node ⟨y.path ++ [e], k1, d1, r1, o1, []⟩ (.head _) rfl
        · rw [if_neg e4]; exact g2 e1 (fun _ => e4)
      · have : valueAt (upNd x.r o' e (.ref k1) y).kvs e1 = valueAt y.kvs e1 := by unfold upNd; rw [if_neg e2]
        rw [this]
        exact g2 e1 (fun h => absurd (by rw [s.inj y hy x hx h]) e2)
  · intro a ha c hc
    rcases List.mem_cons.mp ha with h1 | h1
    · subst h1; exact b2 c hc
    · obtain ⟨y, hy, rfl⟩ := List.mem_map.mp h1
      rw [upNd_path] at hc
      exact s.dis y hy c hc
  · intro a ha p e1 h
    rcases List.mem_cons.mp ha with h1 | h1
    · subst h1
      have := (List.append_inj' h rfl).1
      exact ⟨_, .tail _ (List.mem_map_of_mem hx), (upNd_path _).trans this⟩
    · obtain ⟨y, hy, rfl⟩ := List.mem_map.mp h1
      rw [upNd_path] at h
      obtain ⟨z, hz, hp⟩ := s.pc y hy p e1 h
      exact ⟨_, .tail _ (List.mem_map_of_mem hz), (upNd_path _).trans hp⟩
  · intro q hq p e1 h
    obtain ⟨z, hz, hp⟩ := s.lp q hq p e1 h
    exact ⟨_, .tail _ (List.mem_map_of_mem hz), (upNd_path _).trans hp⟩
  · intro p hp h
    refine ⟨mem_setAll (.tail _ (.tail _ (.tail _ hp))) (h x hx), fun a ha => ?_⟩
    rcases List.mem_cons.mp ha with h1 | h1
    · subst h1
      exact Nat.ne_of_lt (Nat.lt_trans (f3 p hp) (Nat.lt_trans f1 f2))
    · obtain ⟨y, hy, rfl⟩ := List.mem_map.mp h1
      rw [upNd_r]; exact h y hy

end
section
def PairO (y : Str × Str) (t u : Tok) : Obj := { cls := .type "tuple", data := .seq #[.str y.1 t, .str y.2 u] }
def IsPair (n : Led) (v : Value) (y : Str × Str) : Prop := ∃ a t u, v = .ref a ∧ (a, PairO y t u) ∈ n
theorem IsPair.mono {a b : Led} (h : ∀ p ∈ a, p ∈ b) {v : Value} {y : Str × Str} (x : IsPair a v y) : IsPair b v y := by
  obtain ⟨l, t, u, e, m⟩ := x
  exact ⟨l, t, u, e, h _ m⟩
theorem All2.imp {α : Type} {R R' : Value → α → Prop} (g : ∀ v y, R v y → R' v y) : ∀ {vs : List Value} {ys : List α}, All2 R vs ys → All2 R' vs ys
  | _, _, .nil => .nil
  | _, _, .cons x r => .cons (g _ _ x) (All2.imp g r)
def strOf : PySem.Expr → Option Str
  | .Constant c _ _ => (match c with
    | .str a => some a
    | _ => none)
  | _ => none
def two : PySem.Expr → Option (PySem.Expr × PySem.Expr)
  | .Tuple l _ _ => (match l with
    | [a, b] => some (a, b)
    | _ => none)
  | _ => none
def pairOf (e : PySem.Expr) : Option (Str × Str) := (two e).bind fun q => (strOf q.1).bind fun a => (strOf q.2).map fun b => (a, b)
theorem strOf_is {e : PySem.Expr} {x : Str} (h : strOf e = some x) : ∃ k p, e = .Constant (.str x) k p := by
  unfold strOf at h
  split at h
  · split at h
    · cases h; exact ⟨_, _, rfl⟩
    · cases h
  · cases h
theorem two_is {e : PySem.Expr} {q : PySem.Expr × PySem.Expr} (h : two e = some q) : ∃ k p, e = .Tuple [q.1, q.2] k p := by
  unfold two at h
  split at h
  · split at h
    · cases h; exact ⟨_, _, rfl⟩
    · cases h
  · cases h
theorem pairOf_is {e : PySem.Expr} {y : Str × Str} (h : pairOf e = some y) : ∃ a b c d k p, e = .Tuple [.Constant (.str y.1) a b, .Constant (.str y.2) c d] k p := by
  unfold pairOf at h
  obtain ⟨q, h1, h⟩ := Option.bind_eq_some_iff.mp h
  obtain ⟨x, h2, h⟩ := Option.bind_eq_some_iff.mp h
  obtain ⟨z, h3, h⟩ := Option.map_eq_some_iff.mp h
  subst h
  obtain ⟨k, p, rfl⟩ := two_is h1
  obtain ⟨a, b, e2⟩ := strOf_is h2
  obtain ⟨c, d, e3⟩ := strOf_is h3
  exact ⟨a, b, c, d, k, p, by rw [e2, e3]⟩
def pairsOf : List PySem.Expr → Option (List (Str × Str))
  | [] => some []
  | e :: es => (pairOf e).bind fun p => (pairsOf es).map fun ps => p :: ps
section
variable {M : Model} {A : Around} {E : Value → Shared → Prop} {env : Env} {h₀ : Heap} {L : Addr} {m : Str → Option Value}
theorem eval_pair {e : PySem.Expr} {y : Str × Str} {s : Shared} {news : Led} {Q : Value → Shared → Prop} (he : pairOf e = some y) (F : Fr h₀ L s.heap m) (N : News h₀ L s.heap news)
    (h : ∀ a t u h' tk, Fr h₀ L h' m → News h₀ L h' ((a, PairO y t u) :: news) → Q (.ref a) { s with heap := h', toks := tk }) : wpAny M A (eval e env) Q E s := by
  obtain ⟨_, _, _, _, _, _, rfl⟩ := pairOf_is he
  refine Tuple_ (args_cons (Constant_str (args_cons (Constant_str (args_nil ?_)))))
  exact newTuple_N F N fun h' F' N' => h _ _ _ h' _ F' N'
theorem starEach_pair {e : PySem.Expr} {y : Str × Str} (he : pairOf e = some y) (rest : List PySem.Expr) : starEach (e :: rest) env = (false, eval e env) :: starEach rest env := by
  obtain ⟨_, _, _, _, _, _, rfl⟩ := pairOf_is he
  rfl
theorem disp_pairs {pos : Pos} : ∀ (elts : List PySem.Expr) (rows : List (Str × Str)) (s : Shared) (news : Led) (Q : List Value → Shared → Prop), pairsOf elts = some rows → Fr h₀ L s.heap m → News h₀ L s.heap news →
    (∀ vs n h' tk, Fr h₀ L h' m → News h₀ L h' n → (∀ p ∈ news, p ∈ n) → All2 (IsPair n) vs rows → Q vs { s with heap := h', toks := tk }) → wpAny M A (spliced (backTo pos (starEach elts env))) Q E s
  | [], rows, s, news, Q, hl, F, N, h => by
    cases hl
    exact args_nil (h [] news s.heap s.toks F N (fun p hp => hp) .nil)
  | e :: es, rows, s, news, Q, hl, F, N, h => by
    obtain ⟨y, hy, hl⟩ := Option.bind_eq_some_iff.mp hl
    obtain ⟨ys, hys, hl⟩ := Option.map_eq_some_iff.mp hl
    subst hl
    refine args_cons (eval_pair hy F N fun a t u h1 tk1 F1 N1 => ?_) (starEach_pair hy es)
    refine disp_pairs es ys _ _ _ hys F1 N1 fun vs n h2 tk2 F2 N2 sub hA => ?_
    exact h (_ :: vs) n h2 tk2 F2 N2 (fun p hp => sub p (.tail _ hp)) (.cons ⟨a, t, u, rfl, sub _ (.head _)⟩ hA)
end
def GkOut (rows : List (Str × Str)) (news : Led) (r : Value) (n : Led) : Prop := ∃ l its k, r = .ref l ∧ (l, W.listOf its k) ∈ n ∧ (∀ p ∈ news, p ∈ n) ∧ All2 (IsPair n) its.toList rows
theorem endE {h₀ h' : Heap} {L I : Addr} {it : Obj} {rest : (Str → Option Value) → Led → Prop} {s₁ : Shared} {tk : Nat} {m' : Str → Option Value} {all X : Led} (F : Fr h₀ L h' m') (N : News h₀ L h' all)
    (sub : ∀ p ∈ (I, it) :: X, p ∈ all) (off : ∀ p ∈ X, p.1 ≠ I) (r : rest m' X) : UnrEnd h₀ L s₁ I it rest { s₁ with heap := h', toks := tk } :=
  ⟨h', tk, m', X, rfl, F, fun p hp => N p (sub p hp), off, r⟩
theorem endE22 {h₀ h' : Heap} {L I : Addr} {it : Obj} {rest : (Str → Option Value) → Led → Prop} {s₁ : Shared} {tk : Nat} {m' : Str → Option Value} {x y d : Addr × Obj} {n0 : Led} (F : Fr h₀ L h' m') (N : News h₀ L h' (x :: y :: (I, it) :: d :: n0))
    (off : ∀ p ∈ d :: x :: y :: n0, p.1 ≠ I) (r : rest m' (d :: x :: y :: n0)) : UnrEnd h₀ L s₁ I it rest { s₁ with heap := h', toks := tk } :=
  endE F N (fun p hp => by simp only [List.mem_cons] at hp ⊢; rcases hp with h | h | h | h | h <;> simp [h]) off r
noncomputable def wds (x : Str) : List Str := Txt.split x (Str.ofString " ")
noncomputable def begs (x : Str) : List Str := (List.range ((wds x).length - 1)).map fun i => Txt.join (Str.ofString " ") ((wds x).take (i + 1))
noncomputable def isMetaW (w : Str) : Bool := Txt.startswith w (Str.ofString "M-") || Txt.startswith w (Str.ofString "C-M-")
noncomputable def metas (x : Str) : Nat := ((wds x).filter isMetaW).length

end
section
section
variable {prog : Program} {w : World} {A : Around} {E : Value → Shared → Prop} {s : Shared}
theorem sub_tup {t : Addr} {items : Array Value} {i : Nat} {j : Int} {u : Tok} {x : Value} {value slice : PySem.Expr} {Q : Value → Shared → Prop} (ht : IsTup s.heap t items) (hj : j = (i : Int)) (hi : (i : Int) < 2 ^ 62) (hx : items[i]? = some x) (h : Q x s)
    (hs : subscripted slice false (.ref t) (.int j u) = operate [.ref t, .int j u] (getItem (.ref t) (.int j u)) := by with_unfolding_all rfl) : wpAny (model prog w) A (subscriptTail value slice (.ref t) (.int j u)) Q E s := by
  have hk : i < items.size := by
    rcases Nat.lt_or_ge i items.size with h | h
    · exact h
    · rw [Array.getElem?_eq_none h] at hx; cases hx
  have e : seqIndex? j items.size = some i := by
    subst hj
    unfold seqIndex?
    have h1 : ¬ ((i : Int) < 0) := by omega
    simp only [h1, if_false]
    rw [if_pos (by simp only [Bool.and_eq_true, decide_eq_true_eq]; omega)]
    simp
  exact tail_any ht.typeIs PyProof.Rows.slot_tuple_getitem.lookup (PyProof.Rows.getItem_tuple ht (by omega) (by omega) e hx h) hs
variable {env : Env} {h₀ : Heap} {x : Str} {body : List Stmt} {Q : Flow → Shared → Prop} {I : Addr} {a : Int} {n : Nat}
/-- a loop over a range, by induction -/
theorem range_ind {P : Nat → (Str → Option Value) → Led0 → Prop}
    (step : ∀ i m news t it h tk, i < n → P i m news → Fr h₀ env.locals h (fun y => if y = x then some (.int (a + (i : Int)) t) else m y) → News h₀ env.locals h ((I, it) :: news) →
      wpAny (model prog w) A (execs body env) (UnrPost h₀ env.locals { s with heap := h, toks := tk } I it (P (i + 1)) Q) E { s with heap := h, toks := tk })
    (fin : ∀ m news h tk, P n m news → Fr h₀ env.locals h m → News h₀ env.locals h news → Q .next { s with heap := h, toks := tk }) :
    ∀ (k i : Nat) m news, i + k = n → P i m news → RangeRest prog w A E h₀ env x body Q s I a n k i m news
  | 0, i, m, news, e, hp => fun h tk F N => fin m news h tk (by rw [Nat.add_zero] at e; rw [← e]; exact hp) F N
  | k + 1, i, m, news, e, hp => fun t h tk F N =>
    wpAny_mono (step i m news t _ h tk (by omega) hp F N) (fun f s₂ h' => unrPost_mono h' fun m n hp' => range_ind step fin k (i + 1) m n (by omega) hp') fun _ _ e => e
end
theorem setAll_mono {r : Addr} {o : Obj} {a b : Led} (h : ∀ p ∈ a, p ∈ b) : ∀ p ∈ setAll r o a, p ∈ setAll r o b := fun p hp => by
  obtain ⟨q, hq, rfl⟩ := List.mem_map.mp hp
  exact List.mem_map_of_mem (h q hq)
theorem setAll_ne {r I : Addr} {o : Obj} {a : Led} (h : ∀ p ∈ a, p.1 ≠ I) (hr : r ≠ I) : ∀ p ∈ setAll r o a, p.1 ≠ I := fun p hp => by
  obtain ⟨q, hq, rfl⟩ := List.mem_map.mp hp
  by_cases e : q.1 = r
  · rw [if_pos e]; exact hr
  · rw [if_neg e]; exact h q hq
structure MfP (w : World) (news : Led) (T : List Nd) (S : List (List Ev × Str)) (B : Nat) (es : List Ev) (lt I : Addr) (i : Nat) (m : Str → Option Value) (n : Led) (T1 : List Nd) (B1 : Nat) (x : Nd) : Prop where
  st : Store w n T1 S B1
  hB : B1 ≤ B + i
  hx : x ∈ T1
  hp : x.path = es.take i
  hk : m (Str.ofString "keymap") = some (.ref x.k)
  hks : m (Str.ofString "keys") = some (.ref lt)
  ext : Ext T news T1 n
  off : ∀ p ∈ n, p.1 ≠ I
  nd : ∀ y ∈ T1, (∃ y0 ∈ T, y0.path = y.path) ∨ ∃ j, j < es.length ∧ y.path = es.take j
  old : ∀ y ∈ T, ∃ y' ∈ T1, y'.path = y.path ∧ y'.k = y.k
inductive MfE (w : World) (news : Led) (T : List Nd) (S : List (List Ev × Str)) (B : Nat) (es : List Ev) (lt I : Addr) (i : Nat) (m : Str → Option Value) (n : Led) : Prop
  | mk (T1 : List Nd) (B1 : Nat) (x : Nd) (h : MfP w news T S B es lt I i m n T1 B1 x)
theorem all2_get {α : Type} {R : Value → α → Prop} : ∀ {vs : List Value} {ys : List α} {i : Nat} {y : α}, All2 R vs ys → ys[i]? = some y → ∃ v, vs[i]? = some v ∧ R v y
  | _, _, 0, _, .cons h r, e => by cases e; exact ⟨_, rfl, h⟩
  | _, _, i + 1, _, .cons h r, e => by
    have := all2_get r (i := i) e
    simpa using this
local macro_rules | `(tactic| walk_at "eval Name") => `(tactic| (k_here; k_dflt (refine' ld (by k_asm) (by ((try dsimp only); (repeat (refine (if_neg (by decide)).trans ?_)); first | assumption | exact if_pos rfl)) ?_; k_whole)))
set_option hygiene true in
local macro_rules | `(tactic| walk_at "subscriptTail Name Name ref int") => `(tactic| (k_here; (with_reducible show wpAny _ _ (subscriptTail _ _ (Value.ref _) (Value.int _ _)) _ _ _); k_dflt (refine' sub_tup ?t ?j ?i ?x ?_; (case x => assumption); (case t => exact News.isTup (by k_asm) (by k_mem)); (case j => omega); (case i => assumption); k_whole)))
local macro_rules | `(tactic| walk_at "call ref") => `(tactic| ktn_call 325 c_own_s)
local macro_rules | `(tactic| walk_at "call ref") => `(tactic| ktn_call 325 c_own_n)
local macro_rules | `(tactic| walk_at "call ref") => `(tactic| ktn_call 360 c_isk_m)
theorem c_map_for (news : Led) (k lt : Addr) (its0 : Array Value) (es : List Ev) (TT : List Nd) (SS : List (List Ev × Str)) (BB : Nat) (x0 : Nd) (hS : Store w news TT SS BB) (hBm : BB + es.length ≤ 1000) (hx0 : x0 ∈ TT) (hp0 : x0.path = []) (hk0 : x0.k = k) (hm : (lt, TupO its0) ∈ news) (hr : ∀ x ∈ TT, lt ≠ x.r) (hA : All2 IsEv its0.toList es) (hlen : es.length ≤ 100) (hne : 1 ≤ es.length) (hpf : ∀ q ∈ SS, ∀ r, es = q.1 ++ r → r = []) : Ct w mean mg mb 381 9 320 news [.ref k, .ref lt] (fun r n => ∃ x T1 B1, r = .ref x.k ∧ x ∈ T1 ∧ x.path = es.take (es.length - 1) ∧ Store w n T1 SS B1 ∧ B1 ≤ BB + es.length ∧ Ext TT news T1 n ∧ (∀ y ∈ T1, (∃ y0 ∈ TT, y0.path = y.path) ∨ ∃ j, j < es.length ∧ y.path = es.take j) ∧ (∀ y ∈ TT, ∃ y' ∈ T1, y'.path = y.path ∧ y'.k = y.k)) := by
  constructor
  k_fill
  intro dp un gd cn cs a ccd cl outer A₀ base h₀ L m s Q E B F X N T hk hd hu hret
  have N9 := kmNews1 N hm; clear N; simp only [TupO] at N9; have hsz := all2_size hA; rw [Array.length_toList] at hsz
  refine wpAny_call ?_
  k_dflt k_enter
  repeat ((fail_if_success (with_reducible show wpAny _ _ (exec (PySem.Stmt.For _ _ _ _ _) _) _ _ _)); first | (k_unfold; (try dsimp only)) | walk1)
  (with_reducible rename Fr _ _ _ _ => F1)
  k_dflt (refine For_invVF F1 (by exact rfl) (by exact rfl) ?_)
  repeat ((fail_if_success (with_reducible show wpAny _ _ (call (Value.builtin "len") _) _ _ _)); walk1)
  (with_reducible rename News _ _ _ _ => N10)
  refine PyProof.Rows.len_tuple (News.isTup N10 (.head _)) (by omega) ?_
  repeat ((fail_if_success (with_reducible show wpAny _ _ (pyIter _) _ _ _)); walk1)
  (with_reducible rename Fr _ _ _ _ => F2)
  (with_reducible rename News _ _ _ _ => N2)
  rename IsRange _ _ _ _ _ _ _ _ => R2
  k_dflt (refine iter_rangeUnr (n := es.length - 1) (by exact rfl) R2 ?_ ?_ F2 (ndrop N2) fun I hI => range_ind (P := MfE w news TT SS BB es lt I) ?_ ?_ _ _ _ _ (Nat.zero_add _) ⟨TT, BB, x0, ⟨hS, Nat.le_refl _, hx0, hp0, ?_, by rfl, Ext.refl _ _, ?_, fun y hy => .inl ⟨y, hy, rfl⟩, fun y hy => ⟨y, hy, rfl, rfl⟩⟩⟩)
  · exact small_one (by omega) (by omega) (by omega) (by omega)
  · rw [rangeSize_one]; split <;> omega
  · intro i m1 n1 t1 it h2 tk2 hi hp F3 N3
    obtain ⟨T1, B1, x, hst, hB1, hx, hp, hk1, hks, hext, hoff, hnd, hold⟩ := hp
    have hei : es[i]? = some (es[i]'(by omega)) := List.getElem?_eq_getElem (by omega)
    generalize es[i]'(by omega) = e at hei
    obtain ⟨v, hv, te, rfl⟩ := all2_get hA hei
    rw [Array.getElem?_toList] at hv
    have hi62 : (i : Int) < 2 ^ 62 := by omega
    have hm1 := (hext _ hm hr).1
    have hKx := hst.ok x hx
    have hKx2 := id hKx
    obtain ⟨u1, u2, u3, u4, u5, hx1, hx2, hx3, lo, ho⟩ := hKx2
    have N4 := kmNews (w := w) N3 (.tail _ hx1) (.tail _ hx2) (.tail _ hm1)
    clear N3
    have hsz9 : x.kvs.length ≤ sizeLine := by rw [sizeLine_eq]; have := hst.sz x hx; omega
    have hbd := hst.val x hx e
    rw [hp] at hbd
    generalize hvv : valueAt x.kvs e = ov at hbd
    cases hbd with
    | none hb1 hb2 =>
      repeat ((fail_if_success (with_reducible show wpAny _ _ (call (Value.ref 349) _) _ _ _)); walk1)
      k_here
      k_dflt (refine' use_ct ?k1 ?k2 ?k3 ?k4 ?k5 (c_new _) ?kK ?kd ?ku ?_; (case k1 => k_asm); (case k2 => k_asm); (case k3 => k_asm); (case k4 => k_asm); (case k5 => k_asm); (case kK => first | exact rfl | assumption); (case kd => ktr_room); (case ku => ktr_units); k_whole)
      intro r9 n9 h9 tk9 F9 N9 o9
      obtain ⟨k1, d1, r1, o1, w1, w2, w3, w4, w5, re9, ne9, f1, f2, f3, lo1, ho1⟩ := o9
      subst re9
      subst ne9
      repeat ((fail_if_success (with_reducible show wpAny _ _ (call (Value.ref 332) _) _ _ _)); walk1)
      k_here
      k_dflt (refine' use_ct ?k1 ?k2 ?k3 ?k4 ?k5 (c_put _ _ _ _ _ _ _ _ _ (hKx.mono ?sub) hsz9) ?kK ?kd ?ku ?_; (case k1 => k_asm); (case k2 => k_asm); (case k3 => k_asm); (case k4 => k_asm); (case k5 => k_asm); (case kK => first | exact rfl | assumption); (case kd => ktr_room); (case ku => ktr_units); (case sub => (intro p hp; simp [hp])); k_whole)
      intro r9 n9 h9 tk9 F9 N9 o9
      obtain ⟨re9, o2, ne9, ho2⟩ := o9
      subst re9
      subst ne9
      have hnode := hst.node (t1 := w1) (t2 := w2) (t3 := w3) (t4 := w4) (t5 := w5) hx hvv f1 f2 (fun p hp => f3 p (by simp [hp])) lo1 ho1 ho2
      have hKn := hnode.1.ok _ (.head _)
      have hsub : ∀ p ∈ setAll x.r o2 ((r1, o1) :: (k1, instObj 349 d1) :: (d1, attrs w r1 w1 w2 w3 w4 w5) :: n1), p ∈ setAll x.r o2 ((r1, o1) :: (k1, instObj 349 d1) :: (d1, attrs w r1 w1 w2 w3 w4 w5) :: (x.k, instObj 349 x.d) :: (x.d, attrs w x.r u1 u2 u3 u4 u5) :: (lt, TupO its0) :: (I, it) :: n1) := setAll_mono (fun p hp => by
        simp only [List.mem_cons] at hp ⊢
        rcases hp with h | h | h | h <;> simp [h])
      repeat ((fail_if_success (with_reducible show wpAny _ _ (call (Value.ref 360) _) _ _ _)); walk1)
      k_here
      k_dflt (refine' use_ctB ?k1 ?k2 ?k3 ?k4 ?k5 (c_isk_m hKn ?sub) ?kK ?kd ?ku ?_; (case k1 => k_asm); (case k2 => k_asm); (case k3 => k_asm); (case k4 => k_asm); (case k5 => k_asm); (case kK => first | exact rfl | assumption); (case kd => ktr_room); (case ku => ktr_units); (case sub => exact hsub); k_whole)
      intro h9 tk9 F9 N9
      k_steps
      (with_reducible rename Fr _ _ _ _ => F10)
      (with_reducible rename News _ _ _ _ => N10)
      have hxI : x.r ≠ I := hoff _ hx3
      refine endE F10 N10 (fun p hp => ?_) (fun p hp => ?_) ⟨_, _, _, ⟨hnode.1, by omega, .head _, ?_, by rfl, hks, hext.trans hnode.2, fun p hp => ?_, fun y hy => ?_, fun y hy => ?_⟩⟩
      · rcases List.mem_cons.mp hp with h | h
        · rw [h]; exact mem_setAll (by simp) (Ne.symm hxI)
        · exact hsub p h
      · exact setAll_ne (fun q hq => by
          have hI9 : I < d1 := f3 (I, it) (by simp)
          simp only [List.mem_cons] at hq
          rcases hq with h | h | h | h
          · rw [h]; exact Nat.ne_of_gt (Nat.lt_trans hI9 (Nat.lt_trans f1 f2))
          · rw [h]; exact Nat.ne_of_gt (Nat.lt_trans hI9 f1)
          · rw [h]; exact Nat.ne_of_gt hI9
          · exact hoff q h) hxI p hp
      · show x.path ++ [e] = _
        rw [hp, List.take_add_one, hei]; rfl
      · exact setAll_ne (fun q hq => by
          have hI9 : I < d1 := f3 (I, it) (by simp)
          simp only [List.mem_cons] at hq
          rcases hq with h | h | h | h
          · rw [h]; exact Nat.ne_of_gt (Nat.lt_trans hI9 (Nat.lt_trans f1 f2))
          · rw [h]; exact Nat.ne_of_gt (Nat.lt_trans hI9 f1)
          · rw [h]; exact Nat.ne_of_gt hI9
          · exact hoff q h) hxI p hp
      · rcases List.mem_cons.mp hy with h | h
        · right; rw [h]
          exact ⟨i + 1, by omega, by show x.path ++ [e] = _; rw [hp, List.take_add_one, hei]; rfl⟩
        · obtain ⟨z, hz, rfl⟩ := List.mem_map.mp h
          rw [upNd_path]
          exact hnd z hz
      · obtain ⟨z, hz, h1, h2⟩ := hold y hy
        exact ⟨_, .tail _ (List.mem_map_of_mem hz), (upNd_path _).trans h1, (upNd_k _).trans h2⟩
    | node y hy hyp =>
      have hKy := hst.ok y hy
      k_steps
      (with_reducible rename Fr _ _ _ _ => F10)
      (with_reducible rename News _ _ _ _ => N10)
      refine endE F10 N10 (X := n1) (fun p hp => ?_) hoff ⟨T1, B1, y, ⟨hst, by omega, hy, ?_, by rfl, hks, hext, hoff, hnd, hold⟩⟩
      · rcases List.mem_cons.mp hp with h | h <;> simp [h]
      · rw [hyp, List.take_add_one, hei]; rfl
    | leaf c t hc =>
      exfalso
      have he1 : es = (es.take i ++ [e]) ++ es.drop (i + 1) := by
        rw [show es.take i ++ [e] = es.take (i + 1) by rw [List.take_add_one, hei]; rfl, List.take_append_drop]
      have h9 := congrArg List.length (hpf _ hc _ he1)
      rw [List.length_drop, List.length_nil] at h9
      omega
  · intro m1 n1 h2 tk2 hp F3 N3
    obtain ⟨T1, B1, x, hst, hB1, hx, hp, hk1, hks, hext, hoff, hnd, hold⟩ := hp
    k_steps
    exact hret _ _ _ _ (by k_asm) (by assumption) ⟨x, T1, B1, rfl, hx, hp, hst, by omega, hext, hnd, hold⟩
  · show some (Value.ref k) = some (Value.ref x0.k); rw [hk0]
  · exact fun p hp => Nat.ne_of_lt (hI p hp)

end
section
section
variable {prog : Program} {w : World} {A : Around} {E : Value → Shared → Prop} {s : Shared}
theorem eq_tup_nil {h₀ : Heap} {L : Addr} {news : Led} {l b : Addr} {xs : Array Value} {Q : Value → Shared → Prop} (N : News h₀ L s.heap news)
    (hl : (l, { cls := .type "tuple", data := .seq xs }) ∈ news) (hb : (b, { cls := .type "tuple", data := .seq #[] }) ∈ news) (hne : 1 ≤ xs.size) (hu : A.units < cLine) (h : Q (.bool false) s) :
    wpAny (model prog w) A (compareOp .Eq (.ref l) (.ref b)) Q E s := by
  have := PySem.SeqAt.RcAt.tuples (A := A) (s := s) (e := fun _ => true) (News.isTup N hl) (News.isTup N hb) hu (fun j h1 h2 => absurd h2 (Nat.not_lt_zero _))
  refine this prog w E Q ?_
  have e : ((List.range (min xs.size (#[] : Array Value).size)).all (fun _ => true) && xs.size == (#[] : Array Value).size) = false := by
    have : (xs.size == 0) = false := by simp; intro h; rw [h] at hne; simp at hne
    simp [this]
  rw [e]; exact h
theorem sub_last {t : Addr} {items : Array Value} {u : Tok} {x : Value} {value slice : PySem.Expr} {Q : Value → Shared → Prop} (ht : IsTup s.heap t items) (h1 : 1 ≤ items.size) (hx : items[items.size - 1]? = some x) (h : Q x s)
    (hs : subscripted slice false (.ref t) (.int (-1) u) = operate [.ref t, .int (-1) u] (getItem (.ref t) (.int (-1) u)) := by with_unfolding_all rfl) : wpAny (model prog w) A (subscriptTail value slice (.ref t) (.int (-1) u)) Q E s := by
  have e : seqIndex? (-1) items.size = some (items.size - 1) := by
    unfold seqIndex?
    simp only [show ((-1 : Int) < 0) = True by simp, if_true]
    rw [if_pos (by simp only [Bool.and_eq_true, decide_eq_true_eq]; omega)]
    congr 1; omega
  exact tail_any ht.typeIs PyProof.Rows.slot_tuple_getitem.lookup (PyProof.Rows.getItem_tuple ht (by decide) (by decide) e hx h) hs
end
local macro_rules | `(tactic| walk_at "compareOp Eq ref ref") => `(tactic| (k_here; (with_reducible show wpAny _ _ (compareOp CmpOp.Eq (Value.ref _) (Value.ref _)) _ _ _); k_dflt (refine' eq_tup_nil (by k_asm) (by k_mem) (by k_mem) (by assumption) (by first | units_room | ktr_units) ?_)))
set_option hygiene true in
local macro_rules | `(tactic| walk_at "subscriptTail Name UnaryOp ref int") => `(tactic| (k_here; (with_reducible show wpAny _ _ (subscriptTail _ _ (Value.ref _) (Value.int (-1) _)) _ _ _); k_dflt (refine' sub_last ?t ?i ?x ?_; (case x => assumption); (case t => exact News.isTup (by k_asm) (by k_mem)); (case i => assumption); k_whole)))
theorem c_define (news : Led) (k lt : Addr) (its0 : Array Value) (es : List Ev) (TT : List Nd) (SS : List (List Ev × Str)) (BB : Nat) (x0 : Nd) (c : Str) (tc : Tok) (hS : Store w news TT SS BB) (hBm : BB ≤ 700) (hx0 : x0 ∈ TT) (hp0 : x0.path = []) (hk0 : x0.k = k) (hm : (lt, TupO its0) ∈ news) (hA : All2 IsEv its0.toList es) (hlen : es.length ≤ 50) (hne : 1 ≤ (spF es).length) (hpf : ∀ q ∈ SS, ∀ r, spF es = q.1 ++ r → r = []) (hnn : ∀ y ∈ TT, y.path ≠ spF es) : Ct w mean mg mb 388 11 440 news [.ref k, .ref lt, .str c tc] (fun r n => r = .str c tc ∧ ∃ T1 B1, Store w n T1 ((spF es, c) :: SS) B1 ∧ B1 ≤ BB + (spF es).length + 1 ∧ Ext TT news T1 n ∧ (∀ y ∈ T1, (∃ y0 ∈ TT, y0.path = y.path) ∨ ∃ j, j < (spF es).length ∧ y.path = (spF es).take j) ∧ (∀ y ∈ TT, ∃ y' ∈ T1, y'.path = y.path ∧ y'.k = y.k)) := by
  constructor
  k_fill
  intro dp un gd cn cs a ccd cl outer A₀ base h₀ L m s Q E B F X N T hk hd hu hret
  refine wpAny_call ?_
  k_dflt k_enter
  have hl2 := spF_len es
  repeat ((fail_if_success (with_reducible show wpAny _ _ (call (Value.ref 178) _) _ _ _)); first | (k_unfold; (try dsimp only)) | walk1)
  k_here
  k_dflt (refine' use_ct ?k1 ?k2 ?k3 ?k4 ?k5 (c_spread _ _ _ _ hm hA (by omega)) ?kK ?kd ?ku ?_; (case k1 => k_asm); (case k2 => k_asm); (case k3 => k_asm); (case k4 => k_asm); (case k5 => k_asm); (case kK => first | exact rfl | assumption); (case kd => ktr_room); (case ku => ktr_units); k_whole)
  intro r9 n9 h9 tk9 F9 N9 o9
  obtain ⟨ls, its, re9, ne9, off9, hA2⟩ := o9
  subst re9
  subst ne9
  have hsz := all2_size hA2
  rw [Array.length_toList] at hsz
  have hz1 : 1 ≤ its.size := by omega
  obtain ⟨e, he⟩ : ∃ e, (spF es)[(spF es).length - 1]? = some e := ⟨_, List.getElem?_eq_getElem (by omega)⟩
  obtain ⟨ve, hve, te, rfl⟩ := all2_get hA2 he
  rw [Array.getElem?_toList, ← hsz] at hve
  simp only [TupO] at N9
  repeat ((fail_if_success (with_reducible show wpAny _ _ (call (Value.ref 381) _) _ _ _)); walk1)
  have hr9 : ∀ x ∈ TT, ls ≠ x.r := fun x hx => by
    obtain ⟨_, _, _, _, _, _, _, h3, _⟩ := hS.ok x hx
    exact Nat.ne_of_gt (off9 _ h3)
  k_here
  k_dflt (refine' use_ct ?k1 ?k2 ?k3 ?k4 ?k5 (c_map_for _ _ _ _ _ _ _ _ _ (hS.mono ?s1 (Nat.le_refl _)) (by omega) hx0 hp0 hk0 ?s2 hr9 hA2 (by omega) hne hpf) ?kK ?kd ?ku ?_; (case k1 => k_asm); (case k2 => k_asm); (case k3 => k_asm); (case k4 => k_asm); (case k5 => k_asm); (case kK => first | exact rfl | assumption); (case kd => ktr_room); (case ku => ktr_units); (case s1 => exact fun p hp => .tail _ (.tail _ hp)); (case s2 => exact .tail _ (.head _)); k_whole)
  intro r9 n9 h9 tk9 F9 N9 o9
  obtain ⟨x, T1, B1, re9, hx, hp, hst, hB1, hext, hnd, hold⟩ := o9
  subst re9
  have hKx := hst.ok x hx
  have hKx2 := id hKx
  obtain ⟨u1, u2, u3, u4, u5, hx1, hx2, hx3, lo, ho⟩ := hKx2
  have hls := (hext (ls, TupO its) (.tail _ (.head _)) hr9).1
  have N4 := kmNews (w := w) N9 hx1 hx2 hls
  clear N9
  simp only [TupO] at N4
  have hsz9 : x.kvs.length ≤ sizeLine := by rw [sizeLine_eq]; have := hst.sz x hx; omega
  have hpe : x.path ++ [e] = spF es := by
    have h1 := List.take_add_one (l := spF es) (i := (spF es).length - 1)
    rw [he, show (spF es).length - 1 + 1 = (spF es).length by omega, List.take_length] at h1
    rw [hp]; exact h1.symm
  have hnx : ∀ y ∈ T1, y.path ≠ x.path ++ [e] := fun y hy h => by
    rw [hpe] at h
    rcases hnd y hy with ⟨y0, hy0, h1⟩ | ⟨j, hj, h1⟩
    · exact hnn y0 hy0 (h1.trans h)
    · have := congrArg List.length (h1.symm.trans h)
      rw [List.length_take] at this
      omega
  repeat ((fail_if_success (with_reducible show wpAny _ _ (call (Value.ref 332) _) _ _ _)); walk1)
  k_here
  k_dflt (refine' use_ct ?k1 ?k2 ?k3 ?k4 ?k5 (c_put _ _ _ _ _ _ _ _ _ (hKx.mono ?sub) hsz9) ?kK ?kd ?ku ?_; (case k1 => k_asm); (case k2 => k_asm); (case k3 => k_asm); (case k4 => k_asm); (case k5 => k_asm); (case kK => first | exact rfl | assumption); (case kd => ktr_room); (case ku => ktr_units); (case sub => (intro p hp; simp [hp])); k_whole)
  intro r9 n8 h8 tk8 F8 N8 o8
  obtain ⟨re8, o2, ne8, ho2⟩ := o8
  subst re8
  subst ne8
  have hleaf := hst.leaf hx hnx ho2
  rw [hpe] at hleaf
  have N7 : News _ _ _ (setAll x.r o2 n9) := fun p hp => N8 p (setAll_mono (fun q hq => .tail _ (.tail _ (.tail _ hq))) p hp)
  clear N8
  repeat' ((fail_if_success (with_reducible show Q _ _)); first | (k_unfold; (try dsimp only)) | walk1 | (dsimp only; walk1) | (leave1; try dsimp only) | (k_end; wrow_close))
  refine hret _ _ _ _ (by k_asm) (by assumption) ⟨rfl, _, _, hleaf.1, by omega, (Ext.trans (Ext.sub (Ext.refl _ _) (fun p hp => .tail _ (.tail _ hp))) hext).trans hleaf.2, fun y hy => ?_, fun y hy => ?_⟩
  · obtain ⟨z, hz, rfl⟩ := List.mem_map.mp hy
    rw [upNd_path]
    exact hnd z hz
  · obtain ⟨z, hz, h1, h2⟩ := hold y hy
    exact ⟨_, List.mem_map_of_mem hz, (upNd_path _).trans h1, (upNd_k _).trans h2⟩

end
section
theorem Store.nodePre {w : World} {news : Led} {T : List Nd} {S : List (List Ev × Str)} {B : Nat} (st : Store w news T S B) : ∀ (n : Nat) (y : Nd) (r p : List Ev), r.length = n → y ∈ T → y.path = p ++ r → ∃ z ∈ T, z.path = p
  | 0, y, r, p, hn, hy, h => by
    have : r = [] := List.length_eq_zero_iff.mp hn
    subst this
    exact ⟨y, hy, by rw [h, List.append_nil]⟩
  | n + 1, y, r, p, hn, hy, h => by
    rcases List.eq_nil_or_concat r with e | ⟨r0, e, h1⟩
    · subst e; cases hn
    · rw [List.concat_eq_append] at h1
      subst h1
      obtain ⟨z, hz, hp⟩ := st.pc y hy (p ++ r0) e (by rw [h, List.append_assoc])
      exact st.nodePre n z r0 p (by rw [List.length_append] at hn; simpa using hn) hz hp
theorem Store.leafPre {w : World} {news : Led} {T : List Nd} {S : List (List Ev × Str)} {B : Nat} (st : Store w news T S B) {q : List Ev × Str} (hq : q ∈ S) {p r : List Ev} (h : p ++ r = q.1) (hr : r ≠ []) : ∃ z ∈ T, z.path = p := by
  rcases List.eq_nil_or_concat r with e | ⟨r0, e, h1⟩
  · exact absurd e hr
  · rw [List.concat_eq_append] at h1
    subst h1
    obtain ⟨z, hz, hp⟩ := st.lp q hq (p ++ r0) e (by rw [← h, List.append_assoc])
    exact st.nodePre r0.length z r0 p rfl hz hp
theorem Store.step {w : World} {news : Led} {T : List Nd} {S : List (List Ev × Str)} {B : Nat} (st : Store w news T S B) {q : List Ev × Str} (hq : q ∈ S) {x : Nd} (hx : x ∈ T) {e : Ev} {r : List Ev} (h : x.path ++ e :: r = q.1) (hr : r ≠ []) :
    ∃ y ∈ T, y.path = x.path ++ [e] ∧ valueAt x.kvs e = some (.ref y.k) := by
  obtain ⟨z, hz, hp⟩ := st.leafPre (p := x.path ++ [e]) hq (by rw [List.append_assoc]; exact h) hr
  have hb := st.val x hx e
  generalize valueAt x.kvs e = v at hb
  cases hb with
  | none a b => exact absurd hp (a z hz)
  | node y a b => exact ⟨y, a, b, rfl⟩
  | leaf c t a => rw [← hp] at a; exact absurd a (st.dis z hz c)
theorem Store.bound {w : World} {news : Led} {T : List Nd} {S : List (List Ev × Str)} {B : Nat} (st : Store w news T S B) {q : List Ev × Str} (hq : q ∈ S) (hf : ∀ c, (q.1, c) ∈ S → c = q.2) :
    ∀ (r : List Ev) (i : Nat) (x : Nd), x ∈ T → x.path ++ r = q.1 → r ≠ [] → Trail w news x.k r i (.bound q.2)
  | [], _, _, _, _, h => absurd rfl h
  | [e], i, x, hx, h, _ => by
    have hb := st.val x hx e
    generalize hv : valueAt x.kvs e = v at hb
    cases hb with
    | none a b => exact absurd (by rw [h]; exact hq) (b q.2)
    | node y a b => exact absurd (by rw [b, h]; exact hq) (st.dis y a q.2)
    | leaf c t a => rw [h] at a; rw [← hf c a]; exact .leaf (st.ok x hx) hv
  | e :: e2 :: r, i, x, hx, h, _ => by
    obtain ⟨y, hy, hp, hv⟩ := st.step hq hx h (by simp)
    exact .node (st.ok x hx) hv (st.ok y hy) (st.bound hq hf (e2 :: r) (i + 1) y hy (by rw [hp, List.append_assoc]; exact h) (by simp))
theorem Store.pre {w : World} {news : Led} {T : List Nd} {S : List (List Ev × Str)} {B : Nat} (st : Store w news T S B) {q : List Ev × Str} (hq : q ∈ S) {r' : List Ev} (hr' : r' ≠ []) :
    ∀ (r : List Ev) (i : Nat) (x : Nd), x ∈ T → x.path ++ (r ++ r') = q.1 → Trail w news x.k r i .pre
  | [], _, _, _, _ => .done
  | e :: r, i, x, hx, h => by
    obtain ⟨y, hy, hp, hv⟩ := st.step hq hx h (by simp [hr'])
    exact .node (st.ok x hx) hv (st.ok y hy) (st.pre hq hr' r (i + 1) y hy (by rw [hp, List.append_assoc]; exact h))
theorem Store.long {w : World} {news : Led} {T : List Nd} {S : List (List Ev × Str)} {B : Nat} (st : Store w news T S B) {q : List Ev × Str} (hq : q ∈ S) (e' : Ev) :
    ∀ (r : List Ev) (i : Nat) (x : Nd), x ∈ T → x.path ++ r = q.1 → r ≠ [] → Trail w news x.k (r ++ [e']) i (.long (i + r.length))
  | [], _, _, _, _, h => absurd rfl h
  | [e], i, x, hx, h, _ => by
    have hb := st.val x hx e
    generalize hv : valueAt x.kvs e = v at hb
    cases hb with
    | none a b => exact absurd (by rw [h]; exact hq) (b q.2)
    | node y a b => exact absurd (by rw [b, h]; exact hq) (st.dis y a q.2)
    | leaf c t a => exact .long (st.ok x hx) hv
  | e :: e2 :: r, i, x, hx, h, _ => by
    obtain ⟨y, hy, hp, hv⟩ := st.step hq hx h (by simp)
    have := st.long hq e' (e2 :: r) (i + 1) y hy (by rw [hp, List.append_assoc]; exact h) (by simp)
    rw [show i + 1 + (e2 :: r).length = i + (e :: e2 :: r).length by simp only [List.length_cons]; omega] at this
    exact .node (st.ok x hx) hv (st.ok y hy) this

end
section
noncomputable def R1 : List (Str × Str) := [(Str.ofString "C-f", Str.ofString "forward-char"),
  (Str.ofString "C-b", Str.ofString "backward-char"),
  (Str.ofString "<right>", Str.ofString "forward-char"),
  (Str.ofString "<left>", Str.ofString "backward-char"),
  (Str.ofString "C-n", Str.ofString "next-line"),
  (Str.ofString "C-p", Str.ofString "previous-line"),
  (Str.ofString "<down>", Str.ofString "next-line"),
  (Str.ofString "<up>", Str.ofString "previous-line"),
  (Str.ofString "C-a", Str.ofString "move-beginning-of-line"),
  (Str.ofString "C-e", Str.ofString "move-end-of-line"),
  (Str.ofString "<home>", Str.ofString "move-beginning-of-line"),
  (Str.ofString "<end>", Str.ofString "move-end-of-line"),
  (Str.ofString "M-f", Str.ofString "forward-word"),
  (Str.ofString "M-b", Str.ofString "backward-word"),
  (Str.ofString "M-a", Str.ofString "backward-sentence"),
  (Str.ofString "M-e", Str.ofString "forward-sentence"),
  (Str.ofString "M-{", Str.ofString "backward-paragraph"),
  (Str.ofString "M-}", Str.ofString "forward-paragraph"),
  (Str.ofString "M-<", Str.ofString "beginning-of-buffer"),
  (Str.ofString "M->", Str.ofString "end-of-buffer"),
  (Str.ofString "M-m", Str.ofString "back-to-indentation"),
  (Str.ofString "C-M-f", Str.ofString "forward-sexp"),
  (Str.ofString "C-M-b", Str.ofString "backward-sexp"),
  (Str.ofString "C-M-n", Str.ofString "forward-list"),
  (Str.ofString "C-M-p", Str.ofString "backward-list"),
  (Str.ofString "C-M-u", Str.ofString "backward-up-list"),
  (Str.ofString "C-M-d", Str.ofString "down-list"),
  (Str.ofString "C-M-a", Str.ofString "beginning-of-defun"),
  (Str.ofString "C-M-e", Str.ofString "end-of-defun"),
  (Str.ofString "M-g g", Str.ofString "goto-line"),
  (Str.ofString "M-g c", Str.ofString "goto-char"),
  (Str.ofString "M-g TAB", Str.ofString "move-to-column"),
  (Str.ofString "C-x C-n", Str.ofString "set-goal-column")]
noncomputable def R2 : List (Str × Str) := [(Str.ofString "RET", Str.ofString "newline"),
  (Str.ofString "C-j", Str.ofString "newline-and-indent"),
  (Str.ofString "C-o", Str.ofString "open-line"),
  (Str.ofString "C-M-o", Str.ofString "split-line"),
  (Str.ofString "TAB", Str.ofString "indent-relative"),
  (Str.ofString "C-d", Str.ofString "delete-char"),
  (Str.ofString "DEL", Str.ofString "delete-backward-char"),
  (Str.ofString "C-k", Str.ofString "kill-line"),
  (Str.ofString "C-S-DEL", Str.ofString "kill-whole-line"),
  (Str.ofString "M-d", Str.ofString "kill-word"),
  (Str.ofString "M-DEL", Str.ofString "backward-kill-word"),
  (Str.ofString "M-k", Str.ofString "kill-sentence"),
  (Str.ofString "C-x DEL", Str.ofString "backward-kill-sentence"),
  (Str.ofString "C-M-k", Str.ofString "kill-sexp"),
  (Str.ofString "C-w", Str.ofString "kill-region"),
  (Str.ofString "M-w", Str.ofString "kill-ring-save"),
  (Str.ofString "C-M-w", Str.ofString "append-next-kill"),
  (Str.ofString "C-y", Str.ofString "yank"),
  (Str.ofString "M-y", Str.ofString "yank-pop"),
  (Str.ofString "M-z", Str.ofString "zap-to-char"),
  (Str.ofString "M-\\", Str.ofString "delete-horizontal-space"),
  (Str.ofString "M-SPC", Str.ofString "just-one-space"),
  (Str.ofString "M-^", Str.ofString "delete-indentation"),
  (Str.ofString "C-x C-o", Str.ofString "delete-blank-lines"),
  (Str.ofString "C-t", Str.ofString "transpose-chars"),
  (Str.ofString "M-t", Str.ofString "transpose-words"),
  (Str.ofString "C-x C-t", Str.ofString "transpose-lines"),
  (Str.ofString "C-M-t", Str.ofString "transpose-sexps"),
  (Str.ofString "M-u", Str.ofString "upcase-word"),
  (Str.ofString "M-l", Str.ofString "downcase-word"),
  (Str.ofString "M-c", Str.ofString "capitalize-word"),
  (Str.ofString "C-x C-u", Str.ofString "upcase-region"),
  (Str.ofString "C-x C-l", Str.ofString "downcase-region"),
  (Str.ofString "M-q", Str.ofString "fill-paragraph"),
  (Str.ofString "C-x f", Str.ofString "set-fill-column"),
  (Str.ofString "M-i", Str.ofString "tab-to-tab-stop"),
  (Str.ofString "C-x TAB", Str.ofString "indent-rigidly"),
  (Str.ofString "C-/", Str.ofString "undo"),
  (Str.ofString "C-_", Str.ofString "undo"),
  (Str.ofString "C-x u", Str.ofString "undo"),
  (Str.ofString "C-M-_", Str.ofString "undo-redo"),
  (Str.ofString "C-q", Str.ofString "quoted-insert"),
  (Str.ofString "M-%", Str.ofString "query-replace"),
  (Str.ofString "C-x '", Str.ofString "expand-abbrev")]
noncomputable def R3 : List (Str × Str) := [(Str.ofString "C-SPC", Str.ofString "set-mark-command"),
  (Str.ofString "C-@", Str.ofString "set-mark-command"),
  (Str.ofString "C-x C-x", Str.ofString "exchange-point-and-mark"),
  (Str.ofString "C-x h", Str.ofString "mark-whole-buffer"),
  (Str.ofString "M-@", Str.ofString "mark-word"),
  (Str.ofString "M-h", Str.ofString "mark-paragraph"),
  (Str.ofString "C-x n n", Str.ofString "narrow-to-region"),
  (Str.ofString "C-x n w", Str.ofString "widen"),
  (Str.ofString "C-x r SPC", Str.ofString "point-to-register"),
  (Str.ofString "C-x r j", Str.ofString "jump-to-register"),
  (Str.ofString "C-x r s", Str.ofString "copy-to-register"),
  (Str.ofString "C-x r i", Str.ofString "insert-register"),
  (Str.ofString "C-x r n", Str.ofString "number-to-register"),
  (Str.ofString "C-x r +", Str.ofString "increment-register"),
  (Str.ofString "C-x r k", Str.ofString "kill-rectangle"),
  (Str.ofString "C-x r y", Str.ofString "yank-rectangle"),
  (Str.ofString "C-x r d", Str.ofString "delete-rectangle"),
  (Str.ofString "C-x r o", Str.ofString "open-rectangle"),
  (Str.ofString "C-x r c", Str.ofString "clear-rectangle"),
  (Str.ofString "C-x r r", Str.ofString "copy-rectangle-to-register"),
  (Str.ofString "C-x r t", Str.ofString "string-rectangle"),
  (Str.ofString "C-u", Str.ofString "universal-argument"),
  (Str.ofString "C-g", Str.ofString "keyboard-quit"),
  (Str.ofString "M-x", Str.ofString "execute-extended-command"),
  (Str.ofString "M-:", Str.ofString "eval-expression"),
  (Str.ofString "C-x z", Str.ofString "repeat"),
  (Str.ofString "C-x (", Str.ofString "start-kbd-macro"),
  (Str.ofString "C-x )", Str.ofString "end-kbd-macro"),
  (Str.ofString "C-x e", Str.ofString "call-last-kbd-macro"),
  (Str.ofString "C-x q", Str.ofString "kbd-macro-query"),
  (Str.ofString "C-x C-k TAB", Str.ofString "kmacro-insert-counter"),
  (Str.ofString "C-x C-k C-c", Str.ofString "kmacro-set-counter"),
  (Str.ofString "C-x b", Str.ofString "switch-to-buffer"),
  (Str.ofString "C-x k", Str.ofString "kill-buffer"),
  (Str.ofString "C-x C-f", Str.ofString "find-file"),
  (Str.ofString "C-x C-s", Str.ofString "save-buffer"),
  (Str.ofString "C-x C-w", Str.ofString "write-file"),
  (Str.ofString "C-x C-q", Str.ofString "toggle-read-only"),
  (Str.ofString "C-x 0", Str.ofString "delete-window"),
  (Str.ofString "C-x 1", Str.ofString "delete-other-windows"),
  (Str.ofString "C-x 2", Str.ofString "split-window-below"),
  (Str.ofString "C-x 3", Str.ofString "split-window-right"),
  (Str.ofString "C-x o", Str.ofString "other-window"),
  (Str.ofString "C-x ^", Str.ofString "enlarge-window"),
  (Str.ofString "C-x +", Str.ofString "balance-windows"),
  (Str.ofString "C-v", Str.ofString "scroll-up-command"),
  (Str.ofString "M-v", Str.ofString "scroll-down-command"),
  (Str.ofString "C-l", Str.ofString "recenter-top-bottom"),
  (Str.ofString "C-x =", Str.ofString "what-cursor-position")]
theorem PairO_def (y : Str × Str) (t u : Tok) : PairO y t u = { cls := .type "tuple", data := .seq #[.str y.1 t, .str y.2 u] } := rfl
noncomputable def dg (c : Nat) : List (Str × Str) := [(Str.ofString "M-" ++ ⟨#[c]⟩, Str.ofString "digit-argument"), (Str.ofString "C-" ++ ⟨#[c]⟩, Str.ofString "digit-argument")]
noncomputable def R0 : List (Str × Str) := [(Str.ofString "M--", Str.ofString "negative-argument"), (Str.ofString "C--", Str.ofString "negative-argument")]
noncomputable def R4 : List (Str × Str) := R0 ++ (Str.ofString "0123456789").cps.toList.flatMap dg
structure DgP (D I : Addr) (news : Led) (l : List Nat) (m : Str → Option Value) (n n0 : Led) (its : Array Value) (k : Nat) (f : List (Str × Str)) : Prop where
  hn : n = (D, W.listOf its k) :: n0
  hf : m (Str.ofString "rows") = some (.ref D)
  ha : All2 (IsPair n0) its.toList f
  hb : f ++ l.flatMap dg = R4
  hs : its.size + 2 * l.length ≤ 22
  sub : ∀ p ∈ news, p ∈ n0
  off : ∀ p ∈ n0, p.1 ≠ D
  offI : ∀ p ∈ n0, p.1 ≠ I
inductive DgE (D I : Addr) (news : Led) (l : List Nat) (m : Str → Option Value) (n : Led) : Prop
  | mk (n0 : Led) (its : Array Value) (k : Nat) (f : List (Str × Str)) (h : DgP D I news l m n n0 its k f)
local macro_rules | `(tactic| walk_at "eval Name") => `(tactic| (k_here; k_dflt (refine' ld (by k_asm) (by ((try dsimp only); (repeat (refine (if_neg (by decide)).trans ?_)); first | assumption | exact if_pos rfl)) ?_; k_whole)))
theorem c_motion (news : Led) : Ct w mean mg mb 28 2 100 news [] (fun r n => GkOut R1 news r n) := by
  constructor
  k_fill
  intro dp un gd cn cs a ccd cl outer A₀ base h₀ L m s Q E B F X N T hk hd hu hret
  refine wpAny_call ?_
  k_dflt k_enter
  repeat ((fail_if_success (with_reducible show wpAny _ _ (eval (PySem.Expr.List _ _) _) _ _ _)); first | (k_unfold; (try dsimp only)) | walk1)
  (with_reducible rename Fr _ _ _ _ => F1); (with_reducible rename News _ _ _ _ => N1)
  refine List_ ?_
  with_reducible refine disp_pairs _ R1 _ _ _ ?hl F1 N1 ?_
  case hl => kernel_rfl
  intro vs n h1 tk1 F2 N2 sub hA
  have hz : vs.length ≤ sizeLine := by rw [all2_size hA]; decide +kernel
  refine newList_N F2 N2 (fun h2 F3 N3 => ?_) hz
  k_steps
  all_goals exact hret _ _ _ _ (by k_asm) (by assumption) ⟨_, vs.toArray, 0, rfl, .head _, fun p hp => .tail _ (sub p hp), hA.imp fun v y h => h.mono fun p hp => .tail _ hp⟩
theorem c_change (news : Led) : Ct w mean mg mb 35 2 100 news [] (fun r n => GkOut R2 news r n) := by
  constructor
  k_fill
  intro dp un gd cn cs a ccd cl outer A₀ base h₀ L m s Q E B F X N T hk hd hu hret
  refine wpAny_call ?_
  k_dflt k_enter
  repeat ((fail_if_success (with_reducible show wpAny _ _ (eval (PySem.Expr.List _ _) _) _ _ _)); first | (k_unfold; (try dsimp only)) | walk1)
  (with_reducible rename Fr _ _ _ _ => F1); (with_reducible rename News _ _ _ _ => N1)
  refine List_ ?_
  with_reducible refine disp_pairs _ R2 _ _ _ ?hl F1 N1 ?_
  case hl => kernel_rfl
  intro vs n h1 tk1 F2 N2 sub hA
  have hz : vs.length ≤ sizeLine := by rw [all2_size hA]; decide +kernel
  refine newList_N F2 N2 (fun h2 F3 N3 => ?_) hz
  k_steps
  all_goals exact hret _ _ _ _ (by k_asm) (by assumption) ⟨_, vs.toArray, 0, rfl, .head _, fun p hp => .tail _ (sub p hp), hA.imp fun v y h => h.mono fun p hp => .tail _ hp⟩
theorem c_other (news : Led) : Ct w mean mg mb 42 2 100 news [] (fun r n => GkOut R3 news r n) := by
  constructor
  k_fill
  intro dp un gd cn cs a ccd cl outer A₀ base h₀ L m s Q E B F X N T hk hd hu hret
  refine wpAny_call ?_
  k_dflt k_enter
  repeat ((fail_if_success (with_reducible show wpAny _ _ (eval (PySem.Expr.List _ _) _) _ _ _)); first | (k_unfold; (try dsimp only)) | walk1)
  (with_reducible rename Fr _ _ _ _ => F1); (with_reducible rename News _ _ _ _ => N1)
  refine List_ ?_
  with_reducible refine disp_pairs _ R3 _ _ _ ?hl F1 N1 ?_
  case hl => kernel_rfl
  intro vs n h1 tk1 F2 N2 sub hA
  have hz : vs.length ≤ sizeLine := by rw [all2_size hA]; decide +kernel
  refine newList_N F2 N2 (fun h2 F3 N3 => ?_) hz
  k_steps
  all_goals exact hret _ _ _ _ (by k_asm) (by assumption) ⟨_, vs.toArray, 0, rfl, .head _, fun p hp => .tail _ (sub p hp), hA.imp fun v y h => h.mono fun p hp => .tail _ hp⟩
theorem c_digit (news : Led) : Ct w mean mg mb 49 4 200 news [] (fun r n => GkOut R4 news r n) := by
  constructor
  k_fill
  intro dp un gd cn cs a ccd cl outer A₀ base h₀ L m s Q E B F X N T hk hd hu hret
  refine wpAny_call ?_
  k_dflt k_enter
  repeat ((fail_if_success (with_reducible show wpAny _ _ (eval (PySem.Expr.List _ _) _) _ _ _)); first | (k_unfold; (try dsimp only)) | walk1)
  (with_reducible rename Fr _ _ _ _ => F1); (with_reducible rename News _ _ _ _ => N1)
  refine List_ ?_
  with_reducible refine disp_pairs _ R0 _ _ _ ?hl F1 N1 ?_
  case hl => kernel_rfl
  intro vs n h1 tk1 F2 N2 sub hA
  have hz : vs.length ≤ sizeLine := by rw [all2_size hA]; decide +kernel
  have hz2 : vs.length = 2 := by rw [all2_size hA]; rfl
  have hD : ∀ p ∈ n, p.1 < h1.objs.size := fun p hp => Heap.lt_size (N2 p hp).1
  refine newList_N F2 N2 (fun h2 F3 N3 => ?_) hz
  dsimp only at N3
  generalize h1.objs.size = D at hD N3 ⊢
  repeat ((fail_if_success (with_reducible show wpAny _ _ (exec (PySem.Stmt.For _ _ _ _ _) _) _ _ _)); first | (k_unfold; (try dsimp only)) | walk1)
  (with_reducible rename Fr _ _ _ _ => F4)
  k_dflt (refine For_invVF F4 (by exact rfl) (by exact rfl) ?_)
  repeat ((fail_if_success (with_reducible show wpAny _ _ (pyIter _) _ _ _)); first | (k_unfold; (try dsimp only)) | walk1)
  rename News _ _ _ _ => N5
  k_dflt (refine iter_strUnr (by exact rfl) (by assumption) N5 rfl fun I hI => strRest_ind (P := DgE D I news) ?_ ?_ _ _ _ ⟨n, vs.toArray, 0, R0, ⟨rfl, by rfl, hA, rfl, by show vs.toArray.size + 2 * 10 ≤ 22; rw [List.size_toArray]; omega, sub, fun p hp => Nat.ne_of_lt (hD p hp), fun p hp => Nat.ne_of_lt (hI p (.tail _ hp))⟩⟩)
  · intro c r m1 n1 u it h2 tk2 hp F3 N3
    have hI1 := hI _ (.head _)
    obtain ⟨n0, its, k, f, hn, hf, ha, hb, hs, hsub, hoff, hoffI⟩ := hp
    subst hn
    have hs' : its.size ≤ sizeLine := by rw [sizeLine_eq]; omega
    have hs'' : (its.push (Value.ref 0)).size ≤ sizeLine := by rw [sizeLine_eq, Array.size_push]; omega
    have hDI : D < I := hI1
    have hs1 : its.size ≤ sizeLine := by rw [sizeLine_eq]; omega
    k_steps
    rename News _ _ _ ((_, _) :: (I, it) :: _) => N6
    rename I < _ ∧ D < _ ∧ AllLt _ n0 => l6
    (with_reducible rename Fr _ _ _ _ => F6)
    refine append_K F6 N6 (.tail (Nat.ne_of_gt l6.2.1) (.tail (Nat.ne_of_gt hDI) (.head hoff))) ?_ hs1
    intro h7 F7 N7
    clear N6
    k_steps
    rename News _ _ _ ((_, _) :: (_, _) :: (I, it) :: _) => N8
    rename _ < _ ∧ I < _ ∧ D < _ ∧ AllLt _ n0 => l8
    (with_reducible rename Fr _ _ _ _ => F8)
    refine append_K F8 N8 (.tail (Nat.ne_of_gt l8.2.2.1) (.tail (Nat.ne_of_gt l6.2.1) (.tail (Nat.ne_of_gt hDI) (.head hoff)))) ?_ (by rw [sizeLine_eq, Array.size_push]; simp only [List.length_cons] at hs; omega)
    intro h9 F9 N9
    clear N8
    k_steps
    (with_reducible rename Fr _ _ _ _ => F10)
    refine endE22 F10 N9 (fun p hp => ?_) ⟨_, _, _, f ++ dg c, ⟨rfl, hf, ?_, ?_, ?_, ?_, ?_, ?_⟩⟩
    · simp only [List.mem_cons] at hp
      rcases hp with h | h | h | h
      · rw [h]; exact Nat.ne_of_lt hDI
      · rw [h]; exact Nat.ne_of_gt l8.2.1
      · rw [h]; exact Nat.ne_of_gt l6.1
      · exact hoffI p h
    · rw [Array.toList_push, Array.toList_push, List.append_assoc]
      refine All2.app (ha.imp fun v y h => h.mono fun p hp => .tail _ (.tail _ hp)) (.cons ⟨_, _, _, rfl, .tail _ (.head _)⟩ (.cons ⟨_, _, _, rfl, .head _⟩ .nil))
    · rw [← hb, List.append_assoc]; rfl
    · rw [Array.size_push, Array.size_push]; simp only [List.length_cons] at hs; omega
    · exact fun p hp => .tail _ (.tail _ (hsub p hp))
    · intro p hp
      simp only [List.mem_cons] at hp
      rcases hp with h | h | h
      · rw [h]; exact Nat.ne_of_gt l8.2.2.1
      · rw [h]; exact Nat.ne_of_gt l6.2.1
      · exact hoff p h
    · intro p hp
      simp only [List.mem_cons] at hp
      rcases hp with h | h | h
      · rw [h]; exact Nat.ne_of_gt l8.2.1
      · rw [h]; exact Nat.ne_of_gt l6.1
      · exact hoffI p h
  · intro m1 n1 h2 tk2 hp F3 N3
    obtain ⟨n0, its, k, f, hn, hf, ha, hb, hs, hsub, hoff, hoffI⟩ := hp
    subst hn
    k_steps
    all_goals exact hret _ _ _ _ (by k_asm) (by assumption) ⟨_, its, k, rfl, .head _, fun p hp => .tail _ (hsub p hp), by rw [List.flatMap_nil, List.append_nil] at hb; rw [← hb]; exact ha.imp fun v y h => h.mono fun p hp => .tail _ hp⟩

end
section
noncomputable def TBL : List (Str × Str) := R1 ++ R2 ++ R3 ++ R4
theorem TBL_len : TBL.length = 148 := by decide +kernel
theorem c_global (news : Led) : Ct w mean mg mb 56 6 300 news [] (fun r n => GkOut TBL news r n) := by
  constructor
  k_fill
  intro dp un gd cn cs a ccd cl outer A₀ base h₀ L m s Q E B F X N T hk hd hu hret
  refine wpAny_call ?_
  k_dflt k_enter
  repeat ((fail_if_success (with_reducible show wpAny _ _ (call (Value.ref 28) _) _ _ _)); first | (k_unfold; (try dsimp only)) | walk1)
  k_here
  k_dflt (refine' use_ct ?k1 ?k2 ?k3 ?k4 ?k5 (c_motion _) ?kK ?kd ?ku ?_; (case k1 => k_asm); (case k2 => k_asm); (case k3 => k_asm); (case k4 => k_asm); (case k5 => k_asm); (case kK => first | exact rfl | assumption); (case kd => ktr_room); (case ku => ktr_units); k_whole)
  intro r9 n9 h9 tk9 F9 N9 o9
  obtain ⟨l1, its1, k1, re, hl1, sub1, a1⟩ := o9
  subst re
  repeat ((fail_if_success (with_reducible show wpAny _ _ (call (Value.ref 35) _) _ _ _)); walk1)
  k_here
  k_dflt (refine' use_ct ?k1 ?k2 ?k3 ?k4 ?k5 (c_change _) ?kK ?kd ?ku ?_; (case k1 => k_asm); (case k2 => k_asm); (case k3 => k_asm); (case k4 => k_asm); (case k5 => k_asm); (case kK => first | exact rfl | assumption); (case kd => ktr_room); (case ku => ktr_units); k_whole)
  intro r9 n8 h8 tk8 F8 N8 o9
  obtain ⟨l2, its2, k2, re, hl2, sub2, a2⟩ := o9
  subst re
  repeat ((fail_if_success (with_reducible show wpAny _ _ (binaryOp _ _ _) _ _ _)); walk1)
  have z1 := all2_size a1
  have z2 := all2_size a2
  rw [show R1.length = 33 by decide +kernel] at z1
  rw [show R2.length = 44 by decide +kernel] at z2
  refine kmk_add_lit (by k_asm) N8 (News.isList N8 (sub2 _ hl1)) (News.isList N8 hl2) rfl ?_ (by rw [sizeLine_eq]; omega)
  intro D1 h7 F7 N7 o7
  repeat ((fail_if_success (with_reducible show wpAny _ _ (call (Value.ref 42) _) _ _ _)); walk1)
  k_here
  k_dflt (refine' use_ct ?k1 ?k2 ?k3 ?k4 ?k5 (c_other _) ?kK ?kd ?ku ?_; (case k1 => k_asm); (case k2 => k_asm); (case k3 => k_asm); (case k4 => k_asm); (case k5 => k_asm); (case kK => first | exact rfl | assumption); (case kd => ktr_room); (case ku => ktr_units); k_whole)
  intro r9 n6 h6 tk6 F6 N6 o9
  obtain ⟨l3, its3, k3, re, hl3, sub3, a3⟩ := o9
  subst re
  have z3 := all2_size a3
  rw [show R3.length = 49 by decide +kernel] at z3
  repeat ((fail_if_success (with_reducible show wpAny _ _ (binaryOp _ _ _) _ _ _)); walk1)
  refine kmk_add_lit (by k_asm) N6 (News.isList N6 (sub3 _ (.head _))) (News.isList N6 hl3) rfl ?_ (by rw [sizeLine_eq]; simp only [List.length_append]; omega)
  intro D2 h5 F5 N5 o5
  repeat ((fail_if_success (with_reducible show wpAny _ _ (call (Value.ref 49) _) _ _ _)); walk1)
  k_here
  k_dflt (refine' use_ct ?k1 ?k2 ?k3 ?k4 ?k5 (c_digit _) ?kK ?kd ?ku ?_; (case k1 => k_asm); (case k2 => k_asm); (case k3 => k_asm); (case k4 => k_asm); (case k5 => k_asm); (case kK => first | exact rfl | assumption); (case kd => ktr_room); (case ku => ktr_units); k_whole)
  intro r9 n4 h4 tk4 F4 N4 o9
  obtain ⟨l4, its4, k4, re, hl4, sub4, a4⟩ := o9
  subst re
  have z4 := all2_size a4
  rw [show R4.length = 22 by decide +kernel] at z4
  repeat ((fail_if_success (with_reducible show wpAny _ _ (binaryOp _ _ _) _ _ _)); walk1)
  refine kmk_add_lit (by k_asm) N4 (News.isList N4 (sub4 _ (.head _))) (News.isList N4 hl4) rfl ?_ (by rw [sizeLine_eq]; simp only [List.length_append]; omega)
  intro D3 h3 F3 N3 o3
  k_steps
  (with_reducible rename News h₀ _ _ _ => N2)
  refine hret _ _ _ _ (by k_asm) N2 ⟨_, _, 0, rfl, .head _, fun p hp => .tail _ (sub4 p (.tail _ (sub3 p (.tail _ (sub2 p (sub1 p hp)))))), ?_⟩
  all_goals (show All2 _ (((its1.toList ++ its2.toList) ++ its3.toList) ++ its4.toList) _; exact All2.app (All2.app (All2.app (a1.imp fun v y h => h.mono fun p hp => .tail _ (sub4 p (.tail _ (sub3 p (.tail _ (sub2 p hp)))))) (a2.imp fun v y h => h.mono fun p hp => .tail _ (sub4 p (.tail _ (sub3 p (.tail _ hp)))))) (a3.imp fun v y h => h.mono fun p hp => .tail _ (sub4 p (.tail _ hp)))) (a4.imp fun v y h => h.mono fun p hp => .tail _ hp))

end
section
theorem ct_mono {w : World} {mean : ExcName → Option Value} {mg mb : Str → Option Value} {f : Addr} {D U D' U' : Nat} {news : Led} {vs : List Value} {Out : Value → Led → Prop} (C : Ct w mean mg mb f D U news vs Out) (h1 : D ≤ D') (h2 : U ≤ U') : Ct w mean mg mb f D' U' news vs Out := by
  constructor
  intro dp un gd cn cs a ccd cl outer A₀ base h₀ L m s Q E B F X N T hk hd hu hret
  exact C.go dp un gd cn cs a ccd cl outer A₀ base h₀ L m s Q E B F X N T hk (by omega) (by omega) hret
theorem cmd_s (x : Str) (k : Nat) (hn : x.length = k) (h0 : ¬ 4 < (k : Int)) (hb : Nat.blt k (2 ^ 62) = true) : CmdNo x := fun w mean mg mb news t => c_iscmd_g x k t hn h0 hb news
theorem cmd_l (x : Str) (k : Nat) (hn : x.length = k) (h0 : 4 < (k : Int)) (hb : Nat.blt k (2 ^ 62) = true) (hz : x.length ≤ sizeLine) (h2 : (Txt.slice x none (some 2) == Str.ofString "<<") = false) : CmdNo x := fun w mean mg mb news t => c_iscmd_h x k t hn h0 hb hz h2 news
theorem ang_n (x : Str) (k c0 : Nat) (hn : x.length = k) (h0 : 2 < (k : Int)) (hb : Nat.blt k (2 ^ 62) = true) (hc : x.cps[0]? = some c0) (h2 : (Str.mk #[c0] == Str.ofString "<") = false) : AngIs x false := fun w mean mg mb news t => c_isang_g x k c0 t hn h0 hb hc h2 news
theorem ang_y (x : Str) (k c0 c1 : Nat) (hn : x.length = k) (h0 : 2 < (k : Int)) (hb : Nat.blt k (2 ^ 62) = true) (hc : x.cps[0]? = some c0) (h2 : (Str.mk #[c0] == Str.ofString "<") = true) (hz : LastIs x c1) (h3 : (Str.mk #[c1] == Str.ofString ">") = true) : AngIs x true := fun w mean mg mb news t => c_isang_h x k c0 c1 t hn h0 hb hc h2 hz h3 news
theorem la_n (x : Str) (k c1 : Nat) (hn : x.length = k) (h0 : 2 < (k : Int)) (hb : Nat.blt k (2 ^ 62) = true) (hc : x.cps[1]? = some c1) (h2 : (Str.mk #[c1] == Str.ofString "-") = false) : LaOk x (Str.ofString "") x := fun w mean mg mb news t => c_la_g x k c1 t hn h0 hb hc h2 news
theorem ang_1 (c : Nat) : AngIs (Str.mk #[c]) false := fun w mean mg mb news t => c_isang_1 c t news
def NoFig (c : Nat) : Prop := (Builtin.Str.occurrences (Str.ofString "0123456789") (Str.mk #[c]) 0 (Str.ofString "0123456789").length 1).isEmpty = true
theorem noF (c : Nat) (h : (Builtin.Str.occurrences (Str.ofString "0123456789") (Str.mk #[c]) 0 (Str.ofString "0123456789").length 1).isEmpty = true) : NoFig c := h
theorem wordOk_1 (c : Nat) : WordOk (Str.mk #[c]) (.inl (c : Int)) := fun w mean mg mb news t =>
  ⟨ct_mono (c_times_1 c t news) (by decide) (by decide), c_wk_1 c (cmd_s _ 1 rfl (by decide) rfl) (fun w mean mg mb news t => c_la_1 c t news) (ang_1 c) t news⟩
theorem times_of_first {w : World} {mean : ExcName → Option Value} {mg mb : Str → Option Value} (x : Str) (c0 : Nat) (t : Tok) (news : Led) (h0 : 0 < x.length) (hb : x.length ≤ 1000) (hc : x.cps[0]? = some c0) (hd : (Builtin.Str.occurrences (Str.ofString "0123456789") (Str.mk #[c0]) 0 (Str.ofString "0123456789").length 1).isEmpty = true) :
    Ct w mean mg mb 228 4 100 news [.str x t] (fun r n => ∃ l o, r = .ref l ∧ n = (l, o) :: news ∧ (∀ p ∈ news, p.1 < l) ∧ ∃ a b, o = { cls := .type "tuple", data := .seq #[.int 1 a, .str x b] }) :=
  ct_mono (c_times_g x c0 x.length t rfl (by omega) (by rw [Nat.blt_eq]; exact Nat.lt_of_le_of_lt hb (by decide)) hc hd news) (by decide) (by decide)
theorem wordOk_x (x : Str) (c0 : Nat) (e : Ev) (h0 : 0 < x.length) (hb : x.length ≤ 1000) (hc : x.cps[0]? = some c0) (hd : NoFig c0)
    (h : ∀ (w : World) (mean : ExcName → Option Value) (mg mb : Str → Option Value) (news : Led) (t : Tok), Ct w mean mg mb 289 9 480 news [.str x t] (fun r n => ∃ l o, r = .ref l ∧ n = (l, o) :: news ∧ (∀ p ∈ news, p.1 ≠ l) ∧ ∃ a b, o = { cls := .type "list", data := .seq #[evVal e a] b })) : WordOk x e :=
  fun w mean mg mb news t => ⟨times_of_first x c0 t news h0 hb hc hd, h w mean mg mb news t⟩
theorem noF67 : NoFig 67 := noF 67 (by decide +kernel)
theorem noF77 : NoFig 77 := noF 77 (by decide +kernel)
theorem noF60 : NoFig 60 := noF 60 (by decide +kernel)
theorem ne_C : Is (Str.ofString "C" != Str.ofString "") true := by with_unfolding_all rfl
theorem ne_M : Is (Str.ofString "M" != Str.ofString "") true := by with_unfolding_all rfl
theorem ne_CM : Is (Str.ofString "CM" != Str.ofString "") true := by with_unfolding_all rfl
theorem ne_CS : Is (Str.ofString "CS" != Str.ofString "") true := by with_unfolding_all rfl
theorem la_s (c0 c : Nat) (L : Str) (hL : Str.mk #[c0] = L) (hin : (Builtin.Str.occurrences (Str.ofString "ACHMSs") (Str.mk #[c0]) 0 (Str.ofString "ACHMSs").length 1).isEmpty = false) : LaOk (Str.mk #[c0, 45, c]) L (Str.mk #[c]) := by
  subst hL; exact fun w mean mg mb news t => c_la_s c0 c hin t news
theorem la_t (c0 c1 c2 c3 : Nat) (L : Str) (hL : Str.mk #[c0] = L) (hin : (Builtin.Str.occurrences (Str.ofString "ACHMSs") (Str.mk #[c0]) 0 (Str.ofString "ACHMSs").length 1).isEmpty = false) (hne : (Str.mk #[c2] == Str.ofString "-") = false) : LaOk (Str.mk #[c0, 45, c1, c2, c3]) L (Str.mk #[c1, c2, c3]) := by
  subst hL; exact fun w mean mg mb news t => c_la_t c0 c1 c2 c3 hin hne t news
theorem e_C : Str.mk #[67] = Str.ofString "C" := by decide +kernel
theorem e_M : Str.mk #[77] = Str.ofString "M" := by decide +kernel
theorem in_C : (Builtin.Str.occurrences (Str.ofString "ACHMSs") (Str.mk #[67]) 0 (Str.ofString "ACHMSs").length 1).isEmpty = false := by decide +kernel
theorem in_M : (Builtin.Str.occurrences (Str.ofString "ACHMSs") (Str.mk #[77]) 0 (Str.ofString "ACHMSs").length 1).isEmpty = false := by decide +kernel
theorem la_C (c : Nat) : LaOk (Str.mk #[67, 45, c]) (Str.ofString "C") (Str.mk #[c]) := la_s 67 c _ e_C in_C
theorem la_M (c : Nat) : LaOk (Str.mk #[77, 45, c]) (Str.ofString "M") (Str.mk #[c]) := la_s 77 c _ e_M in_M
theorem la_CM (c : Nat) : LaOk (Str.mk #[67, 45, 77, 45, c]) (Str.ofString "CM") (Str.mk #[c]) := fun w mean mg mb news t => c_la_CM c t news
theorem mk_C (x : Int) (hx : 0 ≤ x ∧ x < 128) : MkOk x (Str.ofString "C") (ctl x) := fun w mean mg mb news t u => c_make_C x t u hx news
theorem mk_M (x : Int) (hx : 0 ≤ x ∧ x < 128) : MkOk x (Str.ofString "M") (x + 134217728) := fun w mean mg mb news t u => c_make_M x t u hx news
theorem mk_CM (x : Int) (hx : 0 ≤ x ∧ x < 128) (hm : 0 ≤ ctl x ∧ ctl x < 128) : MkOk x (Str.ofString "CM") (ctl x + 134217728) := fun w mean mg mb news t u => c_make_CM x t u hx hm news
theorem mk_nil (x : Int) : MkOk x (Str.ofString "") x := fun w mean mg mb news t u => c_make_nil x t u news
theorem mk_CS : MkOk 127 (Str.ofString "CS") 100663423 := fun w mean mg mb news t u => c_make_CSD t u news
theorem md_1 (L x : Str) (c : Nat) (e : Int) (hm : MkOk c L e) : ModOk L (Str.mk #[c]) x (.inl e) := fun w mean mg mb news t u v => c_mod_1 L x c e hm (ang_1 c) t u v news
theorem md_n (L y x : Str) (c e : Int) (hcn : cnF y = some c) (hm : MkOk c L e) (ha : AngIs y false) : ModOk L y x (.inl e) := fun w mean mg mb news t u v => c_mod_nm L y x c e hcn hm ha t u v news
theorem wordOk_l (x L y : Str) (e : Ev) (c0 : Nat) (h0 : 0 < x.length) (hb : x.length ≤ 1000) (hc0 : x.cps[0]? = some c0) (hd : NoFig c0) (hc : CmdNo x) (hl : LaOk x L y) (hL : Is (L != Str.ofString "") true) (hm : ModOk L y x e) : WordOk x e :=
  wordOk_x x c0 e h0 hb hc0 hd fun w mean mg mb news t => c_wk_mod x L y e hc hl hL hm t news
theorem lt128 {c : Nat} (h : c < 128) : 0 ≤ (c : Int) ∧ (c : Int) < 128 := by omega
theorem wordOk_C (c : Nat) (h : c < 128) : WordOk (Str.mk #[67, 45, c]) (.inl (ctl c)) :=
  wordOk_l _ _ _ _ 67 (by exact Nat.succ_pos _) (by exact Nat.le_of_ble_eq_true rfl) rfl noF67 (cmd_s _ 3 rfl (by decide) rfl) (la_C c) ne_C (md_1 _ _ c _ (mk_C c (lt128 h)))
theorem wordOk_M (c : Nat) (h : c < 128) : WordOk (Str.mk #[77, 45, c]) (.inl ((c : Int) + 134217728)) :=
  wordOk_l _ _ _ _ 77 (by exact Nat.succ_pos _) (by exact Nat.le_of_ble_eq_true rfl) rfl noF77 (cmd_s _ 3 rfl (by decide) rfl) (la_M c) ne_M (md_1 _ _ c _ (mk_M c (lt128 h)))
theorem slN (x : Str) (h : Nat.ble x.length 1000 = true) : x.length ≤ sizeLine := Nat.le_trans (Nat.le_of_ble_eq_true h) (by decide)
theorem cmd_5 (a b c d e : Nat) (h : (Str.mk #[a, b] == Str.ofString "<<") = false) : CmdNo (Str.mk #[a, b, c, d, e]) := cmd_l _ 5 rfl (by decide) rfl (slN _ rfl) h
theorem wordOk_CM (c : Nat) (h : c < 128) (hm : 0 ≤ ctl c ∧ ctl c < 128) : WordOk (Str.mk #[67, 45, 77, 45, c]) (.inl (ctl c + 134217728)) :=
  wordOk_l _ _ _ _ 67 (by exact Nat.succ_pos _) (by exact Nat.le_of_ble_eq_true rfl) rfl noF67 (cmd_5 _ _ _ _ _ (by decide +kernel)) (la_CM c) ne_CM (md_1 _ _ c _ (mk_CM c (lt128 h) hm))
theorem wordOk_n (x : Str) (c0 c1 : Nat) (c : Int) (h3 : x.length = 3) (hc0 : x.cps[0]? = some c0) (hc1 : x.cps[1]? = some c1) (hd : NoFig c0) (h1 : (Str.mk #[c1] == Str.ofString "-") = false) (h0 : (Str.mk #[c0] == Str.ofString "<") = false) (hcn : cnF x = some c) : WordOk x (.inl c) :=
  wordOk_x x c0 _ (by omega) (by omega) hc0 hd fun w mean mg mb news t => c_wk_nm x c (.inl c) (cmd_s x 3 h3 (by decide) rfl) (la_n x 3 c1 h3 (by decide) rfl hc1 h1) (ang_n x 3 c0 h3 (by decide) rfl hc0 h0) hcn (md_n _ x x c c hcn (mk_nil c) (ang_n x 3 c0 h3 (by decide) rfl hc0 h0)) t news
theorem nm_ok (y : Str) (k c1 : Nat) (hn : y.length = k) (hb : Nat.blt k (2 ^ 62) = true) (hz : y.length ≤ sizeLine) (hc : y.cps[1]? = some c1) (h2 : (Str.mk #[c1] == Str.ofString "-") = false) (hcn : cnF y = none) : NamedOk y := fun w mean mg mb news t u => c_named_n y k c1 hn hb hz hc h2 hcn t u news
theorem wordOk_a (x z : Str) (k c1 d1 l : Nat) (hc : CmdNo x) (hn : x.length = k) (h0 : 2 < (k : Int)) (hk : Nat.ble k 1000 = true) (hc0 : x.cps[0]? = some 60) (hc1 : x.cps[1]? = some c1) (h1 : (Str.mk #[c1] == Str.ofString "-") = false) (hl : LastIs x 62)
    (hz : Txt.slice x (some 1) (some (-1)) = z) (hzl : z.length = l) (hl2 : Nat.ble l 1000 = true) (hzc : z.cps[1]? = some d1) (hz1 : (Str.mk #[d1] == Str.ofString "-") = false) (hcn : cnF z = none) : WordOk x (.inr z) := by
  have hb : Nat.blt k (2 ^ 62) = true := by rw [Nat.blt_eq]; exact Nat.lt_of_le_of_lt (Nat.le_of_ble_eq_true hk) (by decide)
  have hb2 : Nat.blt l (2 ^ 62) = true := by rw [Nat.blt_eq]; exact Nat.lt_of_le_of_lt (Nat.le_of_ble_eq_true hl2) (by decide)
  have ha : AngIs x true := ang_y x k 60 62 hn h0 hb hc0 (by decide +kernel) hl (by decide +kernel)
  have hm : ModOk (Str.ofString "") x x (.inr z) := fun w mean mg mb news t u v => by
    have := c_mod_ang (w := w) (mean := mean) (mg := mg) (mb := mb) x x ha (slN x (by rw [hn]; exact hk)) (by rw [hz]; exact nm_ok z l d1 hzl hb2 (slN z (by rw [hzl]; exact hl2)) hzc hz1 hcn) t u v news
    rwa [hz] at this
  exact wordOk_x x 60 _ (by omega) (by rw [hn]; exact Nat.le_of_ble_eq_true hk) hc0 noF60 fun w mean mg mb news t => c_wk_ang x _ hc (la_n x k c1 hn h0 hb hc1 h1) ha hm t news
theorem d_ang : AngIs (Str.mk #[68, 69, 76]) false := ang_n _ 3 68 rfl (by decide) rfl rfl (by decide +kernel)
theorem s_ang : AngIs (Str.mk #[83, 80, 67]) false := ang_n _ 3 83 rfl (by decide) rfl rfl (by decide +kernel)
theorem cn_D : cnF (Str.mk #[68, 69, 76]) = some 127 := by with_unfolding_all rfl
theorem cn_S : cnF (Str.mk #[83, 80, 67]) = some 32 := by with_unfolding_all rfl
theorem wordOk_TAB : WordOk (Str.mk #[84, 65, 66]) (.inl 9) := wordOk_n _ 84 65 9 rfl rfl rfl (noF _ (by decide +kernel)) (by decide +kernel) (by decide +kernel) (by with_unfolding_all rfl)
theorem wordOk_RET : WordOk (Str.mk #[82, 69, 84]) (.inl 13) := wordOk_n _ 82 69 13 rfl rfl rfl (noF _ (by decide +kernel)) (by decide +kernel) (by decide +kernel) (by with_unfolding_all rfl)
theorem wordOk_DEL : WordOk (Str.mk #[68, 69, 76]) (.inl 127) := wordOk_n _ 68 69 127 rfl rfl rfl (noF _ (by decide +kernel)) (by decide +kernel) (by decide +kernel) (by with_unfolding_all rfl)
theorem wordOk_SPC : WordOk (Str.mk #[83, 80, 67]) (.inl 32) := wordOk_n _ 83 80 32 rfl rfl rfl (noF _ (by decide +kernel)) (by decide +kernel) (by decide +kernel) (by with_unfolding_all rfl)
theorem wordOk_C_S_DEL : WordOk (Str.mk #[67, 45, 83, 45, 68, 69, 76]) (.inl 100663423) :=
  wordOk_l _ _ _ _ 67 (by exact Nat.succ_pos _) (by exact Nat.le_of_ble_eq_true rfl) rfl noF67 (cmd_l _ 7 rfl (by decide) rfl (slN _ rfl) (by decide +kernel)) (fun w mean mg mb news t => c_la_C_S_DEL t news) ne_CS (md_n _ _ _ _ _ cn_D mk_CS d_ang)
theorem wordOk_M_DEL : WordOk (Str.mk #[77, 45, 68, 69, 76]) (.inl (127 + 134217728)) :=
  wordOk_l _ _ _ _ 77 (by exact Nat.succ_pos _) (by exact Nat.le_of_ble_eq_true rfl) rfl noF77 (cmd_l _ 5 rfl (by decide) rfl (slN _ rfl) (by decide +kernel)) (la_t 77 68 69 76 _ e_M in_M (by decide +kernel)) ne_M (md_n _ _ _ _ _ cn_D (mk_M 127 (by decide)) d_ang)
theorem wordOk_M_SPC : WordOk (Str.mk #[77, 45, 83, 80, 67]) (.inl (32 + 134217728)) :=
  wordOk_l _ _ _ _ 77 (by exact Nat.succ_pos _) (by exact Nat.le_of_ble_eq_true rfl) rfl noF77 (cmd_l _ 5 rfl (by decide) rfl (slN _ rfl) (by decide +kernel)) (la_t 77 83 80 67 _ e_M in_M (by decide +kernel)) ne_M (md_n _ _ _ _ _ cn_S (mk_M 32 (by decide)) s_ang)
theorem wordOk_C_SPC : WordOk (Str.mk #[67, 45, 83, 80, 67]) (.inl (ctl 32)) :=
  wordOk_l _ _ _ _ 67 (by exact Nat.succ_pos _) (by exact Nat.le_of_ble_eq_true rfl) rfl noF67 (cmd_l _ 5 rfl (by decide) rfl (slN _ rfl) (by decide +kernel)) (la_t 67 83 80 67 _ e_C in_C (by decide +kernel)) ne_C (md_n _ _ _ _ _ cn_S (mk_C 32 (by decide)) s_ang)
theorem wordOk_right : WordOk (Str.mk #[60, 114, 105, 103, 104, 116, 62]) (.inr (Str.mk #[114, 105, 103, 104, 116])) := wordOk_a _ _ 7 114 105 5 (cmd_l _ 7 rfl (by decide) rfl (slN _ rfl) (by decide +kernel)) rfl (by decide) rfl rfl rfl (by decide +kernel) rfl (by with_unfolding_all rfl) rfl rfl rfl (by decide +kernel) (by with_unfolding_all rfl)
theorem wordOk_left : WordOk (Str.mk #[60, 108, 101, 102, 116, 62]) (.inr (Str.mk #[108, 101, 102, 116])) := wordOk_a _ _ 6 108 101 4 (cmd_l _ 6 rfl (by decide) rfl (slN _ rfl) (by decide +kernel)) rfl (by decide) rfl rfl rfl (by decide +kernel) rfl (by with_unfolding_all rfl) rfl rfl rfl (by decide +kernel) (by with_unfolding_all rfl)
theorem wordOk_up : WordOk (Str.mk #[60, 117, 112, 62]) (.inr (Str.mk #[117, 112])) := wordOk_a _ _ 4 117 112 2 (cmd_s _ 4 rfl (by decide) rfl) rfl (by decide) rfl rfl rfl (by decide +kernel) rfl (by with_unfolding_all rfl) rfl rfl rfl (by decide +kernel) (by with_unfolding_all rfl)
theorem wordOk_down : WordOk (Str.mk #[60, 100, 111, 119, 110, 62]) (.inr (Str.mk #[100, 111, 119, 110])) := wordOk_a _ _ 6 100 111 4 (cmd_l _ 6 rfl (by decide) rfl (slN _ rfl) (by decide +kernel)) rfl (by decide) rfl rfl rfl (by decide +kernel) rfl (by with_unfolding_all rfl) rfl rfl rfl (by decide +kernel) (by with_unfolding_all rfl)
theorem wordOk_home : WordOk (Str.mk #[60, 104, 111, 109, 101, 62]) (.inr (Str.mk #[104, 111, 109, 101])) := wordOk_a _ _ 6 104 111 4 (cmd_l _ 6 rfl (by decide) rfl (slN _ rfl) (by decide +kernel)) rfl (by decide) rfl rfl rfl (by decide +kernel) rfl (by with_unfolding_all rfl) rfl rfl rfl (by decide +kernel) (by with_unfolding_all rfl)
theorem wordOk_end : WordOk (Str.mk #[60, 101, 110, 100, 62]) (.inr (Str.mk #[101, 110, 100])) := wordOk_a _ _ 5 101 110 3 (cmd_l _ 5 rfl (by decide) rfl (slN _ rfl) (by decide +kernel)) rfl (by decide) rfl rfl rfl (by decide +kernel) rfl (by with_unfolding_all rfl) rfl rfl rfl (by decide +kernel) (by with_unfolding_all rfl)
theorem ite_some {α : Type} {c : Prop} [Decidable c] {a e : α} {b : Option α} {P : Prop} (h : (if c then some a else b) = some e) (h1 : c → a = e → P) (h2 : b = some e → P) : P := by
  by_cases hc : c
  · rw [if_pos hc] at h; exact h1 hc (Option.some.inj h)
  · rw [if_neg hc] at h; exact h2 h
def evM : List Nat → Option Ev
  | [c] => some (.inl (c : Int))
  | [a, b, c] => if a = 67 ∧ b = 45 ∧ c < 128 then some (.inl (ctl c)) else if a = 77 ∧ b = 45 ∧ c < 128 then some (.inl ((c : Int) + 134217728)) else none
  | [a, b, p, q, c] => if (a = 67 ∧ b = 45 ∧ p = 77 ∧ q = 45) ∧ c < 128 ∧ 0 ≤ ctl c ∧ ctl c < 128 then some (.inl (ctl c + 134217728)) else none
  | _ => none
def evL (l : List Nat) : Option Ev :=
  if l = [84, 65, 66] then some (.inl 9) else
  if l = [82, 69, 84] then some (.inl 13) else
  if l = [68, 69, 76] then some (.inl 127) else
  if l = [83, 80, 67] then some (.inl 32) else
  if l = [67, 45, 83, 45, 68, 69, 76] then some (.inl 100663423) else
  if l = [77, 45, 68, 69, 76] then some (.inl (127 + 134217728)) else
  if l = [77, 45, 83, 80, 67] then some (.inl (32 + 134217728)) else
  if l = [67, 45, 83, 80, 67] then some (.inl (ctl 32)) else
  if l = [60, 114, 105, 103, 104, 116, 62] then some (.inr (Str.mk #[114, 105, 103, 104, 116])) else
  if l = [60, 108, 101, 102, 116, 62] then some (.inr (Str.mk #[108, 101, 102, 116])) else
  if l = [60, 117, 112, 62] then some (.inr (Str.mk #[117, 112])) else
  if l = [60, 100, 111, 119, 110, 62] then some (.inr (Str.mk #[100, 111, 119, 110])) else
  if l = [60, 104, 111, 109, 101, 62] then some (.inr (Str.mk #[104, 111, 109, 101])) else
  if l = [60, 101, 110, 100, 62] then some (.inr (Str.mk #[101, 110, 100])) else
  evM l
noncomputable def evOf (x : Str) : Option Ev := evL x.cps.toList
theorem wordOk_m {l : List Nat} {e : Ev} (h : evM l = some e) : WordOk (Str.mk (List.toArray l)) e := by
  match l, h with
  | [c], h => cases h; exact wordOk_1 _
  | [a, b, c], h =>
    refine ite_some h (fun hc e1 => ?_) fun h => ite_some h (fun hc e1 => ?_) fun h => nomatch h
    · obtain ⟨h1, h2, h3⟩ := hc; subst h1; subst h2; subst e1; exact wordOk_C _ h3
    · obtain ⟨h1, h2, h3⟩ := hc; subst h1; subst h2; subst e1; exact wordOk_M _ h3
  | [a, b, p, q, c], h =>
    refine ite_some h (fun hc e1 => ?_) fun h => nomatch h
    obtain ⟨⟨h1, h2, h3, h4⟩, h5, h6⟩ := hc
    subst h1; subst h2; subst h3; subst h4; subst e1
    exact wordOk_CM _ h5 h6
theorem wordOk_of {x : Str} {e : Ev} (h : evOf x = some e) : WordOk x e := by
  obtain ⟨⟨l⟩⟩ := x
  change evL l = some e at h
  show WordOk (Str.mk (List.toArray l)) e
  unfold evL at h
  refine ite_some h (fun hc e1 => by subst hc; subst e1; exact wordOk_TAB) fun h => ?_
  refine ite_some h (fun hc e1 => by subst hc; subst e1; exact wordOk_RET) fun h => ?_
  refine ite_some h (fun hc e1 => by subst hc; subst e1; exact wordOk_DEL) fun h => ?_
  refine ite_some h (fun hc e1 => by subst hc; subst e1; exact wordOk_SPC) fun h => ?_
  refine ite_some h (fun hc e1 => by subst hc; subst e1; exact wordOk_C_S_DEL) fun h => ?_
  refine ite_some h (fun hc e1 => by subst hc; subst e1; exact wordOk_M_DEL) fun h => ?_
  refine ite_some h (fun hc e1 => by subst hc; subst e1; exact wordOk_M_SPC) fun h => ?_
  refine ite_some h (fun hc e1 => by subst hc; subst e1; exact wordOk_C_SPC) fun h => ?_
  refine ite_some h (fun hc e1 => by subst hc; subst e1; exact wordOk_right) fun h => ?_
  refine ite_some h (fun hc e1 => by subst hc; subst e1; exact wordOk_left) fun h => ?_
  refine ite_some h (fun hc e1 => by subst hc; subst e1; exact wordOk_up) fun h => ?_
  refine ite_some h (fun hc e1 => by subst hc; subst e1; exact wordOk_down) fun h => ?_
  refine ite_some h (fun hc e1 => by subst hc; subst e1; exact wordOk_home) fun h => ?_
  refine ite_some h (fun hc e1 => by subst hc; subst e1; exact wordOk_end) fun h => ?_
  exact wordOk_m h

end
section
noncomputable def wordsOf (x : Str) : List Str := bwF (x ++ Str.ofString " ").cps.toList [] (Str.ofString "")
def noCmt (y : Str) : Bool := !([Str.ofString "\x3b\x3b", Str.ofString "REM"].any fun z => z == y)
noncomputable def evsL : List Str → List (Str × Ev)
  | [] => []
  | w :: r => match evOf w with
    | some e => (w, e) :: evsL r
    | none => evsL r
noncomputable def evs (x : Str) : List (Str × Ev) := evsL (wordsOf x)
noncomputable def evl (x : Str) : List Ev := (evs x).map (·.2)
noncomputable def pth (x : Str) : List Ev := spF (evl x)
noncomputable def ckText (x : Str) : Bool := decide (x.length ≤ 1000) && decide (Txt.split x (Str.ofString "\n") = [x]) && (wordsOf x).all noCmt && decide ((wordsOf x).length ≤ 40) && (wordsOf x).all (fun w => (evOf w).isSome)
/-- what kbd asks of a text -/
structure TextOk (x : Str) : Prop where
  hz : x.length ≤ 1000
  hsp : Txt.split x (Str.ofString "\n") = [x]
  hno : ∀ y ∈ bwF (x ++ Str.ofString " ").cps.toList [] (Str.ofString ""), ([Str.ofString "\x3b\x3b", Str.ofString "REM"].any fun z => z == y) = false
  hl : (bwF (x ++ Str.ofString " ").cps.toList [] (Str.ofString "")).length ≤ 40
  hw : bwF (x ++ Str.ofString " ").cps.toList [] (Str.ofString "") = (evs x).map (·.1)
  hok : ∀ y ∈ evs x, WordOk y.1 y.2
theorem evsL_fst : ∀ l : List Str, l.all (fun w => (evOf w).isSome) = true → l = (evsL l).map (·.1)
  | [], _ => rfl
  | w :: r, h => by
    rw [List.all_cons, Bool.and_eq_true] at h
    unfold evsL
    cases he : evOf w with
    | none => rw [he] at h; exact absurd h.1 (by decide)
    | some e => simp only [List.map_cons]; rw [← evsL_fst r h.2]
theorem evsL_ok : ∀ (l : List Str), ∀ y ∈ evsL l, WordOk y.1 y.2
  | [], _, h => nomatch h
  | w :: r, y, h => by
    unfold evsL at h
    cases he : evOf w with
    | none => rw [he] at h; exact evsL_ok r y h
    | some e =>
      rw [he] at h
      rcases List.mem_cons.mp h with h | h
      · rw [h]; exact wordOk_of he
      · exact evsL_ok r y h
theorem textOk_of {x : Str} (h : ckText x = true) : TextOk x := by
  unfold ckText at h
  simp only [Bool.and_eq_true, decide_eq_true_eq] at h
  obtain ⟨⟨⟨⟨h1, h2⟩, h3⟩, h4⟩, h5⟩ := h
  exact ⟨h1, h2, fun y hy => by have := List.all_eq_true.mp h3 y hy; unfold noCmt at this; simpa using this, h4, evsL_fst _ h5, evsL_ok _⟩
noncomputable def ckRow (y : Str × Str) : Bool :=
  ckText y.1 && decide (1 ≤ (wds y.1).length) && decide ((wds y.1).length ≤ 3) && decide (((wds y.1).map (·.length)).sum ≤ 1000) && decide (wds y.1 = wordsOf y.1) && decide (y.2 ≠ Str.ofString "") &&
  ckText (y.1 ++ Str.ofString " a") && decide (evl (y.1 ++ Str.ofString " a") = evl y.1 ++ [.inl 97]) && decide ((pth y.1).length = (wds y.1).length + metas y.1) &&
  (List.range ((wds y.1).length - 1)).all (fun i => ckText (Txt.join (Str.ofString " ") ((wds y.1).take (i + 1))) && decide (evl (Txt.join (Str.ofString " ") ((wds y.1).take (i + 1))) = (evl y.1).take (i + 1))) && decide ((evl y.1).length = (wds y.1).length)
theorem ckRows : TBL.all ckRow = true := by decide +kernel
noncomputable def pths : List (List Ev) := TBL.map fun y => pth y.1
/-- a is the beginning of b -/
noncomputable def begB : List Ev → List Ev → Bool
  | [], _ => true
  | _ :: _, [] => false
  | a :: r, b :: q => if a = b then begB r q else false
noncomputable def ckPair : List (List Ev) → Bool
  | [] => true
  | a :: r => r.all (fun b => !begB a b && !begB b a) && ckPair r
theorem ckPths : ckPair pths = true := by decide +kernel
noncomputable def ckNew : List Str → Bool
  | [] => true
  | a :: r => r.all (fun b => !decide (a = b)) && ckNew r
theorem ckTexts : ckNew (TBL.map (·.1)) = true := by decide +kernel
theorem ckBegs : TBL.all (fun y => (begs y.1).all fun b => TBL.all fun z => !decide (z.1 = b)) = true := by decide +kernel
/-- what holds of a row -/
structure RowOk (y : Str × Str) : Prop where
  ok : TextOk y.1
  h1 : 1 ≤ (wds y.1).length
  h3 : (wds y.1).length ≤ 3
  hs : ((wds y.1).map (·.length)).sum ≤ 1000
  hc : (y.2 == Str.ofString "") = false
  oka : TextOk (y.1 ++ Str.ofString " a")
  eva : evl (y.1 ++ Str.ofString " a") = evl y.1 ++ [.inl 97]
  hp : (pth y.1).length = (wds y.1).length + metas y.1
  bg : ∀ i, i < (wds y.1).length - 1 → TextOk (Txt.join (Str.ofString " ") ((wds y.1).take (i + 1))) ∧ evl (Txt.join (Str.ofString " ") ((wds y.1).take (i + 1))) = (evl y.1).take (i + 1)
  he : (evl y.1).length = (wds y.1).length
theorem rowOk {y : Str × Str} (hy : y ∈ TBL) : RowOk y := by
  have h := List.all_eq_true.mp ckRows y hy
  unfold ckRow at h
  simp only [Bool.and_eq_true, decide_eq_true_eq] at h
  obtain ⟨⟨⟨⟨⟨⟨⟨⟨⟨⟨h1, h2⟩, h3⟩, h4⟩, h5⟩, h6⟩, h7⟩, h8⟩, h9⟩, h10⟩, h11⟩ := h
  refine ⟨textOk_of h1, h2, h3, h4, ?_, textOk_of h7, h8, h9, fun i hi => ?_, h11⟩
  · cases hq : (y.2 == Str.ofString "") with
    | false => rfl
    | true => exact absurd (eq_of_beq hq) h6
  · have := List.all_eq_true.mp h10 i (List.mem_range.mpr hi)
    simp only [Bool.and_eq_true, decide_eq_true_eq] at this
    exact ⟨textOk_of this.1, this.2⟩
theorem ckNew_mid : ∀ {a : List Str} {x : Str} {b : List Str}, ckNew (a ++ x :: b) = true → x ∉ a
  | [], _, _, _ => by simp
  | y :: r, x, b, h => by
    rw [List.cons_append] at h
    unfold ckNew at h
    rw [Bool.and_eq_true] at h
    have h1 := List.all_eq_true.mp h.1 x (by simp)
    simp only [Bool.not_eq_true', decide_eq_false_iff_not] at h1
    intro hx
    rcases List.mem_cons.mp hx with e | e
    · exact h1 e.symm
    · exact ckNew_mid h.2 e
theorem text_new {a r : List (Str × Str)} {y : Str × Str} (h : a ++ y :: r = TBL) : y.1 ∉ a.map (·.1) := by
  have := ckTexts
  rw [← h, List.map_append, List.map_cons] at this
  exact ckNew_mid this
theorem begs_off {y z : Str × Str} (hy : y ∈ TBL) (hz : z ∈ TBL) : z.1 ∉ begs y.1 := by
  intro h
  have h1 := List.all_eq_true.mp ckBegs y hy
  have h2 := List.all_eq_true.mp h1 _ h
  have h3 := List.all_eq_true.mp h2 z hz
  simp at h3
theorem begs_len (x : Str) (h3 : (wds x).length ≤ 3) : (begs x).length ≤ 2 := by
  unfold begs
  rw [List.length_map, List.length_range]; omega

end
section
theorem rl_is : recursionLimit = 1000 := by first | rfl | simp only [recursionLimit]
theorem lt_rl {a : Nat} (h : Nat.blt a 1000 = true) : a < recursionLimit := by rw [rl_is]; rw [Nat.blt_eq] at h; exact h
theorem lt_cl {a : Nat} (h : Nat.blt a 9900 = true) : a < cLine := by rw [cLine_is]; rw [Nat.blt_eq] at h; exact h
theorem tk20 {α : Type} (l : List α) : (List.take 20 l).length + 1 ≤ 30 := by have := List.length_take_le 20 l; omega
theorem bs30 {α β γ : Type} {bs : List α} {ys : List β} {w : List γ} (h : bs.length ≤ ys.toArray.size) (e : ys.length = (List.take 20 w).length) : bs.length ≤ 30 := by
  rw [List.size_toArray, e] at h; have := List.length_take_le 20 w; omega
theorem off_le {I J : Addr} {l : Led} (h : ∀ p ∈ l, p.1 < J) (hj : J ≤ I) : ∀ p ∈ l, p.1 ≠ I := fun p hp => Nat.ne_of_lt (Nat.lt_of_lt_of_le (h p hp) hj)
local macro_rules | `(tactic| k_all) => `(tactic| first | exact off_lt (by assumption) | exact off_le (by assumption) (Nat.le_succ _) | exact off_all (by assumption))
theorem strsAre_take : ∀ {a : List Value} {f : List Str}, StrsAre a f → ∀ k, StrsAre (a.take k) (f.take k)
  | _, _, _, 0 => .nil
  | _, _, .nil, _ + 1 => .nil
  | _, _, .cons y t h, k + 1 => .cons y t (strsAre_take h k)
theorem sum_take : ∀ (l : List Nat) k, (l.take k).sum ≤ l.sum
  | [], k => by simp
  | a :: r, 0 => by simp
  | a :: r, k + 1 => by
    have := sum_take r k
    simp only [List.take_succ_cons, List.sum_cons]; omega
theorem pick_upto (vs : List Value) (i : Nat) : kms_pick vs none (some (1 + (i : Int))) = vs.take (i + 1) := by
  unfold kms_pick kms_lo kms_hi
  simp only [List.drop_zero, Nat.sub_zero]
  rw [if_neg (by omega), show (1 + (i : Int)).toNat = i + 1 by omega]
  exact kmk_take_min _ _
local macro_rules | `(tactic| walk_at "zz") => `(tactic| fail)
theorem c_begs (x : Str) (t : Tok) (hz : x.length ≤ 1000) (h1 : 1 ≤ (wds x).length) (h3 : (wds x).length ≤ 3) (h4 : ((wds x).map (·.length)).sum ≤ 1000) (news : Led) : Ct w mean mg mb 451 4 200 news [.str x t] (fun r n => ∃ l its k, r = .ref l ∧ n = (l, W.listOf its k) :: news ∧ (∀ p ∈ news, p.1 ≠ l) ∧ StrsAre its.toList (begs x)) := by
  constructor
  k_fill
  intro dp un gd cn cs a ccd cl outer A₀ base h₀ L m s Q E B F X N T hk hd hu hret
  unfold begs wds at hret; unfold wds at h1 h3 h4
  refine wpAny_call ?_
  k_dflt k_enter
  repeat ((fail_if_success (with_reducible show wpAny _ _ (call (Value.builtin "str.split") _) _ _ _)); first | (k_unfold; (try dsimp only)) | walk1)
  k_dflt (refine KSpl.split1 (by k_asm) (by k_asm) (by decide) ?_ (by rw [sizeLine_eq]; omega))
  intro D1 l1 hh1 kk1 e1 a1 F2 N2 o1
  k_lt o1
  generalize Txt.split x (Str.ofString " ") = ws at *
  rw [e1] at a1
  clear e1
  generalize strValues l1 = vs at *
  have e2 := a1.len_eq
  repeat ((fail_if_success (with_reducible show wpAny _ _ (eval (PySem.Expr.ListComp _ _ _ _) _) _ _ _)); first | (k_unfold; (try dsimp only)) | walk1)
  k_dflt (refine LCg.ListComp_U (F₀ := by k_asm) (by with_unfolding_all rfl) (by decide) (by rfl) (by decide) (by rfl) ?_)
  repeat ((fail_if_success (with_reducible show wpAny _ _ (call (Value.builtin "len") _) _ _ _)); walk1)
  (with_reducible rename News _ _ _ _ => N5)
  refine PyProof.Rows.len_list (News.isList N5 (.head _)) (by rw [List.size_toArray]; omega) ?_
  repeat ((fail_if_success (show LCg.CompSrc _ _ _ _ _ _ _ _ _ _ _ _ _ _)); walk1)
  (with_reducible rename Fr _ _ _ _ => F6)
  (with_reducible rename News _ _ _ _ => N6)
  rename IsRange _ _ _ _ _ _ _ _ => R6
  rename Obj => o7
  refine LCg.CompSrc.range (n := ws.length - 1) (by rfl) F6 N6 R6 ?_ ?_ (by rw [sizeLine_eq]; omega) (fun g => compU_ind (P := fun i ys n => n = (D1, W.listOf vs.toArray 0) :: (_, _) :: news ∧ StrsAre ys ((List.range i).map fun j => Txt.join (Str.ofString " ") (ws.take (j + 1)))) ?_ ?_ _ _ _ _ (Nat.zero_add _) ⟨rfl, .nil⟩)
  · rw [List.size_toArray]; exact small_one (by omega) (by omega) (by omega) (by omega)
  · rw [List.size_toArray, rangeSize_one]; split <;> omega
  · intro i ys n8 v I oI C oC D m8 h8 tk8 E8 hi8 hp8 hv8 hC8 hx8 F8 N8 off8 ne8
    obtain ⟨e8, hys⟩ := hp8
    subst e8
    obtain ⟨t8, e8⟩ := hv8
    subst e8
    repeat ((fail_if_success (with_reducible show wpAny _ _ (subscriptTail _ _ _ _) _ _ _)); walk1)
    k_here
    have hsum := sum_take (ws.map (·.length)) (i + 1)
    rw [← List.map_take] at hsum
    have hlt := List.length_take_le (i + 1) ws
    k_dflt (refine' kms_slice_lit ?zF N8 (News.isList N8 (.tail _ (.tail _ (.tail _ (.head _))))) ?zp ?zq (pick_upto vs i) ?_ ?zs ?zt ?zz; (case zF => k_asm); (case zp => kmk_part); (case zq => kmk_part); (case zs => with_unfolding_all rfl); (case zt => kmk_pure); (case zz => (rw [List.size_toArray, sizeLine_eq]; omega)))
    intro D9 h9 F9 N9 o9
    repeat ((fail_if_success (with_reducible show wpAny _ _ (call (Value.builtin "str.join") _) _ _ _)); walk1)
    refine join_listW (News.isList N9 (.head _)) (strsAre_take a1 (i + 1)) (by decide) (by omega) ?_
    intro t9 k9
    k_steps
    refine LCg.CompEnd.intro (by assumption) N9 _ (fun p hp => .tail _ hp) off8 True.intro ⟨rfl, ?_⟩
    rw [List.range_succ, List.map_append]
    exact strsAre_app hys (.cons _ _ .nil)
  · intro ys n8 hp8
    obtain ⟨e8, hys⟩ := hp8
    subst e8
    k_steps
    rename D1 ≠ _ ∧ _ ≠ _ ∧ LCg.Off1 _ news => of8
    exact hret _ _ _ _ (by k_asm) (ndr23 (by assumption)) ⟨_, ys.toArray, _, rfl, rfl, off1_ne of8.2.2, hys⟩
theorem c_metas (x : Str) (t : Tok) (hz : x.length ≤ 1000) (h1 : 1 ≤ (wds x).length) (h3 : (wds x).length ≤ 3) (news : Led) : Ct w mean mg mb 456 4 200 news [.str x t] (fun r n => n = news ∧ ∃ t', r = .int (metas x : Int) t') := by
  constructor
  k_fill
  intro dp un gd cn cs a ccd cl outer A₀ base h₀ L m s Q E B F X N T hk hd hu hret
  unfold metas wds at hret; unfold wds at h1 h3
  refine wpAny_call ?_
  k_dflt k_enter
  repeat ((fail_if_success (with_reducible show wpAny _ _ (eval (PySem.Expr.ListComp _ _ _ _) _) _ _ _)); first | (k_unfold; (try dsimp only)) | walk1)
  k_dflt (refine LCt.ListComp_T (F₀ := by k_asm) (by with_unfolding_all rfl) (by decide) (by rfl) (by decide) (by rfl) ?_)
  repeat ((fail_if_success (with_reducible show wpAny _ _ (call (Value.builtin "str.split") _) _ _ _)); first | (k_unfold; (try dsimp only)) | walk1)
  k_dflt (refine KSpl.split1 (by k_asm) (by k_asm) (by decide) ?_ (by rw [sizeLine_eq]; omega))
  intro D1 l1 hh1 kk1 e1 a1 F2 N2 o1
  generalize Txt.split x (Str.ofString " ") = ws at *
  rw [e1] at a1
  clear e1
  generalize strValues l1 = vs at *
  have e2 := a1.len_eq
  refine LCt.CompSrcT.ledger (by rfl) F2 N2 (.head _) (by rw [sizeLine_eq, List.size_toArray]; omega) (fun g => compT_ind (P := fun i ys n => n = (D1, W.listOf vs.toArray 0) :: news ∧ ys.length = ((ws.take i).filter isMetaW).length) ?_ ?_ _ _ _ _ (Nat.zero_add _) ⟨rfl, rfl⟩)
  · intro i ys n8 v I oI C oC D m8 h8 tk8 E8 hi8 hp8 hv8 hC8 hx8 F8 N8 off8 ne8
    obtain ⟨e8, hys⟩ := hp8
    subst e8
    obtain ⟨y8, t8, e8, hy8⟩ := a1.item i v (by simpa using hv8)
    subst e8
    have hcount : ((ws.take (i + 1)).filter isMetaW).length = ys.length + (if isMetaW y8 then 1 else 0) := by
      rw [List.take_add_one, hy8, List.filter_append, List.length_append, hys]
      cases hm : isMetaW y8 <;> simp [hm]
    k_steps
    · rw [hcount, List.length_append, if_pos (by unfold isMetaW; simp [*])]; rfl
    · rw [hcount, List.length_append, if_pos (by unfold isMetaW; simp [*])]; rfl
    · rw [hcount, if_neg (by unfold isMetaW; simp [*])]; rfl
  · intro ys n8 hp8
    obtain ⟨e8, hys⟩ := hp8
    subst e8
    rw [List.size_toArray, e2, List.take_length] at hys
    k_steps
    (with_reducible rename News _ _ _ _ => N9)
    have hfl := List.length_filter_le isMetaW ws
    refine PyProof.Rows.len_list (News.isList N9 (.head _)) (by rw [List.size_toArray]; omega) ?_
    k_steps
    (with_reducible rename News h₀ _ _ _ => N7)
    exact hret _ _ _ _ (by k_asm) (ndrop (ndrop N7)) ⟨rfl, _, congrArg (fun z => Value.int z _) (by rw [List.size_toArray, hys])⟩

end
section
def Hid9 (p : Prop) : Prop := p
theorem Hid9.out {p : Prop} (h : Hid9 p) : p := h
theorem ints_at : ∀ {vs : List Value} {ns : List Int} {i : Nat}, IntsAre vs ns → i < ns.length → ∃ (x : Int) (t : Tok), vs[i]? = some (.int x t)
  | _, _, _, .nil, h => absurd h (Nat.not_lt_zero _)
  | _, _, 0, .cons _ _ _, _ => ⟨_, _, rfl⟩
  | _, _, i + 1, .cons _ _ r, h => by
    have := ints_at r (i := i) (Nat.lt_of_succ_lt_succ h)
    simpa using this
section
variable {prog : Program} {w : World} {A : Around} {E : Value → Shared → Prop} {s : Shared}
theorem sub_lst {l : Addr} {items : Array Value} {k : Int} {u : Tok} {x : Value} {value slice : PySem.Expr} {Q : Value → Shared → Prop} (hl : s.heap.IsList l items) (h0 : 0 ≤ k) (hhi : k < 2 ^ 63) (hx : items[k.toNat]? = some x) (h : Q x s)
    (hs : subscripted slice false (.ref l) (.int k u) = operate [.ref l, .int k u] (getItem (.ref l) (.int k u)) := by with_unfolding_all rfl) : wpAny (model prog w) A (subscriptTail value slice (.ref l) (.int k u)) Q E s :=
  tail_any hl.typeIs slot_list_getitem.lookup (wpAny_getItem_list hl h0 hhi hx h) hs
end
theorem md_small {x m : Int} (hm : 0 < m) : 0 ≤ Int.fmod x m ∧ Int.fmod x m < m := ⟨Int.fmod_nonneg_of_pos _ hm, Int.fmod_lt_of_pos _ hm⟩
theorem c_draw_N (news : Led) (d b c : Addr) (n kd kb kc : Nat) (t u : Tok) (zs : List Value) (cs : List Int) (many : Int) (hc : IntsAre zs cs) (h0 : 1 ≤ cs.length) (hcl : cs.length ≤ 30) (hn : n ≤ 50) (hmany : 1 ≤ many ∧ many ≤ 200) (hdb : b ≠ d) (hdc : c ≠ d) (hd0 : ∀ p ∈ news, p.1 ≠ d) :
    Ct w mean mg mb 446 4 200 ((d, W.listOf #[.ref b, .ref c, .int (n : Int) t] kd) :: (c, W.listOf zs.toArray kc) :: (b, W.listOf #[] kb) :: news) [.ref d, .int many u] (fun r n9 => ∃ (x : Int) (t2 : Tok) (kd2 : Nat), (∃ t3, r = .int x t3) ∧ 0 ≤ x ∧ x < many ∧ n9 = (d, W.listOf #[.ref b, .ref c, .int ((n : Int) + 1) t2] kd2) :: (c, W.listOf zs.toArray kc) :: (b, W.listOf #[] kb) :: news) := by
  constructor
  k_fill
  intro dp un gd cn cs' a ccd cl outer A₀ base h₀ L m s Q E B F X N T hk hd hu hret
  refine wpAny_call ?_
  k_dflt k_enter
  repeat ((fail_if_success (with_reducible show wpAny _ _ (setItem _ _ _) _ _ _)); first | (k_unfold; (try dsimp only)) | walk1)
  (with_reducible rename Fr _ _ _ _ => F7)
  (with_reducible rename News _ _ _ _ => N7)
  refine ki_set F7 (ndrop N7) (by decide) (by decide) rfl (.head (off_cons hdc (off_cons hdb hd0))) ?_
  intro h8 F8 N8
  k_whole; (try dsimp only)
  repeat ((fail_if_success (with_reducible show wpAny _ _ (subscriptTail _ (PySem.Expr.BinOp _ _ _ _) _ _) _ _ _)); walk1)
  have hL := IntsAre.length hc
  have hz1 : (1 : Int) ≤ (cs.length : Int) := by omega
  have hk0 : 0 ≤ Int.fmod ((n : Int) + 1) (cs.length : Int) := Int.fmod_nonneg_of_pos _ (by omega)
  have hk1 : Int.fmod ((n : Int) + 1) (cs.length : Int) < (cs.length : Int) := Int.fmod_lt_of_pos _ (by omega)
  (with_reducible rename News _ _ _ _ => N9)
  obtain ⟨x9, t9, hx9⟩ : ∃ (x9 : Int) (t9 : Tok), zs.toArray[(Int.fmod ((n : Int) + 1) (cs.length : Int)).toNat]? = some (.int x9 t9) := by
    have := ints_at hc (i := (Int.fmod ((n : Int) + 1) (cs.length : Int)).toNat) (by omega)
    simpa using this
  refine sub_lst (News.isList N9 (.tail _ (.head _))) hk0 (by omega) hx9 ?_
  k_whole; (try dsimp only)
  repeat ((fail_if_success (with_reducible show wpAny _ _ (binaryOp Operator.Mod _ _) _ _ _)); walk1)
  k_here
  refine mod_int' (by omega) ?_
  k_whole; (try dsimp only)
  have q1 := fun (x : Int) => md_small (x := x) (m := 4294966297) (by omega)
  replace q1 := q1 (x9 + 1640531527 * ((n : Int) + 1))
  generalize Int.fmod (x9 + 1640531527 * ((n : Int) + 1)) 4294966297 = m1 at q1 ⊢
  have zq1 : Hid9 _ := q1
  clear q1
  repeat ((fail_if_success (with_reducible show wpAny _ _ (binaryOp Operator.Mult _ _) _ _ _)); walk1)
  k_here
  have q1 := zq1.out
  refine mul_int ?_ (IntMulOk.of_left (PySem.intBits_le_64 (by omega) (by omega)))
  k_whole; (try dsimp only)
  clear q1
  repeat ((fail_if_success (with_reducible show wpAny _ _ (binaryOp Operator.Mod _ _) _ _ _)); walk1)
  k_here
  refine mod_int' (by omega) ?_
  k_whole; (try dsimp only)
  have q2 := md_small (x := m1 * m1 + 122949823 * ((n : Int) + 1)) (m := 4294966237) (by omega)
  generalize Int.fmod (m1 * m1 + 122949823 * ((n : Int) + 1)) 4294966237 = m2 at q2 ⊢
  have zq2 : Hid9 _ := q2
  clear q2
  repeat ((fail_if_success (with_reducible show wpAny _ _ (binaryOp Operator.Mult _ _) _ _ _)); walk1)
  k_here
  have q2 := zq2.out
  refine mul_int ?_ (IntMulOk.of_left (PySem.intBits_le_64 (by omega) (by omega)))
  k_whole; (try dsimp only)
  clear q2
  repeat ((fail_if_success (with_reducible show wpAny _ _ (binaryOp Operator.Mod _ _) _ _ _)); walk1)
  k_here
  refine mod_int' (by omega) ?_
  k_whole; (try dsimp only)
  have q3 := md_small (x := m2 * m2) (m := 4294966187) (by omega)
  generalize Int.fmod (m2 * m2) 4294966187 = m3 at q3 ⊢
  have zq3 : Hid9 _ := q3
  clear q3
  repeat ((fail_if_success (with_reducible show wpAny _ _ (binaryOp Operator.FloorDiv _ _) _ _ _)); walk1)
  k_here
  refine floordiv_int (by omega) ?_ (Or.inl (PyProof.noPylong_small (by omega)))
  k_whole; (try dsimp only)
  repeat ((fail_if_success (with_reducible show wpAny _ _ (binaryOp Operator.Mod _ _) _ _ _)); walk1)
  k_here
  refine mod_int' (by omega) ?_
  k_whole; (try dsimp only)
  have q4 := md_small (x := Int.fdiv m3 1024) (m := many) (by omega)
  generalize Int.fmod (Int.fdiv m3 1024) many = m4 at q4 ⊢
  have zq4 : Hid9 _ := q4
  clear q4
  repeat ((fail_if_success (with_reducible show Q _ _)); walk1)
  (with_reducible rename News h₀ _ _ _ => N7)
  exact hret _ _ _ _ (by k_asm) N7 ⟨m4, _, _, ⟨_, rfl⟩, zq4.out.1, zq4.out.2, rfl⟩
theorem c_draw_S (news : Led) (d b c : Addr) (kd kb kc : Nat) (v n : Int) (tv t u : Tok) (zs vs : List Value) (bs : List Int) (many : Int) (hb : IntsAre vs bs) (hbl : bs.length ≤ 30) (hmany : 1 ≤ many ∧ many ≤ 200) (hdb : b ≠ d) (hdc : c ≠ d) (hbc : b ≠ c) (hd0 : ∀ p ∈ news, p.1 ≠ d) (hb0 : ∀ p ∈ news, p.1 ≠ b) :
    Ct w mean mg mb 446 4 200 ((d, W.listOf #[.ref b, .ref c, .int n t] kd) :: (c, W.listOf zs.toArray kc) :: (b, W.listOf (List.toArray (.int v tv :: vs)) kb) :: news) [.ref d, .int many u] (fun r n9 => ∃ (x : Int) (vs2 : List Value) (bs2 : List Int) (kd2 kb2 : Nat), (∃ t3, r = .int x t3) ∧ 0 ≤ x ∧ x < many ∧ n9 = (d, W.listOf #[.ref b, .ref c, .int n t] kd2) :: (c, W.listOf zs.toArray kc) :: (b, W.listOf vs2.toArray kb2) :: news ∧ IntsAre vs2 bs2 ∧ bs2.length ≤ bs.length + 1) := by
  constructor
  k_fill
  intro dp un gd cn cs' a ccd cl outer A₀ base h₀ L m s Q E B F X N T hk hd hu hret
  refine wpAny_call ?_
  k_dflt k_enter
  have hbL := IntsAre.length hb
  repeat ((fail_if_success (with_reducible show wpAny _ _ (binaryOp Operator.FloorDiv _ _) _ _ _)); first | (k_unfold; (try dsimp only)) | walk1)
  k_here
  refine floordiv_int (by omega) ?_ (Or.inl (PyProof.noPylong_small (by omega)))
  k_whole; (try dsimp only)
  repeat ((fail_if_success (with_reducible show wpAny _ _ (setItem _ _ _) _ _ _)); walk1)
  (with_reducible rename Fr _ _ _ _ => F7)
  (with_reducible rename News _ _ _ _ => N7)
  refine ki_set F7 (ndrop N7) (by decide) (by decide) rfl (.tail (Ne.symm hdb) (.tail (Ne.symm hbc) (.head hb0))) ?_
  intro h8 F8 N8
  k_whole; (try dsimp only)
  repeat ((fail_if_success (with_reducible show wpAny _ _ (compareOp _ _ _) _ _ _)); walk1)
  walk1
  walk1
  by_cases hz : (Int.fdiv v many == 0) = true
  · refine ite_pos hz ?_
    repeat ((fail_if_success (with_reducible show wpAny _ _ (call (Value.builtin "list.pop") _) _ _ _)); walk1)
    (with_reducible rename Fr _ _ _ _ => F9)
    refine kl_popAt (k := 0) (p := []) (q := vs) F9 N8 rfl (by simp [seqIndex?, List.size_toArray]) rfl (.tail (Ne.symm hdb) (.tail (Ne.symm hbc) (.head hb0))) (by show (_ :: vs).length ≤ _; rw [sizeLine_eq, List.length_cons]; omega) ?_
    intro h7 F6 N6
    k_whole; (try dsimp only)
    repeat ((fail_if_success (with_reducible show wpAny _ _ (binaryOp Operator.Mod _ _) _ _ _)); walk1)
    k_here
    refine mod_int' (by omega) ?_
    have q4 := md_small (x := v) (m := many) (by omega)
    k_whole; (try dsimp only)
    repeat ((fail_if_success (with_reducible show Q _ _)); walk1)
    (with_reducible rename News h₀ _ _ _ => N5)
    exact hret _ _ _ _ (by k_asm) N5 ⟨_, _, _, _, _, ⟨_, rfl⟩, q4.1, q4.2, rfl, hb, Nat.le_succ _⟩
  · refine ite_neg hz ?_
    repeat ((fail_if_success (with_reducible show wpAny _ _ (binaryOp Operator.Mod _ _) _ _ _)); walk1)
    k_here
    refine mod_int' (by omega) ?_
    have q4 := md_small (x := v) (m := many) (by omega)
    k_whole; (try dsimp only)
    repeat ((fail_if_success (with_reducible show Q _ _)); walk1)
    (with_reducible rename News h₀ _ _ _ => N5)
    exact hret _ _ _ _ (by k_asm) N5 ⟨_, _, _, _, _, ⟨_, rfl⟩, q4.1, q4.2, rfl, .cons _ _ hb, Nat.le_refl _⟩
theorem c_draw (news : Led) (d b c : Addr) (kd kb kc n : Nat) (t u : Tok) (zs vs : List Value) (cs bs : List Int) (many : Int) (hc : IntsAre zs cs) (h0 : 1 ≤ cs.length) (hcl : cs.length ≤ 30) (hn : n ≤ 50) (hb : IntsAre vs bs) (hbl : bs.length ≤ 30) (hmany : 1 ≤ many ∧ many ≤ 200) (hdb : b ≠ d) (hdc : c ≠ d) (hbc : b ≠ c) (hd0 : ∀ p ∈ news, p.1 ≠ d) (hb0 : ∀ p ∈ news, p.1 ≠ b) :
    Ct w mean mg mb 446 4 200 ((d, W.listOf #[.ref b, .ref c, .int (n : Int) t] kd) :: (c, W.listOf zs.toArray kc) :: (b, W.listOf vs.toArray kb) :: news) [.ref d, .int many u]
      (fun r n9 => ∃ (x : Int) (n2 : Nat) (t2 : Tok) (vs2 : List Value) (bs2 : List Int) (kd2 kb2 : Nat), (∃ t3, r = .int x t3) ∧ 0 ≤ x ∧ x < many ∧ n2 ≤ n + 1 ∧ IntsAre vs2 bs2 ∧ bs2.length ≤ bs.length ∧ n9 = (d, W.listOf #[.ref b, .ref c, .int (n2 : Int) t2] kd2) :: (c, W.listOf zs.toArray kc) :: (b, W.listOf vs2.toArray kb2) :: news) := by
  cases hb with
  | nil =>
    have C := c_draw_N (w := w) (mean := mean) (mg := mg) (mb := mb) news d b c n kd kb kc t u zs cs many hc h0 hcl hn hmany hdb hdc hd0
    constructor
    intro dp un gd cn cs' a ccd cl outer A₀ base h₀ L m s Q E B F X N T hk hd hu hret
    refine C.go dp un gd cn cs' a ccd cl outer A₀ base h₀ L m s Q E B F X N T hk hd hu fun r n9 h' tk' F' N' o => hret r n9 h' tk' F' N' ?_
    obtain ⟨x, t2, kd2, hr, hx1, hx2, e⟩ := o
    exact ⟨x, n + 1, t2, [], [], kd2, kb, hr, hx1, hx2, Nat.le_refl _, .nil, Nat.le_refl _, e⟩
  | cons v tv hb' =>
    have C := c_draw_S (w := w) (mean := mean) (mg := mg) (mb := mb) news d b c kd kb kc v (n : Int) tv t u zs _ _ many hb' (by simp only [List.length_cons] at hbl; omega) hmany hdb hdc hbc hd0 hb0
    constructor
    intro dp un gd cn cs' a ccd cl outer A₀ base h₀ L m s Q E B F X N T hk hd hu hret
    refine C.go dp un gd cn cs' a ccd cl outer A₀ base h₀ L m s Q E B F X N T hk hd hu fun r n9 h' tk' F' N' o => hret r n9 h' tk' F' N' ?_
    obtain ⟨x, vs2, bs2, kd2, kb2, hr, hx1, hx2, e, hb2, hl2⟩ := o
    exact ⟨x, n, t, vs2, bs2, kd2, kb2, hr, hx1, hx2, Nat.le_succ _, hb2, hl2, e⟩

end
section
theorem deck_pack {h₀ h : Heap} {L : Addr} {n : Led} {d b c c1 c2 lp : Addr} {e f g : Addr × Obj} {t : Tok} {zs bs : List Value} {o1 o2 : Obj} {v1 v2 : Option Value} {itsP : Array Value} {kp : Nat} {rows : List (Str × Str)}
    (N : News h₀ L h n) (sub : ∀ p ∈ [(d, W.listOf #[.ref b, .ref c, .int 0 t] 0), (c, W.listOf zs.toArray 0), e, (b, LCg.lst bs), f, g, (c2, o2), (c1, o1)], p ∈ n)
    (hlp : (lp, W.listOf itsP kp) ∈ n) (hP : All2 (IsPair n) itsP.toList rows) (hz : itsP.size = 148) (hb : bs.length ≤ 30) (w1 : o1.data = .cell v1) (w2 : o2.data = .cell v2)
    (h1 : c < d ∧ e.1 < d ∧ b < d ∧ f.1 < d ∧ g.1 < d ∧ c2 < d ∧ c1 < d) (h2 : e.1 < c ∧ b < c ∧ f.1 < c ∧ g.1 < c ∧ c2 < c ∧ c1 < c) (h3 : f.1 ≠ b ∧ g.1 ≠ b ∧ c2 ≠ b ∧ c1 ≠ b) (h4 : c1 ≠ c2) :
    ∃ (d' b' c' c1' c2' : Addr) (R : Led), d' = d ∧ b' = b ∧ c' = c ∧ c1' = c1 ∧ c2' = c2 ∧ News h₀ L h ((c2', o2) :: (c1', o1) :: (d', W.listOf #[.ref b', .ref c', .int 0 t] 0) :: (b', LCg.lst bs) :: R) ∧
      (c', W.listOf zs.toArray 0) ∈ R ∧ (lp, W.listOf itsP kp) ∈ R ∧ All2 (IsPair R) itsP.toList rows ∧ (∀ p ∈ R, p.1 ≠ d' ∧ p.1 ≠ b' ∧ p.1 ≠ c1' ∧ p.1 ≠ c2') ∧ b' ≠ d' ∧ c' ≠ d' ∧ b' ≠ c' ∧ c1' ≠ c2' ∧ c1' ≠ d' ∧ c2' ≠ d' ∧ c1' ≠ b' ∧ c2' ≠ b' := by
  have hm : ∀ q ∈ [(c2, o2), (c1, o1), (d, W.listOf #[.ref b, .ref c, .int 0 t] 0), (b, LCg.lst bs)], q ∈ n := by
    intro q hq
    refine sub q ?_
    simp only [List.mem_cons, List.not_mem_nil, or_false] at hq ⊢
    rcases hq with h | h | h | h <;> simp [h]
  refine ⟨d, b, c, c1, c2, restOf [(c2, o2), (c1, o1), (d, W.listOf #[.ref b, .ref c, .int 0 t] 0), (b, LCg.lst bs)] n, rfl, rfl, rfl, rfl, rfl, restOf_news N hm, ?_, ?_, ?_, ?_, ?_⟩
  · refine List.mem_filter.mpr ⟨sub _ (.tail _ (.head _)), List.all_eq_true.mpr fun q hq => ?_⟩
    simp only [decide_eq_true_eq]
    simp only [List.mem_cons, List.not_mem_nil, or_false] at hq
    rcases hq with h | h | h | h <;> rw [h]
    · exact Nat.ne_of_gt h2.2.2.2.2.1
    · exact Nat.ne_of_gt h2.2.2.2.2.2
    · exact Nat.ne_of_lt h1.1
    · exact Nat.ne_of_gt h2.2.1
  · refine restOf_mem N hm hlp fun q hq => ?_
    simp only [List.mem_cons, List.not_mem_nil, or_false] at hq
    rcases hq with h | h | h | h <;> rw [h]
    · intro e; have := congrArg Obj.data e; dsimp only at this; rw [w2] at this; cases this
    · intro e; have := congrArg Obj.data e; dsimp only at this; rw [w1] at this; cases this
    · intro e
      have e2 : (#[.ref b, .ref c, .int 0 t] : Array Value) = itsP := by cases e; rfl
      rw [← e2] at hz; simp at hz
    · intro e
      have e2 : bs.toArray = itsP := by cases e; rfl
      rw [← e2, List.size_toArray] at hz; omega
  · refine hP.imp fun v y hv => ?_
    obtain ⟨a, t1, u1, ev, hp⟩ := hv
    refine ⟨a, t1, u1, ev, restOf_mem N hm hp fun q hq => ?_⟩
    simp only [List.mem_cons, List.not_mem_nil, or_false] at hq
    rcases hq with h | h | h | h <;> rw [h]
    · intro e; have := congrArg Obj.data e; dsimp only at this; rw [w2] at this; cases this
    · intro e; have := congrArg Obj.data e; dsimp only at this; rw [w1] at this; cases this
    · intro e; have := congrArg Obj.cls e; simp [W.listOf, PairO] at this
    · intro e; have := congrArg Obj.cls e; simp [PairO] at this
  · intro p hp
    exact ⟨restOf_ne hp (.tail _ (.tail _ (.head _))), restOf_ne hp (.tail _ (.tail _ (.tail _ (.head _)))), restOf_ne hp (.tail _ (.head _)), restOf_ne hp (.head _)⟩
  · exact ⟨Nat.ne_of_lt h1.2.2.1, Nat.ne_of_lt h1.1, Nat.ne_of_lt h2.2.1, h4, Nat.ne_of_lt h1.2.2.2.2.2.2, Nat.ne_of_lt h1.2.2.2.2.2.1, h3.2.2.2, h3.2.2.1⟩
theorem met_pack {h₀ h : Heap} {L : Addr} {x1 x2 dO bO : Addr × Obj} {dm db c1 c2 : Addr} {oM oB o1 o2 : Obj} {R : Led} (N : News h₀ L h (x1 :: (db, oB) :: (dm, oM) :: x2 :: (c2, o2) :: (c1, o1) :: dO :: bO :: R))
    (a5 : ∀ p ∈ x2 :: (c2, o2) :: (c1, o1) :: dO :: bO :: R, p.1 ≠ dm) (a11 : ∀ p ∈ (dm, oM) :: x2 :: (c2, o2) :: (c1, o1) :: dO :: bO :: R, p.1 ≠ db) :
    ∃ (dm' db' : Addr), dm' = dm ∧ db' = db ∧ News h₀ L h ((c1, o1) :: (dm', oM) :: (db', oB) :: (c2, o2) :: dO :: bO :: R) ∧ (∀ p ∈ (c2, o2) :: dO :: bO :: R, p.1 ≠ dm' ∧ p.1 ≠ db') ∧ dm' ≠ db' ∧ dm' ≠ c1 ∧ db' ≠ c1 := by
  refine ⟨dm, db, rfl, rfl, fun p hp => N p ?_, fun p hp => ⟨a5 p ?_, a11 p ?_⟩, ?_, ?_, ?_⟩
  · simp only [List.mem_cons] at hp ⊢
    rcases hp with h | h | h | h | h | h | h <;> simp [h]
  · simp only [List.mem_cons] at hp ⊢
    rcases hp with h | h | h | h <;> simp [h]
  · simp only [List.mem_cons] at hp ⊢
    rcases hp with h | h | h | h <;> simp [h]
  · exact a11 (dm, oM) (.head _)
  · exact Ne.symm (a5 (c1, o1) (.tail _ (.tail _ (.head _))))
  · exact Ne.symm (a11 (c1, o1) (.tail _ (.tail _ (.tail _ (.head _)))))
structure M1P (w : World) (d lp dm db : Addr) (K1 : Led) (r : List (Str × Str)) (m : Str → Option Value) (n : Led) (oM oB : Obj) (kM kB : List (Str × Value)) (done : List (Str × Str)) : Prop where
  hn : n = (dm, oM) :: (db, oB) :: K1
  hs : done ++ r = TBL
  dM : oM.IsDictOf (PySem.strKind PR w) kM
  dB : oB.IsDictOf (PySem.strKind PR w) kB
  vM : ∀ t, (valueAt kM t).isSome = true ↔ t ∈ done.map (·.1)
  vB : ∀ t, (valueAt kB t).isSome = true ↔ t ∈ done.flatMap (fun y => begs y.1)
  lM : kM.length ≤ done.length
  lB : kB.length ≤ 3 * done.length
  nM : m (Str.ofString "met") = some (.ref dm)
  nD : m (Str.ofString "deck") = some (.ref d)
  nP : m (Str.ofString "pairs") = some (.ref lp)
inductive M1E (w : World) (d lp dm db : Addr) (K1 : Led) (r : List (Str × Str)) (m : Str → Option Value) (n : Led) : Prop
  | mk (oM oB : Obj) (kM kB : List (Str × Value)) (done : List (Str × Str)) (h : M1P w d lp dm db K1 r m n oM oB kM kB done)
structure M2P (w : World) (d lp dm db : Addr) (pre K1 : Led) (D0 : List Str) (B0 : Nat) (all r : List Str) (m : Str → Option Value) (n : Led) (oB : Obj) (kB : List (Str × Value)) (f : List Str) : Prop where
  hn : n = pre ++ (db, oB) :: K1
  hb : f ++ r = all
  dB : oB.IsDictOf (PySem.strKind PR w) kB
  vB : ∀ t, (valueAt kB t).isSome = true ↔ t ∈ D0 ++ f
  lB : kB.length ≤ B0 + f.length
  nM : m (Str.ofString "met") = some (.ref dm)
  nD : m (Str.ofString "deck") = some (.ref d)
  nP : m (Str.ofString "pairs") = some (.ref lp)
inductive M2E (w : World) (d lp dm db : Addr) (pre K1 : Led) (D0 : List Str) (B0 : Nat) (all r : List Str) (m : Str → Option Value) (n : Led) : Prop
  | mk (oB : Obj) (kB : List (Str × Value)) (f : List Str) (h : M2P w d lp dm db pre K1 D0 B0 all r m n oB kB f)
theorem news_perm3 {h₀ h : Heap} {L : Addr} {a b c : Addr × Obj} {K : Led} (N : News h₀ L h (a :: b :: c :: K)) : News h₀ L h (b :: c :: a :: K) := fun p hp => N p (by simp only [List.mem_cons] at hp ⊢; rcases hp with h | h | h | h <;> simp [h])
theorem vS {kvs : List (Str × Value)} {k : Str} {v : Value} {D : List Str} (h : ∀ t, (valueAt kvs t).isSome = true ↔ t ∈ D) : ∀ t, (valueAt (stored kvs k v) t).isSome = true ↔ t ∈ D ++ [k] := fun t => by
  rw [valueAt_stored, List.mem_append, List.mem_singleton]
  by_cases e : t = k
  · simp [e]
  · rw [if_neg e, h t]; simp [e]

end
section
section
open PyProof.Rows.LCg PyProof.Rows.LCt
variable {prog : Program} {w : World} {A : Around} {E : Value → Shared → Prop} {s : Shared} {h₀ : Heap} {L : Addr} {m : Str → Option Value} {env : Env}
/-- a comprehension with a test over a dict's keys -/
theorem ListComp_KT {ct elt iter : PySem.Expr} {x : Str} {px : Pos} {scope : Scope} {cl : List (Str × Addr)} {pos : Pos} {Q : Value → Shared → Prop} (F₀ : Fr h₀ L s.heap m)
    (hclos : closureFor scope env = pure cl) (hcell : ∀ y ∈ scope.names, y.2 ≠ .cell) (hkind : scope.kind = .function)
    (hnames : ∀ y ∈ scope.names, y.2 = .local → scope.names.lookup y.1 = some .local) (hx : scope.names.lookup x = some .local)
    (h : wpAny (model prog w) A (eval iter env) (fun xv s₁ => ∃ d o kvs news, xv = .ref d ∧ A.handled = none ∧ Fr h₀ L s₁.heap m ∧ News h₀ L s₁.heap news ∧ (d, o) ∈ news ∧ o.IsDictOf (PySem.strKind prog w) kvs ∧ (d == sysModules) = false ∧ kvs.length ≤ sizeLine ∧
      ∀ s₂ : Shared, (∃ h, s₂ = { s₁ with heap := h }) → CompRestT prog w A h₀ L m env ct elt x scope cl s₂ (fun n => (d, o) ∈ n) (fun i v => ∃ k y, kvs[i]? = some (k, y) ∧ (PySem.strKind prog w).is k v = true) (FinE h₀ L m s₂ Q) kvs.length 0 [] news) E s)
    (hs : ∀ x, foldedSetIterable iter env x = pure x := by intro _; rfl) :
    wpAny (model prog w) A (eval (.ListComp elt [⟨.Name x px, iter, [ct], 0⟩] scope pos) env) Q E s := by
  rw [eval_ListComp]
  refine wpAny_comprehension_free (use := none) rfl hs hclos hkind hnames (wpAny_mono h (fun xv s₁ h₁ => ?_) fun _ _ e => e)
  obtain ⟨d, o, kvs, news, rfl, hh, F, N, hm, hd, lo, hsz, R⟩ := h₁
  have hdo := N _ hm
  obtain ⟨ep, hat⟩ : ∃ ep, ∀ h' : Heap, h'.get? d = some o → h'.DictAt (PySem.strKind prog w) d kvs ep := by
    obtain ⟨es, ep, z⟩ := hd
    exact ⟨ep, fun h' e => ⟨o, es, e, z⟩⟩
  have hlt : d < s₁.heap.objs.size := Heap.lt_size hdo.1
  refine wpAny_pyIter_dict lo (hat _ hdo.1) ?_
  have up : ∀ b o', s₁.heap.get? b = some o' → (s₁.heap.push { cls := .type "dict_keyiterator", data := .fields #[.ref d, .int 0 0, .int kvs.length 0, .int ep 0] }).get? b = some o' := fun b o' e => Heap.get?_push_of_some _ e
  refine block_T (S := fun n => (d, o) ∈ n) (Walks.dictKeys hh s₁.heap.objs.size d (Nat.ne_of_lt hlt) kvs ep) hsz (fun i h st => by obtain ⟨o, e, _⟩ := st.1; exact ⟨o, e⟩) ?_ hcell hkind hx ⟨⟨_, Heap.get?_push_size _ rfl, rfl, rfl⟩, hat _ (up _ _ hdo.1)⟩ (fun b hb => ?_)
    (F.keeps up) (N.grown up) (Nat.ne_of_lt F.ns.lt) (next_is_new F) (fun p hp => Nat.ne_of_lt (Heap.lt_size (N p hp).1)) hm (R _ ⟨_, rfl⟩) ?_
  · intro i h h' o' nw st e e' _ N' hS
    exact ⟨st.1.at (fun o2 e2 => by rw [e] at e2; cases e2; exact e'), hat _ (N' _ hS).1⟩
  · show b < (s₁.heap.push _).objs.size
    rw [Heap.size_push]
    rcases List.mem_cons.mp hb with rfl | hb
    · exact Nat.lt_succ_self _
    · rw [List.mem_singleton.mp hb]; exact Nat.lt_succ_of_lt hlt
  · intro D C h tk m' ys news' F' N' o1 hn hC₀ hD₀ hCL hDL hCD offC fin
    refine ⟨m', hn, fun h'' hs'' => fin D h'' tk (F'.change hs'' hCL hC₀) (fun p hp => ?_) o1⟩
    refine ⟨hs''.extBut _ _ ?_ (N' p hp).1, (N' p hp).2⟩
    rcases List.mem_cons.mp hp with rfl | hp
    · exact Ne.symm hCD
    · exact offC p hp
end
theorem key_str {prog : Program} {w : World} {k : Str} {v : Value} (h : (PySem.strKind prog w).is k v = true) : ∃ t, v = .str k t := Value.isStrOf_shape h
theorem va_mem : ∀ {kvs : List (Str × Value)} {i : Nat} {k : Str} {y : Value}, kvs[i]? = some (k, y) → (valueAt kvs k).isSome = true
  | [], _, _, _, h => by simp at h
  | a :: r, i, k, y, h => by
    rw [valueAt_cons]
    by_cases e : a.1 = k
    · rw [if_pos e]; rfl
    · rw [if_neg e]
      cases i with
      | zero => simp at h; rw [h] at e; exact absurd rfl e
      | succ i => exact va_mem (i := i) (by simpa using h)
theorem met_clear {t : Str} (h : t ∈ TBL.map (·.1)) : t ∉ TBL.flatMap (fun y => begs y.1) := by
  intro hb
  obtain ⟨y, hy, hb⟩ := List.mem_flatMap.mp hb
  obtain ⟨z, hz, rfl⟩ := List.mem_map.mp h
  exact begs_off hy hz hb
section
open PyProof.Rows.LCg PyProof.Rows.LCt
variable {prog : Program} {w : World} {A : Around} {h₀ : Heap} {L : Addr} {m : Str → Option Value} {env : Env} {s : Shared}
theorem compT_base {ct elt : PySem.Expr} {x : Str} {scope : Scope} {cl : List (Str × Addr)} {S : List (Addr × Obj) → Prop} {At : Nat → Value → Prop} {Fin : List Value → List (Addr × Obj) → Prop} {n : Nat} {base : Led} (P0 : Nat → List Value → Prop) (h0 : P0 0 [])
    (step : ∀ i ys v I oI C oC D m₂ h tk (E' : Value → Shared → Prop), i < n → P0 i ys → At i v → NsObj oC m₂ → m₂ x = some v → Fr h₀ L h m → News h₀ L h ((I, oI) :: (C, oC) :: (D, lst ys) :: base) → Off3 I C D base → ((@Ne Nat I C) ∧ (@Ne Nat I D) ∧ (@Ne Nat C D)) →
      wpAny (model prog w) A (isTrue ct (compEnvC scope cl C env) (eval ct (compEnvC scope cl C env))) (fun ok s' => if ok = true then
        wpAny (model prog w) A (eval elt (compEnvC scope cl C env)) (CompEnd h₀ L m { s with heap := h, toks := tk } I oI C oC D (lst ys) S (fun y n => n = base ∧ P0 (i + 1) (ys ++ [y]))) E' s'
        else CompEnd h₀ L m { s with heap := h, toks := tk } I oI C oC D (lst ys) S (fun _ n => n = base ∧ P0 (i + 1) ys) Value.none s') E' { s with heap := h, toks := tk })
    (fin : ∀ ys, P0 n ys → Fin ys base) : CompRestT prog w A h₀ L m env ct elt x scope cl s S At Fin n 0 [] base :=
  compT_ind (P := fun i ys nw => nw = base ∧ P0 i ys) (fun i ys nw v I oI C oC D m₂ h tk E' hi hp hv hC hx F' N' off ne => by
    obtain ⟨rfl, hp⟩ := hp
    exact step i ys v I oI C oC D m₂ h tk E' hi hp hv hC hx F' N' off ne) (fun ys nw hp => by
    obtain ⟨rfl, hp⟩ := hp
    exact fin ys hp) _ _ _ _ (Nat.zero_add _) ⟨rfl, h0⟩
end
def IsNilAt (_ : Nat) (ys : List Value) : Prop := ys = []
theorem draw_pack {h₀ h : Heap} {L : Addr} {x1 x2 x3 x4 x5 c2 dO bO cO : Addr × Obj} {R : Led} (N : News h₀ L h (x1 :: x2 :: x3 :: x4 :: x5 :: c2 :: dO :: bO :: R)) (hc : cO ∈ R) : News h₀ L h (dO :: cO :: bO :: c2 :: R) := fun p hp => by
  simp only [List.mem_cons] at hp
  rcases hp with h | h | h | h | h
  · exact N p (by simp [h])
  · exact N p (by rw [h]; simp [hc])
  · exact N p (by simp [h])
  · exact N p (by simp [h])
  · exact N p (by simp [h])
theorem All2.drop {α : Type} {R : Value → α → Prop} : ∀ {vs : List Value} {ys : List α}, All2 R vs ys → ∀ k, All2 R (vs.drop k) (ys.drop k)
  | _, _, h, 0 => h
  | _, _, .nil, _ + 1 => .nil
  | _, _, .cons _ r, k + 1 => All2.drop r k
theorem All2.take {α : Type} {R : Value → α → Prop} : ∀ {vs : List Value} {ys : List α}, All2 R vs ys → ∀ k, All2 R (vs.take k) (ys.take k)
  | _, _, _, 0 => .nil
  | _, _, .nil, _ + 1 => .nil
  | _, _, .cons h r, k + 1 => .cons h (All2.take r k)
theorem All2.rev {α : Type} {R : Value → α → Prop} : ∀ {vs : List Value} {ys : List α}, All2 R vs ys → All2 R vs.reverse ys.reverse
  | _, _, .nil => .nil
  | _, _, .cons h r => by
    rw [List.reverse_cons, List.reverse_cons]
    exact All2.app (All2.rev r) (.cons h .nil)
/-- the stretch -/
theorem stretch {R : Led} {its : Array Value} {x1 x2 : Int} (h : All2 (IsPair R) its.toList TBL) (h0 : 0 ≤ x1) (h1 : 0 ≤ x2) (h2 : x2 < 10) :
    ∃ rows, All2 (IsPair R) (kms_pick (its.toList ++ its.toList) (some x1) (some (x1 + (1 + x2)))) rows ∧ rows.length ≤ 10 ∧ ∀ y ∈ rows, y ∈ TBL := by
  have hl : its.toList.length = 148 := by rw [all2_size h, TBL_len]
  have hA := All2.app h h
  unfold kms_pick
  refine ⟨_, (hA.drop (kms_lo (some x1) (its.toList ++ its.toList).length)).take (kms_hi (some (x1 + (1 + x2))) (its.toList ++ its.toList).length - kms_lo (some x1) (its.toList ++ its.toList).length), ?_, fun y hy => ?_⟩
  · refine Nat.le_trans (List.length_take_le _ _) ?_
    unfold kms_lo kms_hi
    simp only []
    rw [if_neg (by omega), if_neg (by omega)]
    omega
  · have := List.mem_of_mem_drop (List.mem_of_mem_take hy)
    rcases List.mem_append.mp this with h | h <;> exact h
def SomeP (h₀ : Heap) (L : Addr) (c2 : Addr × Obj) (R : Led) (s : Shared) (fl : Flow) (s' : Shared) : Prop :=
  fl = .next ∧ ∃ (ls : Addr) (its : Array Value) (kz : Nat) (rows : List (Str × Str)) (m' : Str → Option Value) (h' : Heap) (tk' : Nat), s' = { s with heap := h', toks := tk' } ∧ Fr h₀ L h' m' ∧ News h₀ L h' ((ls, W.listOf its kz) :: c2 :: R) ∧
    m' (Str.ofString "some") = some (.ref ls) ∧ All2 (IsPair R) its.toList rows ∧ rows.length ≤ 10 ∧ (∀ y ∈ rows, y ∈ TBL) ∧ ∀ p ∈ c2 :: R, p.1 ≠ ls
theorem some_pack {h₀ h : Heap} {L : Addr} {x2 x3 dO cO bO c2 : Addr × Obj} {ls : Addr} {oS : Obj} {R : Led} (N : News h₀ L h ((ls, oS) :: x2 :: x3 :: dO :: cO :: bO :: c2 :: R)) (l : ∀ p ∈ x2 :: x3 :: dO :: cO :: bO :: c2 :: R, p.1 < ls) :
    News h₀ L h (dO :: cO :: bO :: (ls, oS) :: c2 :: R) ∧ ls ≠ dO.1 ∧ ls ≠ bO.1 ∧ ∀ p ∈ c2 :: R, p.1 ≠ ls := by
  refine ⟨fun p hp => N p ?_, ?_, ?_, fun p hp => Nat.ne_of_lt (l p ?_)⟩
  · simp only [List.mem_cons] at hp ⊢
    rcases hp with h | h | h | h | h | h <;> simp [h]
  · exact Nat.ne_of_gt (l dO (by simp))
  · exact Nat.ne_of_gt (l bO (by simp))
  · simp only [List.mem_cons] at hp ⊢
    rcases hp with h | h <;> simp [h]
theorem some_drop {h₀ h : Heap} {L : Addr} {dO cO bO a c2 : Addr × Obj} {R : Led} (N : News h₀ L h (dO :: cO :: bO :: a :: c2 :: R)) : News h₀ L h (a :: c2 :: R) := ndrop (ndrop (ndrop N))
theorem some_drop2 {h₀ h : Heap} {L : Addr} {z dO cO bO a c2 : Addr × Obj} {R : Led} (N : News h₀ L h (z :: dO :: cO :: bO :: a :: c2 :: R)) : News h₀ L h (z :: c2 :: R) := fun p hp => N p (by
  simp only [List.mem_cons] at hp ⊢
  rcases hp with h | h | h <;> simp [h])
section
variable {prog : Program} {w : World} {A : Around} {E : Value → Shared → Prop} {s : Shared} {h₀ : Heap} {L : Addr} {m : Str → Option Value} {news : Led}
theorem sub_slice {value slice : PySem.Expr} {l : Addr} {its : Array Value} {vl vu : Value} {lo hi : Option Int} {Q : Value → Shared → Prop}
    (F : Fr h₀ L s.heap m) (N : News h₀ L s.heap news) (hl : s.heap.IsList l its) (pl : IsPart vl lo) (pu : IsPart vu hi)
    (h : ∀ D h', Fr h₀ L h' m → News h₀ L h' ((D, W.listOf (kms_pick its.toList lo hi).toArray 0) :: news) → (∀ p ∈ news, p.1 < D) → Q (.ref D) { s with heap := h' })
    (hs : subscripted slice false (.ref l) (.ref s.heap.objs.size) = operate [.ref s.heap.objs.size, .ref l] (getItem (.ref l) (.ref s.heap.objs.size)))
    (hsz : its.size ≤ sizeLine) :
    wpAny (model prog w) A (subscriptTail value slice (.ref l) (.ref s.heap.objs.size)) Q E { s with heap := s.heap.push { cls := .type "slice", data := .fields #[vl, vu, .none] } } := by
  refine tail_any (Heap.IsList.typeIs (s := { s with heap := s.heap.push { cls := .type "slice", data := .fields #[vl, vu, .none] } }) (hl.push _)) list_getitem_lookup
    (wpAny_getItem_list_slice (hl.push _) (Heap.IsSliceOf.new ..) pl pu .none (by simp) ?_ hsz) hs
  have N1 := News.push (F.push { cls := .type "slice", data := .fields #[vl, vu, .none] }) (N.grown fun _ _ e => Heap.get?_push_of_some _ e) { cls := .type "list", data := .seq (slicePick its lo hi none) }
  rw [Heap.size_push] at N1
  show Q (.ref (s.heap.push _).objs.size) _
  rw [Heap.size_push]
  refine h _ _ ((F.push _).push _) ?_ fun p hp => Nat.lt_succ_of_lt (Heap.lt_size (N p hp).1)
  rw [← kms_pick_eq]
  exact N1
end
theorem some_join {M : Model} {A : Around} {E : Value → Shared → Prop} {s : Shared} {h₀ : Heap} {L : Addr} {dO cO bO a c2 : Addr × Obj} {R : Led} {t : Sem Flow} {Q : Flow → Shared → Prop} (N : News h₀ L s.heap (dO :: cO :: bO :: a :: c2 :: R))
    (h1 : wpAny M A t (SomeP h₀ L c2 R s) E s) (h2 : ∀ fl s', SomeP h₀ L c2 R s fl s' → Q fl s') : wpAny M A t Q E s := wpAny_mono h1 h2 fun _ _ e => e
theorem pairs_more {a : Addr × Obj} {R : Led} {vs : List Value} {rows : List (Str × Str)} (h : All2 (IsPair R) vs rows) : All2 (IsPair (a :: R)) vs rows := h.imp fun v y x => x.mono fun p hp => .tail _ hp

end
section
section
variable {prog : Program} {w : World} {A : Around} {E : Value → Shared → Prop} {s : Shared} {env : Env} {h₀ : Heap} {target : PySem.Expr} {body : List Stmt} {Q : Flow → Shared → Prop} {I : Addr}
/-- a loop over a list's items, by induction; the iterator's kind told -/
theorem items_indC {α : Type} {R : Value → α → Prop} {P : List α → (Str → Option Value) → Led0 → Prop} {T : String} {keep : Led0}
    (step : ∀ y r v m news o h tk, P (y :: r) m news → R v y → Fr h₀ env.locals h m → o.cls = .type T → News h₀ env.locals h ((I, o) :: news) →
      wpAny (model prog w) A (assign target env v) (fun _ s₂ => wpAny (model prog w) A (execs body env) (UnrPostW h₀ env.locals { s with heap := h, toks := tk } [(I, o)] (fun m' n' => SubL keep n' ∧ P r m' n') Q) E s₂) E { s with heap := h, toks := tk })
    (fin : ∀ m news h tk, P [] m news → Fr h₀ env.locals h m → News h₀ env.locals h news → Q .next { s with heap := h, toks := tk }) :
    ∀ {vs : List Value} {ys : List α}, All2 R vs ys → ∀ m news, P ys m news → ItemsRest prog w A E h₀ env target body Q s [(I, T)] keep (vs.map .val) m news
  | _, _, .nil, m, news, hp => fun h tk F N => fin m news h tk hp F N
  | _, _, .cons hR hr, m, news, hp => fun v h tk hv F o ho N => by
    have hv' : v = _ := hv
    subst hv'
    exact wpAny_mono (step _ _ _ m news o h tk hp hR F ho N) (fun _ s₂ h' => wpAny_mono h' (fun f s₃ h'' => unrPostW_mono h'' fun m n hp' => ⟨hp'.1, items_indC step fin hr m n hp'.2⟩) fun _ _ e => e) fun _ _ e => e
end
theorem Store.rest {w : World} {h₀ h : Heap} {L : Addr} {n : Led} {T : List Nd} {S : List (List Ev × Str)} {B : Nat} {I : Addr} {it : Obj} (N : News h₀ L h n) (hi : (I, it) ∈ n) (hc : it.cls = .type "list_iterator") (st : Store w n T S B) : Store w (restOf [(I, it)] n) T S B := by
  refine ⟨fun x hx => ?_, st.sz, st.inj, st.ap, st.val, st.dis, st.pc, st.lp⟩
  obtain ⟨t1, t2, t3, t4, t5, h1, h2, h3, lo, ho⟩ := st.ok x hx
  have hm : ∀ q ∈ [(I, it)], q ∈ n := fun q hq => by rw [List.mem_singleton.mp hq]; exact hi
  refine ⟨t1, t2, t3, t4, t5, restOf_mem N hm h1 ?_, restOf_mem N hm h2 ?_, restOf_mem N hm h3 ?_, lo, ho⟩
  · intro q hq e
    rw [List.mem_singleton.mp hq] at e
    have := congrArg Obj.cls e
    rw [hc] at this; cases this
  · intro q hq e
    rw [List.mem_singleton.mp hq] at e
    have := congrArg Obj.cls e
    rw [hc] at this
    simp [attrs, W.dictOf] at this
  · intro q hq e
    rw [List.mem_singleton.mp hq] at e
    obtain ⟨es, ep, hx, _⟩ := ho
    have := congrArg Obj.cls e
    rw [hc] at this
    have h9 := hx.1
    rw [← this] at h9; simp at h9
theorem Store.init {w : World} {n : Led} {k d r : Addr} {o : Obj} {t1 t2 t3 t4 t5 : Tok} (h1 : (k, instObj 349 d) ∈ n) (h2 : (d, attrs w r t1 t2 t3 t4 t5) ∈ n) (h3 : (r, o) ∈ n) (lo : (r == sysModules) = false) (ho : o.IsDictOf (evKind PR w) []) (f1 : d < k) (f2 : k < r) :
    Store w n [⟨[], k, d, r, o, []⟩] [] 0 where
  ok := fun x hx => by rw [List.mem_singleton.mp hx]; exact ⟨t1, t2, t3, t4, t5, h1, h2, h3, lo, ho⟩
  sz := fun x hx => by rw [List.mem_singleton.mp hx]; exact Nat.le_refl _
  inj := fun x hx y hy _ => by rw [List.mem_singleton.mp hx, List.mem_singleton.mp hy]
  ap := fun x hx y hy => by
    rw [List.mem_singleton.mp hx, List.mem_singleton.mp hy]
    exact ⟨Nat.ne_of_lt (Nat.lt_trans f1 f2), Nat.ne_of_lt f2, fun _ => rfl⟩
  val := fun x hx e => by
    rw [List.mem_singleton.mp hx]
    refine .none (fun y hy h => ?_) (fun c hc => by cases hc)
    rw [List.mem_singleton.mp hy] at h
    simp at h
  dis := fun x hx c hc => by cases hc
  pc := fun x hx p e h => by
    rw [List.mem_singleton.mp hx] at h
    simp at h
  lp := fun q hq => by cases hq
/-- the second loop -/
structure M3P (w : World) (C0 : Led) (k ls I : Addr) (rows r : List (Str × Str)) (m : Str → Option Value) (n : Led) (T : List Nd) (S : List (List Ev × Str)) (B : Nat) (done : List (Str × Str)) : Prop where
  st : Store w n T S B
  hB : B ≤ 8 * done.length
  hs : done ++ r = rows
  hS : ∀ q, q ∈ S ↔ ∃ y ∈ done, q = (pth y.1, y.2)
  root : ∃ x0 ∈ T, x0.path = [] ∧ x0.k = k
  nd : ∀ x ∈ T, x.path = [] ∨ ∃ y ∈ done, ∃ q, q ≠ [] ∧ x.path ++ q = pth y.1
  cst : ∀ p ∈ C0, p ∈ n ∧ ∀ x ∈ T, p.1 ≠ x.r
  off : ∀ p ∈ n, p.1 ≠ I
  nS : m (Str.ofString "some") = some (.ref ls)
inductive M3E (w : World) (C0 : Led) (k ls I : Addr) (rows r : List (Str × Str)) (m : Str → Option Value) (n : Led) : Prop
  | mk (T : List Nd) (S : List (List Ev × Str)) (B : Nat) (done : List (Str × Str)) (h : M3P w C0 k ls I rows r m n T S B done)
theorem begB_app : ∀ (a r : List Ev), begB a (a ++ r) = true
  | [], _ => by unfold begB; rfl
  | x :: a, r => by
    show (if x = x then begB a (a ++ r) else false) = true
    rw [if_pos rfl]; exact begB_app a r
theorem ckPair_at : ∀ {l : List (List Ev)}, ckPair l = true → ∀ {i j : Nat} {a b : List Ev}, l[i]? = some a → l[j]? = some b → begB a b = true → i = j
  | [], _, _, _, _, _, h, _, _ => by simp at h
  | x :: r, hk, i, j, a, b, ha, hb, hab => by
    unfold ckPair at hk
    rw [Bool.and_eq_true] at hk
    cases i with
    | zero =>
      cases j with
      | zero => rfl
      | succ j =>
        simp at ha hb
        have := List.all_eq_true.mp hk.1 b (List.mem_of_getElem? hb)
        rw [ha, hab] at this
        simp at this
    | succ i =>
      cases j with
      | zero =>
        simp at ha hb
        have := List.all_eq_true.mp hk.1 a (List.mem_of_getElem? ha)
        rw [hb, hab] at this
        simp at this
      | succ j =>
        rw [ckPair_at hk.2 (i := i) (j := j) (by simpa using ha) (by simpa using hb) hab]
theorem pth_free {y z : Str × Str} (hy : y ∈ TBL) (hz : z ∈ TBL) {r : List Ev} (h : pth y.1 ++ r = pth z.1) : y = z ∧ r = [] := by
  obtain ⟨i, hi⟩ := List.getElem?_of_mem hy
  obtain ⟨j, hj⟩ := List.getElem?_of_mem hz
  have e := ckPair_at ckPths (i := i) (j := j) (a := pth y.1) (b := pth z.1) (by unfold pths; rw [List.getElem?_map, hi]; rfl) (by unfold pths; rw [List.getElem?_map, hj]; rfl) (by rw [← h]; exact begB_app _ _)
  subst e
  rw [hi] at hj
  have e2 := Option.some.inj hj
  subst e2
  refine ⟨rfl, ?_⟩
  have := congrArg List.length h
  rw [List.length_append] at this
  exact List.length_eq_zero_iff.mp (by omega)
theorem pth_pos {y : Str × Str} (hy : y ∈ TBL) : 1 ≤ (pth y.1).length := by
  have h := rowOk hy
  have := h.hp
  have := h.h1
  omega
theorem mem2 {a b : Addr × Obj} {R C : Led} (e : a :: b :: R = C) : b ∈ C := by rw [← e]; exact .tail _ (.head _)
theorem lt_swap {ls c2 dk : Addr} {o1 o2 o3 : Obj} {R C : Led} (e : (ls, o1) :: (c2, o3) :: R = C) (h : ∀ p ∈ (ls, o1) :: (c2, o2) :: R, p.1 < dk) : ∀ p ∈ C, p.1 < dk := by
  rw [← e]
  intro p hp
  rcases List.mem_cons.mp hp with h1 | hp
  · rw [h1]; exact h _ (.head _)
  · rcases List.mem_cons.mp hp with h1 | hp
    · rw [h1]; exact h (c2, o2) (.tail _ (.head _))
    · exact h p (.tail _ (.tail _ hp))
theorem restOf_one {n : Led} {I : Addr} {o : Obj} {p : Addr × Obj} (h : p ∈ n) (hne : p.1 ≠ I) : p ∈ restOf [(I, o)] n := by
  refine List.mem_filter.mpr ⟨h, List.all_eq_true.mpr fun q hq => ?_⟩
  rw [List.mem_singleton.mp hq]
  simpa using hne
theorem pth_small {y : Str × Str} (hR : RowOk y) : (pth y.1).length ≤ 6 := by
  have h1 := hR.hp
  have h2 := hR.h3
  have h3 : metas y.1 ≤ (wds y.1).length := List.length_filter_le _ _
  omega
theorem spF_app : ∀ (a b : List Ev), spF (a ++ b) = spF a ++ spF b
  | [], b => rfl
  | .inl x :: a, b => by
    rw [List.cons_append, spF_i, spF_i, spF_app a b]
    split <;> rfl
  | .inr x :: a, b => by
    show Sum.inr x :: spF (a ++ b) = Sum.inr x :: (spF a ++ spF b)
    rw [spF_app a b]
theorem spF_ne : ∀ {a : List Ev}, a ≠ [] → spF a ≠ []
  | [], h => absurd rfl h
  | .inl x :: a, _ => by
    rw [spF_i]; split <;> simp
  | .inr x :: a, _ => by
    show Sum.inr x :: spF a ≠ []
    simp
theorem spF_97 : spF [.inl 97] = [.inl 97] := by
  rw [spF_i, if_neg (by decide +kernel)]; rfl
theorem trail_bound {w : World} {n : Led} {T : List Nd} {S : List (List Ev × Str)} {B : Nat} (st : Store w n T S B) {done : List (Str × Str)} (hS : ∀ q, q ∈ S ↔ ∃ y ∈ done, q = (pth y.1, y.2)) (hT : ∀ y ∈ done, y ∈ TBL) {x0 : Nd} (hx0 : x0 ∈ T) (hp : x0.path = []) {y : Str × Str} (hy : y ∈ done) :
    Trail w n x0.k (spF (evl y.1)) 0 (.bound y.2) := by
  have hq : (pth y.1, y.2) ∈ S := (hS _).mpr ⟨y, hy, rfl⟩
  refine st.bound hq (fun c hc => ?_) (pth y.1) 0 x0 hx0 (by rw [hp]; rfl) (fun e => ?_)
  · obtain ⟨z, hz, e⟩ := (hS _).mp hc
    have e1 := (Prod.mk.inj e).1
    have e2 := (Prod.mk.inj e).2
    have := (pth_free (hT y hy) (hT z hz) (r := []) (by rw [List.append_nil]; exact e1)).1
    rw [e2, ← this]
  · have := pth_pos (hT y hy)
    rw [e] at this; exact absurd this (by decide)
theorem trail_pre {w : World} {n : Led} {T : List Nd} {S : List (List Ev × Str)} {B : Nat} (st : Store w n T S B) {done : List (Str × Str)} (hS : ∀ q, q ∈ S ↔ ∃ y ∈ done, q = (pth y.1, y.2)) {x0 : Nd} (hx0 : x0 ∈ T) (hp : x0.path = []) {y : Str × Str} (hy : y ∈ done) {es : List Ev} {i : Nat} (he : es = (evl y.1).take i) (hi : i < (evl y.1).length) :
    Trail w n x0.k (spF es) 0 .pre := by
  have hq : (pth y.1, y.2) ∈ S := (hS _).mpr ⟨y, hy, rfl⟩
  refine st.pre hq (r' := spF ((evl y.1).drop i)) (spF_ne fun e => ?_) (spF es) 0 x0 hx0 ?_
  · have := congrArg List.length e
    rw [List.length_drop, List.length_nil] at this; omega
  · rw [hp, he, ← spF_app, List.take_append_drop]; rfl
theorem trail_long {w : World} {n : Led} {T : List Nd} {S : List (List Ev × Str)} {B : Nat} (st : Store w n T S B) {done : List (Str × Str)} (hS : ∀ q, q ∈ S ↔ ∃ y ∈ done, q = (pth y.1, y.2)) (hT : ∀ y ∈ done, y ∈ TBL) {x0 : Nd} (hx0 : x0 ∈ T) (hp : x0.path = []) {y : Str × Str} (hy : y ∈ done) {es : List Ev} (he : es = evl y.1 ++ [.inl 97]) :
    Trail w n x0.k (spF es) 0 (.long (pth y.1).length) := by
  have hq : (pth y.1, y.2) ∈ S := (hS _).mpr ⟨y, hy, rfl⟩
  have := st.long hq (.inl 97) (pth y.1) 0 x0 hx0 (by rw [hp]; rfl) (fun e => by
    have := pth_pos (hT y hy)
    rw [e] at this; exact absurd this (by decide))
  rw [he, spF_app, spF_97]
  rw [Nat.zero_add] at this
  exact this
structure M4P (n1 : Led) (done r : List (Str × Str)) (n : Led) : Prop where
  hn : n = n1
  hd : ∃ dn, dn ++ r = done

end
section
section
variable {prog : Program} {w : World} {A : Around} {E : Value → Shared → Prop} {s : Shared} {h₀ : Heap} {L : Addr} {news : Led}
theorem ne_tup2 {l b : Addr} {x y v z : Value} {Q : Value → Shared → Prop} (N : News h₀ L s.heap news) (hl : (l, ({ cls := .type "tuple", data := .seq #[x, y] } : Obj)) ∈ news) (hb : (b, ({ cls := .type "tuple", data := .seq #[v, z] } : Obj)) ∈ news) (hu : A.units < cLine)
    (e1 : PySem.SeqAt.EqAt A.in1 s x v true) (e2 : PySem.SeqAt.EqAt A.in1 s y z true) (h : Q (.bool false) s) : wpAny (model prog w) A (compareOp .NotEq (.ref l) (.ref b)) Q E s := by
  have := PySem.SeqAt.RcNeAt.tuples (A := A) (s := s) (e := fun _ => true) (News.isTup N hl) (News.isTup N hb) hu (fun j h1 h2 => by
    have hj : j = 0 ∨ j = 1 := by
      have : j < 2 := h1
      omega
    rcases hj with rfl | rfl
    · exact e1
    · exact e2)
  exact this prog w E Q h
end
theorem eqs_str {A : Around} {s : Shared} (x : Str) (t u : Tok) : PySem.SeqAt.EqAt A s (.str x t) (.str x u) true := by
  have := PySem.SeqAt.EqAt.str_str (A := A) (s := s) x t x u
  rwa [beq_self_eq_true] at this
theorem eqs_int {A : Around} {s : Shared} {x y : Int} (e : x = y) (t u : Tok) : PySem.SeqAt.EqAt A s (.int x t) (.int y u) true := by
  subst e
  have := PySem.SeqAt.EqAt.int_int (A := A) (s := s) x t x u
  rwa [beq_self_eq_true] at this
theorem begs_at {x b : Str} {i : Nat} (h : (begs x)[i]? = some b) : i < (wds x).length - 1 ∧ b = Txt.join (Str.ofString " ") ((wds x).take (i + 1)) := by
  unfold begs at h
  rw [List.getElem?_map] at h
  have hi : i < (wds x).length - 1 := by
    rcases Nat.lt_or_ge i ((wds x).length - 1) with h1 | h1
    · exact h1
    · rw [List.getElem?_eq_none (by rw [List.length_range]; exact h1)] at h; cases h
  rw [List.getElem?_range hi] at h
  exact ⟨hi, (Option.some.inj h).symm⟩

end
section
local macro_rules | `(tactic| ktr_room) => `(tactic| exact lt_rl (by rfl))
local macro_rules | `(tactic| ktr_units) => `(tactic| exact lt_cl (by rfl))
local macro_rules | `(tactic| k_qdec) => `(tactic| decide +kernel)
set_option hygiene true in
local macro_rules | `(tactic| walk_at "eval Name") => `(tactic| (k_here; k_dflt (refine' nameX_L ?nF ?nv ?_ ?na ?nb; (case nF => k_asm); (case na => rfl); (case nb => rfl); (case nv => ((try dsimp only); (repeat (refine (if_neg (by decide)).trans ?_)); first | assumption | exact if_pos rfl)); k_whole)))
theorem walk (d : DefRec) (kwd : List (Str × PySem.Expr)) (e : defOf VW PySem.Challenge.rw_on0068_01.row.name = some (d, kwd)) : WalkO VW LN (XL VW LV) (kHook hd0.heap_1 AD adOk).says PySem.Challenge.rw_on0068_01.row.toRowW d kwd (fun f vs => call f vs) := by
  obtain ⟨rfl, rfl⟩ := defOne e (rfl : _ = some (_, _))
  clear e
  k_go0
  generalize hG : (GoodW _ _ _ _ _) = G
  rename World => w
  repeat ((fail_if_success (with_reducible show wpAny _ _ (eval (PySem.Expr.ListComp (PySem.Expr.Name _ _) _ _ _) _) _ _ _)); first | (k_unfold; (try dsimp only)) | walk1)
  k_dflt (refine LCt.ListComp_T (F₀ := by k_asm) (by with_unfolding_all rfl) (by decide) (by rfl) (by decide) (by rfl) ?_)
  repeat ((fail_if_success (show LCt.CompSrcT _ _ _ _ _ _ _ _ _ _ _ _ _ _ _)); walk1)
  (with_reducible rename Fr _ _ _ _ => F5)
  (with_reducible rename News _ _ _ _ => N5)
  rename IntsAre _ (List.map _ _) => hI8
  rename List.length _ = List.length (List.map _ _) => hL8
  rename _ = min 20 _ => hC8
  rw [List.length_map] at hL8
  have hL9 := hI8.length
  refine compT_led BigsP (by rfl) F5 N5 (.head _) (by rw [List.size_toArray, sizeLine_eq]; omega) BigsP.nil ?_ ?_
  · intro g i zs v I oI C oC D m8 h8 tk8 E8 hi8 hp8 hv8 hC8 hx8 F8 N8 off8 ne8
    obtain ⟨x8, t8, e8⟩ := ints_at hI8 (i := i) (by rw [List.size_toArray] at hi8; rw [← hL9]; exact hi8)
    have e9 : v = .int x8 t8 := by
      rw [List.getElem?_toArray, e8] at hv8
      exact (Option.some.inj hv8).symm
    subst e9
    k_steps
    · exact hp8.push _ _
    · exact hp8.keep
  · intro g zs hp8
    k_whole; (try dsimp only)
    repeat ((fail_if_success (with_reducible show wpAny _ _ (call (Value.ref 56) _) _ _ _)); first | (k_unfold; (try dsimp only)) | walk1)
    k_here
    k_dflt (refine' use_ct ?k1 ?k2 ?k3 ?k4 ?k5 (c_global _) ?kK ?kd ?ku ?_; (case k1 => k_asm); (case k2 => k_asm); (case k3 => k_asm); (case k4 => k_asm); (case k5 => k_asm); (case kK => first | exact rfl | assumption); (case kd => ktr_room); (case ku => ktr_units); k_whole)
    intro r9 n9 h9 tk9 F9 N9 o9
    unfold GkOut at o9
    obtain ⟨lp, itsP, kp, re9, hlp, sub9, hP⟩ := o9
    subst re9
    have hPn := all2_size hP
    rw [Array.length_toList, TBL_len] at hPn
    obtain ⟨bsB, hbB, hbBl⟩ := hp8
    have hb30 := hbB.length
    obtain ⟨d, b, c, c1, c2, R0, e1, e2, e3, e4, e5, N8, hcR, hlR, hPR, offR, q1, q2, q3, q4, q5, q6, q7, q8⟩ := deck_pack N9 sub9 hlp hP hPn (by rw [hb30]; exact bs30 hbBl hL8) (by assumption) (by assumption) (by assumption) (by assumption) (by assumption) (Nat.ne_of_lt (Nat.lt_succ_self _))
    clear N9
    subst e4 e5
    subst e1
    subst e2
    subst e3
    clear sub9 hlp hP
    k_whole; (try dsimp only)
    repeat ((fail_if_success (with_reducible show wpAny _ _ (storeName _ (Str.ofString "the_begun") _) _ _ _)); first | (k_unfold; (try dsimp only)) | walk1)
    (with_reducible rename News _ _ _ _ => N7)
    (with_reducible rename Fr _ _ _ _ => F7)
    obtain ⟨dm, db, eM, eB, N8, offMB, q9, q10, q11⟩ := met_pack N7 (by assumption) (by assumption)
    clear N7
    k_here
    k_dflt (refine' storeX_C ?zF N8 ?zc (.head ?zU) ?zd ?_ ?za ?zb; (case za => rfl); (case zb => rfl); (case zF => k_asm); (case zc => rfl); (case zd => k_asm); k_whole)
    case zU =>
      intro p hp
      simp only [List.mem_cons] at hp
      rcases hp with h | h | h | h | h | h
      · rw [h]; exact q10
      · rw [h]; exact q11
      · rw [h]; exact Ne.symm q4
      · rw [h]; exact Ne.symm q5
      · rw [h]; exact Ne.symm q7
      · exact (offR p h).2.2.1
    intro h9 o9 F9 N9 d9
    clear N8
    (try dsimp only at N9)
    rw [← eB] at d9
    k_whole; (try dsimp only)
    repeat ((fail_if_success (with_reducible show wpAny _ _ (exec (PySem.Stmt.For _ _ _ _ _) _) _ _ _)); first | (k_unfold; (try dsimp only)) | walk1)
    (with_reducible rename Fr _ _ _ _ => F1)
    k_dflt (refine For_turns F1 ?_)
    repeat ((fail_if_success (with_reducible show wpAny _ _ (pyIter _) _ _ _)); first | (k_unfold; (try dsimp only)) | walk1)
    (with_reducible rename Fr _ _ _ _ => F2)
    (with_reducible rename News _ _ _ _ => N2)
    have loM : (dm == sysModules) = false := by rw [eM]; assumption
    have loB : (db == sysModules) = false := by rw [eB]; assumption
    generalize hK : ((_ , _) :: (_, _) :: (_, _) :: R0 : Led) = K at N2 offMB
    have hlK : (lp, W.listOf itsP kp) ∈ K := by rw [← hK]; exact .tail _ (.tail _ (.tail _ hlR))
    have hPK : All2 (IsPair K) itsP.toList TBL := hPR.imp fun v y h => h.mono fun p hp => by rw [← hK]; exact .tail _ (.tail _ (.tail _ hp))
    have N3 := news_perm3 N2
    clear N2
    k_dflt (refine iter_listTurns (by exact rfl) F2 N3 (.tail _ (.tail _ (.tail _ hlK))) rfl rfl fun I hI => items_ind (P := M1E w d lp dm db ((_, o9) :: K)) ?_ ?_ hPK _ _ ⟨_, _, [], [], [], ⟨rfl, rfl, by assumption, by assumption, fun t => by simp [valueAt], fun t => by simp [valueAt], Nat.le_refl _, Nat.zero_le _, (if_pos rfl).trans (by rw [eM]), (if_neg (by decide)).trans (if_pos rfl), (if_neg (by decide)).trans ((if_neg (by decide)).trans (if_pos rfl))⟩⟩)
    · intro y r v m1 n1 o2 h2 tk2 hp hv F6 N6
      obtain ⟨oM, oB, kM, kB, done, hn, hs, dM, dB, vM, vB, lM, lB, nM, nD, nP⟩ := hp
      subst hn
      obtain ⟨ay, ty, uy, ev, hmy⟩ := hv
      subst ev
      have hyT : y ∈ TBL := by rw [← hs]; simp
      have hR := rowOk hyT
      have hnew := text_new hs
      have hnM : (valueAt kM y.1).isSome = false := by
        cases hq : (valueAt kM y.1).isSome with
        | false => rfl
        | true => exact absurd ((vM y.1).mp hq) hnew
      have hcc := hR.hc
      have N7 := kmNews1 N6 (.tail _ (.tail _ (.tail _ (.tail _ hmy))))
      clear N6
      simp only [PairO] at N7
      k_whole; (try dsimp only)
      repeat ((fail_if_success (with_reducible show wpAny _ _ (compareOp _ _ _) _ _ _)); walk1)
      (with_reducible rename News _ _ _ _ => N8)
      refine kda_in (knd := PySem.strKind _ _) N8 (.tail _ (.tail _ (.head _))) dM loM (strKind_is _ _ _ _) false hnM ?_
      k_whole; (try dsimp only)
      repeat ((fail_if_success (with_reducible show wpAny _ _ (setItem _ _ _) _ _ _)); walk1)
      (with_reducible rename News _ _ _ _ => N9)
      (with_reducible rename Fr _ _ _ _ => F9)
      have hoy := offMB _ hmy
      have hI1 := hI _ (.head _)
      have hI2 := hI _ (.tail _ (.head _))
      have hI3 : ∀ p ∈ (_, o9) :: K, p.1 < I := fun p hp => hI p (.tail _ (.tail _ hp))
      have offM : ∀ p ∈ (db, oB) :: (_, o9) :: K, p.1 ≠ dm := List.forall_mem_cons.mpr ⟨Ne.symm q9, List.forall_mem_cons.mpr ⟨Ne.symm q10, fun p hp => (offMB p hp).1⟩⟩
      have offB : ∀ p ∈ (_, o9) :: K, p.1 ≠ db := List.forall_mem_cons.mpr ⟨Ne.symm q11, fun p hp => (offMB p hp).2⟩
      refine kda_set (knd := PySem.strKind _ _) F9 N9 (.tail hoy.1 (.tail (Nat.ne_of_gt hI1) (.head offM))) dM (strKind_is _ _ _ _) (by rw [sizeLine_eq]; have := congrArg List.length hs; rw [TBL_len, List.length_append] at this; omega) ?_
      intro h6 oM6 F6 N6 hM6
      clear N9
      (try dsimp only at N6)
      k_whole; (try dsimp only)
      repeat ((fail_if_success (with_reducible show wpAny _ _ (exec (PySem.Stmt.For _ _ _ _ _) _) _ _ _)); walk1)
      (with_reducible rename Fr _ _ _ _ => F5)
      k_dflt (refine For_turns F5 ?_)
      repeat ((fail_if_success (with_reducible show wpAny _ _ (call (Value.ref _) [Value.str _ _]) _ _ _)); walk1)
      k_here
      k_dflt (refine' use_ct ?k1 ?k2 ?k3 ?k4 ?k5 (c_begs y.1 _ hR.ok.hz hR.h1 hR.h3 hR.hs _) ?kK ?kd ?ku ?_; (case k1 => k_asm); (case k2 => k_asm); (case k3 => k_asm); (case k4 => k_asm); (case k5 => k_asm); (case kK => first | exact rfl | assumption); (case kd => ktr_room); (case ku => ktr_units); k_whole)
      intro r9 n9 h9 tk9 F9 N9 o9
      obtain ⟨lb, itb, kb9, re9, ne9, offb, hb9⟩ := o9
      subst re9
      subst ne9
      repeat ((fail_if_success (with_reducible show wpAny _ _ (pyIter _) _ _ _)); walk1)
      (with_reducible rename Fr _ _ _ _ => F4)
      (with_reducible rename News _ _ _ _ => N4)
      have hbl := begs_len y.1 hR.h3
      have hsz0 : (begs y.1).length = (begs y.1).length := rfl
      have hdl : done.length ≤ 148 := by have := congrArg List.length hs; rw [TBL_len, List.length_append] at this; omega
      k_dflt (refine iter_listTurns (by exact rfl) F4 N4 (.head _) rfl rfl fun J hJ => items_ind (P := M2E w d lp dm db [_, _, _, _] ((_, o9) :: K) (done.flatMap fun y => begs y.1) (3 * done.length) (begs y.1)) ?_ ?_ (strsAre_all2 hb9) _ _ ⟨oB, kB, [], ⟨rfl, rfl, dB, fun t => by rw [List.append_nil]; exact vB t, by simpa using lB, ?_, ?_, ?_⟩⟩)
      · intro y2 r2 v2 m2 n2 o3 h3 tk3 hp2 hv2 F3 N3
        obtain ⟨t6, e6⟩ := hv2
        subst e6
        have gt1 := hJ _ (.head _)
        have gt2 := hJ _ (.tail _ (.head _))
        have gt3 := hJ _ (.tail _ (.tail _ (.head _)))
        have gt4 := hJ _ (.tail _ (.tail _ (.tail _ (.head _))))
        have gt5 := hJ _ (.tail _ (.tail _ (.tail _ (.tail _ (.head _)))))
        have gt6 : ∀ p ∈ (_, o9) :: K, p.1 < J := fun p hp => hJ p (.tail _ (.tail _ (.tail _ (.tail _ (.tail _ hp)))))
        obtain ⟨oB2, kB2, f2, hn2, hb2, dB2, vB2, lB2, nM2, nD2, nP2⟩ := hp2
        subst hn2
        simp only [List.cons_append, List.nil_append] at N3
        k_whole; (try dsimp only)
        repeat ((fail_if_success (with_reducible show wpAny _ _ (setItem _ _ _) _ _ _)); walk1)
        (with_reducible rename News _ _ _ _ => N2)
        (with_reducible rename Fr _ _ _ _ => F2)
        have hlb := offb _ (.tail _ (.tail _ (.tail _ (.head _))))
        refine kda_set (knd := PySem.strKind _ _) F2 N2 (.tail (Nat.ne_of_gt gt5) (.tail (Ne.symm hlb) (.tail hoy.2 (.tail (Nat.ne_of_gt hI2) (.tail q9 (.head offB)))))) dB2 (strKind_is _ _ _ _) (by rw [sizeLine_eq]; have := congrArg List.length hb2; rw [List.length_append] at this; omega) ?_
        intro h1 oB3 F1 N1 hB3
        clear N2
        (try dsimp only at N1)
        k_whole; (try dsimp only)
        repeat ((fail_if_success (with_reducible show UnrEndW _ _ _ _ _ _)); walk1)
        refine endW (X := [_, _, _, _] ++ (db, _) :: (_, o9) :: K) F1 N1 (fun p hp => hp) (off_cons (Nat.ne_of_lt gt1) (off_cons (Nat.ne_of_lt gt2) (off_cons (Nat.ne_of_lt gt3) (off_cons (Nat.ne_of_lt gt4) (off_cons (Nat.ne_of_lt gt5) (off_lt gt6)))))) ⟨⟨.head _, trivial⟩, ⟨_, _, f2 ++ [y2], ⟨rfl, by rw [List.append_assoc]; exact hb2, hB3, fun t => by rw [← List.append_assoc]; exact vS vB2 t, ?_, ?_, ?_, ?_⟩⟩⟩
        · exact Nat.le_trans (stored_len _ _ _) (by rw [List.length_append]; show _ + 1 ≤ _ + (_ + 1); omega)
        · exact (if_neg (by decide)).trans nM2
        · exact (if_neg (by decide)).trans nD2
        · exact (if_neg (by decide)).trans nP2
      · intro m2 n2 h3 tk3 hp2 F3 N3
        obtain ⟨oB2, kB2, f2, hn2, hb2, dB2, vB2, lB2, nM2, nD2, nP2⟩ := hp2
        subst hn2
        rw [List.append_nil] at hb2
        subst hb2
        simp only [List.cons_append, List.nil_append] at N3
        k_whole; (try dsimp only)
        repeat ((fail_if_success (with_reducible show UnrEndW _ _ _ _ _ _)); walk1)
        (with_reducible rename News _ _ _ _ => N2)
        (with_reducible rename Fr _ _ _ _ => F2)
        refine endW (X := (dm, _) :: (db, _) :: (_, o9) :: K) F2 N2 (fun p hp => .tail _ (.tail _ hp)) (off_cons (Nat.ne_of_lt hI1) (off_cons (Nat.ne_of_lt hI2) (off_lt hI3))) ⟨⟨.tail _ (.tail _ (.tail _ hlK)), trivial⟩, ⟨_, _, _, _, done ++ [y], ⟨rfl, by rw [List.append_assoc]; exact hs, hM6, dB2, fun t => by rw [List.map_append]; exact vS vM t, fun t => by rw [List.flatMap_append, List.flatMap_singleton]; exact vB2 t, ?_, ?_, nM2, nD2, nP2⟩⟩⟩
        · exact Nat.le_trans (stored_len _ _ _) (by rw [List.length_append]; exact Nat.succ_le_succ lM)
        · rw [List.length_append, List.length_singleton]; omega
      · exact (if_neg (by decide)).trans ((if_neg (by decide)).trans nM)
      · exact (if_neg (by decide)).trans ((if_neg (by decide)).trans nD)
      · exact (if_neg (by decide)).trans ((if_neg (by decide)).trans nP)
    · intro m1 n1 h2 tk2 hp F6 N6
      obtain ⟨oM, oB, kM, kB, done, hn, hs, dM, dB, vM, vB, lM, lB, nM, nD, nP⟩ := hp
      subst hn
      rw [List.append_nil] at hs
      subst hs
      k_whole; (try dsimp only)
      repeat ((fail_if_success (with_reducible show wpAny _ _ (eval (PySem.Expr.ListComp _ _ _ _) _) _ _ _)); walk1)
      k_dflt (refine ListComp_KT (F₀ := by k_asm) (by with_unfolding_all rfl) (by decide) (by rfl) (by decide) (by rfl) ?_)
      walk1
      (with_reducible rename Fr _ _ _ _ => F5)
      (with_reducible rename News _ _ _ _ => N5)
      refine ⟨dm, oM, kM, _, rfl, by rfl, F5, N5, .head _, dM, loM, (by rw [sizeLine_eq]; rw [TBL_len] at lM; omega), fun s₂ hs₂ => ?_⟩
      obtain ⟨g9, e9⟩ := hs₂
      subst e9
      refine compT_base IsNilAt rfl ?_ ?_
      · intro i ys v I oI C oC D m8 h8 tk8 E8 hi8 hp8 hv8 hC8 hx8 F8 N8 off8 ne8
        obtain ⟨k8, y8, hk8, his⟩ := hv8
        obtain ⟨t8, e8⟩ := key_str his
        subst e8
        have hnb : (valueAt kB k8).isSome = false := by
          cases hq : (valueAt kB k8).isSome with
          | false => rfl
          | true => exact absurd ((vB k8).mp hq) (met_clear ((vM k8).mp (va_mem hk8)))
        k_whole; (try dsimp only)
        repeat ((fail_if_success (with_reducible show wpAny _ _ (compareOp _ _ _) _ _ _)); walk1)
        refine kda_in (knd := PySem.strKind _ _) N8 (.tail _ (.tail _ (.tail _ (.tail _ (.head _))))) dB loB (strKind_is _ _ _ _) false hnb ?_
        k_whole; (try dsimp only)
        repeat ((fail_if_success (show LCg.CompEnd _ _ _ _ _ _ _ _ _ _ _ _ _ _)); walk1)
        exact LCg.CompEnd.intro (by assumption) N8 _ (fun p hp => hp) off8 (.head _) ⟨rfl, hp8⟩
      · intro ys hp8
        unfold IsNilAt at hp8
        subst hp8
        intro D9 h9 tk9 F9 N9 of9
        k_whole; (try dsimp only)
        repeat ((fail_if_success (with_reducible show wpAny _ _ (compareOp _ _ _) _ _ _)); walk1)
        walk1
        repeat ((fail_if_success (with_reducible show wpAny _ _ (call (Value.builtin "len") _) _ _ _)); walk1)
        (with_reducible rename News _ _ _ _ => N4)
        refine PyProof.Rows.len_list (News.isList N4 (.tail _ (.tail _ (.tail _ (.tail _ (.tail _ hlK)))))) (by rw [hPn]; decide) ?_
        rw [hPn]
        subst hK
        have N3 := draw_pack N4 hcR
        clear N4
        k_whole; (try dsimp only)
        repeat ((fail_if_success (with_reducible show wpAny _ _ (call (Value.ref 446) _) _ _ _)); walk1)
        rename IntsAre _ (List.map _ _ ++ _) => hCs
        have hb31 : bsB.length ≤ 30 := bs30 hbBl hL8
        k_here
        k_dflt (refine' use_ct ?k1 ?k2 ?k3 ?k4 ?k5 (c_draw _ _ _ _ _ _ _ 0 _ _ _ _ _ _ _ hCs (by rw [List.length_append, List.length_singleton]; exact Nat.le_add_left _ _) (by rw [List.length_append, List.length_singleton, List.length_map]; exact tk20 _) (by omega) hbB hb31 (by omega) q1 q2 q3 (off_cons q6 fun p hp => (offR p hp).1) (off_cons q8 fun p hp => (offR p hp).2.1)) ?kK ?kd ?ku ?_; (case k1 => k_asm); (case k2 => k_asm); (case k3 => k_asm); (case k4 => k_asm); (case k5 => k_asm); (case kK => first | exact rfl | assumption); (case kd => ktr_room); (case ku => ktr_units); k_whole)
        intro r9 n9 h9 tk9 F9 N9 o9
        obtain ⟨x1, n1, t1, vs1, bs1, kd1, kb1, ⟨t2, e1⟩, hx1, hx2, hn1, hbB1, hbl1, e2⟩ := o9
        subst e1
        subst e2
        k_whole; (try dsimp only)
        repeat ((fail_if_success (with_reducible show wpAny _ _ (call (Value.ref 446) _) _ _ _)); walk1)
        k_here
        k_dflt (refine' use_ct ?k1 ?k2 ?k3 ?k4 ?k5 (c_draw _ _ _ _ _ _ _ n1 _ _ _ _ _ _ _ hCs (by rw [List.length_append, List.length_singleton]; exact Nat.le_add_left _ _) (by rw [List.length_append, List.length_singleton, List.length_map]; exact tk20 _) (by omega) hbB1 (by omega) (by omega) q1 q2 q3 (off_cons q6 fun p hp => (offR p hp).1) (off_cons q8 fun p hp => (offR p hp).2.1)) ?kK ?kd ?ku ?_; (case k1 => k_asm); (case k2 => k_asm); (case k3 => k_asm); (case k4 => k_asm); (case k5 => k_asm); (case kK => first | exact rfl | assumption); (case kd => ktr_room); (case ku => ktr_units); k_whole)
        intro r9 n9 h9 tk9 F9 N9 o9
        obtain ⟨x2, n2, t3, vs2, bs2, kd2, kb2, ⟨t4, e1⟩, hx3, hx4, hn2, hbB2, hbl2, e2⟩ := o9
        subst e1
        subst e2
        k_whole; (try dsimp only)
        repeat ((fail_if_success (with_reducible show wpAny _ _ (binaryOp Operator.Add (Value.ref _) (Value.ref _)) _ _ _)); walk1)
        (with_reducible rename News _ _ _ _ => N4)
        refine kmk_add_lit (by k_asm) N4 (News.isList N4 (.tail _ (.tail _ (.tail _ (.tail _ (.tail _ hlR)))))) (News.isList N4 (.tail _ (.tail _ (.tail _ (.tail _ (.tail _ hlR)))))) rfl ?_ (by rw [sizeLine_eq, Array.length_toList, hPn]; decide)
        intro D1 h7 F7 N7 o7
        clear N4
        k_whole; (try dsimp only)
        repeat ((fail_if_success (with_reducible show wpAny _ _ (subscriptTail _ _ _ _) _ _ _)); walk1)
        k_here
        k_dflt (refine' sub_slice ?zF N7 (News.isList N7 (.head _)) ?zp ?zq ?_ ?zs ?zz; (case zF => k_asm); (case zp => kmk_part); (case zq => kmk_part); (case zs => with_unfolding_all rfl); (case zz => (rw [List.size_toArray, sizeLine_eq, List.length_append, Array.length_toList, hPn]; decide)))
        intro D3 h6 F6 N6 o6
        clear N7
        obtain ⟨rows, hA3, hlen3, hT3⟩ := stretch hPR hx1 hx3 hx4
        obtain ⟨N5, r1, r2, r3⟩ := some_pack N6 o6
        clear N6 o6 o7
        k_whole; (try dsimp only)
        repeat ((fail_if_success (with_reducible show wpAny _ _ (exec (PySem.Stmt.If _ _ _ _) _) _ _ _)); walk1)
        (with_reducible rename News _ _ _ _ => N4)
        refine some_join N4 ?_ ?_
        · repeat ((fail_if_success (with_reducible show wpAny _ _ (call (Value.ref 446) _) _ _ _)); walk1)
          k_here
          k_dflt (refine' use_ct ?k1 ?k2 ?k3 ?k4 ?k5 (c_draw _ _ _ _ _ _ _ n2 _ _ _ _ _ _ _ hCs (by rw [List.length_append, List.length_singleton]; exact Nat.le_add_left _ _) (by rw [List.length_append, List.length_singleton, List.length_map]; exact tk20 _) (by omega) hbB2 (by omega) (by omega) q1 q2 q3 (off_cons r1 (off_cons q6 fun p hp => (offR p hp).1)) (off_cons r2 (off_cons q8 fun p hp => (offR p hp).2.1))) ?kK ?kd ?ku ?_; (case k1 => k_asm); (case k2 => k_asm); (case k3 => k_asm); (case k4 => k_asm); (case k5 => k_asm); (case kK => first | exact rfl | assumption); (case kd => ktr_room); (case ku => ktr_units); k_whole)
          intro r9 n9 h9 tk9 F9 N9 o9
          obtain ⟨x3, n3, t5, vs3, bs3, kd3, kb3, ⟨t6, e1⟩, hx5, hx6, hn3, hbB3, hbl3, e2⟩ := o9
          subst e1
          subst e2
          k_whole; (try dsimp only)
          repeat ((fail_if_success (with_reducible show ite _ _ _)); walk1)
          by_cases hx : (x3 == 0) = true
          · refine ite_pos hx ?_
            repeat ((fail_if_success (with_reducible show wpAny _ _ (subscriptTail _ _ _ _) _ _ _)); walk1)
            k_here
            k_dflt (refine' krv_lit ?yF N9 (News.isList N9 (.tail _ (.tail _ (.tail _ (.head _))))) (IsPart.int _ _) rfl ?_ ?ys ?yt ?yz; (case yF => k_asm); (case ys => with_unfolding_all rfl); (case yt => kmk_pure); (case yz => (rw [List.size_toArray, all2_size hA3, sizeLine_eq]; omega)))
            intro D4 h5 F5 N5 o5
            k_whole; (try dsimp only)
            repeat ((fail_if_success (show SomeP _ _ _ _ _ _ _)); walk1)
            (with_reducible rename News _ _ _ _ => N2)
            (with_reducible rename Fr _ _ _ _ => F2)
            exact ⟨rfl, D4, _, 0, rows.reverse, _, _, _, rfl, F2, some_drop2 N2, if_pos rfl, hA3.rev, by rw [List.length_reverse]; exact hlen3, fun y hy => hT3 y (List.mem_reverse.mp hy), fun p hp => Nat.ne_of_lt (o5 p (.tail _ (.tail _ (.tail _ (.tail _ hp)))))⟩
          · refine ite_neg hx ?_
            repeat ((fail_if_success (show SomeP _ _ _ _ _ _ _)); walk1)
            (with_reducible rename Fr _ _ _ _ => F2)
            exact ⟨rfl, D3, _, 0, rows, _, _, _, rfl, F2, some_drop N9, if_pos rfl, hA3, hlen3, hT3, r3⟩
        · intro fl s' hS
          clear hA3 hlen3 hT3 r3 r1 r2 N4
          obtain ⟨efl, ls, itS, kz, rowS, mS, hS, tkS, es, FS, NS, nS, hAS, hlS, hTS, offS⟩ := hS
          subst efl
          subst es
          k_whole; (try dsimp only)
          repeat ((fail_if_success (with_reducible show wpAny _ _ (call (Value.ref 349) _) _ _ _)); walk1)
          k_here
          k_dflt (refine' use_ct ?k1 ?k2 ?k3 ?k4 ?k5 (c_new _) ?kK ?kd ?ku ?_; (case k1 => k_asm); (case k2 => k_asm); (case k3 => k_asm); (case k4 => k_asm); (case k5 => k_asm); (case kK => first | exact rfl | assumption); (case kd => ktr_room); (case ku => ktr_units); k_whole)
          intro r9 n9 h9 tk9 F9 N9 o9
          obtain ⟨k, dk, rk, ok, w1, w2, w3, w4, w5, re9, ne9, f1, f2, f3, lo1, ho1⟩ := o9
          subst re9
          subst ne9
          k_whole; (try dsimp only)
          repeat ((fail_if_success (with_reducible show wpAny _ _ (storeName _ _ _) _ _ _)); walk1)
          have z1 := f3 _ (.head _)
          have z2 := f3 _ (.tail _ (.head _))
          k_here
          k_dflt (refine' storeX_C ?zF N9 ?zc (.tail ?z1 (.tail ?z2 (.tail ?z3 (.tail ?z4 (.head ?zU))))) ?zd ?_ ?za ?zb; (case za => rfl); (case zb => rfl); (case zF => k_asm); (case zc => rfl); (case zd => k_asm); k_whole)
          case z1 => exact Nat.ne_of_gt (Nat.lt_trans z2 (Nat.lt_trans f1 f2))
          case z2 => exact Nat.ne_of_gt (Nat.lt_trans z2 f1)
          case z3 => exact Nat.ne_of_gt z2
          case z4 => exact Ne.symm (offS _ (.head _))
          case zU => exact fun p hp => (offR p hp).2.2.2
          intro h8 oC F8 N8 dC
          clear N9
          (try dsimp only at N8)
          k_whole; (try dsimp only)
          repeat ((fail_if_success (with_reducible show wpAny _ _ (exec (PySem.Stmt.For _ _ _ _ _) _) _ _ _)); first | (k_unfold; (try dsimp only)) | walk1)
          generalize hC : ((ls, W.listOf itS kz) :: (_, oC) :: R0 : Led) = C0 at N8
          have hlsC : (ls, W.listOf itS kz) ∈ C0 := by rw [← hC]; exact .head _
          have hoC := mem2 hC
          have hAC : All2 (IsPair C0) itS.toList rowS := hAS.imp fun v y h => h.mono fun p hp => by rw [← hC]; exact .tail _ (.tail _ hp)
          have hltC := lt_swap hC f3
          (with_reducible rename Fr _ _ _ _ => F1)
          k_dflt (refine For_turns F1 ?_)
          repeat ((fail_if_success (with_reducible show wpAny _ _ (pyIter _) _ _ _)); first | (k_unfold; (try dsimp only)) | walk1)
          (with_reducible rename Fr _ _ _ _ => F2)
          (with_reducible rename News _ _ _ _ => N2)
          k_dflt (refine iter_listTurns (by exact rfl) F2 N2 (.tail _ (.tail _ (.tail _ hlsC))) rfl rfl fun I hI => items_indC (P := M3E w C0 k ls I rowS) ?_ ?_ hAC _ _ ⟨[⟨[], k, dk, rk, ok, []⟩], [], 0, [], ⟨Store.init (.tail _ (.head _)) (.tail _ (.tail _ (.head _))) (.head _) lo1 ho1 f1 f2, Nat.zero_le _, rfl, fun q => by simp, ⟨_, .head _, rfl, rfl⟩, fun x hx => .inl (by rw [List.mem_singleton.mp hx]), fun p hp => ⟨.tail _ (.tail _ (.tail _ hp)), fun x hx => by rw [List.mem_singleton.mp hx]; exact Nat.ne_of_lt (Nat.lt_trans (hltC p hp) (Nat.lt_trans f1 f2))⟩, fun p hp => Nat.ne_of_lt (hI p hp), ?_⟩⟩)
          · intro y r v m1 n1 o2 h2 tk2 hp hv F6 hcI N6
            obtain ⟨T0, S0, B0, done, st, hB, hs, hS0, ⟨x0, hx0, hxp, hxk⟩, hnd, hcst, hoff, nS1⟩ := hp
            obtain ⟨ay, ty, uy, ev, hmy⟩ := hv
            subst ev
            have hyT := hTS y (by rw [← hs]; simp)
            have hR := rowOk hyT
            have N7 := kmNews2 N6 (.tail _ (hcst _ hmy).1) (.tail _ (hcst _ hoC).1)
            clear N6
            simp only [PairO] at N7
            k_whole; (try dsimp only)
            repeat ((fail_if_success (with_reducible show wpAny _ _ (call (Value.ref 296) _) _ _ _)); walk1)
            k_here
            k_dflt (refine' use_ct ?k1 ?k2 ?k3 ?k4 ?k5 (c_kbd y.1 _ (evs y.1) hR.ok.hz hR.ok.hsp hR.ok.hno (Nat.le_trans hR.ok.hl (by decide)) hR.ok.hw hR.ok.hok _) ?kK ?kd ?ku ?_; (case k1 => k_asm); (case k2 => k_asm); (case k3 => k_asm); (case k4 => k_asm); (case k5 => k_asm); (case kK => first | exact rfl | assumption); (case kd => ktr_room); (case ku => ktr_units); k_whole)
            intro r9 n9 h9 tk9 F9 N9 o9
            obtain ⟨lt, itk, re9, ne9, offk, hAk⟩ := o9
            subst re9
            subst ne9
            have hdl : done.length ≤ 10 := by have := congrArg List.length hs; rw [List.length_append] at this; omega
            have hdT : ∀ z ∈ done, z ∈ TBL := fun z hz => hTS z (by rw [← hs]; exact List.mem_append_left _ hz)
            have hpl := pth_pos hyT
            have hpf : ∀ q ∈ S0, ∀ r, spF (evl y.1) = q.1 ++ r → r = [] := fun q hq r h => by
              obtain ⟨z, hz, e⟩ := (hS0 q).mp hq
              subst e
              exact (pth_free (hdT z hz) hyT (r := r) h.symm).2
            have hnn : ∀ x ∈ T0, x.path ≠ spF (evl y.1) := fun x hx h => by
              rcases hnd x hx with e | ⟨z, hz, q, hq, e⟩
              · have h2 : pth y.1 = [] := h.symm.trans e
                rw [h2] at hpl
                exact absurd hpl (by decide)
              · rw [h] at e
                exact hq (pth_free hyT (hdT z hz) e).2
            have hle : (evl y.1).length ≤ 50 := by rw [hR.he]; exact Nat.le_trans hR.h3 (by decide)
            k_whole; (try dsimp only)
            repeat ((fail_if_success (with_reducible show wpAny _ _ (call (Value.ref 388) _) _ _ _)); walk1)
            k_here
            k_dflt (refine' use_ct ?k1 ?k2 ?k3 ?k4 ?k5 (c_define _ k lt itk (evl y.1) T0 S0 B0 x0 y.2 _ (st.mono ?s1 (Nat.le_refl _)) (by omega) hx0 hxp hxk ?s2 hAk hle hpl hpf hnn) ?kK ?kd ?ku ?_; (case k1 => k_asm); (case k2 => k_asm); (case k3 => k_asm); (case k4 => k_asm); (case k5 => k_asm); (case kK => first | exact rfl | assumption); (case kd => ktr_room); (case ku => ktr_units); (case s1 => (intro p hp; simp [hp])); (case s2 => exact .head _); k_whole)
            intro r9 n8 h8 tk8 F8 N8 o9
            obtain ⟨re9, T1, B1, st1, hB1, hext, hnd1, hold⟩ := o9
            subst re9
            have hI0 := (hext (I, o2) (by simp) ?o1).1
            case o1 =>
              intro x hx
              obtain ⟨_, _, _, _, _, _, _, h3, _⟩ := st.ok x hx
              exact Ne.symm (hoff _ h3)
            k_whole; (try dsimp only)
            repeat ((fail_if_success (with_reducible show UnrEndW _ _ _ _ _ _)); walk1)
            (with_reducible rename Fr _ _ _ _ => F7)
            have hX : ∀ p ∈ C0, p ∈ restOf [(I, o2)] n8 ∧ ∀ x ∈ T1, p.1 ≠ x.r := fun p hp => by
              have h1 := hext p (by simp [(hcst p hp).1]) (hcst p hp).2
              exact ⟨restOf_one h1.1 (Nat.ne_of_lt (hI p (.tail _ (.tail _ (.tail _ hp))))), h1.2⟩
            refine endW (X := restOf [(I, o2)] n8) F7 N8 (fun p hp => ?_) (fun p hp => restOf_ne hp (.head _)) ⟨⟨(hX _ hlsC).1, trivial⟩, ⟨T1, _, B1, done ++ [y], ⟨Store.rest N8 hI0 hcI st1, ?_, by rw [List.append_assoc]; exact hs, fun q => ?_, ?_, fun x hx => ?_, hX, fun p hp => restOf_ne hp (.head _), ?_⟩⟩⟩
            · rcases List.mem_cons.mp hp with h | h
              · rw [h]; exact hI0
              · exact restOf_sub h
            · have h6 := pth_small hR
              rw [List.length_append, List.length_singleton]
              have h7 : B1 ≤ B0 + (pth y.1).length + 1 := hB1
              omega
            · rw [List.mem_cons, hS0 q]
              constructor
              · rintro (h | ⟨z, hz, e⟩)
                · exact ⟨y, by simp, h⟩
                · exact ⟨z, List.mem_append_left _ hz, e⟩
              · rintro ⟨z, hz, e⟩
                rcases List.mem_append.mp hz with h | h
                · exact .inr ⟨z, h, e⟩
                · rw [List.mem_singleton.mp h] at e; exact .inl e
            · obtain ⟨x1, hx1, e1, e2⟩ := hold x0 hx0
              exact ⟨x1, hx1, e1.trans hxp, e2.trans hxk⟩
            · rcases hnd1 x hx with ⟨x1, hx1, e1⟩ | ⟨j, hj, e1⟩
              · rcases hnd x1 hx1 with e2 | ⟨z, hz, q, hq, e2⟩
                · exact .inl (e1.symm.trans e2)
                · exact .inr ⟨z, List.mem_append_left _ hz, q, hq, by rw [← e1]; exact e2⟩
              · refine .inr ⟨y, by simp, (pth y.1).drop j, ?_, ?_⟩
                · intro h
                  have := congrArg List.length h
                  rw [List.length_drop, List.length_nil] at this
                  have hj2 : j < (pth y.1).length := hj
                  omega
                · rw [e1]; exact List.take_append_drop j (pth y.1)
            · exact (if_neg (by decide)).trans ((if_neg (by decide)).trans nS1)
          · intro mL nL hL6 tkL hp FL NL
            obtain ⟨T0, S0, B0, done, st, hB, hs, hS0, ⟨x0, hx0, hxp, hxk⟩, hnd, hcst, hoff, nSL⟩ := hp
            rw [List.append_nil] at hs
            subst hs
            k_whole; (try dsimp only)
            repeat ((fail_if_success (with_reducible show wpAny _ _ (exec (PySem.Stmt.For _ _ _ _ _) _) _ _ _)); first | (k_unfold; (try dsimp only)) | walk1)
            (with_reducible rename Fr _ _ _ _ => F1)
            k_dflt (refine For_turns F1 ?_)
            repeat ((fail_if_success (with_reducible show wpAny _ _ (pyIter _) _ _ _)); first | (k_unfold; (try dsimp only)) | walk1)
            (with_reducible rename Fr _ _ _ _ => F2)
            (with_reducible rename News _ _ _ _ => N2)
            k_dflt (refine iter_listTurns (by exact rfl) F2 N2 (hcst _ hlsC).1 rfl rfl fun I hI => items_ind (P := fun r _ n => M4P nL done r n) ?_ ?_ hAC _ _ ⟨rfl, [], rfl⟩)
            · intro y r v m2 n2 o2 h3 tk3 hp hv F6 N6
              obtain ⟨hn2, dn, hdn⟩ := hp
              subst hn2
              obtain ⟨ay, ty, uy, ev, hmy⟩ := hv
              subst ev
              have hyD : y ∈ done := by rw [← hdn]; simp
              have hR := rowOk (hTS y hyD)
              have hTb := trail_bound st hS0 hTS hx0 hxp hyD
              rw [hxk] at hTb
              have hle : (evl y.1).length ≤ 100 := by rw [hR.he]; exact Nat.le_trans hR.h3 (by decide)
              have N7 := kmNews2 N6 (.tail _ (hcst _ hmy).1) (.tail _ (hcst _ hoC).1)
              clear N6
              simp only [PairO] at N7
              k_whole; (try dsimp only)
              repeat ((fail_if_success (with_reducible show wpAny _ _ (call (Value.ref 296) _) _ _ _)); walk1)
              k_here
              k_dflt (refine' use_ct ?k1 ?k2 ?k3 ?k4 ?k5 (c_kbd y.1 _ (evs y.1) hR.ok.hz hR.ok.hsp hR.ok.hno (Nat.le_trans hR.ok.hl (by decide)) hR.ok.hw hR.ok.hok _) ?kK ?kd ?ku ?_; (case k1 => k_asm); (case k2 => k_asm); (case k3 => k_asm); (case k4 => k_asm); (case k5 => k_asm); (case kK => first | exact rfl | assumption); (case kd => ktr_room); (case ku => ktr_units); k_whole)
              intro r9 n9 h9 tk9 F9 N9 o9
              obtain ⟨lt, itk, re9, ne9, offk, hAk⟩ := o9
              subst re9
              subst ne9
              k_whole; (try dsimp only)
              repeat ((fail_if_success (with_reducible show wpAny _ _ (call (Value.ref 434) _) _ _ _)); walk1)
              k_here
              k_dflt (refine' use_ct ?k1 ?k2 ?k3 ?k4 ?k5 (c_lookup _ _ 0 k lt itk (evl y.1) (.bound y.2) ?s1 hAk hle ?s2 (hTb.mono ?s3)) ?kK ?kd ?ku ?_; (case k1 => k_asm); (case k2 => k_asm); (case k3 => k_asm); (case k4 => k_asm); (case k5 => k_asm); (case kK => first | exact rfl | assumption); (case kd => ktr_room); (case ku => ktr_units); (case s1 => exact .head _); (case s2 => exact .tail _ (.head _)); (case s3 => (intro p hp; simp [hp])); k_whole)
              intro r9 n9 h9 tk9 F9 N9 o9
              obtain ⟨lr, orr, re9, ne9, offr, hres⟩ := o9
              subst re9
              subst ne9
              obtain ⟨tb1, tb2, eres⟩ : ∃ t u, orr = { cls := .type "tuple", data := .seq #[.str (Str.ofString "bound") t, .str y.2 u] } := by
                cases hres; exact ⟨_, _, rfl⟩
              subst eres
              k_whole; (try dsimp only)
              repeat ((fail_if_success (with_reducible show wpAny _ _ (compareOp _ _ _) _ _ _)); walk1)
              (with_reducible rename News _ _ _ _ => N5)
              refine ne_tup2 N5 (.tail _ (.head _)) (.head _) (by first | units_room | ktr_units) (eqs_str _ _ _) (eqs_str _ _ _) ?_
              have N4 := ndrop (ndrop (ndrop (ndrop N5)))
              clear N5 N9 offr offk hAk
              k_whole; (try dsimp only)
              repeat ((fail_if_success (with_reducible show wpAny _ _ (eval (PySem.Expr.ListComp _ _ _ _) _) _ _ _)); walk1)
              k_dflt (refine LCt.ListComp_T (F₀ := by k_asm) (by with_unfolding_all rfl) (by decide) (by rfl) (by decide) (by rfl) ?_)
              repeat ((fail_if_success (with_reducible show wpAny _ _ (call (Value.ref 451) _) _ _ _)); walk1)
              k_here
              k_dflt (refine' use_ct ?k1 ?k2 ?k3 ?k4 ?k5 (c_begs y.1 _ hR.ok.hz hR.h1 hR.h3 hR.hs _) ?kK ?kd ?ku ?_; (case k1 => k_asm); (case k2 => k_asm); (case k3 => k_asm); (case k4 => k_asm); (case k5 => k_asm); (case kK => first | exact rfl | assumption); (case kd => ktr_room); (case ku => ktr_units); k_whole)
              intro r9 n9 h9 tk9 F9 N9 o9
              obtain ⟨lb, itb, kb9, re9, ne9, offb, hb9⟩ := o9
              subst re9
              subst ne9
              have hbl := hb9.len_eq
              have hbl2 := begs_len y.1 hR.h3
              rw [Array.length_toList] at hbl
              refine compT_led IsNilAt (by rfl) F9 N9 (.head _) (by rw [sizeLine_eq]; omega) rfl ?_ ?_
              · intro g i ys v I3 oI C3 oC3 D3 m8 h8 tk8 E8 hi8 hp8 hv8 hC8 hx8 F8 N8 off8 ne8
                obtain ⟨x8, t8, e8, hx8b⟩ := hb9.item i v (by rw [Array.getElem?_toList]; exact hv8)
                subst e8
                obtain ⟨hi9, ex8⟩ := begs_at hx8b
                obtain ⟨hok8, hev8⟩ := hR.bg i hi9
                rw [← ex8] at hok8 hev8
                have hle8 : (evl x8).length ≤ 100 := by rw [hev8, List.length_take]; omega
                have hTp := trail_pre st hS0 hx0 hxp hyD hev8 (by rw [hR.he]; omega)
                rw [hxk] at hTp
                k_whole; (try dsimp only)
                repeat ((fail_if_success (with_reducible show wpAny _ _ (call (Value.ref 296) _) _ _ _)); walk1)
                k_here
                k_dflt (refine' use_ct ?k1 ?k2 ?k3 ?k4 ?k5 (c_kbd x8 _ (evs x8) hok8.hz hok8.hsp hok8.hno (Nat.le_trans hok8.hl (by decide)) hok8.hw hok8.hok _) ?kK ?kd ?ku ?_; (case k1 => k_asm); (case k2 => k_asm); (case k3 => k_asm); (case k4 => k_asm); (case k5 => k_asm); (case kK => first | exact rfl | assumption); (case kd => ktr_room); (case ku => ktr_units); k_whole)
                intro r9 n9 h9 tk9 F9 N9 o9
                obtain ⟨lt, itk, re9, ne9, offk, hAk⟩ := o9
                subst re9
                subst ne9
                k_whole; (try dsimp only)
                repeat ((fail_if_success (with_reducible show wpAny _ _ (call (Value.ref 434) _) _ _ _)); walk1)
                k_here
                k_dflt (refine' use_ct ?k1 ?k2 ?k3 ?k4 ?k5 (c_lookup _ _ 0 k lt itk (evl x8) .pre ?s1 hAk hle8 ?s2 (hTp.mono ?s3)) ?kK ?kd ?ku ?_; (case k1 => k_asm); (case k2 => k_asm); (case k3 => k_asm); (case k4 => k_asm); (case k5 => k_asm); (case kK => first | exact rfl | assumption); (case kd => ktr_room); (case ku => ktr_units); (case s1 => exact .head _); (case s2 => exact .tail _ (.head _)); (case s3 => (intro p hp; simp [hp])); k_whole)
                intro r9 n9 h9 tk9 F9 N9 o9
                obtain ⟨lr, orr, re9, ne9, offr, hres⟩ := o9
                subst re9
                subst ne9
                obtain ⟨tb1, vb2, eres⟩ : ∃ t v, orr = { cls := .type "tuple", data := .seq #[.str (Str.ofString "prefix") t, v] } := by
                  cases hres; exact ⟨_, _, rfl⟩
                subst eres
                k_whole; (try dsimp only)
                repeat ((fail_if_success (with_reducible show wpAny _ _ (subscriptTail _ _ _ _) _ _ _)); walk1)
                k_here
                refine sub_tup (i := 0) (x := .str (Str.ofString "prefix") tb1) (News.isTup N9 (.head _)) rfl (by decide) rfl ?_
                k_whole; (try dsimp only)
                repeat ((fail_if_success (with_reducible show wpAny _ _ (compareOp _ _ _) _ _ _)); walk1)
                k_here
                refine PyProof.Rows.ne_str ?_
                k_whole; (try dsimp only)
                repeat ((fail_if_success (show LCg.CompEnd _ _ _ _ _ _ _ _ _ _ _ _ _ _)); walk1)
                (with_reducible rename News _ _ _ _ => N5)
                show LCg.CompEnd _ _ _ _ _ _ _ _ _ _ _ _ _ _
                exact LCg.CompEnd.intro (by assumption) N5 _ (fun p hp => .tail _ (.tail _ (.tail _ hp))) off8 (by exact Or.inr ⟨_, .head _, rfl, _, rfl⟩) ⟨rfl, hp8⟩
              · intro g ys hp8
                unfold IsNilAt at hp8
                subst hp8
                intro D9 h9 tk9 F9 N9 of9
                k_whole; (try dsimp only)
                repeat ((fail_if_success (with_reducible show wpAny _ _ (compareOp _ _ _) _ _ _)); walk1)
                walk1
                repeat ((fail_if_success (with_reducible show wpAny _ _ (call (Value.builtin "str.split") _) _ _ _)); walk1)
                (with_reducible rename News _ _ _ _ => N5)
                have N4 := ndrop (ndrop (ndrop N5))
                clear N5
                k_dflt (refine KSpl.split1 (by k_asm) N4 (by decide) ?_ (by rw [sizeLine_eq]; have := hR.ok.hz; omega))
                intro D1 l1 hh1 kk1 e1 a1 F2 N2 o1
                rw [e1] at a1
                clear e1 N4
                generalize strValues l1 = vs at N2 a1 ⊢
                have e2 : vs.length = (wds y.1).length := a1.len_eq
                have h39 := hR.h3
                have hz9 := hR.ok.hz
                k_whole; (try dsimp only)
                repeat ((fail_if_success (with_reducible show wpAny _ _ (call (Value.builtin "len") _) _ _ _)); walk1)
                refine PyProof.Rows.len_list (News.isList N2 (.head _)) (by rw [List.size_toArray]; omega) ?_
                have N4 := ndrop N2
                clear N2
                k_whole; (try dsimp only)
                repeat ((fail_if_success (with_reducible show wpAny _ _ (call (Value.ref 456) _) _ _ _)); walk1)
                k_here
                k_dflt (refine' use_ct ?k1 ?k2 ?k3 ?k4 ?k5 (c_metas y.1 _ hR.ok.hz hR.h1 hR.h3 _) ?kK ?kd ?ku ?_; (case k1 => k_asm); (case k2 => k_asm); (case k3 => k_asm); (case k4 => k_asm); (case k5 => k_asm); (case kK => first | exact rfl | assumption); (case kd => ktr_room); (case ku => ktr_units); k_whole)
                intro r9 n9 h9 tk9 F9 N9 o9
                obtain ⟨ne9, tm, re9⟩ := o9
                subst re9
                subst ne9
                k_whole; (try dsimp only)
                repeat ((fail_if_success (with_reducible show wpAny _ _ (call (Value.ref 296) _) _ _ _)); walk1)
                have hoa := hR.oka
                have hlong : ((pth y.1).length : Int) = (vs.toArray.size : Int) + (metas y.1 : Int) := by
                  have h1 := hR.hp
                  rw [List.size_toArray, e2]
                  omega
                have hla : (evl (y.1 ++ Str.ofString " a")).length ≤ 100 := by have h5 := hR.he; have h6 := hR.h3; rw [hR.eva, List.length_append, List.length_singleton]; omega
                have hTl := trail_long st hS0 hTS hx0 hxp hyD hR.eva
                rw [hxk] at hTl
                k_here
                k_dflt (refine' use_ct ?k1 ?k2 ?k3 ?k4 ?k5 (c_kbd (y.1 ++ Str.ofString " a") _ (evs (y.1 ++ Str.ofString " a")) hoa.hz hoa.hsp hoa.hno (Nat.le_trans hoa.hl (by decide)) hoa.hw hoa.hok _) ?kK ?kd ?ku ?_; (case k1 => k_asm); (case k2 => k_asm); (case k3 => k_asm); (case k4 => k_asm); (case k5 => k_asm); (case kK => first | exact rfl | assumption); (case kd => ktr_room); (case ku => ktr_units); k_whole)
                intro r9 n9 h9 tk9 F9 N9 o9
                obtain ⟨lt, itk, re9, ne9, offk, hAk⟩ := o9
                subst re9
                subst ne9
                k_whole; (try dsimp only)
                repeat ((fail_if_success (with_reducible show wpAny _ _ (call (Value.ref 434) _) _ _ _)); walk1)
                k_here
                k_dflt (refine' use_ct ?k1 ?k2 ?k3 ?k4 ?k5 (c_lookup _ _ 0 k lt itk (evl (y.1 ++ Str.ofString " a")) (.long (pth y.1).length) ?s1 hAk hla ?s2 (hTl.mono ?s3)) ?kK ?kd ?ku ?_; (case k1 => k_asm); (case k2 => k_asm); (case k3 => k_asm); (case k4 => k_asm); (case k5 => k_asm); (case kK => first | exact rfl | assumption); (case kd => ktr_room); (case ku => ktr_units); (case s1 => exact .head _); (case s2 => exact .tail _ (.head _)); (case s3 => (intro p hp; simp [hp])); k_whole)
                intro r9 n9 h9 tk9 F9 N9 o9
                obtain ⟨lr, orr, re9, ne9, offr, hres⟩ := o9
                subst re9
                subst ne9
                obtain ⟨tb1, tb2, eres⟩ : ∃ t u, orr = { cls := .type "tuple", data := .seq #[.str (Str.ofString "long") t, .int ((pth y.1).length : Int) u] } := by
                  cases hres; exact ⟨_, _, rfl⟩
                subst eres
                k_whole; (try dsimp only)
                repeat ((fail_if_success (with_reducible show wpAny _ _ (compareOp _ _ _) _ _ _)); walk1)
                (with_reducible rename News _ _ _ _ => N5)
                refine ne_tup2 N5 (.head _) (.tail _ (.tail _ (.tail _ (.head _)))) (by first | units_room | ktr_units) (eqs_str _ _ _) (eqs_int hlong _ _) ?_
                k_whole; (try dsimp only)
                repeat ((fail_if_success (with_reducible show UnrEndW _ _ _ _ _ _)); walk1)
                (with_reducible rename News _ _ _ _ => N3)
                (with_reducible rename Fr _ _ _ _ => F3)
                refine endW (X := n2) F3 N3 (fun p hp => ?_) (off_lt hI) ⟨⟨(hcst _ hlsC).1, trivial⟩, ⟨rfl, dn ++ [y], by rw [List.append_assoc]; exact hdn⟩⟩
                simp only [List.mem_cons] at hp ⊢
                rcases hp with h | h <;> simp [h]
            · intro m2 n2 h3 tk3 hp F6 N6
              subst hG
              k_steps
          · exact nS

end
theorem fin.tw17717364068325071970 : True := trivial
theorem fin.tw1450881378762983150 : True := trivial
theorem fin.tw17628183408451194143 : True := trivial
theorem fin.tw14578271805448956485 : True := trivial
theorem fin.tw14728723275428758510 : True := trivial
theorem fin.tw12669758225909598566 : True := trivial
theorem fin.tw15815952407149668801 : True := trivial
theorem fin.tw2976117146107443816 : True := trivial
theorem fin.tw13898374239775968522 : True := trivial
theorem fin.tw3974152918291533672 : True := trivial
theorem fin.tw15144710454662140524 : True := trivial
theorem fin.tw10751089155417173751 : True := trivial
theorem fin.tw14245171486683049214 : True := trivial
theorem fin.tw17164383140453370395 : True := trivial
theorem fin.tw5266742908149448401 : True := trivial
theorem fin.tw11587955951900863698 : True := trivial
theorem fin.tw612862322836996645 : True := trivial
theorem fin.tw14786503066443513839 : True := trivial
theorem fin.tw2415902012162501839 : True := trivial
theorem fin.tw15688172546075569117 : True := trivial
theorem fin.tw18387650150990424433 : True := trivial
theorem fin.tw6127190174262240918 : True := trivial
theorem fin.tw6515953530934532768 : True := trivial
theorem fin.tw7976502392129159676 : True := trivial
theorem fin.tw6634307039904815820 : True := trivial
theorem fin.tw6232080684201472732 : True := trivial
theorem fin.tw10875463905939285979 : True := trivial
theorem fin.tw3810570522144960214 : True := trivial
theorem fin.tw5227809002895711924 : True := trivial
theorem fin.tw9917203430921899224 : True := trivial
theorem fin.tw11151619158091525091 : True := trivial
theorem fin.tw7613857476909055813 : True := trivial
theorem fin.tw480829909506669009 : True := trivial
theorem fin.tw9806666330580929782 : True := trivial
theorem fin.tw8018989035897545986 : True := trivial
theorem fin.tw17416127249078093707 : True := trivial
theorem fin.tw18295790063311454060 : True := trivial
theorem fin.tw6712194924023145494 : True := trivial
theorem fin.tw1249118550022496774 : True := trivial
theorem fin.tw9221430085559818832 : True := trivial
theorem fin.tw12284014389350100970 : True := trivial
theorem fin.tw11039862389202566683 : True := trivial
theorem fin.tw5102460946473063141 : True := trivial
theorem fin.tw6766580051018981234 : True := trivial
theorem fin.tw4868334931027891882 : True := trivial
theorem fin.tw17861066769153400444 : True := trivial
theorem fin.tw8590288500278120515 : True := trivial
theorem fin.tw7249652514872940865 : True := trivial
theorem fin.tw16307707646766795581 : True := trivial
theorem fin.tw6766378078585498003 : True := trivial
theorem fin.tw13162651487661262736 : True := trivial
theorem fin.tw10936777179133785780 : True := trivial
theorem fin.tw17519925290374975397 : True := trivial
theorem fin.tw2512408688544751470 : True := trivial
theorem fin.tw16252508478716706905 : True := trivial
theorem fin.tw12629903358213643309 : True := trivial
theorem fin.tw8577089030196625639 : True := trivial
theorem fin.tw4898026214463823928 : True := trivial
theorem fin.tw2067723777617599883 : True := trivial
theorem fin.tw5196160543931855155 : True := trivial
theorem fin.tw11293339424137598113 : True := trivial
theorem fin.tw2617349483901765261 : True := trivial
theorem fin.tw7779959011674639804 : True := trivial
theorem fin.tw4769821431679368130 : True := trivial
theorem fin.tw15513600669972384820 : True := trivial
theorem fin.tw8656503046869711584 : True := trivial
theorem fin.tw12221555665107904926 : True := trivial
theorem fin.tw10383673109516279431 : True := trivial
theorem fin.tw16285329926789087883 : True := trivial
theorem fin.tw5098551885099359569 : True := trivial
theorem fin.tw783483362715066742 : True := trivial
theorem fin.tw3975253019698251321 : True := trivial
theorem fin.tw2367325634123391141 : True := trivial
theorem fin.tw10007411396671696613 : True := trivial
theorem fin.tw16570786720924097770 : True := trivial
theorem fin.tw12448240930570709186 : True := trivial
theorem fin.tw10907391636593693970 : True := trivial
theorem fin.tw17784850919643140607 : True := trivial
theorem fin.tw12557769604369416430 : True := trivial
theorem fin.tw16906536467411238026 : True := trivial
theorem fin.tw2866121171748074186 : True := trivial
theorem fin.tw4171678462856256454 : True := trivial
theorem fin.tw9001875181463519149 : True := trivial
theorem fin.tw10147658903529517814 : True := trivial
theorem fin.tw9735714214384596553 : True := trivial
theorem fin.tw888132650186811988 : True := trivial
theorem fin.tw14345562132136545540 : True := trivial
theorem fin.tw8569027658895312972 : True := trivial
theorem fin.tw16103849850496634939 : True := trivial
theorem fin.tw1119023414466610511 : True := trivial
theorem fin.tw5678346346211369953 : True := trivial
theorem fin.tw13177410634674063896 : True := trivial
theorem fin.tw4218790737952374519 : True := trivial
theorem fin.tw803859442106103436 : True := trivial
theorem fin.tw10891054232620793217 : True := trivial
theorem fin.tw12356021495744459628 : True := trivial
theorem fin.tw8269367382603917829 : True := trivial
theorem fin.tw15989303212955285315 : True := trivial
theorem fin.tw884059145510264010 : True := trivial
theorem fin.tw4613182775407389354 : True := trivial
theorem fin.tw13790858721211988464 : True := trivial
theorem fin.tw14574801432027512755 : True := trivial
theorem fin.tw16407147864228438881 : True := trivial
theorem fin.tw2910385600587045654 : True := trivial
theorem fin.tw15741700470354863883 : True := trivial
theorem fin.tw4768634762848416435 : True := trivial
theorem fin.tw12291753297600562012 : True := trivial
theorem fin.tw891787732878383699 : True := trivial
theorem fin.tw15566928917628492161 : True := trivial
theorem fin.tw5796354222422608987 : True := trivial
theorem fin.tw17963964198891936676 : True := trivial
theorem fin.tw3456623496861543869 : True := trivial
theorem fin.tw999798209818781672 : True := trivial
theorem fin.tw6968583824967984638 : True := trivial
theorem fin.tw11607805686811502034 : True := trivial
theorem fin.tw13093503161671486093 : True := trivial
theorem fin.tw12494888245299231016 : True := trivial
theorem fin.tw9218923581257491847 : True := trivial
theorem fin.tw17570709534508481193 : True := trivial
theorem fin.tw1535588207084551279 : True := trivial
theorem fin.tw10220463501109746218 : True := trivial
theorem fin.tw13021059552284102479 : True := trivial
theorem fin.tw10895054467252067526 : True := trivial
theorem fin.tw1252854909445205041 : True := trivial
theorem fin.tw13360279666012451719 : True := trivial
theorem fin.tw3029852977388229646 : True := trivial
theorem fin.tw7470013935711676318 : True := trivial
theorem fin.tw16530489862217454893 : True := trivial
theorem fin.tw15533503492667675913 : True := trivial
theorem fin.tw111200028466390044 : True := trivial
theorem fin.tw12550770813317053977 : True := trivial
theorem fin.tw17132207802985990308 : True := trivial
theorem fin.tw895571856199123645 : True := trivial
theorem fin.tw5734618986648460908 : True := trivial
theorem fin.tw17974384156558142227 : True := trivial
theorem fin.tw6707113841082798463 : True := trivial
theorem fin.tw11575174756993882273 : True := trivial
theorem fin.tw15564276425815640635 : True := trivial
theorem fin.tw8025084765662995669 : True := trivial
theorem fin.tw12847644182280273618 : True := trivial
theorem fin.tw6577878126316647860 : True := trivial
theorem fin.tw10098057777631523497 : True := trivial
theorem fin.tw15942684835789789487 : True := trivial
theorem fin.tw2775396313129547428 : True := trivial
theorem fin.tw17971676594858020690 : True := trivial
theorem fin.tw8331973007464152698 : True := trivial
theorem fin.tw18230178534529381785 : True := trivial
theorem fin.tw6454446336052903152 : True := trivial
theorem fin.tw15832999045522443761 : True := trivial
theorem fin.tw15234240111613058569 : True := trivial
theorem fin.tw17637551073024348614 : True := trivial
theorem fin.tw12946824338688289833 : True := trivial
theorem fin.tw13724452099449386491 : True := trivial
theorem fin.tw3998398428148030388 : True := trivial
theorem fin.tw17512474026176034454 : True := trivial
theorem fin.tw11414674201277728305 : True := trivial
theorem fin.tw807531904560671035 : True := trivial
theorem fin.tw4443050520305737185 : True := trivial
theorem fin.tw17260493314774615805 : True := trivial
theorem fin.tw10671828304227620169 : True := trivial
theorem fin.tw10242451874928486539 : True := trivial
theorem fin.tw2305881189932309285 : True := trivial
theorem fin.tw7522001649326652513 : True := trivial
theorem fin.tw10925335251469727208 : True := trivial
theorem fin.tw4598667867955821814 : True := trivial
theorem fin.tw8383268338085895543 : True := trivial
theorem fin.tw6567050819087999508 : True := trivial
theorem fin.tw12355744275394475900 : True := trivial
theorem fin.tw7896819004226892074 : True := trivial
theorem fin.tw13337293482115323266 : True := trivial
theorem fin.tw17933470926392208243 : True := trivial
theorem fin.tw16196181902256332553 : True := trivial
theorem fin.tw3343445320678177929 : True := trivial
theorem fin.tw1903866087469309809 : True := trivial
theorem fin.tw3222278782482380304 : True := trivial
theorem fin.tw757079261281740938 : True := trivial
theorem fin.tw12996517811204074000 : True := trivial
theorem fin.tw3028926083550364057 : True := trivial
theorem fin.tw11192643925408225281 : True := trivial
theorem fin.tw2608567993692976607 : True := trivial
theorem fin.tw8668149382578428375 : True := trivial
theorem fin.tw9725021084223525626 : True := trivial
theorem fin.tw5402249366112354979 : True := trivial
theorem fin.tw1397303283331804279 : True := trivial
theorem fin.tw1635022588487117616 : True := trivial
theorem fin.tw9610726530385051774 : True := trivial
theorem fin.tw16269368082590959529 : True := trivial
theorem fin.tw11154830654865731599 : True := trivial
theorem fin.tw4209717502836232480 : True := trivial
theorem fin.tw4719063310657182621 : True := trivial
theorem fin.tw12833947400113492166 : True := trivial
theorem fin.tw17067295170570645592 : True := trivial
theorem fin.tw500868675978126160 : True := trivial
theorem fin.tw12829507556594621215 : True := trivial
theorem fin.tw14210890002308233579 : True := trivial
theorem fin.tw16205109500356779066 : True := trivial
theorem fin.tw9372411801196044982 : True := trivial
theorem fin.tw12105171945263650130 : True := trivial
theorem fin.tw1350296273916458551 : True := trivial
theorem fin.tw1422313219903470601 : True := trivial
theorem fin.tw12409915417874342407 : True := trivial
theorem fin.tw6388184931127306564 : True := trivial
theorem fin.tw7930893340574950883 : True := trivial
theorem fin.tw15344004072050561172 : True := trivial
theorem fin.tw17698704350827878285 : True := trivial
theorem fin.tw12494633076269960713 : True := trivial
theorem fin.tw10829458402184033698 : True := trivial
theorem fin.tw17430205856086898164 : True := trivial
theorem fin.tw14347400895652799225 : True := trivial
theorem fin.tw2671655128345628175 : True := trivial
theorem fin.tw6341822008880759003 : True := trivial
theorem fin.tw16175276709679454751 : True := trivial
theorem fin.tw670465573061467203 : True := trivial
theorem fin.tw3263211703599914710 : True := trivial
theorem fin.tw12876116671307685997 : True := trivial
theorem fin.tw16115155874713506467 : True := trivial
theorem fin.tw1963134401048803436 : True := trivial
theorem fin.tw3268265519342814607 : True := trivial
theorem fin.tw1014637456484912126 : True := trivial
theorem fin.tw16510490156224867327 : True := trivial
theorem fin.tw1819255440876223710 : True := trivial
theorem fin.tw4788878847521262168 : True := trivial
theorem fin.tw15309079848183770524 : True := trivial
theorem fin.tw2321816554428607280 : True := trivial
theorem fin.tw12180539936304867106 : True := trivial
theorem fin.tw15373703851562958014 : True := trivial
theorem fin.tw13158425560686309300 : True := trivial
theorem fin.tw7995362448368537469 : True := trivial
theorem fin.tw3199103547748192838 : True := trivial
theorem fin.tw14431720936831517352 : True := trivial
theorem fin.tw846297522682114974 : True := trivial
theorem fin.tw16889484823980962733 : True := trivial
theorem fin.tw12392709999904029283 : True := trivial
theorem fin.tw2462912638960843985 : True := trivial
theorem fin.tw1666694428299288667 : True := trivial
theorem fin.tw16109372258727991565 : True := trivial
theorem fin.tw8408514402456403777 : True := trivial
theorem fin.tw744865244796547220 : True := trivial
theorem fin.tw6531376189190222733 : True := trivial
theorem fin.tw333583748066197110 : True := trivial
theorem fin.tw5073790198343104882 : True := trivial
theorem fin.tw18195182924450695511 : True := trivial
theorem fin.tw7684487725183542926 : True := trivial
theorem fin.tw3112429581023547943 : True := trivial
theorem fin.tw7890596953891613788 : True := trivial
theorem fin.tw1951045429614898598 : True := trivial
theorem fin.tw452842511749404161 : True := trivial
theorem fin.tw11273041486466551846 : True := trivial
theorem fin.tw3004984022683251337 : True := trivial
theorem fin.tw12347537446847802165 : True := trivial
theorem fin.tw5901363791540438844 : True := trivial
theorem fin.tw14075178694198228753 : True := trivial
theorem fin.tw17041991840579044601 : True := trivial
theorem fin.tw6718411051458867188 : True := trivial
theorem fin.tw4424551920762525699 : True := trivial
theorem fin.tw18373065035072037172 : True := trivial
theorem fin.tw4759752924163587094 : True := trivial
theorem fin.tw14560573928864763818 : True := trivial
theorem fin.tw1976505206021243879 : True := trivial
theorem fin.tw16256441300576474876 : True := trivial
theorem fin.tw7451905468542833597 : True := trivial
theorem fin.tw5776136370200156792 : True := trivial
theorem fin.tw10807920368746810246 : True := trivial
theorem fin.tw1921391257341544841 : True := trivial
theorem fin.tw10391319463526535247 : True := trivial
theorem fin.tw8416529770105884409 : True := trivial
theorem fin.tw7321584467024264148 : True := trivial
theorem fin.tw17123178472405020103 : True := trivial
theorem fin.tw216489041496292469 : True := trivial
theorem fin.tw12977279227502587607 : True := trivial
theorem fin.tw3810338749695602999 : True := trivial
theorem fin.tw1613116972386908190 : True := trivial
theorem fin.tw9722632081671974098 : True := trivial
theorem fin.tw15205425988870721313 : True := trivial
theorem fin.tw12962497063298326498 : True := trivial
theorem fin.tw17130245016438642246 : True := trivial
theorem fin.tw15830942623838425631 : True := trivial
theorem fin.tw9746901515087519452 : True := trivial
theorem fin.tw17347454772498655404 : True := trivial
theorem fin.tw13929302177132474383 : True := trivial
theorem fin.tw6295955727852119378 : True := trivial
theorem fin.tw13066358836101814915 : True := trivial
theorem fin.tw12567809125941998234 : True := trivial
theorem fin.tw11112386831996348380 : True := trivial
theorem fin.tw2236755162388048479 : True := trivial
theorem fin.tw9113340658982188547 : True := trivial
theorem fin.tw12809788781938459499 : True := trivial
theorem fin.tw3827041629858089107 : True := trivial
theorem fin.tw10234915967203826555 : True := trivial
theorem fin.tw16656299143469825513 : True := trivial
theorem fin.tw1560641971993327685 : True := trivial
theorem fin.tw13814004702073501669 : True := trivial
theorem fin.tw5962627729488381771 : True := trivial
theorem fin.tw1080700006314346644 : True := trivial
theorem fin.tw6144012678527597917 : True := trivial
theorem fin.tw12740692763255036000 : True := trivial
theorem fin.tw12711679700452659978 : True := trivial
theorem fin.tw2304379251839397102 : True := trivial
theorem fin.tw17821466097196317003 : True := trivial
theorem fin.tw13294311002278339166 : True := trivial
theorem fin.tw6878024787957991413 : True := trivial
theorem fin.tw10852849658779182186 : True := trivial
theorem fin.tw5011121235533021005 : True := trivial
theorem fin.tw8352470293576582857 : True := trivial
theorem fin.tw4921650346584611732 : True := trivial
theorem fin.tw11061592194353771069 : True := trivial
theorem fin.tw11454252539852477091 : True := trivial
theorem fin.tw3459265974087741279 : True := trivial
theorem fin.tw6956187926921108005 : True := trivial
theorem fin.tw9913140749668108558 : True := trivial
theorem fin.tw7380833856163905736 : True := trivial
theorem fin.tw8289400949097046189 : True := trivial
theorem fin.tw5647864574477489665 : True := trivial
theorem fin.tw4570111826955561243 : True := trivial
theorem fin.tw1088692219920020602 : True := trivial
theorem fin.tw380778119907437045 : True := trivial
theorem fin.tw16934629359412608497 : True := trivial
theorem fin.tw6650461044873433052 : True := trivial
theorem fin.tw8399098705505230059 : True := trivial
theorem fin.tw4754365596532378047 : True := trivial
theorem fin.tw7055459427971326715 : True := trivial
theorem fin.tw11298980531735778240 : True := trivial
theorem fin.tw7675655780812522254 : True := trivial
theorem fin.tw11897717083992391400 : True := trivial
theorem fin.tw3857263333814641470 : True := trivial
theorem fin.tw3762306804915933987 : True := trivial
theorem fin.tw9839346839192117915 : True := trivial
theorem fin.tw4684940682943077961 : True := trivial
theorem fin.tw9746214513668125432 : True := trivial
theorem fin.tw3404873503106905745 : True := trivial
theorem fin.tw9260378047223084069 : True := trivial
theorem fin.tw3105451386036433885 : True := trivial
theorem fin.tw18255404467826089762 : True := trivial
theorem fin.tw6081921254191324426 : True := trivial
theorem fin.tw14541005305830221311 : True := trivial
theorem fin.tw12876064707754696378 : True := trivial
theorem fin.tw428092273266315144 : True := trivial
theorem fin.tw6323506392446703087 : True := trivial
theorem fin.tw15621619335703214680 : True := trivial
theorem fin.tw16401934584784274106 : True := trivial
theorem fin.tw2656788454239962097 : True := trivial
theorem fin.tw10070804522480449196 : True := trivial
theorem fin.tw6068950659093879613 : True := trivial
theorem fin.tw14497727239971306367 : True := trivial
theorem fin.tw7830629276484211593 : True := trivial
theorem fin.tw5320702786494000081 : True := trivial
theorem fin.tw3812028171767442716 : True := trivial
theorem fin.tw6207176494656529804 : True := trivial
theorem fin.tw11336253725339858928 : True := trivial
theorem fin.tw6548487228075310757 : True := trivial
theorem fin.tw4265850918314828415 : True := trivial
theorem fin.tw12464766053444552404 : True := trivial
theorem fin.tw18164189302063226315 : True := trivial
theorem fin.tw14568449535678555946 : True := trivial
theorem fin.tw3506512066687448480 : True := trivial
theorem fin.tw13383306551100868464 : True := trivial
theorem fin.tw13516622038369049944 : True := trivial
theorem fin.tw7929640520542984453 : True := trivial
theorem fin.tw8947099994592609211 : True := trivial
theorem fin.tw10874316729293906858 : True := trivial
theorem fin.tw2316539691658765527 : True := trivial
theorem fin.tw6498334528663615478 : True := trivial
theorem fin.tw15201286185872193147 : True := trivial
theorem fin.tw16540275574145912595 : True := trivial
theorem fin.tw12141802397888321627 : True := trivial
theorem fin.tw9939532083992894404 : True := trivial
theorem fin.tw6455845175183424153 : True := trivial
theorem fin.tw14856888987745899463 : True := trivial
theorem fin.tw7282745182861764756 : True := trivial
theorem fin.tw18105285910621931680 : True := trivial
theorem fin.tw14109310954907245088 : True := trivial
theorem fin.tw10511823565363050587 : True := trivial
theorem fin.tw4170516301191304579 : True := trivial
theorem fin.tw3173534031939492945 : True := trivial
theorem fin.tw9357874355931990178 : True := trivial
theorem fin.tw1035503724928835527 : True := trivial
theorem fin.tw8330952907988395303 : True := trivial
theorem fin.tw17743408960866722510 : True := trivial
theorem fin.tw3592197515014444004 : True := trivial
theorem fin.tw9247658263007524724 : True := trivial
theorem fin.tw4878226113927451544 : True := trivial
theorem fin.tw1012361349325877821 : True := trivial
theorem fin.tw17186005699333237546 : True := trivial
theorem fin.tw8281523328739849912 : True := trivial
theorem fin.tw6474043946942992101 : True := trivial
theorem fin.tw7613945582906998725 : True := trivial
theorem fin.tw4162185377826839926 : True := trivial
theorem fin.tw7000300075881102575 : True := trivial
theorem fin.tw9544026089342320630 : True := trivial
theorem fin.tw3599858809825778643 : True := trivial
theorem fin.tw4312942655851389009 : True := trivial
theorem fin.tw13925877587632400325 : True := trivial
theorem fin.tw8559517257967667466 : True := trivial
theorem fin.tw5115476493328737885 : True := trivial
theorem fin.tw12237877928780879103 : True := trivial
theorem fin.tw12932903420030652473 : True := trivial
theorem fin.tw982560976839675504 : True := trivial
theorem fin.tw13870153662132920491 : True := trivial
theorem fin.tw14279960228734115912 : True := trivial
theorem fin.tw11936995450923721628 : True := trivial
theorem fin.tw16275787546110486726 : True := trivial
theorem fin.tw12649782002744950493 : True := trivial
theorem fin.tw14838103818555229697 : True := trivial
theorem fin.tw1909631409943697231 : True := trivial
theorem fin.tw17204297501091165112 : True := trivial
theorem fin.tw5805905742469029177 : True := trivial
theorem fin.tw10599938827571368224 : True := trivial
theorem fin.tw16229209127682248589 : True := trivial
theorem fin.tw18082680734076937219 : True := trivial
theorem fin.tw6289197191216398940 : True := trivial
theorem fin.tw2789213428527533208 : True := trivial
theorem fin.tw12696600883282566439 : True := trivial
theorem fin.tw16496857829328116044 : True := trivial
theorem fin.tw6058378993454661626 : True := trivial
theorem fin.tw17719728818120068181 : True := trivial
theorem fin.tw11277574374343807151 : True := trivial
theorem fin.tw4588413851689716618 : True := trivial
theorem fin.tw15459455144867644326 : True := trivial
theorem fin.tw5697329851534765875 : True := trivial
theorem fin.tw15583698165555649274 : True := trivial
set_option Elab.async true in
theorem fin : PySem.Challenge.rw_on0068_01.Holds := by
  w_on; o_law; o_head (kHook hd0.heap_1 AD adOk)
  (case hw => w_witness2)
  exact walk _ _ rfl
end Mine
theorem PySem.Challenge.cw_on0068_01_holds : PySem.Challenge.rw_on0068_01.Holds := by
  exact Mine.fin
