import PyProof.Rows.All
import Wide.All
import OpenK.AllK
import Wide.FinOn
import PySem.Challenge.RW_np0034_01
open PySem PySem.W PyProof.Rows
set_option Elab.async false
set_option linter.all false
set_option compiler.extract_closed false
set_option genSizeOf false
set_option genInjectivity false
set_option maxRecDepth 100000
set_option maxHeartbeats 8000000
namespace Mine
local macro_rules | `(tactic| omega) => `(tactic| lia)
noncomputable abbrev kp : List Nat := [0,2,3,5,6,7,8,9,10,11,12,13,14,16,17,19,20,21,22,23,24]
noncomputable def qv : Program := PySem.W.view PySem.Challenge.pw_np0034_01 kp
/-- the top's run, from the booted heap -/
noncomputable def ran (run : (String → Option Builtin) → Program → World → Nat → Option Value → Nat → Shared → Thread → Option Shared) (tb : String → Option Builtin) (p : Program) (w : World) (os : OsState) : Option Shared :=
  match (boot_heap w.params).isNs mainGlobals && (Array.mk [] : Array GenState).size == 0 with
  | true => (run tb p w (boot_heap w.params).objs.size ((boot_heap w.params).nsMap mainGlobals "__annotations__") 3238 ⟨boot_heap w.params, Array.mk [], boot_drawn, boot_toks, os⟩ (topStub p)).bind fun s₁ => match staticsOk (importedModules p.main.body) (boot_heap w.params) s₁.heap && namesBound p s₁.heap && gensDone s₁ && laidKept (boot_heap w.params) s₁.heap with
      | true => some s₁
      | false => none
  | false => none
noncomputable def big {β : Type} (gd : Program → List Str → β) (run : (String → Option Builtin) → Program → World → Nat → Option Value → Nat → Shared → Thread → Option Shared) (tb : String → Option Builtin) (p : Program)
    (sn : Program → List Str → List Str → (Shared → Bool) → Bool → Shared → β) (Xt : Program → Shared → Bool) : Prop :=
  ∀ (w : World) (os : OsState), (ran run tb p w os).map (fun s => sn (view p kp) [] (importedModules p.main.body) (Xt p) true s) = some (gd (view p kp) [])
noncomputable def big2 (run : (String → Option Builtin) → Program → World → Nat → Option Value → Nat → Shared → Thread → Option Shared) (tb : String → Option Builtin) (p : Program) {α : Type} (Yf : Shared → α) (Ya : World → α) : Prop :=
  ∀ (w : World) (os : OsState), (ran run tb p w os).map Yf = some (Ya w)
theorem left_of {p : Program} {Xt : Program → Shared → Bool} {α : Type} {Yf : Shared → α} {Ya : World → α}
    (e : opening p = plainProg p.main.scope.names) (f : ∀ s, fenceModules? p s = some s)
    (h : big openGood topRun treeTable p openSeen Xt) (h2 : big2 topRun treeTable p Yf Ya) : LeftO p (view p kp) [] (Xt p) Yf Ya 3238 true := fun w => by
  obtain ⟨⟨hh, gs, d, k, os⟩, e, e'⟩ := Option.map_eq_some_iff.mp (boot_open (N := 3238) e rfl f w)
  obtain ⟨rfl, rfl, rfl, rfl⟩ : hh = boot_heap w.params ∧ gs = Array.mk [] ∧ d = boot_drawn ∧ k = boot_toks := by simpa using e'
  obtain ⟨s, a, b⟩ := Option.map_eq_some_iff.mp (h w os)
  obtain ⟨s', a', b'⟩ := Option.map_eq_some_iff.mp (h2 w os)
  cases a.symm.trans a'
  unfold openEnds
  rw [e]
  show (ran topRun treeTable p w os).map _ = _
  rw [a]
  exact congrArg some (Prod.ext b b')
theorem said : OpenLaw.wellSaid PySem.Challenge.rw_np0034_01 = true := by
  delta OpenLaw.wellSaid OpenRow.wellSaid OpenRow.partSaid looksOpen
  repeat' with_reducible refine look_both ?_ ?_
  all_goals decide +kernel
theorem pre (h : PySem.Challenge.rw_np0034_01.row.wellSaid = true → PySem.Challenge.rw_np0034_01.row.Holds) : PySem.Challenge.rw_np0034_01.Holds := holds_law said h
theorem seenL : big openGood Fast.tw14082659384304107361 Fast.tw14364793385576792824 PySem.Challenge.pw_np0034_01 Fast.tw4187177175401517315 (fun p s => xlAt (view p kp) [] s && recOk [] s) := fun w os => by kernel_rfl
local macro_rules | `(tactic| o_law) => `(tactic| refine pre fun said => ?_)
set_option hygiene false in
local macro_rules | `(tactic| o_head $H) => `(tactic| (
   refine holds_open (q := qv) (loose := []) (Xt := fun s => xlAt qv [] s && recOk (RowW.records PySem.Challenge.rw_np0034_01.row.toRowW) s) (XP := XL qv []) (Yf := Hook.obs $H) (Ya := Hook.val $H) (YP := Hook.says $H) (N := 3238) ?hl (Hook.of $H) (Hook.keeps $H) (fun s e => xl_of s (Bool.and_eq_true_iff.mp e).1) XL.keeps (by rfl) (by rfl) (by rfl) (fun s e => recFacts_of (Bool.and_eq_true_iff.mp e).2) (by first | rfl | fail "A") (by first | assumption | decide +kernel) (by decide +kernel) ⟨rfl, rfl, rfl, rfl, rfl, by decide +kernel⟩ ?hw ?hc
   case hl =>
     have z : big openGood Fast.tw14082659384304107361 Fast.tw14364793385576792824 PySem.Challenge.pw_np0034_01 Fast.tw4187177175401517315 (fun p s => xlAt (view p kp) [] s && recOk [] s) := seenL
     have z2 : big2 Fast.tw14082659384304107361 Fast.tw14364793385576792824 PySem.Challenge.pw_np0034_01 (Hook.obs $H) (Hook.val $H) := fun w os => by kernel_rfl
     rw [← Fast.te14082659384304107361, ← Fast.te14364793385576792824, ← Fast.te4187177175401517315] at z
     rw [← Fast.te14082659384304107361, ← Fast.te14364793385576792824] at z2
     exact left_of (Xt := fun p s => xlAt (view p kp) [] s && recOk [] s) rfl (fun _ => rfl) z z2))
open_top hd for PySem.Challenge.rw_np0034_01
open PySem.Calls PyProof.V PySem.Spec
noncomputable def Cal (w : World) (mean : ExcName → Option Value) (mg mb : Str → Option Value) (f : Addr) (args : List Value) (cost : Nat) (news : List (Addr × Obj)) (R : Value → List (Addr × Obj) → Prop) : Prop :=
  ∀ (dp un : Nat) (gd : Option (List Code)) (cn : Str) (cs : Scope) (a : Addr) (ccd : Value) (cl : List (Str × Addr)) (outer : List Env) (A₀ : Around) (base h₀ : Heap) (L : Addr) (m : Str → Option Value) (s : Shared) (Q E : Value → Shared → Prop),
    Below A₀ base outer h₀ → Fr h₀ L s.heap m → (hd.heap_1 w.params).In h₀ → News h₀ L s.heap news → Top qv (looseW qv []) mean mg mb h₀ → cs.kind = .function →
    dp + 10 * cost < 900 → un + 50 * cost < 9000 →
    (∀ r news' h' tk', Fr h₀ L h' m → News h₀ L h' news' → R r news' → Q r { s with heap := h', toks := tk' }) →
    wpAny (model PySem.Challenge.rw_np0034_01.row.prog w) (ktrTop dp un gd cn cs L a ccd cl outer) (call (.ref f) args) Q E s
theorem news_sub {h₀ h : Heap} {L : Addr} {l l' : List (Addr × Obj)} (N : News h₀ L h l) (hs : ∀ p ∈ l', p ∈ l) : News h₀ L h l' := fun p hp => N p (hs p hp)
section
variable {prog : Program} {w : World} {A : Around} {E : Value → Shared → Prop} {s : Shared} {h₀ h : Heap} {L D l : Addr} {m : Str → Option Value} {news news' : List (Addr × Obj)}
theorem isList_of {vs : Array Value} {n : Nat} (N : News h₀ L h news) (hm : (l, listOf vs n) ∈ news) : h.IsList l vs := PySem.IsL.isList (n := n) (N _ hm).1
theorem my_item {value slice : PySem.Expr} {vs : List Value} {n : Nat} {k : Int} {u : Tok} {v : Value} {Q : Value → Shared → Prop} (N : News h₀ L s.heap news) (hm : (l, listOf vs.toArray n) ∈ news) (h0 : 0 ≤ k) (hfit : k < 2 ^ 63) (hx : vs[k.toNat]? = some v) (h : Q v s)
    (hs : subscripted slice false (.ref l) (.int k u) = operate [.ref l, .int k u] (getItem (.ref l) (.int k u)) := by with_unfolding_all rfl) :
    wpAny (model prog w) A (subscriptTail value slice (.ref l) (.int k u)) Q E s :=
  have hL := isList_of N hm
  tail_any hL.typeIs slot_list_getitem.lookup (wpAny_getItem_list hL h0 hfit (by simpa using hx) h) hs
theorem my_last {value slice : PySem.Expr} {vs : List Value} {n : Nat} {u : Tok} {v : Value} {Q : Value → Shared → Prop} (N : News h₀ L s.heap news) (hm : (l, listOf vs.toArray n) ∈ news) (hx : vs.getLast? = some v) (h : Q v s)
    (hs : subscripted slice false (.ref l) (.int (-1) u) = operate [.ref l, .int (-1) u] (getItem (.ref l) (.int (-1) u)) := by with_unfolding_all rfl) :
    wpAny (model prog w) A (subscriptTail value slice (.ref l) (.int (-1) u)) Q E s := by
  have hL := isList_of N hm
  have hne : 0 < vs.length := by cases vs with | nil => simp at hx | cons _ _ => simp
  refine tail_any hL.typeIs slot_list_getitem.lookup (wpAny_getItem_list_neg hL (by decide) (by simp; omega) (by decide) ?_ h) hs
  rw [List.getLast?_eq_getElem?] at hx
  rw [← hx]
  have e : ((-1 : Int) + (vs.toArray.size : Nat)).toNat = vs.length - 1 := by simp; omega
  rw [e]; simp
theorem my_set {vs : List Value} {n : Nat} {k : Int} {t : Tok} {v : Value} {Q : Unit → Shared → Prop} (F : Fr h₀ L s.heap m) (N : News h₀ L s.heap news) (U : Upd D (listOf vs.toArray n) (listOf (vs.set k.toNat v).toArray n) news news') (h0 : 0 ≤ k) (h1 : k < vs.length) (hfit : k < 2 ^ 63)
    (h : ∀ h', Fr h₀ L h' m → News h₀ L h' news' → Q () { s with heap := h' }) :
    wpAny (model prog w) A (setItem (.ref D) (.int k t) v) Q E s := by
  obtain ⟨pre, post, rfl, rfl, a, b⟩ := U.split
  have z := N (D, listOf vs.toArray n) (List.mem_append.mpr (.inr (.head _)))
  refine ki_setAt z.1 h0 hfit (by simpa using h1) (h _ (F.change (Heap.SameBut.update ..) z.2.1 z.2.2) (ki_turn _ N a b ?_ ?_))
  · show vs.toArray.setIfInBounds k.toNat v = (vs.set k.toNat v).toArray
    apply Array.toList_inj.mp
    simp
  · simp
theorem my_setLast {vs : List Value} {n : Nat} {t : Tok} {v : Value} {Q : Unit → Shared → Prop} (F : Fr h₀ L s.heap m) (N : News h₀ L s.heap news) (U : Upd D (listOf vs.toArray n) (listOf (vs.set (vs.length - 1) v).toArray n) news news') (h1 : 0 < vs.length)
    (h : ∀ h', Fr h₀ L h' m → News h₀ L h' news' → Q () { s with heap := h' }) :
    wpAny (model prog w) A (setItem (.ref D) (.int (-1) t) v) Q E s := by
  obtain ⟨pre, post, rfl, rfl, a, b⟩ := U.split
  have z := N (D, listOf vs.toArray n) (List.mem_append.mpr (.inr (.head _)))
  have e : ((-1 : Int) + (vs.toArray.size : Nat)).toNat = vs.length - 1 := by simp; omega
  refine ki_setBack z.1 (by decide) (by simp; omega) (by decide) (h _ (F.change (Heap.SameBut.update ..) z.2.1 z.2.2) (ki_turn _ N a b ?_ ?_))
  · show vs.toArray.setIfInBounds ((-1 : Int) + (vs.toArray.size : Nat)).toNat v = (vs.set (vs.length - 1) v).toArray
    rw [e]
    apply Array.toList_inj.mp
    simp
  · simp
theorem my_pop0 {x : Value} {r : List Value} {n : Nat} {u : Tok} {Q : Value → Shared → Prop} (F : Fr h₀ L s.heap m) (N : News h₀ L s.heap news) (U : Upd D (listOf (x :: r).toArray n) (listOf r.toArray (n + 1)) news news')
    (hz : r.length < sizeLine) (h : ∀ h', Fr h₀ L h' m → News h₀ L h' news' → Q x { s with heap := h' }) : wpAny (model prog w) A (call (.builtin "list.pop") [.ref D, .int 0 u]) Q E s :=
  kl_popAt (k := 0) (p := []) (q := r) (y := x) F N rfl (by simp [seqIndex?]) (by simp [kl_cut]) U (by simp; omega) h
end
@[reducible] noncomputable def KK (w : World) : Frag := hd.heap_1 w.params
noncomputable abbrev prg : Program := PySem.Challenge.rw_np0034_01.row.prog
inductive V where
  | undef | none | bool (b : Bool) | int (i : Int) | str (x : Str) | ref (a : Nat)
  | tup (l : List V) | lst (l : List V) | obj (C : Nat) (fs : List (Str × V)) | val (v : Value) | rng (b : Int) | pin (v : Value) (x : V)
inductive O where
  | list (l : List V) | inst (C d : Nat) | dict (fs : List (Str × V)) | dct (w : World) (fs : List (Str × V))
noncomputable abbrev Loc := List (Str × V)
noncomputable abbrev Hp := List (Nat × O)
mutual
inductive Rep (F : Addr → Obj → Prop) : Value → V → Prop
  | undef (v : Value) : Rep F v .undef
  | none : Rep F .none .none
  | bool (b : Bool) : Rep F (.bool b) (.bool b)
  | int (i : Int) (t : Tok) : Rep F (.int i t) (.int i)
  | str (x : Str) (t : Tok) : Rep F (.str x t) (.str x)
  | ref (a : Nat) : Rep F (.ref a) (.ref a)
  | tup {a : Addr} {vs : List Value} {n : Nat} {d : Option Addr} {sl : Array (Option Value)} {l : List V} : F a { cls := .type "tuple", dict := d, data := .seq vs.toArray n, slots := sl } → RepL F vs l → Rep F (.ref a) (.tup l)
  | lst {a : Addr} {vs : List Value} {n : Nat} {l : List V} : F a (listOf vs.toArray n) → RepL F vs l → Rep F (.ref a) (.lst l)
  | obj {a d : Addr} {C : Nat} {es : List DictEntry} {n : Nat} {fs : List (Str × V)} : (fs.map (·.1)).Nodup → F a (instObj C d) → F d (dictOf es n) → RepD F es fs → Rep F (.ref a) (.obj C fs)
  | val (v : Value) : Rep F v (.val v)
  | rng {a : Addr} {b : Int} {t u v : Tok} : F a { cls := .type "range", data := .fields #[.int 0 t, .int b u, .int 1 v] } → Rep F (.ref a) (.rng b)
  | pin {v : Value} {x : V} : Rep F v x → Rep F v (.pin v x)
inductive RepL (F : Addr → Obj → Prop) : List Value → List V → Prop
  | nil : RepL F [] []
  | cons {v : Value} {vs : List Value} {x : V} {l : List V} : Rep F v x → RepL F vs l → RepL F (v :: vs) (x :: l)
inductive RepD (F : Addr → Obj → Prop) : List DictEntry → List (Str × V) → Prop
  | nil : RepD F [] []
  | cons {hs : Int} {k : Str} {t : Tok} {v : Value} {es : List DictEntry} {x : V} {fs : List (Str × V)} : Rep F v x → RepD F es fs → RepD F (⟨hs, .str k t, v⟩ :: es) ((k, x) :: fs)
end
section
variable {F G : Addr → Obj → Prop} (hs : ∀ a o, F a o → G a o)
include hs
theorem Rep.mono {v : Value} {x : V} (h : Rep F v x) : Rep G v x :=
  Rep.rec (motive_1 := fun v x _ => Rep G v x) (motive_2 := fun vs l _ => RepL G vs l) (motive_3 := fun es fs _ => RepD G es fs)
    .undef .none .bool .int .str .ref (fun h _ r => .tup (hs _ _ h) r) (fun h _ r => .lst (hs _ _ h) r) (fun q h k _ r => .obj q (hs _ _ h) (hs _ _ k) r) .val (fun h => .rng (hs _ _ h)) (fun _ r => .pin r)
    .nil (fun _ _ p q => .cons p q) .nil (fun _ _ p q => .cons p q) h
theorem RepL.mono {vs : List Value} {l : List V} (h : RepL F vs l) : RepL G vs l :=
  RepL.rec (motive_1 := fun _ _ _ => True) (motive_2 := fun vs l _ => RepL G vs l) (motive_3 := fun _ _ _ => True)
    (fun _ => trivial) trivial (fun _ => trivial) (fun _ _ => trivial) (fun _ _ => trivial) (fun _ => trivial) (fun _ _ _ => trivial) (fun _ _ _ => trivial) (fun _ _ _ _ _ => trivial) (fun _ => trivial) (fun _ => trivial) (fun _ _ => trivial)
    .nil (fun p _ _ q => .cons (p.mono hs) q) trivial (fun _ _ _ _ => trivial) h
theorem RepD.mono {es : List DictEntry} {fs : List (Str × V)} (h : RepD F es fs) : RepD G es fs :=
  RepD.rec (motive_1 := fun _ _ _ => True) (motive_2 := fun _ _ _ => True) (motive_3 := fun es fs _ => RepD G es fs)
    (fun _ => trivial) trivial (fun _ => trivial) (fun _ _ => trivial) (fun _ _ => trivial) (fun _ => trivial) (fun _ _ _ => trivial) (fun _ _ _ => trivial) (fun _ _ _ _ _ => trivial) (fun _ => trivial) (fun _ => trivial) (fun _ _ => trivial)
    trivial (fun _ _ _ _ => trivial) .nil (fun p _ _ q => .cons (p.mono hs) q) h
end
theorem ws_s {n : Nat} {ws : List Value} (h : ws.length = n + 1) : ∃ a r, ws = a :: r ∧ r.length = n :=
  List.casesOn (motive := fun ws => ws.length = n + 1 → ∃ a r, ws = a :: r ∧ r.length = n) ws (fun h => absurd h (Nat.succ_ne_zero n).symm) (fun a r h => ⟨a, r, rfl, Nat.succ.inj h⟩) h
theorem ws1 {ws : List Value} (h : ws.length = 1) : ∃ a, ws = [a] := let ⟨a, _, e, h⟩ := ws_s h; ⟨a, e.trans (congrArg _ (List.eq_nil_of_length_eq_zero h))⟩
theorem ws2 {ws : List Value} (h : ws.length = 2) : ∃ a b, ws = [a, b] := let ⟨a, _, e, h⟩ := ws_s h; let ⟨b, q⟩ := ws1 h; ⟨a, b, e.trans (congrArg _ q)⟩
theorem ws3 {ws : List Value} (h : ws.length = 3) : ∃ a b c, ws = [a, b, c] := let ⟨a, _, e, h⟩ := ws_s h; let ⟨b, c, q⟩ := ws2 h; ⟨a, b, c, e.trans (congrArg _ q)⟩
theorem ws4 {ws : List Value} (h : ws.length = 4) : ∃ a b c d, ws = [a, b, c, d] := let ⟨a, _, e, h⟩ := ws_s h; let ⟨b, c, d, q⟩ := ws3 h; ⟨a, b, c, d, e.trans (congrArg _ q)⟩
section
variable {F : Addr → Obj → Prop}
theorem RepL.inv {v : Value} {vs : List Value} {x : V} {l : List V} (h : RepL F (v :: vs) (x :: l)) : Rep F v x ∧ RepL F vs l := by cases h with | cons a b => exact ⟨a, b⟩
theorem RepL.length {vs : List Value} {l : List V} (h : RepL F vs l) : vs.length = l.length := by
  induction vs generalizing l with
  | nil => cases h; rfl
  | cons v vs ih => cases h with | cons a b => exact congrArg (· + 1) (ih b)
theorem RepL.append {vs ws : List Value} {l k : List V} (h : RepL F vs l) (h' : RepL F ws k) : RepL F (vs ++ ws) (l ++ k) := by
  induction vs generalizing l with
  | nil => cases h; exact h'
  | cons v vs ih => cases h with | cons a b => exact .cons a (ih b)
theorem RepL.split {vs : List Value} {l k : List V} (h : RepL F vs (l ++ k)) : ∃ a b, vs = a ++ b ∧ RepL F a l ∧ RepL F b k := by
  induction l generalizing vs with
  | nil => exact ⟨[], vs, rfl, .nil, h⟩
  | cons x l ih => cases h with | cons a b => obtain ⟨p, q, rfl, hp, hq⟩ := ih b; exact ⟨_ :: p, q, rfl, .cons a hp, hq⟩
theorem RepL.reverse {vs : List Value} {l : List V} (h : RepL F vs l) : RepL F vs.reverse l.reverse := by
  induction vs generalizing l with
  | nil => cases h; exact .nil
  | cons v vs ih => cases h with | cons a b => rw [List.reverse_cons, List.reverse_cons]; exact (ih b).append (.cons a .nil)
theorem RepL.get {vs : List Value} {l : List V} (h : RepL F vs l) {k : Nat} {x : V} (hx : l[k]? = some x) : ∃ v, vs[k]? = some v ∧ Rep F v x := by
  induction vs generalizing l k with
  | nil => cases h; simp at hx
  | cons v vs ih =>
    cases h with
    | cons a b =>
      cases k with
      | zero => simp at hx; exact ⟨v, rfl, hx ▸ a⟩
      | succ k => exact ih b (by simpa using hx)
theorem RepL.set {vs : List Value} {l : List V} {v : Value} {x : V} (h : RepL F vs l) (hv : Rep F v x) : ∀ k : Nat, RepL F (vs.set k v) (l.set k x) := by
  induction vs generalizing l with
  | nil => intro k; cases h; exact .nil
  | cons u vs ih =>
    intro k
    cases h with
    | cons a b => cases k with
      | zero => exact .cons hv b
      | succ k => exact .cons a (ih b k)
theorem RepL.take {vs : List Value} {l : List V} (h : RepL F vs l) : ∀ k : Nat, RepL F (vs.take k) (l.take k) := by
  induction vs generalizing l with
  | nil => intro k; cases h; simpa using RepL.nil
  | cons u vs ih =>
    intro k
    cases h with
    | cons a b => cases k with
      | zero => exact .nil
      | succ k => exact .cons a (ih b k)
theorem RepL.drop {vs : List Value} {l : List V} (h : RepL F vs l) : ∀ k : Nat, RepL F (vs.drop k) (l.drop k) := by
  induction vs generalizing l with
  | nil => intro k; cases h; simpa using RepL.nil
  | cons u vs ih =>
    intro k
    cases h with
    | cons a b => cases k with
      | zero => exact .cons a b
      | succ k => exact ih b k
end
structure FnI where
  cn : Str
  cs : Scope
  cm : Option Scope := none
structure CtxR where
  w : World
  mean : ExcName → Option Value
  mg : Str → Option Value
  mb : Str → Option Value
  base : Heap
  h₀ : Heap
  A₀ : Around
  outer : List Env
  dp : Nat
  un : Nat
  gd : Option (List Code)
  L : Addr
  a : Addr
  ccd : Value
  gens : Array GenState
  drawn : Drawn
  os : OsState
  fcl : List (Str × Addr) := []
  cl : List (Str × Addr) := []
  C : Addr := 0
  cx : List (Addr × Obj) := []
  oloc : List (Str × V) := []
structure Ctx where
  fi : FnI
  r : CtxR
namespace Ctx
@[reducible] noncomputable def w (c : Ctx) := c.r.w
@[reducible] noncomputable def mean (c : Ctx) := c.r.mean
@[reducible] noncomputable def mg (c : Ctx) := c.r.mg
@[reducible] noncomputable def mb (c : Ctx) := c.r.mb
@[reducible] noncomputable def base (c : Ctx) := c.r.base
@[reducible] noncomputable def h₀ (c : Ctx) := c.r.h₀
@[reducible] noncomputable def A₀ (c : Ctx) := c.r.A₀
@[reducible] noncomputable def outer (c : Ctx) := c.r.outer
@[reducible] noncomputable def dp (c : Ctx) := c.r.dp
@[reducible] noncomputable def un (c : Ctx) := c.r.un
@[reducible] noncomputable def gd (c : Ctx) := c.r.gd
@[reducible] noncomputable def cn (c : Ctx) := c.fi.cn
@[reducible] noncomputable def cs (c : Ctx) := c.fi.cs
@[reducible] noncomputable def L (c : Ctx) := c.r.L
@[reducible] noncomputable def a (c : Ctx) := c.r.a
@[reducible] noncomputable def ccd (c : Ctx) := c.r.ccd
@[reducible] noncomputable def gens (c : Ctx) := c.r.gens
@[reducible] noncomputable def drawn (c : Ctx) := c.r.drawn
@[reducible] noncomputable def os (c : Ctx) := c.r.os
@[reducible] noncomputable def fenv (c : Ctx) : Env := envX c.cn c.cs c.L c.a c.ccd c.r.fcl
noncomputable def envOfM (m : Option Scope) (cl : List (Str × Addr)) (C : Addr) (e : Env) : Env := match m with
  | none => e
  | some sc => compEnvC sc cl C e
@[reducible] noncomputable def env (c : Ctx) : Env := envOfM c.fi.cm c.r.cl c.r.C c.fenv
@[reducible] noncomputable def A (c : Ctx) : Around := ktrTop c.dp c.un c.gd c.cn c.cs c.L c.a c.ccd c.r.fcl c.outer
noncomputable def F (c : Ctx) (fz : List (Addr × Obj)) (a : Addr) (o : Obj) : Prop := (a, o) ∈ fz ∨ c.base.get? a = some o
structure Ok (c : Ctx) : Prop where
  ck : c.env.scope.kind = .function
  ol : c.fi.cm = none → c.r.oloc = []
  B : Below c.A₀ c.base c.outer c.h₀
  Xb : (KK c.w).In c.base
  X : (KK c.w).In c.h₀
  T : Top qv (looseW qv []) c.mean c.mg c.mb c.h₀
  hk : c.cs.kind = .function
  hd : c.dp < 900
  hu : c.un < 9000
noncomputable def Room (c : Ctx) (k : Nat) : Prop := c.dp + 10 * k < 900 ∧ c.un + 50 * k < 9000
end Ctx
inductive RepK (F : Addr → Obj → Prop) : List (Str × Value) → List (Str × V) → Prop
  | nil : RepK F [] []
  | cons {k : Str} {v : Value} {x : V} {es : List (Str × Value)} {fs : List (Str × V)} : Rep F v x → RepK F es fs → RepK F ((k, v) :: es) ((k, x) :: fs)
inductive ObR (F : Addr → Obj → Prop) : O → Obj → Prop
  | list {vs : List Value} {n : Nat} {l : List V} : RepL F vs l → ObR F (.list l) (listOf vs.toArray n)
  | inst (C d : Nat) : ObR F (.inst C d) (instObj C d)
  | dict {es : List DictEntry} {n : Nat} {fs : List (Str × V)} : (fs.map (·.1)).Nodup → RepD F es fs → ObR F (.dict fs) (dictOf es n)
  | dct {w : World} {o : Obj} {kvs : List (Str × Value)} {fs : List (Str × V)} : Obj.IsDictOf (PySem.strKind prg w) o kvs → RepK F kvs fs → ObR F (.dct w fs) o
inductive HpR (F : Addr → Obj → Prop) : Hp → List (Addr × Obj) → Prop
  | nil : HpR F [] []
  | cons {a : Nat} {o : O} {ob : Obj} {hp : Hp} {mt : List (Addr × Obj)} : ObR F o ob → HpR F hp mt → HpR F ((a, o) :: hp) ((a, ob) :: mt)
/-- how a name reads -/
inductive Rd (c : Ctx) (m : Str → Option Value) (x : Str) (v : Value) : Prop
  | loc : c.fi.cm = none → c.cs.names.lookup x = some .local → m x = some v → Rd c m x v
  | comp {oC : Obj} {m₂ : Str → Option Value} {sc : Scope} : c.fi.cm = some sc → c.env.kindOf x = some .local → (c.r.C, oC) ∈ c.r.cx → LCg.NsObj oC m₂ → m₂ x = some v → Rd c m x v
  | cell {a : Addr} {o : Obj} : c.env.kindOf x = some .cell → c.env.cells.lookup x = some a → (a, o) ∈ c.r.cx → o.data = .cell (some v) → Rd c m x v
noncomputable def LocR (c : Ctx) (F : Addr → Obj → Prop) (m : Str → Option Value) (loc : Loc) : Prop := ∀ x V, (x, V) ∈ loc → V = .undef ∨ ∃ v, Rd c m x v ∧ Rep F v V
/-- the frame that a comprehension stands in -/
@[reducible] noncomputable def Ctx.out (c : Ctx) : Ctx := ⟨⟨c.cn, c.cs, none⟩, c.r⟩
noncomputable def KeysOk (ks : List Str) : Prop := ks.Nodup ∧ ∀ x ∈ ks, (x == ("__debug__" : Str)) = false
structure StB (c : Ctx) (loc : Loc) (hp : Hp) (Vs : List V) (ex : List (Addr × Obj)) (h : Heap) (vs : List Value) (m : Str → Option Value) (mt fz : List (Addr × Obj)) : Prop where
  ok : c.Ok
  fr : Fr c.h₀ c.L h m
  nw : News c.h₀ c.L h (mt ++ (fz ++ ex))
  nd : ((mt ++ (fz ++ ex)).map (·.1)).Nodup
  lk : KeysOk (loc.map (·.1))
  lr : LocR c (c.F fz) m loc
  cxs : ∀ p ∈ c.r.cx, p ∈ ex
  olr : LocR c.out (c.F fz) m c.r.oloc
  hr : HpR (c.F fz) hp mt
  vr : RepL (c.F fz) vs Vs
noncomputable def St (c : Ctx) (loc : Loc) (hp : Hp) (Vs : List V) (ex : List (Addr × Obj)) (s : Shared) (vs : List Value) : Prop :=
  ∃ h tk m mt fz, s = ⟨h, c.gens, c.drawn, tk, c.os⟩ ∧ StB c loc hp Vs ex h vs m mt fz
noncomputable def NoE : Value → Shared → Prop := fun _ _ => False
theorem noE {α : Type} {M : Model} {A : Around} {t : Sem α} {Q : α → Shared → Prop} {E : Value → Shared → Prop} {s : Shared} (h : wpAny M A t Q NoE s) : wpAny M A t Q E s := wpAny_mono h (fun _ _ x => x) fun _ _ x => x.elim
noncomputable def WE (c : Ctx) (loc : Loc) (hp : Hp) (e : PySem.Expr) (P : Hp → V → Prop) : Prop :=
  ∀ Vs vs ex s (Q : Value → Shared → Prop), St c loc hp Vs ex s vs → (∀ hp' V v s', P hp' V → St c loc hp' (V :: Vs) ex s' (v :: vs) → Q v s') →
    wpAny (model prg c.w) c.A (eval e c.env) Q NoE s
noncomputable def WT (c : Ctx) (loc : Loc) (hp : Hp) (e : PySem.Expr) (PT PF : Hp → Prop) : Prop :=
  ∀ Vs vs ex s (Q : Bool → Shared → Prop), St c loc hp Vs ex s vs → (∀ hp' s', PT hp' → St c loc hp' Vs ex s' vs → Q true s') → (∀ hp' s', PF hp' → St c loc hp' Vs ex s' vs → Q false s') →
    wpAny (model prg c.w) c.A (isTrue e c.env (eval e c.env)) Q NoE s
noncomputable def WX (c : Ctx) (loc : Loc) (hp : Hp) (b : Stmt) (PN : Loc → Hp → Prop) (PR : Hp → V → Prop) : Prop :=
  ∀ Vs vs ex s (Q : Flow → Shared → Prop), St c loc hp Vs ex s vs → (∀ loc' hp' s', PN loc' hp' → St c loc' hp' Vs ex s' vs → Q .next s') →
    (∀ hp' V v loc' s', PR hp' V → St c loc' hp' (V :: Vs) ex s' (v :: vs) → Q (.ret v) s') → wpAny (model prg c.w) c.A (exec b c.env) Q NoE s
noncomputable def WS (c : Ctx) (loc : Loc) (hp : Hp) (b : List Stmt) (PN : Loc → Hp → Prop) (PR : Hp → V → Prop) : Prop :=
  ∀ Vs vs ex s (Q : Flow → Shared → Prop), St c loc hp Vs ex s vs → (∀ loc' hp' s', PN loc' hp' → St c loc' hp' Vs ex s' vs → Q .next s') →
    (∀ hp' V v loc' s', PR hp' V → St c loc' hp' (V :: Vs) ex s' (v :: vs) → Q (.ret v) s') → wpAny (model prg c.w) c.A (execs b c.env) Q NoE s
section
variable {c : Ctx} {loc loc' : Loc} {hp : Hp}
inductive LocAt : Loc → Str → V → Prop
  | head {x : Str} {V : V} {r : Loc} : LocAt ((x, V) :: r) x V
  | tail {p : Str × V} {x : Str} {V : V} {r : Loc} : LocAt r x V → LocAt (p :: r) x V
theorem LocAt.mem {x : Str} {V : V} (h : LocAt loc x V) : (x, V) ∈ loc := by
  induction h with
  | head => exact .head _
  | tail _ ih => exact .tail _ ih
inductive LocSet (x : Str) (V : V) : Loc → Loc → Prop
  | head {U : Mine.V} {r : Loc} : LocSet x V ((x, U) :: r) ((x, V) :: r)
  | tail {p : Str × Mine.V} {r r' : Loc} : LocSet x V r r' → LocSet x V (p :: r) (p :: r')
theorem LocSet.keys {x : Str} {V : V} (h : LocSet x V loc loc') : loc'.map (·.1) = loc.map (·.1) ∧ x ∈ loc.map (·.1) := by
  induction h with
  | head => exact ⟨rfl, .head _⟩
  | tail _ ih => exact ⟨by rw [List.map_cons, List.map_cons, ih.1], .tail _ ih.2⟩
theorem LocSet.mem {x : Str} {V : V} (h : LocSet x V loc loc') (hn : (loc.map (·.1)).Nodup) {y : Str} {U : Mine.V} (hm : (y, U) ∈ loc') : (y = x ∧ U = V) ∨ (y ≠ x ∧ (y, U) ∈ loc) := by
  induction h with
  | @head U' r =>
    rcases List.mem_cons.mp hm with e | hq
    · cases e; exact .inl ⟨rfl, rfl⟩
    · refine .inr ⟨fun e => ?_, .tail _ hq⟩
      rw [List.map_cons, List.nodup_cons] at hn
      exact hn.1 (List.mem_map.mpr ⟨_, hq, e⟩)
  | @tail p r r' h ih =>
    rw [List.map_cons, List.nodup_cons] at hn
    rcases List.mem_cons.mp hm with e | hm
    · subst e
      refine .inr ⟨fun e => hn.1 ?_, .head _⟩
      have := h.keys.2
      rw [← e] at this
      exact this
    · rcases ih hn.2 hm with q | q
      · exact .inl q
      · exact .inr ⟨q.1, .tail _ q.2⟩
theorem kind_of {cn : Str} {cs : Scope} {L a : Addr} {ccd : Value} {x : Str} {cl : List (Str × Addr)} (h : cs.names.lookup x = some .local) : (envX cn cs L a ccd cl).kindOf x = some .local := h
theorem env_none (h : c.fi.cm = none) : c.env = c.fenv := by unfold Ctx.env Ctx.envOfM; rw [h]
theorem env_some {sc : Scope} (h : c.fi.cm = some sc) : c.env = compEnvC sc c.r.cl c.r.C c.fenv := by unfold Ctx.env Ctx.envOfM; rw [h]
theorem StB.read {Vs : List V} {ex : List (Addr × Obj)} {h : Heap} {vs : List Value} {m : Str → Option Value} {mt fz : List (Addr × Obj)} {E : Value → Shared → Prop} {x : Str} {v : Value} {pos : Pos} {tk : Nat} {Q : Value → Shared → Prop} (S : StB c loc hp Vs ex h vs m mt fz)
    (r : Rd c m x v) (hb : (x == ("__debug__" : Str)) = false) (hQ : Q v ⟨h, c.gens, c.drawn, tk, c.os⟩) : wpAny (model prg c.w) c.A (eval (.Name x pos) c.env) Q E ⟨h, c.gens, c.drawn, tk, c.os⟩ := by
  have hex : ∀ p ∈ c.r.cx, h.get? p.1 = some p.2 := fun p hp => (S.nw p (List.mem_append.mpr (.inr (List.mem_append.mpr (.inr (S.cxs p hp)))))).1
  cases r with
  | loc h1 h2 h3 => rw [env_none h1]; exact nameX_L S.fr h3 hQ S.ok.hk (kind_of h2) hb
  | comp h1 h2 h3 h4 h5 =>
    have k := S.ok.ck
    rw [env_some h1] at h2 k ⊢
    exact wpAny_Name (wpAny_loadName_local k h2 (h4.ns (hex _ h3)) h5 hQ) hb
  | cell h1 h2 h3 h4 => exact wpAny_Name (wpAny_loadName_cell S.ok.ck h1 h2 ⟨_, hex _ h3, h4⟩ hQ) hb
theorem WE_name {x : Str} {V : V} {pos : Pos} {P : Hp → Mine.V → Prop} (hx : LocAt loc x V) (hd : V ≠ .undef) (h : P hp V) : WE c loc hp (.Name x pos) P := by
  rintro Vs vs ex s Q ⟨h', tk, m, mt, fz, rfl, S⟩ hQ
  obtain ⟨v, hv, hr⟩ := (S.lr x V hx.mem).resolve_left hd
  exact S.read hv (S.lk.2 x (List.mem_map.mpr ⟨_, hx.mem, rfl⟩)) (hQ _ _ _ _ h ⟨h', tk, m, mt, fz, rfl, { S with vr := .cons hr S.vr }⟩)
theorem WE_int {i : Int} {k : Nat} {pos : Pos} {P : Hp → V → Prop} (h : P hp (.int i)) : WE c loc hp (.Constant (.int i) k pos) P := by
  rintro Vs vs ex s Q ⟨h', tk, m, mt, fz, rfl, S⟩ hQ
  exact wpAny_Constant_int (hQ _ _ _ _ h ⟨h', _, m, mt, fz, rfl, { S with vr := .cons (.int _ _) S.vr }⟩)
end
section
variable {c : Ctx} {loc loc' : Loc} {hp hp' : Hp}
/-! pending values -/
theorem St.pop1 {Vs : List V} {x : V} {v : Value} {vs : List Value} {ex : List (Addr × Obj)} {s : Shared} (h : St c loc hp (x :: Vs) ex s (v :: vs)) : St c loc hp Vs ex s vs := by
  obtain ⟨h', tk, m, mt, fz, rfl, S⟩ := h
  have hv := S.vr
  cases hv with | cons _ hv => exact ⟨h', tk, m, mt, fz, rfl, { S with vr := hv }⟩
/-! the ledger's lookups and changes -/
inductive HpAt : Hp → Nat → O → Prop
  | head {a : Nat} {o : O} {r : Hp} : HpAt ((a, o) :: r) a o
  | tail {p : Nat × O} {a : Nat} {o : O} {r : Hp} : HpAt r a o → HpAt (p :: r) a o
inductive HpMod (a : Nat) (o o' : O) : Hp → Hp → Prop
  | head {r : Hp} : HpMod a o o' ((a, o) :: r) ((a, o') :: r)
  | tail {p : Nat × O} {r r' : Hp} : HpMod a o o' r r' → HpMod a o o' (p :: r) (p :: r')
theorem HpR.at {F : Addr → Obj → Prop} {mt : List (Addr × Obj)} {a : Nat} {o : O} (h : HpR F hp mt) (k : HpAt hp a o) : ∃ ob, (a, ob) ∈ mt ∧ ObR F o ob := by
  induction k generalizing mt with
  | head => cases h with | cons ho _ => exact ⟨_, .head _, ho⟩
  | tail _ ih => cases h with | cons _ hr => obtain ⟨ob, hm, ho⟩ := ih hr; exact ⟨ob, .tail _ hm, ho⟩
theorem HpR.mod {F : Addr → Obj → Prop} {mt : List (Addr × Obj)} {a : Nat} {o o' : O} (h : HpR F hp mt) (k : HpMod a o o' hp hp') :
    ∃ pre ob post, mt = pre ++ (a, ob) :: post ∧ ObR F o ob ∧ ∀ ob', ObR F o' ob' → HpR F hp' (pre ++ (a, ob') :: post) := by
  induction k generalizing mt with
  | head => cases h with | cons ho hr => exact ⟨[], _, _, rfl, ho, fun ob' ho' => .cons ho' hr⟩
  | tail _ ih =>
    cases h with
    | cons ho hr =>
      obtain ⟨pre, ob, post, rfl, h1, h2⟩ := ih hr
      exact ⟨_ :: pre, ob, post, rfl, h1, fun ob' ho' => .cons ho (h2 ob' ho')⟩
theorem upd_mk {d : Addr} {o o' : Obj} : ∀ {pre post : List (Addr × Obj)}, ((pre ++ (d, o) :: post).map (·.1)).Nodup → Upd d o o' (pre ++ (d, o) :: post) (pre ++ (d, o') :: post)
  | [], post, h => by
    rw [List.nil_append, List.map_cons, List.nodup_cons] at h
    exact .head fun p hp e => h.1 (List.mem_map.mpr ⟨p, hp, e⟩)
  | p :: pre, post, h => by
    rw [List.cons_append, List.map_cons, List.nodup_cons] at h
    exact .tail (fun e => h.1 (List.mem_map.mpr ⟨(d, o), List.mem_append.mpr (.inr (.head _)), e.symm⟩)) (upd_mk h.2)
section
variable {Vs : List V} {ex : List (Addr × Obj)} {h : Heap} {vs : List Value} {m : Str → Option Value} {mt fz : List (Addr × Obj)}
theorem StB.get (S : StB c loc hp Vs ex h vs m mt fz) {a : Nat} {o : O} (k : HpAt hp a o) : ∃ ob, (a, ob) ∈ mt ++ (fz ++ ex) ∧ ObR (c.F fz) o ob := by
  obtain ⟨ob, hm, ho⟩ := S.hr.at k
  exact ⟨ob, List.mem_append.mpr (.inl hm), ho⟩
theorem StB.baseK (S : StB c loc hp Vs ex h vs m mt fz) {a : Addr} {o : Obj} (e : c.base.get? a = some o) : h.get? a = some o := S.fr.keep _ _ (S.ok.B.stays _ _ e)
theorem StB.frz (S : StB c loc hp Vs ex h vs m mt fz) {a : Addr} {o : Obj} (e : c.F fz a o) : h.get? a = some o :=
  e.elim (fun e => (S.nw _ (List.mem_append.mpr (.inr (List.mem_append.mpr (.inl e))))).1) S.baseK
theorem StB.list (S : StB c loc hp Vs ex h vs m mt fz) {a : Addr} {ws : List Value} {n : Nat} (e : c.F fz a (listOf ws.toArray n)) : h.IsList a ws.toArray := PySem.IsL.isList (n := n) (S.frz e)
theorem StB.upd (S : StB c loc hp Vs ex h vs m mt fz) {a : Nat} {o o' : O} (k : HpMod a o o' hp hp') :
    ∃ ob, ObR (c.F fz) o ob ∧ (a, ob) ∈ mt ++ (fz ++ ex) ∧ ∀ ob', ObR (c.F fz) o' ob' → ∃ mt', Upd a ob ob' (mt ++ (fz ++ ex)) (mt' ++ (fz ++ ex)) ∧
      ∀ h', Fr c.h₀ c.L h' m → News c.h₀ c.L h' (mt' ++ (fz ++ ex)) → StB c loc hp' Vs ex h' vs m mt' fz := by
  obtain ⟨pre, ob, post, rfl, h1, h2⟩ := S.hr.mod k
  refine ⟨ob, h1, List.mem_append.mpr (.inl (List.mem_append.mpr (.inr (.head _)))), fun ob' ho' => ⟨pre ++ (a, ob') :: post, ?_, fun h' F' N' => { S with fr := F', nw := N', nd := ?_, hr := h2 ob' ho' }⟩⟩
  · have nd := S.nd
    rw [List.append_assoc, List.cons_append] at nd ⊢
    rw [List.append_assoc, List.cons_append]
    exact upd_mk nd
  · have nd := S.nd
    simpa using nd
theorem StB.F_cons {p : Addr × Obj} : ∀ a o, c.F fz a o → c.F (p :: fz) a o := fun _ _ e => e.elim (fun e => .inl (.tail _ e)) .inr
theorem RepK.mono {F G : Addr → Obj → Prop} (hs : ∀ a o, F a o → G a o) {es : List (Str × Value)} {fs : List (Str × V)} (h : RepK F es fs) : RepK G es fs := by
  induction h with
  | nil => exact .nil
  | cons hv _ ih => exact .cons (hv.mono hs) ih
theorem HpR.mono {F G : Addr → Obj → Prop} (hs : ∀ a o, F a o → G a o) {mt : List (Addr × Obj)} (h : HpR F hp mt) : HpR G hp mt := by
  induction h with
  | nil => exact .nil
  | cons ho _ ih =>
    refine .cons ?_ ih
    cases ho with
    | list r => exact .list (r.mono hs)
    | inst C d => exact .inst C d
    | dict q r => exact .dict q (r.mono hs)
    | dct q r => exact .dct q (r.mono hs)
theorem LocR.mono {F G : Addr → Obj → Prop} (hs : ∀ a o, F a o → G a o) (h : LocR c F m loc) : LocR c G m loc := fun x V hm => (h x V hm).imp id fun ⟨v, a, b⟩ => ⟨v, a, b.mono hs⟩
theorem nodup_new {l : Addr} {r : List (Addr × Obj)} (hlt : ∀ p ∈ r, p.1 < l) : l ∉ r.map (·.1) := fun hm => by
  obtain ⟨p, hp, e⟩ := List.mem_map.mp hm
  exact Nat.lt_irrefl _ (e ▸ hlt p hp)
/-- a new mutable object -/
theorem StB.pushM (S : StB c loc hp Vs ex h vs m mt fz) {l : Nat} {ob : Obj} {o : O} {h' : Heap} (F' : Fr c.h₀ c.L h' m) (N' : News c.h₀ c.L h' ((l, ob) :: (mt ++ (fz ++ ex)))) (hlt : ∀ p ∈ mt ++ (fz ++ ex), p.1 < l) (ho : ObR (c.F fz) o ob) :
    StB c loc ((l, o) :: hp) Vs ex h' vs m ((l, ob) :: mt) fz :=
  { S with fr := F', nw := N', nd := List.nodup_cons.mpr ⟨nodup_new hlt, S.nd⟩, hr := .cons ho S.hr }
/-- a new frozen object -/
theorem StB.pushF (S : StB c loc hp Vs ex h vs m mt fz) {l : Nat} {ob : Obj} {h' : Heap} (F' : Fr c.h₀ c.L h' m) (N' : News c.h₀ c.L h' ((l, ob) :: (mt ++ (fz ++ ex)))) (hlt : ∀ p ∈ mt ++ (fz ++ ex), p.1 < l) :
    StB c loc hp Vs ex h' vs m mt ((l, ob) :: fz) where
  ok := S.ok
  fr := F'
  nw := fun p hp => N' p (by
    rcases List.mem_append.mp hp with q | q
    · exact .tail _ (List.mem_append.mpr (.inl q))
    · rcases List.mem_append.mp q with q | q
      · rcases List.mem_cons.mp q with q | q
        · exact q ▸ .head _
        · exact .tail _ (List.mem_append.mpr (.inr (List.mem_append.mpr (.inl q))))
      · exact .tail _ (List.mem_append.mpr (.inr (List.mem_append.mpr (.inr q)))))
  nd := by
    have h1 := nodup_new hlt
    have h2 := S.nd
    simp only [List.map_append, List.map_cons, List.cons_append] at h1 h2 ⊢
    exact List.perm_middle.nodup_iff.mpr (List.nodup_cons.mpr ⟨h1, h2⟩)
  lk := S.lk
  lr := S.lr.mono StB.F_cons
  cxs := S.cxs
  olr := S.olr.mono StB.F_cons
  hr := S.hr.mono StB.F_cons
  vr := S.vr.mono StB.F_cons
theorem StB.keep (S : StB c loc hp Vs ex h vs m mt fz) {h' : Heap} (F' : Fr c.h₀ c.L h' m) (N' : News c.h₀ c.L h' (mt ++ (fz ++ ex))) : StB c loc hp Vs ex h' vs m mt fz := { S with fr := F', nw := N' }
theorem StB.store (S : StB c loc hp Vs ex h vs m mt fz) {x : Str} {X : V} {v : Value} {h' : Heap} (hc : c.fi.cm = none) (hx : c.cs.names.lookup x = some .local) (k : LocSet x X loc loc') (hr : Rep (c.F fz) v X) (F' : Fr c.h₀ c.L h' (fun y => if y = x then some v else m y)) (N' : News c.h₀ c.L h' (mt ++ (fz ++ ex))) :
    StB c loc' hp Vs ex h' vs (fun y => if y = x then some v else m y) mt fz := by
  refine { S with fr := F', nw := N', lk := by rw [k.keys.1]; exact S.lk, lr := ?_, olr := by rw [S.ok.ol hc]; exact fun _ _ h => (List.not_mem_nil h).elim }
  intro y U hm
  rcases k.mem S.lk.1 hm with ⟨rfl, rfl⟩ | ⟨hn, hm⟩
  · exact .inr ⟨v, .loc hc hx (if_pos rfl), hr⟩
  · refine (S.lr y U hm).imp id fun ⟨u, a, b⟩ => ⟨u, ?_, b⟩
    cases a with
    | loc h1 h2 h3 => exact .loc h1 h2 ((if_neg hn).trans h3)
    | comp h1 h2 h3 h4 h5 => exact .comp h1 h2 h3 h4 h5
    | cell h1 h2 h3 h4 => exact .cell h1 h2 h3 h4
end
/-! expressions -/
section
variable {P : Hp → V → Prop} {pos : Pos} {k : Nat}
theorem WE_str {x : Str} (h : P hp (.str x)) : WE c loc hp (.Constant (.str x) k pos) P := by
  rintro Vs vs ex s Q ⟨h', tk, m, mt, fz, rfl, S⟩ hQ
  exact wpAny_Constant_str (hQ _ _ _ _ h ⟨h', _, m, mt, fz, rfl, { S with vr := .cons (.str _ _) S.vr }⟩)
theorem WE_none (h : P hp .none) : WE c loc hp (.Constant .none k pos) P := by
  rintro Vs vs ex s Q ⟨h', tk, m, mt, fz, rfl, S⟩ hQ
  exact wpAny_Constant_none (hQ _ _ _ _ h ⟨h', _, m, mt, fz, rfl, { S with vr := .cons .none S.vr }⟩)
theorem WE_bool {b : Bool} (h : P hp (.bool b)) : WE c loc hp (.Constant (.bool b) k pos) P := by
  rintro Vs vs ex s Q ⟨h', tk, m, mt, fz, rfl, S⟩ hQ
  exact wpAny_Constant_bool (hQ _ _ _ _ h ⟨h', _, m, mt, fz, rfl, { S with vr := .cons (.bool _) S.vr }⟩)
inductive BinK (PI : V → Prop) : Operator → V → V → Prop
  | add {i j : Int} : PI (.int (i + j)) → BinK PI .Add (.int i) (.int j)
  | sub {i j : Int} : PI (.int (i - j)) → BinK PI .Sub (.int i) (.int j)
  | mul {i j : Int} : IntMulOk i j → PI (.int (i * j)) → BinK PI .Mult (.int i) (.int j)
  | mod {i j : Int} : j ≠ 0 → PI (.int (Int.fmod i j)) → BinK PI .Mod (.int i) (.int j)
  | fdiv {i j : Int} : j ≠ 0 → Builtin.divisionGoesByPylong i j = false → PI (.int (Int.fdiv i j)) → BinK PI .FloorDiv (.int i) (.int j)
  | pow {i j : Int} : 0 ≤ j → (Builtin.Int.intBits i : Int) * j ≤ 2 ^ 27 → PI (.int (i ^ j.toNat)) → BinK PI .Pow (.int i) (.int j)
theorem WE_bin {l r : PySem.Expr} {op : Operator} (h : WE c loc hp l fun hp1 V1 => WE c loc hp1 r fun hp2 V2 => BinK (P hp2) op V1 V2) : WE c loc hp (.BinOp l op r pos) P := by
  intro Vs vs ex s Q hs hQ
  refine wpAny_BinOp (h _ _ _ _ _ hs fun hp1 V1 v1 s1 h1 hs1 => h1 _ _ _ _ _ hs1 fun hp2 V2 v2 s2 h2 hs2 => ?_)
  obtain ⟨h', tk, m, mt, fz, rfl, S⟩ := hs2
  have hv := S.vr
  cases hv with
  | cons r2 hv =>
    cases hv with
    | cons r1 hv =>
      cases h2 with
      | add p => cases r1; cases r2; exact add_int (hQ _ _ _ _ p ⟨h', _, m, mt, fz, rfl, { S with vr := .cons (.int _ _) hv }⟩)
      | sub p => cases r1; cases r2; exact PyProof.Rows.sub_int (hQ _ _ _ _ p ⟨h', _, m, mt, fz, rfl, { S with vr := .cons (.int _ _) hv }⟩)
      | mul q p => cases r1; cases r2; exact mul_int (hQ _ _ _ _ p ⟨h', _, m, mt, fz, rfl, { S with vr := .cons (.int _ _) hv }⟩) q
      | mod q p => cases r1; cases r2; exact mod_int' q (hQ _ _ _ _ p ⟨h', _, m, mt, fz, rfl, { S with vr := .cons (.int _ _) hv }⟩)
      | fdiv q q' p => cases r1; cases r2; exact floordiv_int q (hQ _ _ _ _ p ⟨h', _, m, mt, fz, rfl, { S with vr := .cons (.int _ _) hv }⟩) (.inl q')
      | pow q q' p => cases r1; cases r2; exact pow_int q q' (hQ _ _ _ _ p ⟨h', _, m, mt, fz, rfl, { S with vr := .cons (.int _ _) hv }⟩)
end
end
section
variable {c : Ctx} {loc loc' : Loc} {hp hp' : Hp}
/-! comparisons -/
noncomputable def CmpOk (c : Ctx) (hp : Hp) (op : CmpOp) (V1 V2 : V) (b : Bool) : Prop :=
  ∀ loc Vs ex h vs m mt fz v1 v2 tk (Q : Value → Shared → Prop), StB c loc hp Vs ex h vs m mt fz → Rep (c.F fz) v1 V1 → Rep (c.F fz) v2 V2 → (∀ tk', Q (.bool b) ⟨h, c.gens, c.drawn, tk', c.os⟩) →
    wpAny (model prg c.w) c.A (compareOp op v1 v2) Q NoE ⟨h, c.gens, c.drawn, tk, c.os⟩
theorem cmp_eq {i j : Int} : CmpOk c hp .Eq (.int i) (.int j) (decide (i = j)) := by
  intro loc Vs ex h vs m mt fz v1 v2 tk Q S r1 r2 hQ; cases r1; cases r2
  exact PyProof.Rows.eq_int (by have := hQ tk; rwa [show (i == j) = decide (i = j) from rfl])
theorem cmp_ne {i j : Int} : CmpOk c hp .NotEq (.int i) (.int j) (decide (i ≠ j)) := by
  intro loc Vs ex h vs m mt fz v1 v2 tk Q S r1 r2 hQ; cases r1; cases r2
  exact PyProof.Rows.ne_int (by have := hQ tk; rwa [show (i != j) = decide (i ≠ j) from by by_cases q : i = j <;> simp [q]])
theorem cmp_lt {i j : Int} : CmpOk c hp .Lt (.int i) (.int j) (decide (i < j)) := by
  intro loc Vs ex h vs m mt fz v1 v2 tk Q S r1 r2 hQ; cases r1; cases r2; exact PyProof.Rows.lt_int (hQ tk)
theorem cmp_le {i j : Int} : CmpOk c hp .LtE (.int i) (.int j) (decide (i ≤ j)) := by
  intro loc Vs ex h vs m mt fz v1 v2 tk Q S r1 r2 hQ; cases r1; cases r2; exact PyProof.Rows.le_int (hQ tk)
theorem cmp_gt {i j : Int} : CmpOk c hp .Gt (.int i) (.int j) (decide (j < i)) := by
  intro loc Vs ex h vs m mt fz v1 v2 tk Q S r1 r2 hQ; cases r1; cases r2; exact PyProof.Rows.gt_int (hQ tk)
theorem cmp_ge {i j : Int} : CmpOk c hp .GtE (.int i) (.int j) (decide (j ≤ i)) := by
  intro loc Vs ex h vs m mt fz v1 v2 tk Q S r1 r2 hQ; cases r1; cases r2; exact PyProof.Rows.ge_int (hQ tk)
theorem str_eq_iff {x y : Str} : (x.cps.toList == y.cps.toList) = decide (x = y) := by
  by_cases h : x = y
  · subst h; simp
  · rw [decide_eq_false h]
    refine beq_eq_false_iff_ne.mpr fun q => h ?_
    cases x; cases y
    simp only [Str.mk.injEq]
    exact Array.toList_inj.mp q
theorem cmp_eqS {x y : Str} : CmpOk c hp .Eq (.str x) (.str y) (decide (x = y)) := by
  intro loc Vs ex h vs m mt fz v1 v2 tk Q S r1 r2 hQ; cases r1; cases r2
  exact PySem.P.eq_str (by have := hQ tk; rwa [str_eq_iff])
theorem cmp_neS {x y : Str} : CmpOk c hp .NotEq (.str x) (.str y) (decide (x ≠ y)) := by
  intro loc Vs ex h vs m mt fz v1 v2 tk Q S r1 r2 hQ; cases r1; cases r2
  exact PySem.P.ne_str (by have := hQ tk; rw [bne, str_eq_iff]; by_cases q : x = y <;> simpa [q] using this)
theorem cmp_isNot_none : CmpOk c hp .IsNot .none .none false := by
  intro loc Vs ex h vs m mt fz v1 v2 tk Q S r1 r2 hQ; cases r1; cases r2
  exact wpAny_isNot_plain rfl (hQ tk)
theorem isNot_ref_none {M : Model} {A : Around} {E : Value → Shared → Prop} {s : Shared} {a : Addr} {Q : Value → Shared → Prop} (h : Q (.bool true) s) : wpAny M A (compareOp .IsNot (.ref a) .none) Q E s :=
  wpAny_isNot_other rfl nofun h
theorem cmp_isNot_tup {l : List V} : CmpOk c hp .IsNot (.tup l) .none true := by
  intro loc Vs ex h vs m mt fz v1 v2 tk Q S r1 r2 hQ; cases r1; cases r2
  exact isNot_ref_none (hQ tk)
noncomputable abbrev ValC (c : Ctx) (hp : Hp) (op : CmpOp) (V1 V2 : V) (K : V → Prop) : Prop := ∃ b, CmpOk c hp op V1 V2 b ∧ K (.bool b)
noncomputable abbrev TstC (c : Ctx) (hp : Hp) (op : CmpOp) (V1 V2 : V) (X Y : Prop) : Prop := ∃ b, CmpOk c hp op V1 V2 b ∧ (b = true → X) ∧ (b = false → Y)
noncomputable abbrev Asn (loc : Loc) (x : Str) (X : V) (K : Loc → Prop) : Prop := ∃ loc1, LocSet x X loc loc1 ∧ K loc1
section
variable {P : Hp → V → Prop} {PT PF : Hp → Prop} {pos : Pos} {k : Nat}
theorem WE_cmp {l r : PySem.Expr} {op : CmpOp} (h : WE c loc hp l fun hp1 V1 => WE c loc hp1 r fun hp2 V2 => ValC c hp2 op V1 V2 (P hp2)) (hm : behindInMarks op r = false := by rfl) : WE c loc hp (.Compare l [op] [r] pos) P := by
  intro Vs vs ex s Q hs hQ
  refine wpAny_Compare1 (h _ _ _ _ _ hs fun hp1 V1 v1 s1 h1 hs1 => h1 _ _ _ _ _ hs1 fun hp2 V2 v2 s2 h2 hs2 => ?_) hm
  obtain ⟨b, hb, hP⟩ := h2
  obtain ⟨h', tk, m, mt, fz, rfl, S⟩ := hs2
  have hv := S.vr
  cases hv with
  | cons r2 hv =>
    cases hv with
    | cons r1 hv => exact hb _ _ _ _ _ _ _ _ _ _ _ _ S r1 r2 fun tk' => hQ _ _ _ _ hP ⟨h', tk', m, mt, fz, rfl, { S with vr := .cons (.bool _) hv }⟩
theorem bool_cases {b : Bool} {Q : Bool → Prop} (h1 : b = true → Q true) (h2 : b = false → Q false) : Q b := by cases b <;> simp_all
theorem WT_cmp {l r : PySem.Expr} {op : CmpOp} (h : WE c loc hp l fun hp1 V1 => WE c loc hp1 r fun hp2 V2 => TstC c hp2 op V1 V2 (PT hp2) (PF hp2)) (hm : behindInMarks op r = false := by rfl) : WT c loc hp (.Compare l [op] [r] pos) PT PF := by
  intro Vs vs ex s Q hs hT hF
  refine wpAny_isTrue_Compare1 (h _ _ _ _ _ hs fun hp1 V1 v1 s1 h1 hs1 => h1 _ _ _ _ _ hs1 fun hp2 V2 v2 s2 h2 hs2 => ?_) hm
  obtain ⟨b, hb, hP1, hP2⟩ := h2
  obtain ⟨h', tk, m, mt, fz, rfl, S⟩ := hs2
  have hv := S.vr
  cases hv with
  | cons r2 hv =>
    cases hv with
    | cons r1 hv =>
      refine hb _ _ _ _ _ _ _ _ _ _ _ _ S r1 r2 fun tk' => wpAny_truthy_bool ?_
      have st : St c loc hp2 Vs ex ⟨h', c.gens, c.drawn, tk', c.os⟩ vs := ⟨h', tk', m, mt, fz, rfl, { S with vr := hv }⟩
      cases b with
      | true => exact hT _ _ (hP1 rfl) st
      | false => exact hF _ _ (hP2 rfl) st
theorem tst_int {op : CmpOp} {V1 V2 : V} {p : Prop} [Decidable p] {X Y : Prop} (hc : CmpOk c hp op V1 V2 (decide p)) (h1 : p → X) (h2 : ¬ p → Y) : TstC c hp op V1 V2 X Y :=
  ⟨_, hc, fun q => h1 (of_decide_eq_true q), fun q => h2 (of_decide_eq_false q)⟩
theorem tst_t {op : CmpOp} {V1 V2 : V} {p : Prop} [Decidable p] {X Y : Prop} (hc : CmpOk c hp op V1 V2 (decide p)) (hpp : p) (h1 : X) : TstC c hp op V1 V2 X Y :=
  ⟨_, hc, fun _ => h1, fun q => absurd hpp (of_decide_eq_false q)⟩
theorem tst_f {op : CmpOp} {V1 V2 : V} {p : Prop} [Decidable p] {X Y : Prop} (hc : CmpOk c hp op V1 V2 (decide p)) (hpp : ¬ p) (h1 : Y) : TstC c hp op V1 V2 X Y :=
  ⟨_, hc, fun q => absurd (of_decide_eq_true q) hpp, fun _ => h1⟩
theorem WT_val {e : PySem.Expr} (h : WE c loc hp e fun hp1 V1 => ∃ b, V1 = .bool b ∧ (b = true → PT hp1) ∧ (b = false → PF hp1))
    (he : isTrue e c.env (eval e c.env) = (do let v ← eval e c.env; standAt e.pos; holding [v] (truthy v)) := by rfl) : WT c loc hp e PT PF := by
  intro Vs vs ex s Q hs hT hF
  refine isTrue_plain (h _ _ _ _ _ hs fun hp1 V1 v1 s1 h1 hs1 => ?_) he
  obtain ⟨b, rfl, hP1, hP2⟩ := h1
  obtain ⟨h', tk, m, mt, fz, rfl, S⟩ := hs1
  have hv := S.vr
  cases hv with
  | cons r1 hv =>
    cases r1
    refine wpAny_truthy_bool ?_
    have st : St c loc hp1 Vs ex ⟨h', c.gens, c.drawn, tk, c.os⟩ vs := ⟨h', tk, m, mt, fz, rfl, { S with vr := hv }⟩
    cases b with
    | true => exact hT _ _ (hP1 rfl) st
    | false => exact hF _ _ (hP2 rfl) st
theorem WT_not {e : PySem.Expr} (h : WT c loc hp e PF PT) : WT c loc hp (.UnaryOp .Not e pos) PT PF := by
  intro Vs vs ex s Q hs hT hF
  exact isTrue_not (h _ _ _ _ _ hs hF hT)
noncomputable def WB (c : Ctx) (loc : Loc) (hp : Hp) (op : BoolOp) (es : List PySem.Expr) (pos : Pos) (PT PF : Hp → Prop) : Prop :=
  ∀ Vs vs ex s (Q : Bool → Shared → Prop), St c loc hp Vs ex s vs → (∀ hp' s', PT hp' → St c loc hp' Vs ex s' vs → Q true s') → (∀ hp' s', PF hp' → St c loc hp' Vs ex s' vs → Q false s') →
    ∀ whole, wpAny (model prg c.w) c.A (isTrue (.BoolOp op es pos) c.env whole) Q NoE s
theorem WB_and {e : PySem.Expr} {es : List PySem.Expr} (h : WT c loc hp e (fun hp1 => WB c loc hp1 .And es pos PT PF) PF) : WB c loc hp .And (e :: es) pos PT PF := by
  intro Vs vs ex s Q hs hT hF whole
  exact isTrue_and (h _ _ _ _ _ hs (fun hp1 s1 h1 hs1 => by rw [if_pos rfl]; exact h1 _ _ _ _ _ hs1 hT hF _) fun hp1 s1 h1 hs1 => by rw [if_neg Bool.false_ne_true]; exact hF _ _ h1 hs1)
theorem WB_or {e : PySem.Expr} {es : List PySem.Expr} (h : WT c loc hp e PT (fun hp1 => WB c loc hp1 .Or es pos PT PF)) : WB c loc hp .Or (e :: es) pos PT PF := by
  intro Vs vs ex s Q hs hT hF whole
  exact isTrue_or (h _ _ _ _ _ hs (fun hp1 s1 h1 hs1 => by rw [if_pos rfl]; exact hT _ _ h1 hs1) fun hp1 s1 h1 hs1 => by rw [if_neg Bool.false_ne_true]; exact h1 _ _ _ _ _ hs1 hT hF _)
theorem WB_andN (h : PT hp) : WB c loc hp .And [] pos PT PF := fun _ _ _ _ _ hs hT _ _ => isTrue_and_nil (hT _ _ h hs)
theorem WB_orN (h : PF hp) : WB c loc hp .Or [] pos PT PF := fun _ _ _ _ _ hs _ hF _ => isTrue_or_nil (hF _ _ h hs)
theorem WT_bool {op : BoolOp} {es : List PySem.Expr} (h : WB c loc hp op es pos PT PF) : WT c loc hp (.BoolOp op es pos) PT PF := fun _ _ _ _ _ hs hT hF => h _ _ _ _ _ hs hT hF _
theorem WT_chain {l r1 r2 : PySem.Expr} {op1 op2 : CmpOp} (h : WE c loc hp l fun hp1 V1 => WE c loc hp1 r1 fun hp2 V2 => ∃ b, CmpOk c hp2 op1 V1 V2 b ∧ (b = false → PF hp2) ∧ (b = true → WE c loc hp2 r2 fun hp3 V3 => ∃ b', CmpOk c hp3 op2 V2 V3 b' ∧ (b' = true → PT hp3) ∧ (b' = false → PF hp3)))
    (hm : lastMarks [op1, op2] [r1, r2] = false := by rfl) : WT c loc hp (.Compare l [op1, op2] [r1, r2] pos) PT PF := by
  intro Vs vs ex s Q hs hT hF
  refine isTrue_chain (h _ _ _ _ _ hs fun hp1 V1 v1 s1 h1 hs1 => test_link (h1 _ _ _ _ _ hs1 fun hp2 V2 v2 s2 h2 hs2 => ?_)) hm
  obtain ⟨b, hb, hP2, hP1⟩ := h2
  obtain ⟨h', tk, m, mt, fz, rfl, S⟩ := hs2
  have hv := S.vr
  cases hv with
  | cons rr2 hv =>
    cases hv with
    | cons rr1 hv =>
      refine hb _ _ _ _ _ _ _ _ _ _ _ _ S rr1 rr2 fun tk' => wpAny_truthy_bool ?_
      cases b with
      | false => exact hF _ _ (hP2 rfl) ⟨h', tk', m, mt, fz, rfl, { S with vr := hv }⟩
      | true =>
        refine test_last (hP1 rfl _ _ _ _ _ ⟨h', tk', m, mt, fz, rfl, S⟩ fun hp3 V3 v3 s3 h3 hs3 => ?_)
        obtain ⟨b', hb', hP3, hP4⟩ := h3
        obtain ⟨h'', tk, m, mt, fz, rfl, S⟩ := hs3
        have hv := S.vr
        cases hv with
        | cons rr3 hv =>
          cases hv with
          | cons rr2 hv =>
            cases hv with
            | cons rr1 hv =>
              refine hb' _ _ _ _ _ _ _ _ _ _ _ _ S rr2 rr3 fun tk' => wpAny_truthy_bool ?_
              have st : St c loc hp3 Vs ex ⟨h'', c.gens, c.drawn, tk', c.os⟩ vs := ⟨h'', tk', m, mt, fz, rfl, { S with vr := hv }⟩
              cases b' with
              | true => exact hT _ _ (hP3 rfl) st
              | false => exact hF _ _ (hP4 rfl) st
theorem WE_ifexp {t a b : PySem.Expr} (h : WT c loc hp t (fun hp1 => WE c loc hp1 a P) (fun hp1 => WE c loc hp1 b P)) : WE c loc hp (.IfExp t a b pos) P := by
  intro Vs vs ex s Q hs hQ
  exact IfExp_ (h _ _ _ _ _ hs (fun hp1 s1 h1 hs1 => by rw [if_pos rfl]; exact h1 _ _ _ _ _ hs1 hQ) fun hp1 s1 h1 hs1 => by rw [if_neg Bool.false_ne_true]; exact h1 _ _ _ _ _ hs1 hQ)
/-- `a and b` as a value, both bools -/
theorem WE_and {e1 e2 : PySem.Expr} (h : WE c loc hp e1 fun hp1 V1 => ∃ b, V1 = .bool b ∧ (b = true → WE c loc hp1 e2 P) ∧ (b = false → P hp1 (.bool false))) : WE c loc hp (.BoolOp .And [e1, e2] pos) P := by
  intro Vs vs ex s Q hs hQ
  refine BoolOp_and (h _ _ _ _ _ hs fun hp1 V1 v1 s1 h1 hs1 => ?_)
  obtain ⟨b, rfl, hP1, hP2⟩ := h1
  have hs1' := hs1.pop1
  obtain ⟨h', tk, m, mt, fz, rfl, S⟩ := hs1
  have hv := S.vr
  cases hv with
  | cons r1 hv =>
    cases r1
    refine wpAny_truthy_bool ?_
    cases b with
    | true => rw [if_pos rfl]; exact BoolOp_one (hP1 rfl _ _ _ _ _ hs1' hQ)
    | false => rw [if_neg Bool.false_ne_true]; exact hQ _ _ _ _ (hP2 rfl) ⟨h', tk, m, mt, fz, rfl, S⟩
theorem WE_or {e1 e2 : PySem.Expr} (h : WE c loc hp e1 fun hp1 V1 => ∃ b, V1 = .bool b ∧ (b = false → WE c loc hp1 e2 P) ∧ (b = true → P hp1 (.bool true))) : WE c loc hp (.BoolOp .Or [e1, e2] pos) P := by
  intro Vs vs ex s Q hs hQ
  refine BoolOp_or (h _ _ _ _ _ hs fun hp1 V1 v1 s1 h1 hs1 => ?_)
  obtain ⟨b, rfl, hP1, hP2⟩ := h1
  have hs1' := hs1.pop1
  obtain ⟨h', tk, m, mt, fz, rfl, S⟩ := hs1
  have hv := S.vr
  cases hv with
  | cons r1 hv =>
    cases r1
    refine wpAny_truthy_bool ?_
    cases b with
    | false => rw [if_neg Bool.false_ne_true]; exact BoolOp_one (hP1 rfl _ _ _ _ _ hs1' hQ)
    | true => rw [if_pos rfl]; exact hQ _ _ _ _ (hP2 rfl) ⟨h', tk, m, mt, fz, rfl, S⟩
end
/-! statements -/
section
variable {PN : Loc → Hp → Prop} {PR : Hp → V → Prop} {pos : Pos}
theorem WS_nil (h : PN loc hp) : WS c loc hp [] PN PR := fun _ _ _ _ _ hs hN _ => wpAny_execs_nil (hN _ _ _ h hs)
theorem WS_cons {st : Stmt} {r : List Stmt} (h : WX c loc hp st (fun loc1 hp1 => WS c loc1 hp1 r PN PR) PR) : WS c loc hp (st :: r) PN PR := by
  intro Vs vs ex s Q hs hN hR
  exact wpAny_execs_cons (h _ _ _ _ _ hs (fun loc1 hp1 s1 h1 hs1 => h1 _ _ _ _ _ hs1 hN hR) fun hp1 V v loc1 s1 h1 hs1 => hR _ _ _ _ _ h1 hs1)
theorem WS_last {st : Stmt} (h : WX c loc hp st PN PR) : WS c loc hp [st] PN PR := WS_cons fun _ _ _ _ _ hs hN hR => h _ _ _ _ _ hs (fun loc1 hp1 s1 h1 hs1 => hN loc1 hp1 s1 (WS_nil h1) hs1) hR
theorem WX_if {t : PySem.Expr} {a b : List Stmt} (h : WT c loc hp t (fun hp1 => WS c loc hp1 a PN PR) (fun hp1 => WS c loc hp1 b PN PR)) : WX c loc hp (.If t a b pos) PN PR := by
  intro Vs vs ex s Q hs hN hR
  exact wpAny_If (h _ _ _ _ _ hs (fun hp1 s1 h1 hs1 => by rw [if_pos rfl]; exact h1 _ _ _ _ _ hs1 hN hR) fun hp1 s1 h1 hs1 => by rw [if_neg Bool.false_ne_true]; exact h1 _ _ _ _ _ hs1 hN hR)
theorem WX_ret {e : PySem.Expr} (h : WE c loc hp e PR) : WX c loc hp (.Return (some e) pos) PN PR := by
  intro Vs vs ex s Q hs hN hR
  exact wpAny_Return_some (h _ _ _ _ _ hs fun hp1 V v s1 h1 hs1 => hR _ _ _ _ _ h1 hs1)
theorem WX_ret0 (h : PR hp .none) : WX c loc hp (.Return none pos) PN PR := by
  rintro Vs vs ex s Q ⟨h', tk, m, mt, fz, rfl, S⟩ hN hR
  exact wpAny_Return_none (hR _ _ _ _ _ h ⟨h', tk, m, mt, fz, rfl, { S with vr := .cons .none S.vr }⟩)
theorem WX_assign {x : Str} {xp : Pos} {e : PySem.Expr} (h : WE c loc hp e fun hp1 X => Asn loc x X fun loc1 => PN loc1 hp1) (hc : c.fi.cm = none := by rfl) (hx : c.cs.names.lookup x = some .local := by rfl) (hs : swapsWith e (some (.Name x xp)) pos.line c.env = pure false := by rfl) : WX c loc hp (.Assign [.Name x xp] e pos) PN PR := by
  intro Vs vs ex s Q hst hN hR
  refine wpAny_Assign_Name (h _ _ _ _ _ hst fun hp1 X v s1 h1 hs1 => ?_) hs
  obtain ⟨loc1, hl, hP⟩ := h1
  obtain ⟨h', tk, m, mt, fz, rfl, S⟩ := hs1
  have hv := S.vr
  cases hv with
  | cons r1 hv =>
    have he := env_none hc
    rw [he]
    exact storeX_L S.fr S.nw (fun h'' F' N' => hN _ _ _ hP ⟨h'', _, _, mt, fz, rfl, StB.store { S with vr := hv } hc hx hl r1 F' N'⟩) S.ok.hk (kind_of hx)
theorem WX_expr {e : PySem.Expr} (h : WE c loc hp e fun hp1 _ => PN loc hp1) (hi : interactive c.env = false := by rfl) (hs : swapsWith e none pos.line c.env = pure false := by rfl) : WX c loc hp (.Expr e pos) PN PR := by
  intro Vs vs ex s Q hst hN hR
  exact wpAny_Expr_any (h _ _ _ _ _ hst fun hp1 X v s1 h1 hs1 => hN _ _ _ h1 hs1.pop1) hi hs
end
end
section
variable {c : Ctx} {loc loc' : Loc} {hp hp' : Hp}
/-! expression lists -/
noncomputable def WL (c : Ctx) (loc : Loc) (hp : Hp) (es : List PySem.Expr) (P : Hp → List V → Prop) : Prop :=
  (es = [] → P hp []) ∧ ∀ Vs vs ex s (Q : List Value → Shared → Prop) pos, St c loc hp Vs ex s vs → (∀ hp' Ws ws s', P hp' Ws → ws.length = Ws.length → St c loc hp' (Ws ++ Vs) ex s' (ws ++ vs) → Q ws s') →
    wpAny (model prg c.w) c.A (spliced (backTo pos (starEach es c.env))) Q NoE s
theorem WL_nil {P : Hp → List V → Prop} (h : P hp []) : WL c loc hp [] P := ⟨fun _ => h, fun _ _ _ _ _ _ hs hQ => args_nil (hQ _ [] [] _ h rfl hs)⟩
theorem WL_cons {e : PySem.Expr} {es : List PySem.Expr} {P : Hp → List V → Prop} (h : WE c loc hp e fun hp1 X => WL c loc hp1 es fun hp2 Ws => P hp2 (X :: Ws)) (he : starEach (e :: es) c.env = (false, eval e c.env) :: starEach es c.env := by rfl) : WL c loc hp (e :: es) P := by
  refine ⟨nofun, ?_⟩
  intro Vs vs ex s Q pos hs hQ
  refine args_cons (h _ _ _ _ _ hs fun hp1 X v s1 h1 hs1 => h1.2 _ _ _ _ _ pos hs1 fun hp2 Ws ws s2 h2 hl hs2 => hQ _ _ _ _ h2 (by simp [hl]) ?_) he
  obtain ⟨h', tk, m, mt, fz, rfl, S⟩ := hs2
  obtain ⟨a, b, e1, ra, rb⟩ := S.vr.split
  obtain ⟨rfl, rfl⟩ := List.append_inj e1 (by rw [hl, ra.length])
  cases rb with
  | cons r1 rb => exact ⟨h', tk, m, mt, fz, rfl, { S with vr := (RepL.cons r1 ra).append rb }⟩
section
variable {P : Hp → V → Prop} {pos : Pos} {k : Nat}
theorem WE_tuple {es : List PySem.Expr} (h : WL c loc hp es fun hp1 Ws => Ws.length ≤ sizeLine ∧ P hp1 (.tup Ws)) : WE c loc hp (.Tuple es k pos) P := by
  intro Vs vs ex s Q hs hQ
  refine Tuple_ (h.2 _ _ _ _ _ _ hs fun hp1 Ws ws s1 h1 hl hs1 => ?_)
  obtain ⟨h', tk, m, mt, fz, rfl, S⟩ := hs1
  obtain ⟨a, b, e1, ra, rb⟩ := S.vr.split
  obtain ⟨rfl, rfl⟩ := List.append_inj e1 (by rw [hl, ra.length])
  refine newTuple_N S.fr S.nw (fun h'' F' N' => ?_) (by rw [hl]; exact h1.1)
  have S' := StB.pushF { S with vr := rb } F' N' fun p hp => Heap.lt_size (S.nw p hp).1
  exact hQ _ _ _ _ h1.2 ⟨h'', tk, m, mt, _, rfl, { S' with vr := .cons (.tup (.inl (.head _)) (ra.mono StB.F_cons)) S'.vr }⟩
theorem WE_listF {es : List PySem.Expr} (h : WL c loc hp es fun hp1 Ws => Ws.length ≤ sizeLine ∧ P hp1 (.lst Ws)) : WE c loc hp (.List es pos) P := by
  intro Vs vs ex s Q hs hQ
  refine List_ (h.2 _ _ _ _ _ _ hs fun hp1 Ws ws s1 h1 hl hs1 => ?_)
  obtain ⟨h', tk, m, mt, fz, rfl, S⟩ := hs1
  obtain ⟨a, b, e1, ra, rb⟩ := S.vr.split
  obtain ⟨rfl, rfl⟩ := List.append_inj e1 (by rw [hl, ra.length])
  refine newList_K S.fr S.nw (fun l h'' F' N' hlt => ?_) (by rw [hl]; exact h1.1)
  have S' := StB.pushF { S with vr := rb } F' N' hlt
  exact hQ _ _ _ _ h1.2 ⟨h'', tk, m, mt, _, rfl, { S' with vr := .cons (.lst (.inl (.head _)) (ra.mono StB.F_cons)) S'.vr }⟩
theorem WE_listM {es : List PySem.Expr} (h : WL c loc hp es fun hp1 Ws => Ws.length ≤ sizeLine ∧ ∀ a : Nat, P ((a, .list Ws) :: hp1) (.ref a)) : WE c loc hp (.List es pos) P := by
  intro Vs vs ex s Q hs hQ
  refine List_ (h.2 _ _ _ _ _ _ hs fun hp1 Ws ws s1 h1 hl hs1 => ?_)
  obtain ⟨h', tk, m, mt, fz, rfl, S⟩ := hs1
  obtain ⟨a, b, e1, ra, rb⟩ := S.vr.split
  obtain ⟨rfl, rfl⟩ := List.append_inj e1 (by rw [hl, ra.length])
  refine newList_K S.fr S.nw (fun l h'' F' N' hlt => ?_) (by rw [hl]; exact h1.1)
  have S' := StB.pushM (o := .list Ws) { S with vr := rb } F' N' hlt (.list ra)
  exact hQ _ _ _ _ (h1.2 l) ⟨h'', tk, m, _, fz, rfl, { S' with vr := .cons (.ref l) S'.vr }⟩
/-! items -/
noncomputable def ItemOk (c : Ctx) (hp : Hp) (V1 V2 X : V) : Prop :=
  ∀ loc Vs ex h vs m mt fz v1 v2 tk (Q : Value → Shared → Prop) value slice, StB c loc hp Vs ex h vs m mt fz → Rep (c.F fz) v1 V1 → Rep (c.F fz) v2 V2 →
    (∀ o i, subscripted slice false o i = operate [o, i] (getItem o i)) → (∀ v tk', Rep (c.F fz) v X → Q v ⟨h, c.gens, c.drawn, tk', c.os⟩) →
    wpAny (model prg c.w) c.A (subscriptTail value slice v1 v2) Q NoE ⟨h, c.gens, c.drawn, tk, c.os⟩
theorem item_tup {l : List V} {i : Int} {X : V} (h0 : 0 ≤ i) (hf : i < 2 ^ 63) (hx : l[i.toNat]? = some X) : ItemOk c hp (.tup l) (.int i) X := by
  intro loc Vs ex h vs m mt fz v1 v2 tk Q value slice S r1 r2 hs hQ
  cases r2
  cases r1 with
  | tup hF hr =>
    obtain ⟨v, hv, rv⟩ := hr.get hx
    have hl : i.toNat < _ := (List.getElem?_eq_some_iff.mp hv).1
    refine item_tupleT (k := i) (j := i.toNat) ⟨_, S.frz hF, rfl, _, rfl⟩ (by omega) hf ?_ (by simpa using hv) (hQ _ _ rv) (hs _ _)
    unfold seqIndex?
    simp only [show ¬ i < 0 by omega, if_false]
    simp
    omega
theorem item_lst {l : List V} {i : Int} {X : V} (h0 : 0 ≤ i) (hf : i < 2 ^ 63) (hx : l[i.toNat]? = some X) : ItemOk c hp (.lst l) (.int i) X := by
  intro loc Vs ex h vs m mt fz v1 v2 tk Q value slice S r1 r2 hs hQ
  cases r2
  cases r1 with
  | lst hF hr =>
    obtain ⟨v, hv, rv⟩ := hr.get hx
    have hL := S.list hF
    exact tail_any hL.typeIs slot_list_getitem.lookup (wpAny_getItem_list hL h0 hf (by simpa using hv) (hQ _ _ rv)) (hs _ _)
theorem item_ref {a : Nat} {l : List V} {i : Int} {X : V} (ha : HpAt hp a (.list l)) (h0 : 0 ≤ i) (hf : i < 2 ^ 63) (hx : l[i.toNat]? = some X) : ItemOk c hp (.ref a) (.int i) X := by
  intro loc Vs ex h vs m mt fz v1 v2 tk Q value slice S r1 r2 hs hQ
  cases r2
  cases r1
  obtain ⟨ob, hm, ho⟩ := S.get ha
  cases ho with
  | list hr =>
    obtain ⟨v, hv, rv⟩ := hr.get hx
    exact my_item S.nw hm h0 hf hv (hQ _ _ rv) (hs _ _)
theorem item_last {a : Nat} {l : List V} {X : V} (ha : HpAt hp a (.list l)) (hx : l.getLast? = some X) : ItemOk c hp (.ref a) (.int (-1)) X := by
  intro loc Vs ex h vs m mt fz v1 v2 tk Q value slice S r1 r2 hs hQ
  cases r2
  cases r1
  obtain ⟨ob, hm, ho⟩ := S.get ha
  cases ho with
  | @list ws n _ hr =>
    have hl := hr.length
    rw [List.getLast?_eq_getElem?] at hx
    obtain ⟨v, hv, rv⟩ := hr.get hx
    exact my_last S.nw hm (by rw [List.getLast?_eq_getElem?, hl]; exact hv) (hQ _ _ rv) (hs _ _)
noncomputable abbrev Itm (c : Ctx) (hp : Hp) (V1 V2 : V) (K : V → Prop) : Prop := ∃ X, ItemOk c hp V1 V2 X ∧ K X
theorem WE_item {e1 e2 : PySem.Expr} (h : WE c loc hp e1 fun hp1 V1 => WE c loc hp1 e2 fun hp2 V2 => Itm c hp2 V1 V2 (P hp2)) (hs : ∀ o i, subscripted e2 false o i = operate [o, i] (getItem o i) := by intro _ _; rfl) : WE c loc hp (.Subscript e1 e2 pos) P := by
  intro Vs vs ex s Q hst hQ
  refine Subscript_ (h _ _ _ _ _ hst fun hp1 V1 v1 s1 h1 hs1 => h1 _ _ _ _ _ hs1 fun hp2 V2 v2 s2 h2 hs2 => ?_)
  obtain ⟨X, hX, hP⟩ := h2
  obtain ⟨h', tk, m, mt, fz, rfl, S⟩ := hs2
  have hv := S.vr
  cases hv with
  | cons r2 hv =>
    cases hv with
    | cons r1 hv => exact hX _ _ _ _ _ _ _ _ _ _ _ _ _ _ S r1 r2 hs fun v tk' rv => hQ _ _ _ _ hP ⟨h', tk', m, mt, fz, rfl, { S with vr := .cons rv hv }⟩
theorem WE_neg {i : Int} (h : P hp (.int (-i))) {p2 : Pos} : WE c loc hp (.UnaryOp .USub (.Constant (.int i) k p2) pos) P := by
  rintro Vs vs ex s Q ⟨h', tk, m, mt, fz, rfl, S⟩ hQ
  exact UnaryOp_ (wpAny_Constant_int (PyProof.Rows.neg_int (hQ _ _ _ _ h ⟨h', _, m, mt, fz, rfl, { S with vr := .cons (.int _ _) S.vr }⟩)))
end
end
section
variable {c : Ctx} {loc loc' : Loc} {hp hp' : Hp}
inductive LstV (hp : Hp) : V → List V → Prop
  | lst {l : List V} : LstV hp (.lst l) l
  | ref {a : Nat} {l : List V} : HpAt hp a (.list l) → LstV hp (.ref a) l
section
variable {Vs : List V} {ex : List (Addr × Obj)} {h : Heap} {vs : List Value} {m : Str → Option Value} {mt fz : List (Addr × Obj)}
theorem StB.lstv (S : StB c loc hp Vs ex h vs m mt fz) {v : Value} {X : V} {l : List V} (r : Rep (c.F fz) v X) (k : LstV hp X l) : ∃ a ws n, v = .ref a ∧ h.get? a = some (listOf (List.toArray ws) n) ∧ RepL (c.F fz) ws l := by
  cases k with
  | lst => cases r with | lst hF hr => exact ⟨_, _, _, rfl, S.frz hF, hr⟩
  | ref ha =>
    cases r
    obtain ⟨ob, hm, ho⟩ := S.get ha
    cases ho with | list hr => exact ⟨_, _, _, rfl, (S.nw _ hm).1, hr⟩
theorem StB.grown (S : StB c loc hp Vs ex h vs m mt fz) {h' : Heap} (k : ∀ b o, h.get? b = some o → h'.get? b = some o) (_hz : h.objs.size ≤ h'.objs.size) : StB c loc hp Vs ex h' vs m mt fz :=
  S.keep (S.fr.keeps k) (S.nw.grown k)
theorem slice_core {value slice : PySem.Expr} {ws : List Value} {a : Addr} {n : Nat} {vl vu vk : Value} {lo hi st : Option Int} {tk : Nat} {Q : Value → Shared → Prop} (S : StB c loc hp Vs ex h vs m mt fz) (ha : h.get? a = some (listOf ws.toArray n))
    (pl : IsPart vl lo) (pu : IsPart vu hi) (pk : IsPart vk st) (h0 : st ≠ some 0) (hsz : ws.length ≤ sizeLine) {ops : Value → Value → List Value} (hs : ∀ o i, subscripted slice false o i = operate (ops o i) (getItem o i))
    (hQ : ∀ D h', StB c loc hp Vs ex h' vs m mt ((D, listOf (slicePick ws.toArray lo hi st) 0) :: fz) → Q (.ref D) ⟨h', c.gens, c.drawn, tk, c.os⟩) :
    wpAny (model prg c.w) c.A (subscriptTail value slice (.ref a) (.ref h.objs.size)) Q NoE ⟨h.push { cls := .type "slice", data := .fields #[vl, vu, vk] }, c.gens, c.drawn, tk, c.os⟩ := by
  have hl : h.IsList a ws.toArray := PySem.IsL.isList (n := n) ha
  have hl' := hl.push { cls := .type "slice", data := .fields #[vl, vu, vk] }
  refine tail_any (s := ⟨h.push { cls := .type "slice", data := .fields #[vl, vu, vk] }, c.gens, c.drawn, tk, c.os⟩) hl'.typeIs slot_list_getitem.lookup (wpAny_getItem_list_slice hl' (Heap.IsSliceOf.new ..) pl pu pk h0 ?_ (by simpa using hsz)) (hs _ _)
  have F1 := S.fr.push { cls := .type "slice", data := .fields #[vl, vu, vk] }
  have N1 : News c.h₀ c.L (h.push { cls := .type "slice", data := .fields #[vl, vu, vk] }) (mt ++ (fz ++ ex)) := S.nw.grown fun _ _ e => Heap.get?_push_of_some _ e
  exact hQ _ _ (S.pushF (F1.push _) (N1.push F1 _) fun p hp => Heap.lt_size (N1 p hp).1)
end
noncomputable def slc {α : Type} (lo hi : Option Int) (l : List α) : List α := (l.drop (kms_lo lo l.length)).take (kms_hi hi l.length - kms_lo lo l.length)
theorem RepL.slc {F : Addr → Obj → Prop} {vs : List Value} {l : List V} (h : RepL F vs l) (lo hi : Option Int) : RepL F (slicePick vs.toArray lo hi none).toList (Mine.slc lo hi l) := by
  rw [kms_pick_eq]
  show RepL F (kms_pick vs lo hi) _
  unfold kms_pick Mine.slc
  rw [h.length]
  exact (h.drop _).take _
theorem RepL.rev {F : Addr → Obj → Prop} {vs : List Value} {l : List V} (h : RepL F vs l) : RepL F (slicePick vs.toArray none none (some (-1))).toList l.reverse := by
  rw [krv_pick]
  exact h.reverse
section
variable {P : Hp → V → Prop} {pos : Pos} {k : Nat}
noncomputable abbrev SlTo (hp : Hp) (V1 V2 : V) (K : V → Prop) : Prop := ∃ l j, LstV hp V1 l ∧ V2 = .int j ∧ l.length ≤ sizeLine ∧ K (.lst (slc none (some j) l))
noncomputable abbrev SlFt (hp : Hp) (V1 V2 V3 : V) (K : V → Prop) : Prop := ∃ l i j, LstV hp V1 l ∧ V2 = .int i ∧ V3 = .int j ∧ l.length ≤ sizeLine ∧ K (.lst (slc (some i) (some j) l))
noncomputable abbrev SlRv (hp : Hp) (V1 : V) (K : V → Prop) : Prop := ∃ l, LstV hp V1 l ∧ l.length ≤ sizeLine ∧ K (.lst l.reverse)
theorem WE_sliceTo {e1 e2 : PySem.Expr} {p2 : Pos} (h : WE c loc hp e1 fun hp1 V1 => WE c loc hp1 e2 fun hp2 V2 => SlTo hp2 V1 V2 (P hp2)) :
    WE c loc hp (.Subscript e1 (.Slice none (some e2) none p2) pos) P := by
  intro Vs vs ex s Q hst hQ
  refine Subscript_ (h _ _ _ _ _ hst fun hp1 V1 v1 s1 h1 hs1 => ?_)
  refine wpAny_Slice ?_
  rw [evalPart_none]
  refine wpAny_pure ?_
  rw [evalPart_some]
  refine h1 _ _ _ _ _ hs1 fun hp2 V2 v2 s2 h2 hs2 => ?_
  refine wpAny_pure ?_
  obtain ⟨l, j, hl, rfl, hz, hP⟩ := h2
  obtain ⟨h', tk, m, mt, fz, rfl, S⟩ := hs2
  have hv := S.vr
  cases hv with
  | cons r2 hv =>
    cases hv with
    | cons r1 hv =>
      obtain ⟨a, ws, n, rfl, ha, hr⟩ := S.lstv r1 hl
      cases r2
      refine slice_core { S with vr := hv } ha .none (.int _ _) .none (by simp) (by rw [hr.length]; exact hz) (ops := fun o i => [i, o]) (fun _ _ => rfl) fun D h'' S' => ?_
      have hr' := hr.slc none (some j)
      exact hQ _ _ _ _ hP ⟨h'', _, m, mt, _, rfl, { S' with vr := .cons (.lst (vs := (slicePick ws.toArray none (some j) none).toList) (n := 0) (.inl (by rw [Array.toArray_toList]; exact .head _)) (hr'.mono StB.F_cons)) S'.vr }⟩
theorem WE_slice {e1 e2 e3 : PySem.Expr} {p2 : Pos} (h : WE c loc hp e1 fun hp1 V1 => WE c loc hp1 e2 fun hp2 V2 => WE c loc hp2 e3 fun hp3 V3 => SlFt hp3 V1 V2 V3 (P hp3)) :
    WE c loc hp (.Subscript e1 (.Slice (some e2) (some e3) none p2) pos) P := by
  intro Vs vs ex s Q hst hQ
  refine Subscript_ (h _ _ _ _ _ hst fun hp1 V1 v1 s1 h1 hs1 => ?_)
  refine wpAny_Slice ?_
  rw [evalPart_some]
  refine h1 _ _ _ _ _ hs1 fun hp2 V2 v2 s2 h2 hs2 => ?_
  rw [evalPart_some]
  refine h2 _ _ _ _ _ hs2 fun hp3 V3 v3 s3 h3 hs3 => ?_
  rw [evalPart_none]
  refine wpAny_pure ?_
  obtain ⟨l, i, j, hl, rfl, rfl, hz, hP⟩ := h3
  obtain ⟨h', tk, m, mt, fz, rfl, S⟩ := hs3
  have hv := S.vr
  cases hv with
  | cons r3 hv =>
    cases hv with
    | cons r2 hv =>
      cases hv with
      | cons r1 hv =>
        obtain ⟨a, ws, n, rfl, ha, hr⟩ := S.lstv r1 hl
        cases r2
        cases r3
        refine slice_core { S with vr := hv } ha (.int _ _) (.int _ _) .none (by simp) (by rw [hr.length]; exact hz) (ops := fun o i => [i, o]) (fun _ _ => rfl) fun D h'' S' => ?_
        have hr' := hr.slc (some i) (some j)
        exact hQ _ _ _ _ hP ⟨h'', _, m, mt, _, rfl, { S' with vr := .cons (.lst (vs := (slicePick ws.toArray (some i) (some j) none).toList) (n := 0) (.inl (by rw [Array.toArray_toList]; exact .head _)) (hr'.mono StB.F_cons)) S'.vr }⟩
theorem WE_sliceRev {e1 : PySem.Expr} {p2 p3 p4 : Pos} (h : WE c loc hp e1 fun hp1 V1 => SlRv hp1 V1 (P hp1)) :
    WE c loc hp (.Subscript e1 (.Slice none none (some (.UnaryOp .USub (.Constant (.int 1) k p4) p3)) p2) pos) P := by
  intro Vs vs ex s Q hst hQ
  refine Subscript_ (h _ _ _ _ _ hst fun hp1 V1 v1 s1 h1 hs1 => ?_)
  refine wpAny_Slice ?_
  rw [evalPart_none]
  refine wpAny_pure (wpAny_pure ?_)
  rw [evalPart_some]
  obtain ⟨l, hl, hz, hP⟩ := h1
  obtain ⟨h', tk, m, mt, fz, rfl, S⟩ := hs1
  refine UnaryOp_ (wpAny_Constant_int (PyProof.Rows.neg_int ?_))
  have hv := S.vr
  cases hv with
  | cons r1 hv =>
    obtain ⟨a, ws, n, rfl, ha, hr⟩ := S.lstv r1 hl
    refine slice_core { S with vr := hv } ha .none .none (.int _ _) (by simp) (by rw [hr.length]; exact hz) (ops := fun o i => [o, i]) (fun _ _ => rfl) fun D h'' S' => ?_
    have hr' := hr.rev
    exact hQ _ _ _ _ hP ⟨h'', _, m, mt, _, rfl, { S' with vr := .cons (.lst (vs := (slicePick ws.toArray none none (some (-1))).toList) (n := 0) (.inl (by rw [Array.toArray_toList]; exact .head _)) (hr'.mono StB.F_cons)) S'.vr }⟩
end
end
noncomputable abbrev MethEq (env : Env) (o : PySem.Expr) (name : Str) (apos pos : Pos) (args : List PySem.Expr) (pl : Sem Bool) : Prop :=
  eval (.Call (.Attribute o name apos) args [] pos) env = (do
      let ov ← eval o env
      standAt apos.atName
      let (f, first) ← holding [ov] (getMethod ov name pl)
      callWith pos f first (backTo pos (starEach args env)) [])
noncomputable abbrev AttrEq (env : Env) (value : PySem.Expr) (attr : Str) (pos : Pos) : Prop :=
  eval (.Attribute value attr pos) env = (do
      let o ← eval value env
      standAt pos.atName
      let r ← holding [o] (getAttr o attr true)
      letTemporaryGo value o r
      pure r)
noncomputable abbrev StarEq (env : Env) (e : PySem.Expr) (r : List PySem.Expr) : Prop := starEach (e :: r) env = (false, eval e env) :: starEach r env
section
variable {c : Ctx} {loc loc' : Loc} {hp hp' : Hp}
theorem LocSet.at {x : Str} {X : V} {fs fs' : Loc} (h : LocSet x X fs fs') : ∃ y, LocAt fs x y := by
  induction h with
  | head => exact ⟨_, .head⟩
  | tail _ ih => obtain ⟨y, hy⟩ := ih; exact ⟨y, .tail hy⟩
structure GetK (w : World) (C : Nat) (name : Str) : Prop where
  pg : plainGet (KK w) C name = true
  hd : hasDictIn (KK w) C = true
  fi : findIn (KK w) (.ref C) name = some none
structure SetK (w : World) (C : Nat) (name : Str) : Prop where
  sa : findIn (KK w) (.ref C) "__setattr__" = some (some (.builtin "object.__setattr__"))
  po : plainOver (KK w) C = true
  tk : takerIn (KK w) C name = some none
  hd : hasDictIn (KK w) C = true
noncomputable def isPlainV : V → Bool
  | .undef | .val _ | .pin _ _ => false
  | _ => true
theorem Rep.handed {F : Addr → Obj → Prop} {v : Value} {X : V} (r : Rep F v X) (h : isPlainV X = true) : handedIn v = true := by
  cases r <;> first | rfl | exact absurd h Bool.false_ne_true
theorem isStr_str {k name : Str} {t : Tok} : (Value.str k t).isStr name = (k == name) := rfl
theorem RepD.getL {F : Addr → Obj → Prop} {es : List DictEntry} {fs : List (Str × V)} (r : RepD F es fs) {name : Str} {X : V} (nd : (fs.map (·.1)).Nodup) (h : LocAt fs name X) : ∃ v, getL name es = some (some v) ∧ Rep F v X := by
  induction es generalizing fs with
  | nil => cases r; cases h
  | cons e es ih =>
    cases r with
    | @cons hs k t v _ x fs' hv r =>
      rw [List.map_cons, List.nodup_cons] at nd
      unfold PySem.W.getL
      rw [List.find?_cons]
      cases h with
      | head => rw [isStr_str, beq_self_eq_true]; exact ⟨v, rfl, hv⟩
      | tail h =>
        have hne : (k == name) = false := beq_eq_false_iff_ne.mpr fun q => nd.1 (q ▸ List.mem_map.mpr ⟨_, h.mem, rfl⟩)
        obtain ⟨u, h1, h2⟩ := ih r nd.2 h
        refine ⟨u, ?_, h2⟩
        rw [isStr_str, hne]
        unfold PySem.W.getL at h1
        split at h1
        · rename_i e' q; simp only [q]; exact h1
        · split at h1 <;> cases h1
theorem RepD.noKey {F : Addr → Obj → Prop} {es : List DictEntry} {fs : List (Str × V)} (r : RepD F es fs) {name : Str} (h : name ∉ fs.map (·.1)) : es.any (·.key.isStr name) = false ∧ es.find? (·.key.isStr name) = none ∧ es.any (·.refKey) = false := by
  induction es generalizing fs with
  | nil => exact ⟨rfl, rfl, rfl⟩
  | cons e es ih =>
    cases r with
    | @cons hs k t v _ x fs' hv r =>
      rw [List.map_cons, List.mem_cons, not_or] at h
      obtain ⟨a, b, d⟩ := ih r h.2
      have hne : (k == name) = false := beq_eq_false_iff_ne.mpr fun q => h.1 q.symm
      refine ⟨?_, ?_, ?_⟩
      · rw [List.any_cons, isStr_str, hne, a]; rfl
      · rw [List.find?_cons, isStr_str, hne]; exact b
      · rw [List.any_cons, d]; rfl
theorem RepD.getL_none {F : Addr → Obj → Prop} {es : List DictEntry} {fs : List (Str × V)} (r : RepD F es fs) {name : Str} (h : name ∉ fs.map (·.1)) : PySem.W.getL name es = some none := by
  obtain ⟨_, b, d⟩ := r.noKey h
  unfold PySem.W.getL
  rw [b, d]; rfl
theorem RepD.putL {F : Addr → Obj → Prop} {es : List DictEntry} {fs fs' : List (Str × V)} (r : RepD F es fs) {name : Str} {X : V} {v : Value} {hs : Int} {key : Value} (nd : (fs.map (·.1)).Nodup) (h : LocSet name X fs fs') (hv : Rep F v X) : RepD F (PySem.W.putL name hs key v es) fs' := by
  induction h generalizing es with
  | head =>
    cases r with
    | cons _ r => unfold PySem.W.putL; rw [isStr_str, beq_self_eq_true, if_pos rfl]; exact .cons hv r
  | @tail p fr fr' h ih =>
    cases r with
    | @cons hs' k t v' es' x _ hv' r =>
      rw [List.map_cons, List.nodup_cons] at nd
      have hne : (k == name) = false := beq_eq_false_iff_ne.mpr fun q => nd.1 (q ▸ h.keys.2)
      unfold PySem.W.putL
      rw [isStr_str, hne, if_neg Bool.false_ne_true]
      exact .cons hv' (ih r nd.2)
theorem RepD.putL_new {F : Addr → Obj → Prop} {es : List DictEntry} {fs : List (Str × V)} (r : RepD F es fs) {name : Str} {X : V} {v : Value} {hs : Int} {t : Tok} (h : name ∉ fs.map (·.1)) (hv : Rep F v X) : RepD F (PySem.W.putL name hs (.str name t) v es) (fs ++ [(name, X)]) := by
  induction es generalizing fs with
  | nil => cases r; exact .cons hv .nil
  | cons e es ih =>
    cases r with
    | @cons hs' k t' v' _ x fs' hv' r =>
      rw [List.map_cons, List.mem_cons, not_or] at h
      have hne : (k == name) = false := beq_eq_false_iff_ne.mpr fun q => h.1 q.symm
      unfold PySem.W.putL
      rw [isStr_str, hne, if_neg Bool.false_ne_true]
      exact .cons hv' (ih r h.2)
theorem RepD.length {F : Addr → Obj → Prop} {es : List DictEntry} {fs : List (Str × V)} (r : RepD F es fs) : es.length = fs.length := by
  induction es generalizing fs with
  | nil => cases r; rfl
  | cons e es ih => cases r with | cons _ r => rw [List.length_cons, List.length_cons, ih r]
section
variable {P : Hp → V → Prop} {pos : Pos} {k : Nat}
/-- an attribute of an object -/
inductive AttrV (hp : Hp) (w : World) (name : Str) : V → V → Prop
  | ref {a C d : Nat} {fs : List (Str × V)} {X : V} : HpAt hp a (.inst C d) → HpAt hp d (.dict fs) → LocAt fs name X → isPlainV X = true → GetK w C name → AttrV hp w name (.ref a) X
  | obj {C : Nat} {fs : List (Str × V)} {X : V} : LocAt fs name X → isPlainV X = true → GetK w C name → AttrV hp w name (.obj C fs) X
noncomputable abbrev Atr (hp : Hp) (w : World) (name : Str) (V1 : V) (K : V → Prop) : Prop := ∃ X, AttrV hp w name V1 X ∧ K X
theorem WE_attr {e : PySem.Expr} {name : Str} (h : WE c loc hp e fun hp1 V1 => Atr hp1 c.w name V1 (P hp1)) (he : AttrEq c.env e name pos := by rfl) : WE c loc hp (.Attribute e name pos) P := by
  intro Vs vs ex s Q hst hQ
  refine Attribute_any_ (h _ _ _ _ _ hst fun hp1 V1 v1 s1 h1 hs1 => ?_) he
  obtain ⟨X, hX, hP⟩ := h1
  obtain ⟨h', tk, m, mt, fz, rfl, S⟩ := hs1
  have hv := S.vr
  cases hv with
  | cons r1 hv =>
    cases hX with
    | ref ha hd hl hp' g =>
      cases r1
      obtain ⟨ob, hm, ho⟩ := S.get ha
      obtain ⟨ob2, hm2, ho2⟩ := S.get hd
      cases ho
      cases ho2 with
      | dict nd rd =>
        obtain ⟨v, hg, rv⟩ := rd.getL nd hl
        exact get_own S.fr S.ok.X (W.InstAt.of_news S.nw hm hm2) g.pg g.hd g.fi rfl hg (rv.handed hp') (hQ _ _ _ _ hP ⟨h', _, m, mt, fz, rfl, { S with vr := .cons rv hv }⟩)
    | obj hl hp' g =>
      cases r1 with
      | obj nd h1 h2 rd =>
        obtain ⟨v, hg, rv⟩ := rd.getL nd hl
        exact get_own S.fr S.ok.X ⟨S.frz h1, rfl, rfl, S.frz h2⟩ g.pg g.hd g.fi rfl hg (rv.handed hp') (hQ _ _ _ _ hP ⟨h', _, m, mt, fz, rfl, { S with vr := .cons rv hv }⟩)
end
section
variable {PN : Loc → Hp → Prop} {PR : Hp → V → Prop} {pos : Pos}
noncomputable abbrev SAt (w : World) (hp2 : Hp) (name : Str) (V2 X : V) (K : Hp → Prop) : Prop := ∃ a C d fs fs' hp3, V2 = .ref a ∧ HpAt hp2 a (.inst C d) ∧ HpMod d (.dict fs) (.dict fs') hp2 hp3 ∧ SetK w C name ∧ fs.length ≤ 900 ∧
      (LocSet name X fs fs' ∨ (name ∉ fs.map (·.1) ∧ fs' = fs ++ [(name, X)])) ∧ K hp3
theorem WX_setattr {eo e : PySem.Expr} {name : Str} {ap : Pos} (h : WE c loc hp e fun hp1 X => WE c loc hp1 eo fun hp2 V2 => SAt c.w hp2 name V2 X (PN loc))
    (hs : swapsWith e (some (eo.Attribute name ap)) pos.line c.env = pure false := by rfl) : WX c loc hp (.Assign [.Attribute eo name ap] e pos) PN PR := by
  intro Vs vs ex s Q hst hN hR
  refine plainObj_wpAny_Assign_Attribute (h _ _ _ _ _ hst fun hp1 X v1 s1 h1 hs1 => h1 _ _ _ _ _ hs1 fun hp2 V2 v2 s2 h2 hs2 => ?_) hs
  obtain ⟨a, C, d, fs, fs', hp3, rfl, ha, hd, g, hz, hf, hP⟩ := h2
  obtain ⟨h', tk, m, mt, fz, rfl, S⟩ := hs2
  have hv := S.vr
  cases hv with
  | cons r2 hv =>
    cases hv with
    | cons r1 hv =>
      cases r2
      obtain ⟨ob, hm, ho⟩ := S.get ha
      obtain ⟨ob2, ho2, hm2, up⟩ := StB.upd { S with vr := hv } hd
      cases ho
      cases ho2 with
      | @dict es n _ nd rd =>
        have I := W.InstAt.of_news S.nw hm hm2
        have key : (PySem.W.getL name es).isSome = true ∧ RepD (c.F fz) (PySem.W.putL name (PyData.keyHash c.w.params name) (.str name (tk + 1)) v1 es) fs' ∧ (fs'.map (·.1)).Nodup ∧ fs'.length ≤ 901 := by
          rcases hf with hf | ⟨hn, rfl⟩
          · have hk := hf.keys
            obtain ⟨x, hx⟩ := hf.at
            obtain ⟨u, hu, _⟩ := rd.getL nd hx
            exact ⟨by rw [hu]; rfl, rd.putL nd hf r1, by rw [hk.1]; exact nd, by have := congrArg List.length hk.1; simp at this; omega⟩
          · exact ⟨by rw [rd.getL_none hn]; rfl, rd.putL_new hn r1, by rw [List.map_append, List.map_cons, List.map_nil]; exact List.nodup_append.mpr ⟨nd, by simp, by simp; intro a b q; exact fun e => hn (e ▸ List.mem_map.mpr ⟨_, q, rfl⟩)⟩, by simp; omega⟩
        obtain ⟨k1, k2, k3, k4⟩ := key
        obtain ⟨mt', U, fin⟩ := up _ (.dict (n := putN name es n) k3 k2)
        exact set_dict S.fr S.ok.X S.nw I rfl g.sa g.po g.tk g.hd k1 rfl U (by rw [k2.length]; omega) fun h'' F' N' => hN _ _ _ hP ⟨h'', _, m, mt', fz, rfl, fin h'' F' N'⟩
end
end
section
variable {c : Ctx} {loc loc' : Loc} {hp hp' : Hp}
noncomputable def CallOk (c : Ctx) (loc : Loc) (hp : Hp) (f : Value) (Xs : List V) (P : Hp → V → Prop) : Prop :=
  ∀ Vs vs ws ex s (Q : Value → Shared → Prop), St c loc hp (Xs ++ Vs) ex s (ws ++ vs) → ws.length = Xs.length → (∀ hp' X v s', P hp' X → St c loc hp' (X :: Vs) ex s' (v :: vs) → Q v s') →
    wpAny (model prg c.w) c.A (call f ws) Q NoE s
/-! entering a function -/
theorem LocR.pack {F : Addr → Obj → Prop} {m : Str → Option Value} (h : LocR c F m loc) :
    ∃ ws, RepL F ws (loc.map (·.2)) ∧ ∀ G : Addr → Obj → Prop, RepL G ws (loc.map (·.2)) → LocR c G m loc := by
  induction loc with
  | nil => exact ⟨[], .nil, fun _ _ x X hm => nomatch hm⟩
  | cons p r ih =>
    obtain ⟨ws, h1, h2⟩ := ih fun x X hm => h x X (.tail _ hm)
    rcases h p.1 p.2 (.head _) with e | ⟨v, e, hv⟩
    · refine ⟨.none :: ws, .cons (by show Rep F .none p.2; rw [e]; exact .undef _) h1, fun G k => ?_⟩
      cases k with
      | cons _ k =>
        intro x X hm
        rcases List.mem_cons.mp hm with q | hm
        · subst q; exact .inl e
        · exact h2 G k x X hm
    · refine ⟨v :: ws, .cons hv h1, fun G k => ?_⟩
      cases k with
      | cons k1 k =>
        intro x X hm
        rcases List.mem_cons.mp hm with q | hm
        · subst q; exact .inr ⟨v, e, k1⟩
        · exact h2 G k x X hm
theorem zip_lookup {F : Addr → Obj → Prop} {x : Str} {X : V} : ∀ {names : List Str} {Xs : List V} {ws : List Value}, names.Nodup → RepL F ws Xs → (x, X) ∈ names.zip Xs → ∃ v, (x, v) ∈ names.zip ws ∧ Rep F v X
  | [], _, _, _, _, hm => by simp at hm
  | _ :: _, _, _, _, .nil, hm => by simp at hm
  | n :: names, _, _, hn, .cons r1 r, hm => by
    rw [List.zip_cons_cons] at hm ⊢
    rcases List.mem_cons.mp hm with e | hm
    · cases e; exact ⟨_, .head _, r1⟩
    · obtain ⟨v, h1, h2⟩ := zip_lookup (List.nodup_cons.mp hn).2 r hm
      exact ⟨v, .tail _ h1, h2⟩
theorem lookup_of_mem {x : Str} {v : Value} : ∀ {l : List (Str × Value)}, (l.map (·.1)).Nodup → (x, v) ∈ l → l.lookup x = some v
  | [], _, hm => nomatch hm
  | (y, u) :: l, hn, hm => by
    rw [List.map_cons, List.nodup_cons] at hn
    rcases List.mem_cons.mp hm with e | hm
    · cases e; rw [List.lookup_cons, beq_self_eq_true]
    · have hne : (x == y) = false := beq_eq_false_iff_ne.mpr fun q => hn.1 (q ▸ List.mem_map.mpr ⟨_, hm, rfl⟩)
      rw [List.lookup_cons, hne]
      exact lookup_of_mem hn.2 hm
theorem zip_names {α β : Type} : ∀ {a : List α} {b : List β}, b.length = a.length → (a.zip b).map (·.1) = a
  | [], _, _ => rfl
  | _ :: _, [], h => by cases h
  | x :: a, y :: b, h => by rw [List.zip_cons_cons, List.map_cons, zip_names (Nat.succ.inj h)]
theorem enter_core {P : Hp → V → Prop} (hcm : c.fi.cm = none) {A : Around} {dp' un' : Nat} {name qual : Str} {params : Arguments} {body : List Stmt} {scope : Scope} {dV kV doc pm cdv ct oc : Value} {an od : Option Addr} {osl : Array (Option Value)} {f : Addr}
    {Xs Vs : List V} {ex : List (Addr × Obj)} {h : Heap} {ws vs : List Value} {m : Str → Option Value} {mt fz : List (Addr × Obj)} {tk : Nat} {R : Result → Shared → Prop} {names rest : List Str}
    (hA : A.frames = some (c.fenv :: c.outer)) (hA' : ∀ L', A.deeper (envOf qual scope L' f cdv) = ktrTop dp' un' c.gd qual scope L' f cdv [] (c.fenv :: c.outer)) (hroom : A.depth < recursionLimit) (hd' : dp' < 900) (hu' : un' < 9000)
    (ho : (KK c.w).lookup f = some ⟨oc, od, .func (fnOf name qual params body scope dV kV doc pm an cdv ct), osl⟩) (hcd : codeIn (KK c.w) cdv qual = true)
    (hbind : bindArgs (fnOf name qual params body scope dV kV doc pm an cdv ct) ⟨ws, []⟩ = pure (names.zip ws))
    (hkeys : KeysOk (names ++ rest)) (hloc : ∀ x ∈ names, scope.names.lookup x = some .local) (hco : scope.isCoroutine = false) (hgen : scope.isGenerator = false) (hk : scope.kind = .function) (hcell : ∀ x ∈ scope.names, x.2 ≠ .cell)
    (hn : Xs.length = names.length) (S : StB c loc hp (Xs ++ Vs) ex h (ws ++ vs) m mt fz) (hl : ws.length = Xs.length)
    (hb : ∀ r : CtxR, r.dp = dp' → r.un = un' → WS ⟨⟨qual, scope, none⟩, { r with w := c.w }⟩ (names.zip Xs ++ rest.map (·, .undef)) hp body (fun _ hp' => P hp' .none) P)
    (hQ : ∀ hp' X v s', P hp' X → St c loc hp' (X :: Vs) ex s' (v :: vs) → R (.ok (.ret v)) s') :
    codeAny (model prg c.w) A (.call (.ref f) ⟨ws, []⟩) R ⟨h, c.gens, c.drawn, tk, c.os⟩ := by
  obtain ⟨a, b, e1, ra, rb⟩ := S.vr.split
  obtain ⟨rfl, rfl⟩ := List.append_inj e1 (by rw [hl, ra.length])
  have hnn : (names.zip ws).map (·.1) = names := zip_names (by rw [hl, hn])
  have hndn : names.Nodup := (List.nodup_append.mp hkeys.1).1
  obtain ⟨lw, hlw, back0⟩ := S.lr.pack
  refine code_def (s := ⟨h, c.gens, c.drawn, tk, c.os⟩) (binds := names.zip ws) S.ok.B S.fr S.ok.X S.nw S.ok.T hA rfl S.ok.hk ho hcd hroom (.of_eq hbind) (fun y hy => ?_) (fun g L' h₁ FG F' N' B' X' T' => ?_) hco hgen hk hcell
  · exact hloc y.1 (hnn ▸ List.mem_map.mpr ⟨y, hy, rfl⟩)
  · have hc := hb { c.r with h₀ := g, A₀ := A, outer := c.fenv :: c.outer, dp := dp', un := un', L := L', a := f, ccd := cdv, fcl := [], cx := [], oloc := [] } rfl rfl
    have S' : StB ⟨⟨qual, scope, none⟩, { c.r with h₀ := g, A₀ := A, outer := c.fenv :: c.outer, dp := dp', un := un', L := L', a := f, ccd := cdv, fcl := [], cx := [], oloc := [] }⟩ (names.zip Xs ++ rest.map (·, .undef)) hp (loc.map (·.2) ++ Vs) ex h₁ (lw ++ vs) (fun y => (names.zip ws).reverse.lookup y) mt fz := by
      refine ⟨⟨hk, fun _ => rfl, B', S.ok.Xb, X', T', hk, hd', hu'⟩, F', N', S.nd, ?_, ?_, fun _ h => (List.not_mem_nil h).elim, fun _ _ h => (List.not_mem_nil h).elim, S.hr, hlw.append rb⟩
      · rw [List.map_append, zip_names hn, List.map_map, show (fun x : Str × V => x.1) ∘ (fun x => (x, V.undef)) = id from rfl, List.map_id]
        exact hkeys
      · intro x X hm
        rcases List.mem_append.mp hm with hm | hm
        · obtain ⟨v, h1, h2⟩ := zip_lookup hndn ra hm
          exact .inr ⟨v, .loc rfl (hloc x (List.of_mem_zip hm).1) (lookup_of_mem (by rw [List.map_reverse, hnn]; exact (List.reverse_perm names).nodup_iff.mpr hndn) (List.mem_reverse.mpr h1)), h2⟩
        · obtain ⟨y, _, e⟩ := List.mem_map.mp hm
          cases e; exact .inl rfl
    rw [hA']
    have back : ∀ (loc'' : Loc) (hp' : Hp) (X : V) (v : Value) (s' : Shared), P hp' X → St ⟨⟨qual, scope, none⟩, { c.r with h₀ := g, A₀ := A, outer := c.fenv :: c.outer, dp := dp', un := un', L := L', a := f, ccd := cdv, fcl := [], cx := [], oloc := [] }⟩ loc'' hp' (X :: (loc.map (·.2) ++ Vs)) ex s' (v :: (lw ++ vs)) → LeaveK c.h₀ c.L m g R v s' := by
      rintro loc'' hp' X v s' hP ⟨h2, tk2, m2, mt2, fz2, rfl, S2⟩
      refine leaveK_ S2.fr S2.nw fun F3 N3 => hQ hp' X v _ hP ⟨h2, tk2, m, mt2, fz2, rfl, ?_⟩
      have hv := S2.vr
      cases hv with
      | cons r1 hv =>
        obtain ⟨a, b, e1, ra2, rb2⟩ := hv.split
        obtain ⟨rfl, rfl⟩ := List.append_inj e1 (by rw [ra2.length, hlw.length])
        exact ⟨S.ok, F3, N3, S2.nd, S.lk, back0 _ ra2, S.cxs, by rw [S.ok.ol hcm]; exact fun _ _ h => (List.not_mem_nil h).elim, S2.hr, .cons r1 rb2⟩
    refine noE (hc _ _ _ _ _ ⟨h₁, _, _, mt, fz, rfl, S'⟩ (fun loc'' hp' s' hP hS => ?_) fun hp' X v loc'' s' hP hS => back _ _ _ _ _ hP hS)
    refine back loc'' _ _ _ _ hP ?_
    obtain ⟨h2, tk2, m2, mt2, fz2, rfl, S2⟩ := hS
    exact ⟨h2, tk2, m2, mt2, fz2, rfl, { S2 with vr := .cons .none S2.vr }⟩
theorem callK {P : Hp → V → Prop} {k : Nat} {name qual : Str} {params : Arguments} {body : List Stmt} {scope : Scope} {dV kV doc pm cdv ct oc : Value} {an od : Option Addr} {osl : Array (Option Value)} {f : Addr}
    {Xs : List V} {names rest : List Str} (hcm : c.fi.cm = none) (room : c.Room (k + 1))
    (ho : (KK c.w).lookup f = some ⟨oc, od, .func (fnOf name qual params body scope dV kV doc pm an cdv ct), osl⟩) (hcd : codeIn (KK c.w) cdv qual = true)
    (hbind : ∀ ws : List Value, ws.length = names.length → bindArgs (fnOf name qual params body scope dV kV doc pm an cdv ct) ⟨ws, []⟩ = pure (names.zip ws))
    (hkeys : KeysOk (names ++ rest)) (hloc : ∀ x ∈ names, scope.names.lookup x = some .local) (hs : scope.isCoroutine = false ∧ scope.isGenerator = false ∧ scope.kind = .function) (hcell : ∀ x ∈ scope.names, x.2 ≠ .cell)
    (hn : Xs.length = names.length)
    (hb : ∀ r : CtxR, (⟨⟨qual, scope, none⟩, { r with w := c.w }⟩ : Ctx).Room k → WS ⟨⟨qual, scope, none⟩, { r with w := c.w }⟩ (names.zip Xs ++ rest.map (·, .undef)) hp body (fun _ hp' => P hp' .none) P) : CallOk c loc hp (.ref f) Xs P := by
  rintro Vs vs ws ex s Q ⟨h, tk, m, mt, fz, rfl, S⟩ hl hQ
  refine wpAny_call (enter_core hcm (A := c.A) (dp' := c.dp + 1) (un' := c.un + 3) rfl (fun _ => rfl) ?_ ?_ ?_ ho hcd (hbind ws (by rw [hl, hn])) hkeys hloc hs.1 hs.2.1 hs.2.2 hcell hn S hl (fun r h1 h2 => hb r ⟨?_, ?_⟩) fun hp' X v s' hP hS => hQ hp' X v s' hP hS)
  · have := room.1; show c.dp < 1000; omega
  · have := room.1; omega
  · have := room.2; omega
  · show r.dp + 10 * k < 900; have := room.1; omega
  · show r.un + 50 * k < 9000; have := room.2; omega
/-! entering a function one of whose parameters is captured -/
theorem bindL_keep {k : Str → Option NameKind} {x : Str} : ∀ {l : List (Str × Value)} {m : Str → Option Value}, (∀ p ∈ l, p.1 ≠ x) → bindL k l m x = m x
  | [], _, _ => rfl
  | p :: l, m, h => by
    unfold bindL
    rw [bindL_keep (l := l) fun q hq => h q (.tail _ hq)]
    split
    · exact if_neg (Ne.symm (h p (.head _)))
    · rfl
theorem bindC_keep {k : Str → Option NameKind} {x : Str} : ∀ {l : List (Str × Value)} {m : Str → Option Value}, (∀ p ∈ l, p.1 ≠ x) → bindC k l m x = m x
  | [], _, _ => rfl
  | p :: l, m, h => by
    unfold bindC
    rw [bindC_keep (l := l) fun q hq => h q (.tail _ hq)]
    split
    · rfl
    · exact if_neg (Ne.symm (h p (.head _)))
theorem bindL_mem {k : Str → Option NameKind} {x : Str} {v : Value} (hk : k x = some .local) : ∀ {l : List (Str × Value)} {m : Str → Option Value}, (l.map (·.1)).Nodup → (x, v) ∈ l → bindL k l m x = some v
  | [], _, _, h => nomatch h
  | p :: l, m, hn, h => by
    rw [List.map_cons, List.nodup_cons] at hn
    unfold bindL
    rcases List.mem_cons.mp h with e | h
    · subst e
      rw [bindL_keep fun q hq e => hn.1 (List.mem_map.mpr ⟨q, hq, e⟩), if_pos hk]
      exact if_pos rfl
    · exact bindL_mem hk hn.2 h
theorem bindC_mem {k : Str → Option NameKind} {x : Str} {v : Value} (hk : k x ≠ some .local) : ∀ {l : List (Str × Value)} {m : Str → Option Value}, (l.map (·.1)).Nodup → (x, v) ∈ l → bindC k l m x = some v
  | [], _, _, h => nomatch h
  | p :: l, m, hn, h => by
    rw [List.map_cons, List.nodup_cons] at hn
    unfold bindC
    rcases List.mem_cons.mp h with e | h
    · subst e
      rw [bindC_keep fun q hq e => hn.1 (List.mem_map.mpr ⟨q, hq, e⟩), if_neg hk]
      exact if_pos rfl
    · exact bindC_mem hk hn.2 h
theorem callC {P : Hp → V → Prop} {k : Nat} {name qual x₀ : Str} {params : Arguments} {body : List Stmt} {scope : Scope} {dV kV doc pm cdv ct oc : Value} {an od : Option Addr} {osl : Array (Option Value)} {f : Addr}
    {Xs : List V} {names rest : List Str} (hcm : c.fi.cm = none) (room : c.Room (k + 1))
    (ho : (KK c.w).lookup f = some ⟨oc, od, .func (fnOf name qual params body scope dV kV doc pm an cdv ct), osl⟩) (hcd : codeIn (KK c.w) cdv qual = true)
    (hbind : ∀ ws : List Value, ws.length = names.length → bindArgs (fnOf name qual params body scope dV kV doc pm an cdv ct) ⟨ws, []⟩ = pure (names.zip ws))
    (hkeys : KeysOk (names ++ rest)) (hloc : ∀ x ∈ names, x ≠ x₀ → scope.names.lookup x = some .local) (h0 : scope.names.lookup x₀ = some .cell) (hcf : ∀ n, cellsFrom n scope.names [] = [(x₀, n)])
    (hs : scope.isCoroutine = false ∧ scope.isGenerator = false ∧ scope.kind = .function)
    (hn : Xs.length = names.length)
    (hb : ∀ r : CtxR, (⟨⟨qual, scope, none⟩, { r with w := c.w, fcl := [(x₀, r.L + 1)] }⟩ : Ctx).Room k → WS ⟨⟨qual, scope, none⟩, { r with w := c.w, fcl := [(x₀, r.L + 1)] }⟩ (names.zip Xs ++ rest.map (·, .undef)) hp body (fun _ hp' => P hp' .none) P) : CallOk c loc hp (.ref f) Xs P := by
  rintro Vs vs ws ex s Q ⟨h, tk, m, mt, fz, rfl, S⟩ hl hQ
  obtain ⟨a, b, e1, ra, rb⟩ := S.vr.split
  obtain ⟨rfl, rfl⟩ := List.append_inj e1 (by rw [hl, ra.length])
  have hnn : (names.zip ws).map (·.1) = names := zip_names (by rw [hl, hn])
  have hndn : names.Nodup := (List.nodup_append.mp hkeys.1).1
  obtain ⟨lw, hlw, back0⟩ := S.lr.pack
  have hknd : ∀ {n : Str}, n ∈ names → scope.names.lookup n = some .local ∨ (n = x₀ ∧ scope.names.lookup n = some .cell) := fun {n} hm => by
    by_cases q : n = x₀
    · exact .inr ⟨q, q ▸ h0⟩
    · exact .inl (hloc n hm q)
  refine wpAny_call ?_
  refine code_defC (s := ⟨h, c.gens, c.drawn, tk, c.os⟩) (binds := names.zip ws) (env := c.fenv) (outer := c.outer) S.ok.B S.fr S.ok.X S.nw S.ok.T rfl rfl S.ok.hk ho hcd ?_ (.of_eq (hbind ws (by rw [hl, hn]))) ?_ (by rw [hcf]; simp) (fun g L' h₁ tk' cells FG F' N' Y B' X' T' hlt => ?_) hs.1 hs.2.1 hs.2.2
  · have := room.1; show c.dp < 1000; omega
  · refine List.all_eq_true.mpr fun y hy => ?_
    rcases hknd (hnn ▸ List.mem_map.mpr ⟨y, hy, rfl⟩) with q | q
    · rw [q]; rfl
    · rw [q.2]; rfl
  · rw [hcf] at Y
    obtain ⟨oC, rfl, hoC⟩ := Y.one
    have hEnv : envOfC qual scope L' f cdv = envX qual scope L' f cdv [(x₀, L' + 1)] := by
      show envX qual scope L' f cdv (cellsFrom (L' + 1) scope.names []) = _
      rw [hcf]
    have hc := hb { c.r with h₀ := g, A₀ := c.A, outer := c.fenv :: c.outer, dp := c.dp + 1, un := c.un + 3, L := L', a := f, ccd := cdv, fcl := [(x₀, L' + 1)], cx := [(L' + 1, oC)], oloc := [] } ⟨by have := room.1; show c.dp + 1 + 10 * k < 900; omega, by have := room.2; show c.un + 3 + 50 * k < 9000; omega⟩
    have S' : StB ⟨⟨qual, scope, none⟩, { c.r with h₀ := g, A₀ := c.A, outer := c.fenv :: c.outer, dp := c.dp + 1, un := c.un + 3, L := L', a := f, ccd := cdv, fcl := [(x₀, L' + 1)], cx := [(L' + 1, oC)], oloc := [] }⟩ (names.zip Xs ++ rest.map (·, .undef)) hp (loc.map (·.2) ++ Vs) ((L' + 1, oC) :: ex) h₁ (lw ++ vs) (bindL (envOfC qual scope L' f cdv).kindOf (names.zip ws) fun _ => none) mt fz := by
      refine ⟨⟨hs.2.2, fun _ => rfl, B', S.ok.Xb, X', T', hs.2.2, by have := room.1; show c.dp + 1 < 900; omega, by have := room.2; show c.un + 3 < 9000; omega⟩, F', fun p hp => N' p ?_, ?_, ?_, ?_, ?_, fun _ _ h => (List.not_mem_nil h).elim, S.hr, hlw.append rb⟩
      · simp only [List.mem_append, List.mem_cons, List.not_mem_nil, or_false] at hp ⊢
        rcases hp with q | q | q | q
        · exact .inr (.inl q)
        · exact .inr (.inr (.inl q))
        · exact .inl q
        · exact .inr (.inr (.inr q))
      · have h2 := S.nd
        have h1 : L' + 1 ∉ (mt ++ (fz ++ ex)).map (·.1) := nodup_new fun p hp => Nat.lt_succ_of_lt (hlt p hp)
        rw [← List.append_assoc] at h1 h2 ⊢
        simp only [List.map_append, List.map_cons] at h1 h2 ⊢
        exact List.perm_middle.nodup_iff.mpr (List.nodup_cons.mpr ⟨h1, h2⟩)
      · rw [List.map_append, zip_names hn, List.map_map, show (fun x : Str × V => x.1) ∘ (fun x => (x, V.undef)) = id from rfl, List.map_id]
        exact hkeys
      · intro x X hm
        rcases List.mem_append.mp hm with hm | hm
        · obtain ⟨v, h1, h2⟩ := zip_lookup hndn ra hm
          refine .inr ⟨v, ?_, h2⟩
          rcases hknd (List.of_mem_zip hm).1 with q | ⟨rfl, q⟩
          · exact .loc rfl q (bindL_mem q (by rw [hnn]; exact hndn) h1)
          · refine .cell (a := L' + 1) (o := oC) q (by show List.lookup x [(x, L' + 1)] = _; rw [List.lookup_cons, beq_self_eq_true]) (.head _) ?_
            rw [hoC, bindC_mem (by show ¬ scope.names.lookup x = some .local; rw [q]; simp) (by rw [hnn]; exact hndn) h1]
        · obtain ⟨y, _, e⟩ := List.mem_map.mp hm
          cases e; exact .inl rfl
      · intro p hp; exact List.mem_singleton.mp hp ▸ .head _
    have back : ∀ (loc'' : Loc) (hp' : Hp) (X : V) (v : Value) (s' : Shared), P hp' X → St ⟨⟨qual, scope, none⟩, { c.r with h₀ := g, A₀ := c.A, outer := c.fenv :: c.outer, dp := c.dp + 1, un := c.un + 3, L := L', a := f, ccd := cdv, fcl := [(x₀, L' + 1)], cx := [(L' + 1, oC)], oloc := [] }⟩ loc'' hp' (X :: (loc.map (·.2) ++ Vs)) ((L' + 1, oC) :: ex) s' (v :: (lw ++ vs)) → LeaveK c.h₀ c.L m g (fun r s' => match r with | .ok (.ret v) => Q v s' | .ok _ => False | .error e => NoE e s') v s' := by
      rintro loc'' hp' X v s' hP ⟨h2, tk2, m2, mt2, fz2, rfl, S2⟩
      have N2 : News g L' h2 (mt2 ++ (fz2 ++ ex)) := fun p hp => S2.nw p (by
        simp only [List.mem_append, List.mem_cons] at hp ⊢
        rcases hp with q | q | q
        · exact .inl q
        · exact .inr (.inl q)
        · exact .inr (.inr (.inr q)))
      refine leaveK_ S2.fr N2 fun F3 N3 => hQ hp' X v _ hP ⟨h2, tk2, m, mt2, fz2, rfl, ?_⟩
      have hv := S2.vr
      have hnd := S2.nd
      have hnd' : ((mt2 ++ (fz2 ++ ex)).map (·.1)).Nodup := by
        rw [← List.append_assoc] at hnd ⊢
        simp only [List.map_append, List.map_cons] at hnd ⊢
        exact (List.nodup_cons.mp (List.perm_middle.nodup_iff.mp hnd)).2
      cases hv with
      | cons r1 hv =>
        obtain ⟨a, b, e1, ra2, rb2⟩ := hv.split
        obtain ⟨rfl, rfl⟩ := List.append_inj e1 (by rw [ra2.length, hlw.length])
        exact ⟨S.ok, F3, N3, hnd', S.lk, back0 _ ra2, S.cxs, by rw [S.ok.ol hcm]; exact fun _ _ h => (List.not_mem_nil h).elim, S2.hr, .cons r1 rb2⟩
    have key := hc _ _ _ _ (fun fl s' => LeaveK c.h₀ c.L m g (fun r s' => match r with | .ok (.ret v) => Q v s' | .ok _ => False | .error e => NoE e s') (match fl with | .ret v => v | _ => .none) s') ⟨h₁, tk', _, mt, fz, rfl, S'⟩ (fun loc'' hp' s' hP hS => by
      refine back loc'' hp' _ _ _ hP ?_
      obtain ⟨h2, tk2, m2, mt2, fz2, rfl, S2⟩ := hS
      exact ⟨h2, tk2, m2, mt2, fz2, rfl, { S2 with vr := .cons .none S2.vr }⟩) fun hp' X v loc'' s' hP hS => back _ _ _ _ _ hP hS
    rw [hEnv]
    exact noE key
end
section
variable {c : Ctx} {loc loc' : Loc} {hp hp' : Hp}
inductive FunK (w : World) : Value → List V → Prop
  | K {f : Value} {fst : List V} : keepIn (KK w) f = true → FunK w f fst
  | B {id : String} {fst : List V} : FunK w (.builtin id) fst
  | T {T : String} : FunK w (.type T) []
theorem StB.X {Vs : List V} {ex : List (Addr × Obj)} {h : Heap} {vs : List Value} {m : Str → Option Value} {mt fz : List (Addr × Obj)} (S : StB c loc hp Vs ex h vs m mt fz) : (KK c.w).In h := S.ok.X.keeps S.fr.keep
theorem St.rot {Ws fst Vs : List V} {ws fs vs : List Value} {ex : List (Addr × Obj)} {s : Shared} (hl : ws.length = Ws.length) (hf : fs.length = fst.length) (h : St c loc hp (Ws ++ (fst ++ Vs)) ex s (ws ++ (fs ++ vs))) : St c loc hp ((fst ++ Ws) ++ Vs) ex s ((fs ++ ws) ++ vs) := by
  obtain ⟨h', tk, m, mt, fz, rfl, S⟩ := h
  obtain ⟨a, b, e1, ra, rb⟩ := S.vr.split
  obtain ⟨rfl, rfl⟩ := List.append_inj e1 (by rw [hl, ra.length])
  obtain ⟨a, b, e1, rc, rd⟩ := rb.split
  obtain ⟨rfl, rfl⟩ := List.append_inj e1 (by rw [hf, rc.length])
  exact ⟨h', tk, m, mt, fz, rfl, { S with vr := (rc.append ra).append rd }⟩
noncomputable abbrev Plain (env : Env) (es : List PySem.Expr) (pos : Pos) : Prop := match es with
  | [] => True
  | e :: r => starEach (e :: r) env = (false, eval e env) :: starEach r env ∧ (backTo pos (starEach r env)).any (·.1) = false
theorem callWith_core {P : Hp → V → Prop} {f : Value} {fst Vs : List V} {fs vs : List Value} {ex : List (Addr × Obj)} {s : Shared} {args : List PySem.Expr} {pos : Pos} {Q : Value → Shared → Prop} (hk : FunK c.w f fst) (hf : fs.length = fst.length)
    (hst : St c loc hp (fst ++ Vs) ex s (fs ++ vs)) (h : WL c loc hp args fun hp1 Xs => CallOk c loc hp1 f (fst ++ Xs) P) (hpl : Plain c.env args pos)
    (hQ : ∀ hp' X v s', P hp' X → St c loc hp' (X :: Vs) ex s' (v :: vs) → Q v s') : wpAny (model prg c.w) c.A (callWith pos f fs (backTo pos (starEach args c.env)) []) Q NoE s := by
  have key : wpAny (model prg c.w) c.A (spliced (backTo pos (starEach args c.env))) (fun ws s1 => (KK c.w).In s1.heap ∧ wpAny (model prg c.w) c.A (call f (fs ++ ws)) Q NoE s1) NoE s := by
    refine h.2 _ _ _ _ _ pos hst fun hp1 Ws ws s1 h1 hl hs1 => ⟨?_, ?_⟩
    · obtain ⟨h', tk, m, mt, fz, rfl, S⟩ := hs1; exact S.X
    · exact h1 _ _ _ _ _ _ (hs1.rot hl hf) (by rw [List.length_append, List.length_append, hl, hf]) hQ
  cases args with
  | nil =>
    have key' : wpAny (model prg c.w) c.A (call f fs) Q NoE s := h.1 rfl _ _ _ _ _ _ (by simpa using hst) (by simpa using hf) hQ
    cases hk with
    | K hk =>
      refine callWith_K0 ?_ hk (by simpa using key')
      obtain ⟨h', tk, m, mt, fz, rfl, S⟩ := hst; exact S.X
    | B => exact callWith_method0 key'
    | T =>
      have : fs = [] := List.eq_nil_of_length_eq_zero hf
      subst this
      exact callWith_type0 key'
  | cons e r =>
    cases hk with
    | K hk =>
      obtain ⟨h', tk, m, mt, fz, rfl, S⟩ := hst
      exact callWith_K S.ok.X hk key hpl.1 hpl.2
    | B => exact callWith_method1 (wpAny_mono key (fun _ _ x => x.2) fun _ _ x => x) hpl.1 hpl.2
    | T =>
      have : fs = [] := List.eq_nil_of_length_eq_zero hf
      subst this
      exact PyProof.Rows.callWith_type1 (wpAny_mono key (fun _ _ x => x.2) fun _ _ x => x) hpl.1 hpl.2
theorem env_cases {M : Env → Prop} (h1 : M c.fenv) (h2 : ∀ sc, M (compEnvC sc c.r.cl c.r.C c.fenv)) : M c.env := by
  cases h : c.fi.cm with
  | none => rw [env_none h]; exact h1
  | some sc => rw [env_some h]; exact h2 sc
theorem StB.glob {Vs : List V} {ex : List (Addr × Obj)} {h : Heap} {vs : List Value} {m : Str → Option Value} {mt fz : List (Addr × Obj)} {E : Value → Shared → Prop} {x : Str} {v : Value} {pos : Pos} {tk : Nat} {Q : Value → Shared → Prop} (S : StB c loc hp Vs ex h vs m mt fz)
    (e : nsIn (KK c.w) mainGlobals x = some (some v)) (hx : c.env.kindOf x = some .globalImplicit) (hb : (x == ("__debug__" : Str)) = false) (hQ : Q v ⟨h, c.gens, c.drawn, tk, c.os⟩) : wpAny (model prg c.w) c.A (eval (.Name x pos) c.env) Q E ⟨h, c.gens, c.drawn, tk, c.os⟩ := by
  have k := S.ok.ck
  have T := topRead_of S.ok.T
  revert k hx
  refine env_cases (M := fun env => env.kindOf x = some .globalImplicit → env.scope.kind = .function → wpAny (model prg c.w) c.A (eval (.Name x pos) env) Q E ⟨h, c.gens, c.drawn, tk, c.os⟩) (fun hx k => ?_) fun sc hx k => ?_
  · exact Name_function_global k hx (loadGlobal_global (env := c.fenv) (T.g.keeps S.fr.keep) (mg_of S.ok.X T.g e) hQ) hb
  · exact Name_function_global k hx (loadGlobal_global (env := compEnvC sc c.r.cl c.r.C c.fenv) (T.g.keeps S.fr.keep) (mg_of S.ok.X T.g e) hQ) hb
theorem StB.globB {Vs : List V} {ex : List (Addr × Obj)} {h : Heap} {vs : List Value} {m : Str → Option Value} {mt fz : List (Addr × Obj)} {E : Value → Shared → Prop} {x : Str} {v : Value} {pos : Pos} {tk : Nat} {Q : Value → Shared → Prop} (S : StB c loc hp Vs ex h vs m mt fz)
    (e : nsIn (KK c.w) mainGlobals x = some none) (hv : bootBuiltins x = some v) (hn : x ≠ "__name__") (hx : c.env.kindOf x = some .globalImplicit) (hb : (x == ("__debug__" : Str)) = false) (hQ : Q v ⟨h, c.gens, c.drawn, tk, c.os⟩) : wpAny (model prg c.w) c.A (eval (.Name x pos) c.env) Q E ⟨h, c.gens, c.drawn, tk, c.os⟩ := by
  have k := S.ok.ck
  have T := topRead_of S.ok.T
  revert k hx
  refine env_cases (M := fun env => env.kindOf x = some .globalImplicit → env.scope.kind = .function → wpAny (model prg c.w) c.A (eval (.Name x pos) env) Q E ⟨h, c.gens, c.drawn, tk, c.os⟩) (fun hx k => ?_) fun sc hx k => ?_
  · exact Name_function_global k hx (loadGlobal_builtin (env := c.fenv) (T.g.keeps S.fr.keep) (mg_none_of S.ok.X T.g e) (T.b.keeps S.fr.keep) ((T.builtins x hn).trans hv) hQ) hb
  · exact Name_function_global k hx (loadGlobal_builtin (env := compEnvC sc c.r.cl c.r.C c.fenv) (T.g.keeps S.fr.keep) (mg_none_of S.ok.X T.g e) (T.b.keeps S.fr.keep) ((T.builtins x hn).trans hv) hQ) hb
section
variable {P : Hp → V → Prop} {pos np : Pos} {args : List PySem.Expr} {x : Str}
theorem WE_callK {v : Value} (e : nsIn (KK c.w) mainGlobals x = some (some v)) (hk : keepIn (KK c.w) v = true) (h : WL c loc hp args fun hp1 Xs => CallOk c loc hp1 v Xs P) (hx : c.env.kindOf x = some .globalImplicit := by rfl) (hd : (x == ("__debug__" : Str)) = false := by decide)
    (hpl : Plain c.env args pos := by exact ⟨rfl, rfl⟩)
    (he : eval (.Call (.Name x np) args [] pos) c.env = (do callWith pos (← eval (.Name x np) c.env) [] (backTo pos (starEach args c.env)) (backToKw pos (keywordEach [] c.env))) := by rfl) : WE c loc hp (.Call (.Name x np) args [] pos) P := by
  rintro Vs vs ex s Q ⟨h', tk, m, mt, fz, rfl, S⟩ hQ
  exact Call_ (S.glob e hx hd (callWith_core (fst := []) (fs := []) (.K hk) rfl ⟨h', tk, m, mt, fz, rfl, S⟩ h hpl hQ)) he
theorem WE_callB {v : Value} (e : nsIn (KK c.w) mainGlobals x = some none) (hv : bootBuiltins x = some v) (hk : FunK c.w v []) (h : WL c loc hp args fun hp1 Xs => CallOk c loc hp1 v Xs P) (hn : x ≠ "__name__" := by decide) (hx : c.env.kindOf x = some .globalImplicit := by rfl) (hd : (x == ("__debug__" : Str)) = false := by decide)
    (hpl : Plain c.env args pos := by exact ⟨rfl, rfl⟩)
    (he : eval (.Call (.Name x np) args [] pos) c.env = (do callWith pos (← eval (.Name x np) c.env) [] (backTo pos (starEach args c.env)) (backToKw pos (keywordEach [] c.env))) := by rfl) : WE c loc hp (.Call (.Name x np) args [] pos) P := by
  rintro Vs vs ex s Q ⟨h', tk, m, mt, fz, rfl, S⟩ hQ
  exact Call_ (S.globB e hv hn hx hd (callWith_core (fst := []) (fs := []) hk rfl ⟨h', tk, m, mt, fz, rfl, S⟩ h hpl hQ)) he
/-- a global constant -/
theorem WE_global {v : Value} {X : V} (e : nsIn (KK c.w) mainGlobals x = some (some v)) (hX : ∀ F : Addr → Obj → Prop, (∀ a o, (KK c.w).lookup a = some o → F a o) → Rep F v X) (h : P hp X) (hx : c.env.kindOf x = some .globalImplicit := by rfl) (hd : (x == ("__debug__" : Str)) = false := by decide) : WE c loc hp (.Name x np) P := by
  rintro Vs vs ex s Q ⟨h', tk, m, mt, fz, rfl, S⟩ hQ
  exact S.glob e hx hd (hQ _ _ _ _ h ⟨h', tk, m, mt, fz, rfl, { S with vr := .cons (hX _ fun a o q => .inr (S.ok.Xb _ _ q)) S.vr }⟩)
structure MethK (w : World) (C : Nat) (name : Str) (f : Nat) : Prop where
  pg : plainGet (KK w) C name = true
  fi : findIn (KK w) (.ref C) name = some (some (.ref f))
  fn : isFn (KK w) (.ref f) = true
  kp : keepIn (KK w) (.ref f) = true
noncomputable abbrev MthK (c : Ctx) (loc : Loc) (hp1 : Hp) (name : Str) (args : List PySem.Expr) (V1 : V) (P : Hp → V → Prop) : Prop := ∃ a C d fs f, V1 = .ref a ∧ HpAt hp1 a (.inst C d) ∧ HpAt hp1 d (.dict fs) ∧ name ∉ fs.map (·.1) ∧ MethK c.w C name f ∧ WL c loc hp1 args fun hp2 Xs => CallOk c loc hp2 (.ref f) (.ref a :: Xs) P
noncomputable abbrev MthL (c : Ctx) (loc : Loc) (hp1 : Hp) (id : String) (args : List PySem.Expr) (V1 : V) (P : Hp → V → Prop) : Prop := ∃ l, LstV hp1 V1 l ∧ WL c loc hp1 args fun hp2 Xs => CallOk c loc hp2 (.builtin id) (V1 :: Xs) P
/-- a method of an object of the program -/
theorem WE_methK {eo : PySem.Expr} {ap : Pos} {name : Str} {pl : Sem Bool} (h : WE c loc hp eo fun hp1 V1 => MthK c loc hp1 name args V1 P)
    (hpl : Plain c.env args pos := by exact ⟨rfl, rfl⟩) (he : MethEq c.env eo name ap pos args pl := by rfl) : WE c loc hp (.Call (.Attribute eo name ap) args [] pos) P := by
  intro Vs vs ex s Q hst hQ
  refine MethodCall_ (h _ _ _ _ _ hst fun hp1 V1 v1 s1 h1 hs1 => ?_) he
  obtain ⟨a, C, d, fs, f, rfl, ha, hd, hn, g, h2⟩ := h1
  obtain ⟨h', tk, m, mt, fz, rfl, S⟩ := hs1
  have hv := S.vr
  cases hv with
  | cons r1 hv =>
    cases r1
    obtain ⟨ob, hm, ho⟩ := S.get ha
    obtain ⟨ob2, hm2, ho2⟩ := S.get hd
    cases ho
    cases ho2 with
    | dict nd rd =>
      exact method_inst S.fr S.ok.X (W.InstAt.of_news S.nw hm hm2) g.pg g.fi g.fn (rd.getL_none hn) (callWith_core (fst := [.ref a]) (fs := [.ref a]) (.K g.kp) rfl ⟨h', tk, m, mt, fz, rfl, S⟩ h2 hpl hQ)
/-- a method of a list -/
theorem WE_methL {eo : PySem.Expr} {ap : Pos} {name : Str} {pl : Sem Bool} {id : String} (slot : Slot "list" name id) (hty : typeOf (.builtin id) = pure (.type "method_descriptor"))
    (h : WE c loc hp eo fun hp1 V1 => MthL c loc hp1 id args V1 P)
    (hpl : Plain c.env args pos := by exact ⟨rfl, rfl⟩) (he : MethEq c.env eo name ap pos args pl := by rfl) : WE c loc hp (.Call (.Attribute eo name ap) args [] pos) P := by
  intro Vs vs ex s Q hst hQ
  refine MethodCall_ (h _ _ _ _ _ hst fun hp1 V1 v1 s1 h1 hs1 => ?_) he
  obtain ⟨l, hl, h2⟩ := h1
  obtain ⟨h', tk, m, mt, fz, rfl, S⟩ := hs1
  have hv := S.vr
  cases hv with
  | cons r1 hv =>
    obtain ⟨a, ws, n, rfl, ha, hr⟩ := S.lstv r1 hl
    exact getMethod_builtin ⟨_, ha, rfl⟩ PySem.F.plainAttrs_list slot hty (fun a e => by cases e; exact ⟨_, ha, rfl⟩) (callWith_core (fst := [V1]) (fs := [.ref a]) .B rfl ⟨h', tk, m, mt, fz, rfl, S⟩ h2 hpl hQ)
end
/-! making an object -/
theorem make_ok {P : Hp → V → Prop} {k : Nat} {C : Nat} {name qual : Str} {params : Arguments} {body : List Stmt} {scope : Scope} {dV kV doc pm cdv ct oc : Value} {an od : Option Addr} {osl : Array (Option Value)} {f : Addr}
    {Xs : List V} {names rest : List Str} (hcm : c.fi.cm = none) (room : c.Room (k + 1)) (hm : makesIn (KK c.w) C = true) (hi : findIn (KK c.w) (.ref C) "__init__" = some (some (.ref f))) (hf : isFn (KK c.w) (.ref f) = true)
    (ho : (KK c.w).lookup f = some ⟨oc, od, .func (fnOf name qual params body scope dV kV doc pm an cdv ct), osl⟩) (hcd : codeIn (KK c.w) cdv qual = true)
    (hbind : ∀ ws : List Value, ws.length = names.length → bindArgs (fnOf name qual params body scope dV kV doc pm an cdv ct) ⟨ws, []⟩ = pure (names.zip ws))
    (hkeys : KeysOk (names ++ rest)) (hloc : ∀ x ∈ names, scope.names.lookup x = some .local) (hs : scope.isCoroutine = false ∧ scope.isGenerator = false ∧ scope.kind = .function) (hcell : ∀ x ∈ scope.names, x.2 ≠ .cell)
    (hn : (Xs.length + 1) = names.length)
    (hb : ∀ (r : CtxR) (a d : Nat), (⟨⟨qual, scope, none⟩, { r with w := c.w }⟩ : Ctx).Room k → WS ⟨⟨qual, scope, none⟩, { r with w := c.w }⟩ (names.zip (.ref a :: Xs) ++ rest.map (·, .undef)) ((a, .inst C d) :: (d, .dict []) :: hp) body (fun _ hp' => P hp' (.ref a)) (fun _ _ => False)) : CallOk c loc hp (.ref C) Xs P := by
  rintro Vs vs ws ex s Q ⟨h, tk, m, mt, fz, rfl, S⟩ hl hQ
  refine call_cls (s := ⟨h, c.gens, c.drawn, tk, c.os⟩) S.fr S.ok.X S.nw hm hi hf fun x dx h' F' N' hlt hdx => ?_
  obtain ⟨a, b, e1, ra, rb⟩ := S.vr.split
  obtain ⟨rfl, rfl⟩ := List.append_inj e1 (by rw [hl, ra.length])
  have S' : StB c loc ((x, .inst C dx) :: (dx, .dict []) :: hp) ((.ref x :: Xs) ++ Vs) ex h' ((.ref x :: ws) ++ vs) m ((x, instObj C dx) :: (dx, dictOf [] 0) :: mt) fz := by
    refine ⟨S.ok, F', N', ?_, S.lk, S.lr, S.cxs, S.olr, .cons (.inst C dx) (.cons (.dict (n := 0) (by simp) .nil) S.hr), .cons (.ref x) (ra.append rb)⟩
    have h1 := nodup_new hlt
    refine List.nodup_cons.mpr ⟨?_, List.nodup_cons.mpr ⟨h1, S.nd⟩⟩
    intro hm
    rcases List.mem_cons.mp hm with e | hm
    · exact absurd hdx (by rw [show x = dx from e]; exact Nat.lt_irrefl _)
    · obtain ⟨p, hp, e⟩ := List.mem_map.mp hm
      have h1 := hlt p hp
      rw [e] at h1
      exact absurd (Nat.lt_trans h1 hdx) (Nat.lt_irrefl _)
  have hu0 : (c.A.under (.builtin "type.__call__" ⟨.ref C :: ws, []⟩)).units ≤ c.un + 20 := by
    show _ ≤ c.A.units + 20
    exact Nat.add_le_add_left (Nat.le_of_ble_eq_true rfl) _
  refine enter_core hcm (Xs := .ref x :: Xs) (P := fun hp' X => X = .none ∧ P hp' (.ref x)) (A := c.A.under (.builtin "type.__call__" ⟨.ref C :: ws, []⟩)) (dp' := c.dp + 2) (un' := (c.A.under (.builtin "type.__call__" ⟨.ref C :: ws, []⟩)).units + 3) rfl (fun _ => rfl) ?_ ?_ ?_ ho hcd (hbind (.ref x :: ws) (by rw [List.length_cons, hl, hn])) hkeys hloc hs.1 hs.2.1 hs.2.2 hcell hn S' (by rw [List.length_cons, List.length_cons, hl]) (fun r h1 h2 => ?_) fun hp' X v s' hP hS => ?_
  · have := room.1; show c.dp + 1 < 1000; omega
  · have := room.1; omega
  · have := room.2; omega
  · have hb' := hb r x dx ⟨by show r.dp + 10 * k < 900; have := room.1; omega, by show r.un + 50 * k < 9000; have := room.2; omega⟩
    intro Vs' vs' ex' s' Q' hst' hN' hR'
    exact hb' Vs' vs' ex' s' Q' hst' (fun loc1 hp1 s1 hP hS => hN' loc1 hp1 s1 ⟨rfl, hP⟩ hS) fun hp1 X v loc1 s1 hP hS => hP.elim
  · obtain ⟨rfl, hP⟩ := hP
    obtain ⟨h2, tk2, m2, mt2, fz2, rfl, S2⟩ := hS
    have hv := S2.vr
    cases hv with
    | cons r1 hv =>
      cases r1
      exact ⟨rfl, hQ _ _ _ _ hP ⟨h2, _, m2, mt2, fz2, rfl, { S2 with vr := .cons (.ref x) hv }⟩⟩
end
section
variable {c : Ctx} {loc loc' : Loc} {hp hp' : Hp}
section
variable {Vs : List V} {ex : List (Addr × Obj)} {h h' : Heap} {vs : List Value} {m : Str → Option Value} {mt fz : List (Addr × Obj)} {I : Addr} {o o' : Obj}
theorem mem_ins {p q : Addr × Obj} (hp : p ∈ mt ++ (fz ++ (q :: ex))) : p = q ∨ p ∈ mt ++ (fz ++ ex) := by
  simp only [List.mem_append, List.mem_cons] at hp ⊢
  rcases hp with h | h | h | h
  · exact .inr (.inl h)
  · exact .inr (.inr (.inl h))
  · exact .inl h
  · exact .inr (.inr (.inr h))
theorem mem_old {p q : Addr × Obj} (hp : p ∈ mt ++ (fz ++ ex)) : p ∈ mt ++ (fz ++ (q :: ex)) := by
  simp only [List.mem_append, List.mem_cons] at hp ⊢
  rcases hp with h | h | h
  · exact .inl h
  · exact .inr (.inl h)
  · exact .inr (.inr (.inr h))
theorem mem_new {q : Addr × Obj} : q ∈ mt ++ (fz ++ (q :: ex)) := by simp
theorem nd_ins {q : Addr × Obj} : ((mt ++ (fz ++ (q :: ex))).map (·.1)).Nodup ↔ q.1 ∉ (mt ++ (fz ++ ex)).map (·.1) ∧ ((mt ++ (fz ++ ex)).map (·.1)).Nodup := by
  rw [← List.append_assoc, ← List.append_assoc]
  simp only [List.map_append, List.map_cons]
  rw [List.perm_middle.nodup_iff, List.nodup_cons]
theorem StB.pushE (S : StB c loc hp Vs ex h vs m mt fz) (hk : ∀ b ob, h.get? b = some ob → h'.get? b = some ob) (ho : h'.get? I = some o) (hI : I = h.objs.size) : StB c loc hp Vs ((I, o) :: ex) h' vs m mt fz := by
  have F' := S.fr.keeps hk
  have N' := S.nw.grown hk
  have hlt : ∀ p ∈ mt ++ (fz ++ ex), p.1 < I := fun p hp => hI ▸ Heap.lt_size (S.nw p hp).1
  have hnew : c.h₀.get? I = none := by
    cases q : c.h₀.get? I with
    | none => rfl
    | some o' => exact absurd (Heap.lt_size (S.fr.keep _ _ q)) (hI ▸ Nat.lt_irrefl _)
  refine { S with fr := F', nw := fun p hp => ?_, nd := nd_ins.mpr ⟨nodup_new hlt, S.nd⟩, cxs := fun p hp => .tail _ (S.cxs p hp) }
  rcases mem_ins hp with rfl | hp
  · exact ⟨ho, Nat.ne_of_gt (hI ▸ S.fr.ns.lt), hnew⟩
  · exact N' p hp
theorem StB.dropE (S : StB c loc hp Vs ((I, o) :: ex) h vs m mt fz) (hc : ∀ p ∈ c.r.cx, p ∈ ex) : StB c loc hp Vs ex h vs m mt fz :=
  { S with nw := fun p hp => S.nw p (mem_old hp), nd := (nd_ins.mp S.nd).2, cxs := hc }
theorem StB.atE (S : StB c loc hp Vs ((I, o) :: ex) h vs m mt fz) : h.get? I = some o := (S.nw _ mem_new).1
theorem StB.turnE (S : StB c loc hp Vs ((I, o) :: ex) h vs m mt fz) (hc : ∀ p ∈ c.r.cx, p ∈ ex) (hk : ∀ b ob, b ≠ I → h.get? b = some ob → h'.get? b = some ob) (ho : h'.get? I = some o') : StB c loc hp Vs ((I, o') :: ex) h' vs m mt fz := by
  have z := S.nw _ mem_new
  have off : ∀ p ∈ mt ++ (fz ++ ex), p.1 ≠ I := fun p hp e => (nd_ins.mp S.nd).1 (List.mem_map.mpr ⟨p, hp, e⟩)
  have hk' : ∀ b ob, b ∉ [I] → h.get? b = some ob → h'.get? b = some ob := fun b ob hb => hk b ob (by simpa using hb)
  refine { S with fr := LCg.fr_but S.fr hk' (Ne.symm z.2.1) z.2.2, nw := fun p hp => ?_, nd := nd_ins.mpr ⟨(nd_ins.mp S.nd).1, (nd_ins.mp S.nd).2⟩, cxs := fun p hp => .tail _ (hc p hp) }
  rcases mem_ins hp with rfl | hp
  · exact ⟨ho, z.2⟩
  · exact ⟨hk _ _ (off p hp) (S.nw p (mem_old hp)).1, (S.nw p (mem_old hp)).2⟩
end
/-! while -/
theorem WX_while {t : PySem.Expr} {body : List Stmt} {pos : Pos} {PN : Loc → Hp → Prop} {PR : Hp → V → Prop} (I : Nat → Loc → Hp → Prop) (n : Nat) (h0 : I n loc hp)
    (h : ∀ n loc hp, I n loc hp → WT c loc hp t (fun hp1 => WS c loc hp1 body (fun loc2 hp2 => ∃ m, m < n ∧ I m loc2 hp2) PR) (fun hp1 => PN loc hp1)) : WX c loc hp (.While t body [] pos) PN PR := by
  intro Vs vs ex s Q hst hN hR
  refine wpAny_While (codeAny_whileLoop (fun n s' => ∃ loc' hp', I n loc' hp' ∧ St c loc' hp' Vs ex s' vs) ?_ n ⟨loc, hp, h0, hst⟩)
  rintro n s' ⟨loc', hp', hI, hst'⟩
  refine noE (h n loc' hp' hI _ _ _ _ _ hst' (fun hp1 s1 h1 hs1 => ?_) fun hp1 s1 h1 hs1 => ?_)
  · simp only [if_true]
    exact noE (h1 _ _ _ _ _ hs1 (fun loc2 hp2 s2 ⟨m, hm, hi⟩ hs2 => ⟨m, hm, loc2, hp2, hi, hs2⟩) fun hp2 X v loc2 s2 h2 hs2 => hR _ _ _ _ _ h2 hs2)
  · simp only [Bool.false_eq_true, if_false]
    exact wpAny_execs_nil (hN _ _ _ h1 hs1)
/-! what a loop runs over -/
noncomputable def isNm : PySem.Expr → Bool
  | .Name _ _ => true
  | _ => false
structure Iter (c : Ctx) (K : Hp → Prop) (any : Bool) (V1 : V) (l : List V) (T : Value → Nat → Obj → Prop) : Prop where
  start : ∀ {loc hp Vs ex h v1 vs m mt fz tk} {Q : Value → Shared → Prop} {E : Value → Shared → Prop}, K hp → StB c loc hp (V1 :: Vs) ex h (v1 :: vs) m mt fz →
    (∀ h' o, T v1 0 o → h'.get? h.objs.size = some o → (∀ b ob, h.get? b = some ob → h'.get? b = some ob) → Q (.ref h.objs.size) ⟨h', c.gens, c.drawn, tk, c.os⟩) →
    wpAny (model prg c.w) c.A (pyIter v1) Q E ⟨h, c.gens, c.drawn, tk, c.os⟩
  item : ∀ {loc hp Vs ex h v1 vs m mt fz tk I o i X} {Q : Option Value → Shared → Prop} {E : Value → Shared → Prop}, K hp → StB c loc hp (V1 :: Vs) ((I, o) :: ex) h (v1 :: vs) m mt fz → T v1 i o → l[i]? = some X →
    (∀ v h' o' tk', Rep (c.F fz) v X → T v1 (i + 1) o' → h'.get? I = some o' → (∀ b ob, b ≠ I → h.get? b = some ob → h'.get? b = some ob) → Q (some v) ⟨h', c.gens, c.drawn, tk', c.os⟩) →
    wpAny (model prg c.w) c.A (pyNext (.ref I)) Q E ⟨h, c.gens, c.drawn, tk, c.os⟩
  done : ∀ {loc hp Vs ex h v1 vs m mt fz tk I o i} {Q : Option Value → Shared → Prop} {E : Value → Shared → Prop}, K hp → StB c loc hp (V1 :: Vs) ((I, o) :: ex) h (v1 :: vs) m mt fz → T v1 i o → l[i]? = none →
    (∀ h', (∀ b ob, b ≠ I → h.get? b = some ob → h'.get? b = some ob) → Q none ⟨h', c.gens, c.drawn, tk, c.os⟩) →
    wpAny (model prg c.w) c.A (pyNext (.ref I)) Q E ⟨h, c.gens, c.drawn, tk, c.os⟩
  self : ∀ {I v1 o i} {s : Shared} {Q : Value → Shared → Prop} {E : Value → Shared → Prop}, T v1 i o → s.heap.get? I = some o → Q (.ref I) s → wpAny (model prg c.w) c.A (pyIter (.ref I)) Q E s
  go : ∀ {t I v1 o i v} {s : Shared} {Q : Unit → Shared → Prop} {E : Value → Shared → Prop}, (any || isNm t) = true → T v1 i o → s.heap.get? I = some o → Q () s → wpAny (model prg c.w) c.A (letOwnedTupleGo t (.ref I) v) Q E s
noncomputable def ListT (v1 : Value) (i : Nat) (o : Obj) : Prop := ∃ ax, v1 = .ref ax ∧ o.cls = .type "list_iterator" ∧ o.data = .fields #[.ref ax, .int (i : Nat) 0]
theorem iter_lst {V1 : V} {l : List V} : Iter c (fun hp => LstV hp V1 l) true V1 l ListT where
  start := fun {_ _ _ _ h v1 _ _ _ _ _ _ _} hK S hQ => by
    have hv := S.vr
    cases hv with
    | cons r1 hv =>
      obtain ⟨a, ws, n, rfl, ha, hr⟩ := S.lstv r1 hK
      exact wpAny_pyIter_list (PySem.IsL.isList (n := n) ha) (hQ _ _ ⟨a, rfl, rfl, rfl⟩ (Heap.get?_push_size _ rfl) fun _ _ e => Heap.get?_push_of_some _ e)
  item := fun {_ _ _ _ h v1 _ _ _ _ _ I o i X _ _} hK S hT hx hQ => by
    have hv := S.vr
    cases hv with
    | cons r1 hv =>
      obtain ⟨a, ws, n, rfl, ha, hr⟩ := S.lstv r1 hK
      obtain ⟨ax, e, h1, h2⟩ := hT
      cases e
      obtain ⟨v, hv0, rv⟩ := hr.get hx
      refine wpAny_pyNext_list_item (s := ⟨h, c.gens, c.drawn, _, c.os⟩) ⟨o, S.atE, h1, h2⟩ (PySem.IsL.isList (n := n) ha) (x := v) (by simpa using hv0) fun h3 hit3 hs3 => ?_
      obtain ⟨o3, ho3, hc3, hd3⟩ := hit3
      exact hQ v h3 o3 _ rv ⟨_, rfl, hc3, hd3⟩ ho3 fun b ob hb e => hs3.extBut b ob hb e
  done := fun {_ _ _ _ h v1 _ _ _ _ _ I o i _ _} hK S hT hx hQ => by
    have hv := S.vr
    cases hv with
    | cons r1 hv =>
      obtain ⟨a, ws, n, rfl, ha, hr⟩ := S.lstv r1 hK
      obtain ⟨ax, e, h1, h2⟩ := hT
      cases e
      refine wpAny_pyNext_list_end (s := ⟨h, c.gens, c.drawn, _, c.os⟩) rfl ⟨o, S.atE, h1, h2⟩ (PySem.IsL.isList (n := n) ha) ?_ fun h3 he3 => hQ h3 fun b ob hb e => he3 b ob hb e
      have := List.getElem?_eq_none_iff.mp hx
      rw [← hr.length] at this
      simpa using this
  self := fun hT ho hQ => by
    obtain ⟨ax, e, h1, h2⟩ := hT
    exact wpAny_pyIter_listiter ⟨_, ho, h1, h2⟩ hQ
  go := fun _ hT ho hQ => by
    obtain ⟨ax, e, h1, h2⟩ := hT
    exact letGo_listiter ⟨_, ho, h1, h2⟩ hQ
noncomputable def RangeT (b : Int) (_ : Value) (i : Nat) (o : Obj) : Prop := o = { cls := .type "range_iterator", data := .fields #[rawInt (i : Int), rawInt (b - i), rawInt 1] } 
noncomputable def vints (n : Nat) : List V := (List.range n).map fun i => V.int (i : Nat)
theorem range_size {n : Nat} : Builtin.Range.rangeSize 0 (n : Int) 1 = (n : Int) := by
  unfold Builtin.Range.rangeSize
  simp only [show (1 : Int) > 0 by decide, if_true]
  split
  · omega
  · omega
theorem iter_rng {n : Nat} (hn : n < 2 ^ 60) : Iter c (fun _ => True) false (.rng n) (vints n) (RangeT n) where
  start := fun {_ _ _ _ h v1 _ _ _ _ _ _ _} hK S hQ => by
    have hv := S.vr
    cases hv with
    | cons r1 hv =>
      cases r1 with
      | rng hF =>
        refine wpAny_pyIter_range (s := ⟨h, c.gens, c.drawn, _, c.os⟩) (S.frz hF) ?_ (hQ _ _ ?_ (Heap.get?_push_size _ rfl) fun _ _ e => Heap.get?_push_of_some _ e)
        · exact small_one (by decide) (by decide) (by omega) (by omega)
        · rw [range_size]; show _ = _; simp
  item := fun {_ _ _ _ h v1 _ _ _ _ _ I o i X _ _} hK S hT hx hQ => by
    have hi : i < n := by
      have := (List.getElem?_eq_some_iff.mp hx).1
      simpa [vints] using this
    have hX : X = .int (i : Nat) := by
      have := hx
      simp [vints, List.getElem?_map, List.getElem?_range hi] at this
      exact this.symm
    have hT : o = _ := hT
    have hat := S.atE
    rw [hT] at hat
    subst hX
    refine wpAny_pyNext_range_item (s := ⟨h, c.gens, c.drawn, _, c.os⟩) hat (by omega) fun h3 hit3 hs3 => ?_
    refine hQ _ h3 _ _ (.int _ _) ?_ hit3 fun b ob hb e => hs3.extBut b ob hb e
    show _ = _
    have e1 : (i : Int) + 1 = ((i + 1 : Nat) : Int) := by omega
    have e2 : (n : Int) - (i : Int) - 1 = (n : Int) - ((i + 1 : Nat) : Int) := by omega
    rw [e1, e2]
  done := fun {_ _ _ _ h v1 _ _ _ _ _ I o i _ _} hK S hT hx hQ => by
    have hi : n ≤ i := by
      have := List.getElem?_eq_none_iff.mp hx
      simpa [vints] using this
    have hT : o = _ := hT
    have hat := S.atE
    rw [hT] at hat
    exact wpAny_pyNext_range_end (s := ⟨h, c.gens, c.drawn, _, c.os⟩) rfl hat (by omega) fun h3 he3 => hQ h3 fun b ob hb e => he3 b ob hb e
  self := fun hT ho hQ => by
    have hT : _ = _ := hT
    rw [hT] at ho
    exact wpAny_pyIter_rangeiter ho hQ
  go := fun {t I v1 o i v _ _ _} ht hT ho hQ => by
    cases t <;> first | exact wpAny_pure hQ | exact absurd ht Bool.false_ne_true
/-! for -/
noncomputable def WFor (c : Ctx) (x : Str) (body : List Stmt) (PN : Loc → Hp → Prop) (PR : Hp → V → Prop) : List V → Loc → Hp → Prop
  | [], loc, hp => PN loc hp
  | X :: r, loc, hp => ∃ loc1, LocSet x X loc loc1 ∧ WS c loc1 hp body (fun loc2 hp2 => WFor c x body PN PR r loc2 hp2) PR
theorem store_ok {x : Str} {px : Pos} {X : V} {v : Value} {E : Value → Shared → Prop} {Vs : List V} {ex : List (Addr × Obj)} {h : Heap} {vs : List Value} {m : Str → Option Value} {mt fz : List (Addr × Obj)} {tk : Nat} {Q : Unit → Shared → Prop}
    (S : StB c loc hp Vs ex h vs m mt fz) (hc : c.fi.cm = none) (hx : c.cs.names.lookup x = some .local) (k : LocSet x X loc loc') (r : Rep (c.F fz) v X)
    (hQ : ∀ s', St c loc' hp Vs ex s' vs → Q () s') : wpAny (model prg c.w) c.A (assign (.Name x px) c.env v) Q E ⟨h, c.gens, c.drawn, tk, c.os⟩ := by
  rw [env_none hc]
  exact wpAny_assign_Name (storeX_L S.fr S.nw (fun h'' F' N' => hQ _ ⟨h'', _, _, mt, fz, rfl, StB.store S hc hx k r F' N'⟩) S.ok.hk (kind_of hx))
/-- `K` must hold of the ledger all along -/
theorem WX_forG {x : Str} {px pos : Pos} {iter : PySem.Expr} {body : List Stmt} {PN : Loc → Hp → Prop} {PR : Hp → V → Prop} (h : WE c loc hp iter fun hp1 V1 => ∃ l T any, Iter c (fun _ => True) any V1 l T ∧ WFor c x body PN PR l loc hp1)
    (hc : c.fi.cm = none) (hx : c.cs.names.lookup x = some .local) (hs : ∀ v, foldedSetIterable iter c.env v = pure v) : WX c loc hp (.For (.Name x px) iter body [] pos) PN PR := by
  intro Vs vs ex s Q hst hN hR
  refine wpAny_For (h _ _ _ _ _ hst fun hp1 V1 v1 s1 h1 hs1 => ?_) hs
  obtain ⟨l, T, any, it, hF⟩ := h1
  obtain ⟨h', tk, m, mt, fz, rfl, S⟩ := hs1
  refine it.start trivial S fun hh o0 hT0 ho0 hk0 => ?_
  have S0 := S.pushE hk0 ho0 rfl
  refine codeAny_forLoop_any (fun n s' => ∃ o i loc' hp', n = l.length - i ∧ T v1 i o ∧ WFor c x body PN PR (l.drop i) loc' hp' ∧ St c loc' hp' (V1 :: Vs) ((h'.objs.size, o) :: ex) s' (v1 :: vs)) ?_ l.length
    ⟨o0, 0, loc, hp1, rfl, hT0, hF, ⟨_, tk, m, mt, fz, rfl, S0⟩⟩
  rintro n s' ⟨o, i, loc', hp', rfl, hT, hW, h2, tk2, m2, mt2, fz2, rfl, S2⟩
  cases hd : l.drop i with
  | nil =>
    rw [hd] at hW
    have hlen : (l.drop i).length = 0 := by rw [hd]; rfl
    rw [List.length_drop] at hlen
    refine it.done trivial S2 hT (List.getElem?_eq_none_iff.mpr (by omega)) fun h3 he3 => ?_
    have hv := S2.vr
    cases hv with
    | cons _ hv =>
      refine wpAny_execs_nil (hN _ _ _ hW ⟨h3, tk2, m2, mt2, fz2, rfl, ?_⟩)
      have S2' : StB c loc' hp' Vs ((h'.objs.size, o) :: ex) h2 vs m2 mt2 fz2 := { S2 with vr := hv }
      have F3 := LCg.fr_but S2'.fr (h' := h3) (fun b ob hb => he3 b ob (by simpa using hb)) (Ne.symm (S2'.nw _ mem_new).2.1) (S2'.nw _ mem_new).2.2
      exact { S2' with fr := F3, nw := fun p hp => ⟨he3 _ _ (fun e => (nd_ins.mp S2'.nd).1 (List.mem_map.mpr ⟨p, hp, e⟩)) (S2'.nw p (mem_old hp)).1, (S2'.nw p (mem_old hp)).2⟩, nd := (nd_ins.mp S2'.nd).2, cxs := S.cxs }
  | cons X r =>
    rw [hd] at hW
    obtain ⟨loc1, hset, hb⟩ := hW
    have hx0 : l[i]? = some X := by
      have := congrArg List.head? hd
      rw [List.head?_drop] at this
      exact this
    have hlt : i < l.length := (List.getElem?_eq_some_iff.mp hx0).1
    have hrd : r = l.drop (i + 1) := by
      have := congrArg List.tail hd
      rw [List.tail_drop] at this
      exact this.symm
    refine it.item trivial S2 hT hx0 fun v h3 o3 tk3 rv hT3 ho3 hk3 => ?_
    have S3 := S2.turnE S.cxs hk3 ho3
    refine it.go (Bool.or_true _) hT3 ho3 ?_
    refine store_ok S3 hc hx hset rv fun s4 hs4 => ?_
    refine noE (hb _ _ _ _ _ hs4 (fun loc5 hp5 s5 h5 hs5 => ?_) fun hp5 Y u loc5 s5 h5 hs5 => ?_)
    · exact ⟨l.length - (i + 1), by omega, o3, i + 1, loc5, hp5, rfl, hT3, by rw [← hrd]; exact h5, hs5⟩
    · refine hR _ _ _ loc5 _ h5 ?_
      obtain ⟨h6, tk6, m6, mt6, fz6, rfl, S6⟩ := hs5
      have hv6 := S6.vr
      cases hv6 with
      | cons a hv6 =>
        cases hv6 with
        | cons b hv6 => exact ⟨h6, tk6, m6, mt6, fz6, rfl, { S6 with vr := .cons a hv6 }.dropE S.cxs⟩
theorem Iter.all {K : Hp → Prop} {any : Bool} {V1 : V} {l : List V} {T : Value → Nat → Obj → Prop} (it : Iter c K any V1 l T) (h : ∀ hp, K hp) : Iter c (fun _ => True) any V1 l T where
  start := fun _ => it.start (h _)
  item := fun _ => it.item (h _)
  done := fun _ => it.done (h _)
  self := it.self
  go := it.go
theorem WX_for {x : Str} {px pos : Pos} {iter : PySem.Expr} {body : List Stmt} {PN : Loc → Hp → Prop} {PR : Hp → V → Prop} (h : WE c loc hp iter fun hp1 V1 => ∃ l, V1 = .lst l ∧ WFor c x body PN PR l loc hp1)
    (hc : c.fi.cm = none := by rfl) (hx : c.cs.names.lookup x = some .local := by rfl) (hs : ∀ v, foldedSetIterable iter c.env v = pure v := by intro _; rfl) : WX c loc hp (.For (.Name x px) iter body [] pos) PN PR := by
  refine WX_forG (fun Vs vs ex s Q hst hQ => h Vs vs ex s Q hst fun hp' V v s' hP => hQ hp' V v s' ?_) hc hx hs
  obtain ⟨l, rfl, hW⟩ := hP
  exact ⟨l, _, _, iter_lst.all fun _ => .lst, hW⟩
theorem WX_forR {x : Str} {px pos : Pos} {iter : PySem.Expr} {body : List Stmt} {PN : Loc → Hp → Prop} {PR : Hp → V → Prop} (h : WE c loc hp iter fun hp1 V1 => ∃ n : Nat, V1 = .rng n ∧ n < 2 ^ 60 ∧ WFor c x body PN PR (vints n) loc hp1)
    (hc : c.fi.cm = none := by rfl) (hx : c.cs.names.lookup x = some .local := by rfl) (hs : ∀ v, foldedSetIterable iter c.env v = pure v := by intro _; rfl) : WX c loc hp (.For (.Name x px) iter body [] pos) PN PR := by
  refine WX_forG (fun Vs vs ex s Q hst hQ => h Vs vs ex s Q hst fun hp' V v s' hP => hQ hp' V v s' ?_) hc hx hs
  obtain ⟨n, rfl, hn, hW⟩ := hP
  exact ⟨_, _, _, iter_rng hn, hW⟩
/-- over nothing, whatever the target -/
theorem WX_for0 {t iter : PySem.Expr} {pos : Pos} {body : List Stmt} {PN : Loc → Hp → Prop} {PR : Hp → V → Prop} (h : WE c loc hp iter fun hp1 V1 => V1 = .lst [] ∧ PN loc hp1)
    (hs : ∀ v, foldedSetIterable iter c.env v = pure v := by intro _; rfl) : WX c loc hp (.For t iter body [] pos) PN PR := by
  intro Vs vs ex s Q hst hN hR
  refine wpAny_For (h _ _ _ _ _ hst fun hp1 V1 v1 s1 h1 hs1 => ?_) hs
  obtain ⟨rfl, hP⟩ := h1
  obtain ⟨h', tk, m, mt, fz, rfl, S⟩ := hs1
  refine (iter_lst (l := [])).start (LstV.lst (l := [])) S fun hh o0 hT0 ho0 hk0 => ?_
  have S0 := S.pushE hk0 ho0 rfl
  refine codeAny_forLoop_any (fun _ s' => s' = _) ?_ 0 rfl
  rintro n s' rfl
  refine (iter_lst (l := [])).done (LstV.lst (l := [])) S0 hT0 rfl fun h3 he3 => ?_
  have hv := S0.vr
  cases hv with
  | cons _ hv =>
    refine wpAny_execs_nil (hN _ _ _ hP ⟨h3, tk, m, mt, fz, rfl, ?_⟩)
    have S2' : StB c loc hp1 Vs ((h'.objs.size, o0) :: ex) hh vs m mt fz := { S0 with vr := hv }
    have F3 := LCg.fr_but S2'.fr (h' := h3) (fun b ob hb => he3 b ob (by simpa using hb)) (Ne.symm (S2'.nw _ mem_new).2.1) (S2'.nw _ mem_new).2.2
    exact { S2' with fr := F3, nw := fun p hp => ⟨he3 _ _ (fun e => (nd_ins.mp S2'.nd).1 (List.mem_map.mpr ⟨p, hp, e⟩)) (S2'.nw p (mem_old hp)).1, (S2'.nw p (mem_old hp)).2⟩, nd := (nd_ins.mp S2'.nd).2, cxs := S.cxs }
end
section
variable {c : Ctx} {loc loc' : Loc} {hp hp' : Hp}
theorem StB.permE {Vs : List V} {ex ex' : List (Addr × Obj)} {h : Heap} {vs : List Value} {m : Str → Option Value} {mt fz : List (Addr × Obj)} (S : StB c loc hp Vs ex h vs m mt fz) (p : ex.Perm ex') : StB c loc hp Vs ex' h vs m mt fz :=
  have q : (mt ++ (fz ++ ex)).Perm (mt ++ (fz ++ ex')) := (p.append_left fz).append_left mt
  { S with nw := fun x hx => S.nw x (q.mem_iff.mpr hx), nd := (q.map _).nodup_iff.mp S.nd, cxs := fun x hx => p.mem_iff.mp (S.cxs x hx) }
theorem St.permV {ex : List (Addr × Obj)} {A B C : List V} {a b d : List Value} {y : Value} {Y : V} {s : Shared} (ha : a.length = A.length) (S : St c loc hp (Y :: (A ++ C)) ex s (y :: (a ++ d))) : St c loc hp ((A ++ [Y]) ++ C) ex s ((a ++ [y]) ++ d) := by
  obtain ⟨h', tk, m, mt, fz, rfl, S⟩ := S
  have hv := S.vr
  cases hv with
  | cons r1 hv =>
    obtain ⟨p, q, e, h1, h2⟩ := hv.split
    obtain ⟨rfl, rfl⟩ := List.append_inj e (by rw [ha, h1.length])
    exact ⟨h', tk, m, mt, fz, rfl, { S with vr := (h1.append (.cons r1 .nil)).append h2 }⟩
/-- the frame of a comprehension that stands in `c` -/
@[reducible] noncomputable def cctx (c : Ctx) (sc : Scope) (cl : List (Str × Addr)) (C : Addr) (oC : Obj) (loc : Loc) : Ctx := ⟨⟨c.cn, c.cs, some sc⟩, { c.r with cl := cl, C := C, cx := (C, oC) :: c.r.cx, oloc := loc }⟩
noncomputable def CompLoc (m : Str → Option Value) (F : Addr → Obj → Prop) (tl : Loc) : Prop := ∀ x X, (x, X) ∈ tl → ∃ v, m x = some v ∧ Rep F v X
/-- what binding the target to the item lays -/
noncomputable def BindC (c : Ctx) (sc : Scope) (cl : List (Str × Addr)) (t : PySem.Expr) (X : V) (tl : Loc) : Prop :=
  ∀ {loc hp Vs ex h vs m mt fz C oC m₂ v tk} {Q : Unit → Shared → Prop} {E : Value → Shared → Prop}, StB c loc hp Vs ((C, oC) :: ex) h vs m mt fz → (∀ p ∈ c.r.cx, p ∈ ex) → LCg.NsObj oC m₂ → Rep (c.F fz) v X →
    (∀ h' tk' oC' m₂', StB c loc hp Vs ((C, oC') :: ex) h' vs m mt fz → LCg.NsObj oC' m₂' → CompLoc m₂' (c.F fz) tl → Q () ⟨h', c.gens, c.drawn, tk', c.os⟩) →
    wpAny (model prg c.w) c.A (assign t (compEnvC sc cl C c.fenv) v) Q E ⟨h, c.gens, c.drawn, tk, c.os⟩
theorem bindC_name {sc : Scope} {cl : List (Str × Addr)} {x : Str} {px : Pos} {X : V} (hx : sc.names.lookup x = some .local) (hk : sc.kind = .function) : BindC c sc cl (.Name x px) X [(x, X)] := by
  intro loc hp Vs ex h vs m mt fz C oC m₂ v tk Q E S hc hn hr hQ
  refine wpAny_assign_Name (wpAny_storeName_local (lookup_relabel_local hx) (hn.ns S.atE) (fun h' hn' hs' => ?_) (by simp [compEnvC, relabel, hk]))
  obtain ⟨oC', heC, hoC⟩ := LCg.ns_obj hn'
  refine hQ h' _ oC' _ (S.turnE hc (fun b ob hb e => hs'.extBut b ob hb e) heC) hoC ?_
  intro y Y hm
  obtain ⟨rfl, rfl⟩ := Prod.mk.inj (List.mem_singleton.mp hm)
  exact ⟨v, by simp, hr⟩
theorem bindC_pair {sc : Scope} {cl : List (Str × Addr)} {x y : Str} {px py tp : Pos} {k : Nat} {X Y : V} (hx : sc.names.lookup x = some .local) (hy : sc.names.lookup y = some .local) (hxy : x ≠ y) (hk : sc.kind = .function) : BindC c sc cl (.Tuple [.Name x px, .Name y py] k tp) (.lst [X, Y]) [(x, X), (y, Y)] := by
  intro loc hp Vs ex h vs m mt fz C oC m₂ v tk Q E S hc hn hr hQ
  cases hr with
  | @lst a ws n _ hF hr =>
    cases hr with
    | @cons v1 ws1 _ _ r1 hr =>
      cases hr with
      | @cons v2 ws2 _ _ r2 hr =>
        cases hr
        refine kun_list (env := compEnvC sc cl C c.fenv) (s := ⟨h, c.gens, c.drawn, tk, c.os⟩) S.fr S.nw (S.list hF) rfl rfl rfl fun h1 F1 N1 => ?_
        have S1 : StB c loc hp Vs ((C, oC) :: ex) h1 vs m mt fz := { S with fr := F1, nw := N1 }
        refine PyProof.Rows.assignInOrder_cons (wpAny_assign_Name (wpAny_storeName_local (lookup_relabel_local hx) (hn.ns S1.atE) (fun h2 hn2 hs2 => ?_) (by simp [compEnvC, relabel, hk])))
        obtain ⟨oC2, heC2, hoC2⟩ := LCg.ns_obj hn2
        have S2 := S1.turnE hc (fun b ob hb e => hs2.extBut b ob hb e) heC2
        refine PyProof.Rows.assignInOrder_cons (wpAny_assign_Name (wpAny_storeName_local (lookup_relabel_local hy) (hoC2.ns S2.atE) (fun h3 hn3 hs3 => ?_) (by simp [compEnvC, relabel, hk])))
        obtain ⟨oC3, heC3, hoC3⟩ := LCg.ns_obj hn3
        refine PyProof.Rows.assignInOrder_nil (hQ h3 _ oC3 _ (S2.turnE hc (fun b ob hb e => hs3.extBut b ob hb e) heC3) hoC3 ?_)
        intro z Z hm
        rcases List.mem_cons.mp hm with e | hm
        · obtain ⟨rfl, rfl⟩ := Prod.mk.inj e
          exact ⟨v1, by simp [hxy], r1⟩
        · obtain ⟨rfl, rfl⟩ := Prod.mk.inj (List.mem_singleton.mp hm)
          exact ⟨v2, by simp, r2⟩
noncomputable abbrev testsOf (ifs : List PySem.Expr) (env : Env) : Sem Bool := forIn ifs true fun c r => if r = true then do let ok ← isTrue c env (eval c env); pure (ForInStep.yield ok) else pure (ForInStep.yield r)
theorem comp_loop {prog : Program} {w : World} {A : Around} {s : Shared} {elt target iter : PySem.Expr} {ifs : List PySem.Expr} {scope : Scope} {pos : Pos} {it acc : Value} {env : Env} {R : Result → Shared → Prop} (I : Nat → Shared → Prop)
    (turn : ∀ n s, I n s → wpAny (model prog w) A (pyNext it) (fun r s₁ => match r with
      | none => R (.ok .next) s₁
      | some v => wpAny (model prog w) A (letOwnedTupleGo target it v) (fun _ s₀ => wpAny (model prog w) A (assign target env v) (fun _ s₂ =>
          wpAny (model prog w) A (testsOf ifs env) (fun ok s₃ => if ok = true then wpAny (model prog w) A (eval elt env) (fun x s₄ =>
            wpAny (model prog w) A (call (.builtin "list.append") [acc, x]) (fun _ s₅ => ∃ m, m < n ∧ I m s₅) NoE s₄) NoE s₃
            else ∃ m, m < n ∧ I m s₃) NoE s₂) NoE s₀) NoE s₁) NoE s)
    (n : Nat) (h : I n s) : codeAny (model prog w) A (.compLoop (.ListComp elt [⟨target, iter, ifs, 0⟩] scope pos) 0 it acc env) R s := by
  refine codeAny_loop rfl I (fun n s hI => ?_) n h
  show wpAny _ A ((compTurn (.ListComp elt [⟨target, iter, ifs, 0⟩] scope pos) 0 it acc env).onRaise (fun x => do noteFrame x env; theTreesLotGoes x)) _ _ s
  refine wpAny_noted ?_
  rw [compTurn_list]
  refine wpAny_bind (wpAny_standAt (wpAny_bind (wpAny_mono (turn n s hI) (fun r s₁ h₁ => ?_) fun _ _ h' => h'.elim)))
  cases r with
  | none => exact wpAny_pure h₁
  | some v =>
    refine wpAny_bind (wpAny_mono h₁ (fun _ s₀ h₀' => ?_) fun _ _ h' => h'.elim)
    refine wpAny_bind (wpAny_mono h₀' (fun _ s₂ h₂ => ?_) fun _ _ h' => h'.elim)
    refine wpAny_bind (wpAny_mono h₂ (fun okb s₃ h₃ => ?_) fun _ _ h' => h'.elim)
    cases okb with
    | false => exact wpAny_pure ⟨rfl, h₃⟩
    | true => exact wpAny_bind (wpAny_bind (wpAny_mono h₃ (fun x s₄ h₄ => wpAny_bind (wpAny_mono h₄ (fun _ s₅ h₅ => wpAny_pure (wpAny_pure ⟨rfl, h₅⟩)) fun _ _ h' => h'.elim)) fun _ _ h' => h'.elim))
/-- the tests of a comprehension, one at most -/
noncomputable def TestsC (c : Ctx) (loc : Loc) (hp : Hp) (ifs : List PySem.Expr) (b : Bool) : Prop := match ifs with
  | [] => b = true
  | [t] => WT c loc hp t (fun hp' => hp' = hp ∧ b = true) (fun hp' => hp' = hp ∧ b = false)
  | _ => False
theorem TestsC.run {ifs : List PySem.Expr} {b : Bool} (T : TestsC c loc hp ifs b) {Vs : List V} {vs : List Value} {ex : List (Addr × Obj)} {s : Shared} {Q : Bool → Shared → Prop} (hst : St c loc hp Vs ex s vs) (hQ : ∀ s', St c loc hp Vs ex s' vs → Q b s') :
    wpAny (model prg c.w) c.A (testsOf ifs c.env) Q NoE s := by
  cases ifs with
  | nil => have T : b = true := T; subst T; exact wpAny_pure (hQ s hst)
  | cons t r =>
    cases r with
    | nil =>
      refine wpAny_tests_one (T _ _ _ _ _ hst (fun hp' s' h1 h2 => ?_) fun hp' s' h1 h2 => ?_)
      · obtain ⟨rfl, rfl⟩ := h1; exact hQ s' h2
      · obtain ⟨rfl, rfl⟩ := h1; exact hQ s' h2
    | cons _ _ => exact T.elim
/-- what a comprehension asks of an item -/
structure Elt (c : Ctx) (loc : Loc) (hp : Hp) (t elt : PySem.Expr) (ifs : List PySem.Expr) (sc : Scope) (cl : List (Str × Addr)) (fl : Loc) (X : V) (b : Bool) (Y : V) : Prop where
  mk' ::
  go : ∃ tl, BindC c sc cl t X tl ∧ (∀ x ∈ tl.map (·.1), sc.names.lookup x = some .local) ∧ KeysOk ((tl ++ fl).map (·.1)) ∧ ∀ C oC, TestsC (cctx c sc cl C oC loc) (tl ++ fl) hp ifs b ∧
    (b = true → WE (cctx c sc cl C oC loc) (tl ++ fl) hp elt fun hp' Y' => hp' = hp ∧ Y' = Y)
theorem into_comp {Vs : List V} {ex : List (Addr × Obj)} {h : Heap} {vs : List Value} {m m₂ : Str → Option Value} {mt fz : List (Addr × Obj)} {sc : Scope} {cl : List (Str × Addr)} {C : Addr} {oC : Obj} {tl fl : Loc}
    (S : StB c loc hp Vs ex h vs m mt fz) (hcm : c.fi.cm = none) (hC : (C, oC) ∈ ex) (hn : LCg.NsObj oC m₂) (hk : sc.kind = .function) (htl : CompLoc m₂ (c.F fz) tl) (hlo : ∀ x ∈ tl.map (·.1), sc.names.lookup x = some .local) (hkeys : KeysOk ((tl ++ fl).map (·.1)))
    (hfl : ∀ x X, (x, X) ∈ fl → (x, X) ∈ loc ∧ X ≠ .undef ∧ c.cs.names.lookup x = some .cell ∧ (compEnvC sc cl C c.fenv).kindOf x = some .cell ∧ cl.lookup x = c.r.fcl.lookup x) :
    StB (cctx c sc cl C oC loc) (tl ++ fl) hp Vs ex h vs m mt fz where
  ok := { ck := hk, ol := nofun, B := S.ok.B, Xb := S.ok.Xb, X := S.ok.X, T := S.ok.T, hk := S.ok.hk, hd := S.ok.hd, hu := S.ok.hu }
  fr := S.fr
  nw := S.nw
  nd := S.nd
  lk := hkeys
  lr := fun x X hm => by
    rcases List.mem_append.mp hm with hm | hm
    · obtain ⟨v, h1, h2⟩ := htl x X hm
      exact .inr ⟨v, .comp rfl (lookup_relabel_local (hlo x (List.mem_map.mpr ⟨_, hm, rfl⟩))) (.head _) hn h1, h2⟩
    · obtain ⟨h1, h2, h3, h4, h5⟩ := hfl x X hm
      obtain ⟨v, r, hr⟩ := (S.lr x X h1).resolve_left h2
      refine .inr ⟨v, ?_, hr⟩
      cases r with
      | loc a b d => rw [h3] at b; cases b
      | comp a b d e f => rw [hcm] at a; cases a
      | cell a b d e => rw [env_none hcm] at b; exact .cell h4 (h5.trans b) (.tail _ d) e
  cxs := fun p hp => by
    rcases List.mem_cons.mp hp with rfl | hp
    · exact hC
    · exact S.cxs p hp
  olr := fun x X hm => (S.lr x X hm).imp id fun ⟨v, r, hr⟩ => ⟨v, by
    cases r with
    | loc a b d => exact .loc rfl b d
    | comp a b d e f => rw [hcm] at a; cases a
    | cell a b d e => rw [env_none hcm] at a b; exact .cell a b (.tail _ d) e, hr⟩
  hr := S.hr
  vr := S.vr
theorem out_comp {Vs : List V} {ex : List (Addr × Obj)} {h : Heap} {vs : List Value} {m m₂ : Str → Option Value} {mt fz : List (Addr × Obj)} {sc : Scope} {cl : List (Str × Addr)} {C : Addr} {oC : Obj} {tl : Loc}
    (S : StB (cctx c sc cl C oC loc) tl hp Vs ex h vs m mt fz) (hcm : c.fi.cm = none) (ho : c.Ok) (hn : LCg.NsObj oC m₂) (hlk : KeysOk (loc.map (·.1))) : StB c loc hp Vs ex h vs m mt fz where
  ok := ho
  fr := S.fr
  nw := S.nw
  nd := S.nd
  lk := hlk
  lr := fun x X hm => (S.olr x X hm).imp id fun ⟨v, r, hr⟩ => ⟨v, by
    cases r with
    | loc a b d => exact .loc hcm b d
    | comp a b d e f => cases a
    | @cell a' o a b d e =>
      refine .cell (by rw [env_none hcm]; exact a) (by rw [env_none hcm]; exact b) ?_ e
      rcases List.mem_cons.mp d with q | q
      · obtain ⟨rfl, rfl⟩ := Prod.mk.inj q
        obtain ⟨es, ep, hd, _⟩ := hn
        rw [hd] at e; cases e
      · exact q, hr⟩
  cxs := fun p hp => S.cxs p (.tail _ hp)
  olr := by rw [ho.ol hcm]; exact fun _ _ h => (List.not_mem_nil h).elim
  hr := S.hr
  vr := S.vr
end
section
variable {c : Ctx} {loc loc' : Loc} {hp hp' : Hp}
theorem nsObj_unique {o : Obj} {m m' : Str → Option Value} (h : LCg.NsObj o m) (h' : LCg.NsObj o m') : m = m' := by
  obtain ⟨es, ep, h1, _, h2⟩ := h
  obtain ⟨es', ep', h1', _, h2'⟩ := h'
  rw [h1] at h1'
  cases h1'
  funext x
  rw [← h2 x, h2' x]
theorem StB.loseE {Vs : List V} {ex : List (Addr × Obj)} {h h' : Heap} {vs : List Value} {m : Str → Option Value} {mt fz : List (Addr × Obj)} {I : Addr} {o : Obj} (S : StB c loc hp Vs ((I, o) :: ex) h vs m mt fz) (hc : ∀ p ∈ c.r.cx, p ∈ ex)
    (hk : ∀ b ob, b ≠ I → h.get? b = some ob → h'.get? b = some ob) : StB c loc hp Vs ex h' vs m mt fz :=
  { S with
    fr := LCg.fr_but S.fr (h' := h') (fun b ob hb => hk b ob (by simpa using hb)) (Ne.symm (S.nw _ mem_new).2.1) (S.nw _ mem_new).2.2
    nw := fun p hp => ⟨hk _ _ (fun e => (nd_ins.mp S.nd).1 (List.mem_map.mpr ⟨p, hp, e⟩)) (S.nw p (mem_old hp)).1, (S.nw p (mem_old hp)).2⟩
    nd := (nd_ins.mp S.nd).2
    cxs := hc }
theorem StB.freezeE {A Vs : List V} {ex : List (Addr × Obj)} {h : Heap} {a vs : List Value} {m : Str → Option Value} {mt fz : List (Addr × Obj)} {D : Addr} (S : StB c loc hp (A ++ Vs) ((D, LCg.lst a) :: ex) h (a ++ vs) m mt fz) (hl : a.length = A.length) (hc : ∀ p ∈ c.r.cx, p ∈ ex) :
    StB c loc hp (.lst A :: Vs) ex h (.ref D :: vs) m mt ((D, LCg.lst a) :: fz) := by
  obtain ⟨p, q, e, h1, h2⟩ := S.vr.split
  obtain ⟨rfl, rfl⟩ := List.append_inj e (by rw [hl, h1.length])
  refine ⟨S.ok, S.fr, fun x hx => S.nw x ?_, ?_, S.lk, S.lr.mono StB.F_cons, hc, S.olr.mono StB.F_cons, S.hr.mono StB.F_cons, .cons (.lst (vs := a) (n := a.length) (.inl (.head _)) (h1.mono StB.F_cons)) (h2.mono StB.F_cons)⟩
  · simp only [List.mem_append, List.mem_cons, List.cons_append] at hx ⊢
    rcases hx with h | h | h | h
    · exact .inl h
    · exact .inr (.inr (.inl h))
    · exact .inr (.inl h)
    · exact .inr (.inr (.inr h))
  · have := S.nd
    have e : (mt ++ (fz ++ (D, LCg.lst a) :: ex)).Perm (mt ++ ((D, LCg.lst a) :: fz ++ ex)) := List.Perm.append_left _ List.perm_middle
    exact (e.map _).nodup_iff.mp this
noncomputable def resL (L : List (V × Bool × V)) : List V := (L.filter (·.2.1)).map (·.2.2)
theorem resL_snoc {L : List (V × Bool × V)} {q : V × Bool × V} : resL (L ++ [q]) = cond q.2.1 (resL L ++ [q.2.2]) (resL L) := by
  unfold resL
  rw [List.filter_append]
  cases h : q.2.1 with
  | true => simp [h]
  | false => simp [h]
theorem comp_core {elt target iter : PySem.Expr} {ifs : List PySem.Expr} {sc : Scope} {pos : Pos} {use : Option (Value → Sem Unit)} {Vs : List V} {vs : List Value} {ex : List (Addr × Obj)} {s : Shared} {Q : Value → Shared → Prop} (cl : List (Str × Addr)) (fl : Loc)
    (h : wpAny (model prg c.w) c.A (eval iter c.env) (fun v1 s1 => ∃ hp1 V1 L K any T, St c loc hp1 (V1 :: Vs) ex s1 (v1 :: vs) ∧ Iter c K any V1 (L.map (·.1)) T ∧ K hp1 ∧ (any || isNm target) = true ∧ L.length ≤ sizeLine ∧ (∀ q ∈ L, Elt c loc hp1 target elt ifs sc cl fl q.1 q.2.1 q.2.2) ∧
      ∀ C D oC m₂ ys hh tk m mt fz, StB c loc hp1 (resL L ++ Vs) ((C, oC) :: (D, LCg.lst ys) :: ex) hh (ys ++ vs) m mt fz → ys.length = (resL L).length → LCg.NsObj oC m₂ → (∀ p ∈ c.r.cx, p ∈ ex) →
        compPost (model prg c.w) c.A NoE use Q (.ref D) C (.ok .next) ⟨hh, c.gens, c.drawn, tk, c.os⟩) NoE s)
    (hcm : c.fi.cm = none) (hclos : closureFor sc c.env = pure cl) (hcell : ∀ y ∈ sc.names, y.2 ≠ .cell) (hkind : sc.kind = .function) (hnames : ∀ y ∈ sc.names, y.2 = .local → sc.names.lookup y.1 = some .local)
    (hfl : ∀ C : Addr, ∀ x X, (x, X) ∈ fl → (x, X) ∈ loc ∧ X ≠ .undef ∧ c.cs.names.lookup x = some .cell ∧ (compEnvC sc cl C c.fenv).kindOf x = some .cell ∧ cl.lookup x = c.r.fcl.lookup x)
    (hs : ∀ x, foldedSetIterable iter c.env x = pure x) : wpAny (model prg c.w) c.A (comprehension (.ListComp elt [⟨target, iter, ifs, 0⟩] sc pos) sc c.env (firstIterPos [⟨target, iter, ifs, 0⟩] pos) (newList []) false (eval iter c.env) use) Q NoE s := by
  refine wpAny_comprehension_free (use := use) rfl hs hclos hkind hnames (wpAny_mono h (fun v1 s1 h1 => ?_) fun _ _ e => e)
  obtain ⟨hp1, V1, L, K, any, T, hs1, it, hK, hany, hsz, hel, fin⟩ := h1
  obtain ⟨h1, tk1, m1, mt, fz, rfl, S1⟩ := hs1
  refine it.start hK S1 fun h2 oI hT0 hoI hk2 => ?_
  have S2 := S1.pushE hk2 hoI rfl
  refine wpAny_newObj_type (s := ⟨h2, c.gens, c.drawn, tk1, c.os⟩) ?_
  have S3 := S2.pushE (I := h2.objs.size) (o := LCg.lst []) (h' := h2.push (LCg.lst [])) (fun _ _ e => Heap.get?_push_of_some _ e) (Heap.get?_push_size _ rfl) rfl
  rw [env_none hcm]
  refine wpAny_newFunctionEnv (s := ⟨h2.push (LCg.lst []), c.gens, c.drawn, tk1, c.os⟩) hcell (by intro y hy; simp at hy) (fun h4 hn4 hs4 => ?_) hkind
  obtain ⟨oC, heC, hoC⟩ := LCg.ns_obj hn4
  have hlt : ∀ b ob, (h2.push (LCg.lst [])).get? b = some ob → h4.get? b = some ob := fun b ob e => hs4.extBut b ob (Nat.ne_of_lt (Heap.lt_size e)) (Heap.get?_push_of_some _ e)
  have S4 := S3.pushE (I := (h2.push (LCg.lst [])).objs.size) hlt heC rfl
  have S5 : StB c loc hp1 (V1 :: ([] ++ Vs)) ((h1.objs.size, oI) :: ((h2.push (LCg.lst [])).objs.size, oC) :: (h2.objs.size, LCg.lst []) :: ex) h4 (v1 :: ([] ++ vs)) m1 mt fz := S4.permE (.trans (.cons _ (.swap _ _ _)) (.swap _ _ _))
  have ho : c.Ok := S1.ok
  have hlk := S1.lk
  have hcx := S1.cxs
  have heI : h4.get? h1.objs.size = some oI := S5.atE
  revert S5 hoC heI
  generalize h1.objs.size = I
  generalize h2.objs.size = D
  generalize (h2.push (LCg.lst [])).objs.size = C
  intro hoC S5 heI
  have loop : ∀ s₃ : Shared, St c loc hp1 (V1 :: ([] ++ Vs)) ((I, oI) :: (C, oC) :: (D, LCg.lst []) :: ex) s₃ (v1 :: ([] ++ vs)) →
      codeAny (model prg c.w) c.A (.compLoop (.ListComp elt [⟨target, iter, ifs, 0⟩] sc pos) 0 (.ref I) (.ref D) (compEnvC sc cl C c.fenv)) (compPost (model prg c.w) c.A NoE use Q (.ref D) C) s₃ := by
    intro s₃ hst₃
    refine comp_loop (fun n s' => ∃ o oC m₂ i ys Ys, n = L.length - i ∧ T v1 i o ∧ LCg.NsObj oC m₂ ∧ Ys = resL (L.take i) ∧ ys.length = Ys.length ∧ ys.length ≤ i ∧ St c loc hp1 (V1 :: (Ys ++ Vs)) ((I, o) :: (C, oC) :: (D, LCg.lst ys) :: ex) s' (v1 :: (ys ++ vs))) ?_ L.length
      ⟨oI, oC, _, 0, [], [], rfl, hT0, hoC, rfl, rfl, Nat.le_refl _, hst₃⟩
    rintro n s' ⟨o, oC, m₂, i, ys, Ys, rfl, hT, hnC, hYs, hlen, hle, h5, tk5, m5, mt5, fz5, rfl, S6⟩
    have hcx' : ∀ p ∈ c.r.cx, p ∈ (C, oC) :: (D, LCg.lst ys) :: ex := fun p hp => .tail _ (.tail _ (hcx p hp))
    cases hd : L.drop i with
    | nil =>
      have hlen0 : (L.drop i).length = 0 := by rw [hd]; rfl
      rw [List.length_drop] at hlen0
      refine it.done hK S6 hT (List.getElem?_eq_none_iff.mpr (by rw [List.length_map]; omega)) fun h6 he6 => ?_
      have S7 := S6.loseE hcx' he6
      have hv := S7.vr
      cases hv with
      | cons _ hv =>
        have e1 : L.take i = L := List.take_of_length_le (by omega)
        rw [e1] at hYs
        subst hYs
        exact fin C D oC m₂ ys h6 tk5 m5 mt5 fz5 { S7 with vr := hv } hlen hnC hcx
    | cons q r =>
      have hq0 : L[i]? = some q := by
        have := congrArg List.head? hd
        rw [List.head?_drop] at this
        exact this
      have hx0 : (L.map (·.1))[i]? = some q.1 := by rw [List.getElem?_map, hq0]; rfl
      have hlt : i < L.length := (List.getElem?_eq_some_iff.mp hq0).1
      have htk : L.take (i + 1) = L.take i ++ [q] := by rw [List.take_add_one, hq0]; rfl
      have hXl : q ∈ L := List.mem_of_getElem? hq0
      refine it.item hK S6 hT hx0 fun v h6 o6 tk6 rv hT6 ho6 hk6 => ?_
      have S7 := S6.turnE hcx' hk6 ho6
      refine it.go hany hT6 ho6 ?_
      obtain ⟨tl, hbind, hlo, hkeys, hel⟩ := (hel q hXl).go
      refine hbind (S7.permE (.swap _ _ _)) (fun p hp => .tail _ (.tail _ (hcx p hp))) hnC rv fun h8 tk8 oC8 m8 S8 hn8 htl8 => ?_
      have S9 := into_comp S8 hcm (.head _) hn8 hkind htl8 hlo hkeys (hfl C)
      obtain ⟨htest, helt⟩ := hel C oC8
      have e0 : (cctx c sc cl C oC8 loc).env = compEnvC sc cl C c.fenv := rfl
      rw [← e0]
      refine htest.run (c := cctx c sc cl C oC8 loc) ⟨h8, tk8, m5, mt5, fz5, rfl, S9⟩ fun s10 hs10 => ?_
      cases hb : q.2.1 with
      | false =>
        simp only [Bool.false_eq_true, if_false]
        obtain ⟨h10, tk10, m10, mt10, fz10, rfl, S10⟩ := hs10
        have S11 := (out_comp S10 hcm ho hn8 hlk).permE (.swap _ _ _)
        refine ⟨L.length - (i + 1), by omega, o6, oC8, m8, i + 1, ys, Ys, rfl, hT6, hn8, ?_, hlen, by omega, ⟨h10, tk10, m10, mt10, fz10, rfl, S11⟩⟩
        rw [htk, resL_snoc, hb, hYs]; rfl
      | true =>
        simp only [if_true]
        refine helt hb _ _ _ _ _ hs10 fun hp' Y y s11 hY hs11 => ?_
        obtain ⟨rfl, rfl⟩ := hY
        obtain ⟨h11, tk11, m11, mt11, fz11, rfl, S11⟩ := hs11
        have S12 := (out_comp S11 hcm ho hn8 hlk).permE (.trans (.cons _ (.swap _ _ _)) (.swap _ _ _))
        refine append_at (s := ⟨h11, c.gens, c.drawn, tk11, c.os⟩) (hsz := by rw [List.size_toArray]; omega) S12.atE fun h13 hs13 ho13 => ?_
        have S13 := S12.turnE (h' := h13) (o' := LCg.lst (ys ++ [y])) (fun p hp => .tail _ (.tail _ (hcx p hp))) (fun b ob hb e => hs13.extBut b ob hb e) (ho13.trans (congrArg some (LCg.lst_snoc ys y)))
        have S14 := S13.permE (.trans (.swap _ _ _) (.trans (.cons _ (.swap _ _ _)) (.swap _ _ _)))
        refine ⟨L.length - (i + 1), by omega, o6, oC8, m8, i + 1, ys ++ [y], Ys ++ [q.2.2], rfl, hT6, hn8, ?_, by simp [hlen], by simp; omega, ⟨h13, tk11, m11, mt11, fz11, rfl, { S14 with vr := ?_ }⟩⟩
        · rw [htk, resL_snoc, hb, hYs]; rfl
        · have hv := S14.vr
          cases hv with
          | cons ry hv =>
            cases hv with
            | cons r1 hv =>
              obtain ⟨p, q, e, g1, g2⟩ := hv.split
              obtain ⟨rfl, rfl⟩ := List.append_inj e (by rw [hlen, g1.length])
              exact .cons r1 ((g1.append (.cons ry .nil)).append g2)
  exact codeAny_compStart_list (loop _ ⟨h4, _, m1, mt, fz, rfl, S5⟩) (it.self hT0 heI (loop _ ⟨h4, _, m1, mt, fz, rfl, S5⟩))
theorem WE_comp {elt target iter : PySem.Expr} {ifs : List PySem.Expr} {sc : Scope} {pos : Pos} {P : Hp → V → Prop} (cl : List (Str × Addr)) (fl : Loc)
    (h : WE c loc hp iter fun hp1 V1 => ∃ L K any T, Iter c K any V1 (L.map (·.1)) T ∧ K hp1 ∧ (any || isNm target) = true ∧ L.length ≤ sizeLine ∧ (∀ q ∈ L, Elt c loc hp1 target elt ifs sc cl fl q.1 q.2.1 q.2.2) ∧ P hp1 (.lst (resL L)))
    (hcm : c.fi.cm = none) (hclos : closureFor sc c.env = pure cl) (hcell : ∀ y ∈ sc.names, y.2 ≠ .cell) (hkind : sc.kind = .function) (hnames : ∀ y ∈ sc.names, y.2 = .local → sc.names.lookup y.1 = some .local)
    (hfl : ∀ C : Addr, ∀ x X, (x, X) ∈ fl → (x, X) ∈ loc ∧ X ≠ .undef ∧ c.cs.names.lookup x = some .cell ∧ (compEnvC sc cl C c.fenv).kindOf x = some .cell ∧ cl.lookup x = c.r.fcl.lookup x)
    (hs : ∀ x, foldedSetIterable iter c.env x = pure x) : WE c loc hp (.ListComp elt [⟨target, iter, ifs, 0⟩] sc pos) P := by
  intro Vs vs ex s Q hst hQ
  rw [eval_ListComp]
  refine comp_core (Vs := Vs) (vs := vs) (ex := ex) cl fl (h _ _ _ _ _ hst fun hp1 V1 v1 s1 h1 hs1 => ?_) hcm hclos hcell hkind hnames hfl hs
  obtain ⟨L, K, any, T, it, hK, hany, hsz, hel, hP⟩ := h1
  refine ⟨hp1, V1, L, K, any, T, hs1, it, hK, hany, hsz, hel, fun C D oC m₂ ys hh tk m mt fz S hlen hn hcx => ?_⟩
  refine ⟨m₂, hn.ns S.atE, fun h7 hs7 => ?_⟩
  have S8 := S.loseE (h' := h7) (fun p hp => .tail _ (hcx p hp)) fun b ob hb e => hs7.extBut b ob hb e
  exact hQ _ _ _ _ hP ⟨h7, tk, m, mt, _, rfl, S8.freezeE hlen hcx⟩
theorem WX_assignComp {elt target iter : PySem.Expr} {ifs : List PySem.Expr} {sc : Scope} {pos spos px : Pos} {x : Str} {PN : Loc → Hp → Prop} {PR : Hp → V → Prop} (cl : List (Str × Addr)) (fl : Loc)
    (h : WE c loc hp iter fun hp1 V1 => ∃ L K any T, Iter c K any V1 (L.map (·.1)) T ∧ K hp1 ∧ (any || isNm target) = true ∧ L.length ≤ sizeLine ∧ (∀ q ∈ L, Elt c loc hp1 target elt ifs sc cl fl q.1 q.2.1 q.2.2) ∧ ∃ loc1, LocSet x (.lst (resL L)) loc loc1 ∧ PN loc1 hp1)
    (hcm : c.fi.cm = none) (hx : c.cs.names.lookup x = some .local) (hsw : swapsWith (.ListComp elt [⟨target, iter, ifs, 0⟩] sc pos) (some (.Name x px)) spos.line c.env = pure true)
    (hclos : closureFor sc c.env = pure cl) (hcell : ∀ y ∈ sc.names, y.2 ≠ .cell) (hkind : sc.kind = .function) (hnames : ∀ y ∈ sc.names, y.2 = .local → sc.names.lookup y.1 = some .local)
    (hfl : ∀ C : Addr, ∀ x X, (x, X) ∈ fl → (x, X) ∈ loc ∧ X ≠ .undef ∧ c.cs.names.lookup x = some .cell ∧ (compEnvC sc cl C c.fenv).kindOf x = some .cell ∧ cl.lookup x = c.r.fcl.lookup x)
    (hs : ∀ x, foldedSetIterable iter c.env x = pure x) : WX c loc hp (.Assign [.Name x px] (.ListComp elt [⟨target, iter, ifs, 0⟩] sc pos) spos) PN PR := by
  intro Vs vs ex s Q hst hN hR
  rw [exec_Assign_Name_used _ _ _ _ hsw]
  refine wpAny_bind (wpAny_standAt (wpAny_bind ?_))
  show wpAny _ _ (do let _ ← comprehension (.ListComp elt [⟨target, iter, ifs, 0⟩] sc pos) sc c.env _ (newList []) false (eval iter c.env) (some (assign (.Name x px) c.env))) _ _ s
  refine wpAny_bind (wpAny_mono (comp_core (Vs := Vs) (vs := vs) (ex := ex) (use := some (assign (.Name x px) c.env)) (Q := fun _ s' => Q .next s') cl fl (h _ _ _ _ _ hst fun hp1 V1 v1 s1 h1 hs1 => ?_) hcm hclos hcell hkind hnames hfl hs) (fun _ s' hq => wpAny_pure (wpAny_pure hq)) fun _ _ e => e)
  obtain ⟨L, K, any, T, it, hK, hany, hsz, hel, loc1, hset, hP⟩ := h1
  refine ⟨hp1, V1, L, K, any, T, hs1, it, hK, hany, hsz, hel, fun C D oC m₂ ys hh tk m mt fz S hlen hn hcx => ?_⟩
  have S8 := (S.permE (.swap _ _ _)).freezeE hlen (fun p hp => .tail _ (hcx p hp))
  have hv := S8.vr
  cases hv with
  | cons r1 hv =>
    have S9 := { S8 with vr := hv }
    show wpAny (model prg c.w) c.A (assign (.Name x px) c.env (.ref D)) _ _ _
    refine store_ok S9 hcm hx hset r1 fun s' hs' => ?_
    obtain ⟨h10, tk10, m10, mt10, fz10, rfl, S10⟩ := hs'
    refine ⟨m₂, hn.ns S10.atE, fun h7 hs7 => hN _ _ _ hP ⟨h7, tk10, m10, mt10, fz10, rfl, ?_⟩⟩
    exact S10.loseE hcx fun b ob hb e => hs7.extBut b ob hb e
end
section
variable {prog : Program} {w : World} {A : Around} {E : Value → Shared → Prop} {s : Shared}
noncomputable def cutIn (a b : Nat) (new xs : Array Value) : Array Value := xs.extract 0 a ++ new ++ xs.extract (max a b)
theorem kms_lo_le (lo : Option Int) (n : Nat) : kms_lo lo n ≤ n := by
  unfold kms_lo
  split
  · omega
  · split <;> omega
theorem kms_hi_le (hi : Option Int) (n : Nat) : kms_hi hi n ≤ n := by
  unfold kms_hi
  split
  · omega
  · split <;> omega
theorem set_slice {l b sl : Addr} {items items2 : Array Value} {n : Nat} {vl vu : Value} {lo hi : Option Int} {Q : Unit → Shared → Prop} (ho : s.heap.get? l = some (listOf items n)) (hb : s.heap.IsList b items2)
    (hs : s.heap.IsSliceOf sl vl vu .none) (pl : IsPart vl lo) (pu : IsPart vu hi) (hz : items.size + items2.size ≤ sizeLine)
    (hQ : Q () { s with heap := s.heap.update l (Obj.mapSeq fun xs => cutIn (kms_lo lo items.size) (kms_hi hi items.size) items2 xs) }) : wpAny (model prog w) A (setItem (.ref l) (.ref sl) (.ref b)) Q E s := by
  have hl : s.heap.IsList l items := PySem.IsL.isList (n := n) ho
  obtain ⟨os, hos, hcs, hds⟩ := id hs
  have hTs : s.TypeIs (.ref sl) "slice" := ⟨os, hos, hcs⟩
  obtain ⟨ob, hob, hcb, nb, hdb⟩ := id hb
  unfold setItem
  try with_reducible refine wpAny_holding ?_
  first | refine wpAny_bind (wpAny_pure ?_) | skip
  refine wpAny_bind (wpAny_sequenceKey hl.typeIs (by decide) ?_)
  refine wpAny_bind (wpAny_callSpecial?_slot (name := Str.ofString "__setitem__") hl.typeIs slot_list_setitem
    (wpAny_call_entry slot_list_setitem hl.typeIs entry_list_setitem ?_ (args_list_setitem _ _ _)))
  show wpAny _ _ (Builtin.List.listSubscript? (.ref sl) >>= _) _ _ s
  refine wpAny_bind ?_
  unfold Builtin.List.listSubscript?
  refine wpAny_bind (wpAny_specialOf hTs slice_no_index ?_)
  simp only [Option.isNone_none, if_true]
  refine wpAny_pure ?_
  show wpAny _ _ (typeOf (.ref sl) >>= _) _ _ s
  refine wpAny_bind (wpAny_typeOf hTs ?_)
  rw [if_neg (by decide)]
  rw [listSliceParts_eq]
  refine wpAny_bind (wpAny_bind (wpAny_field hos hds (x := .none) rfl (wpAny_bind (wpAny_listPart .none ?_))))
  rw [if_neg (show ¬ ((rawPart none == rawInt 0) = true) from Bool.false_ne_true)]
  refine wpAny_bind (wpAny_field hos hds (x := vl) rfl (wpAny_bind (wpAny_listPart pl ?_)))
  refine wpAny_bind (wpAny_field hos hds (x := vu) rfl (wpAny_bind (wpAny_listPart pu (wpAny_pure ?_))))
  have hsz : (cutIn (kms_lo lo items.size) (kms_hi hi items.size) items2 items).size ≤ sizeLine := by
    have := kms_lo_le lo items.size
    have := kms_hi_le hi items.size
    simp only [cutIn, Array.size_append, Array.size_extract]
    omega
  have efun : (fun xs : Array Value => xs.extract 0 ((kms_lo lo items.size : Nat) : Int).toNat ++ items2 ++ xs.extract (max ((kms_lo lo items.size : Nat) : Int) ((kms_hi hi items.size : Nat) : Int)).toNat) = fun xs => cutIn (kms_lo lo items.size) (kms_hi hi items.size) items2 xs := by
    funext xs
    unfold cutIn
    rw [Int.toNat_natCast, show (max ((kms_lo lo items.size : Nat) : Int) ((kms_hi hi items.size : Nat) : Int)).toNat = max (kms_lo lo items.size) (kms_hi hi items.size) by omega]
  split
  · refine wpAny_bind (m := Builtin.List.listItems (.ref b)) ?_
    unfold Builtin.List.listItems
    refine wpAny_bind (wpAny_seqItems hob hdb (wpAny_pure ?_))
    refine wpAny_bind (m := Builtin.List.listItems (.ref l)) ?_
    unfold Builtin.List.listItems
    refine wpAny_bind (wpAny_seqItems ho rfl (wpAny_pure ?_))
    refine wpAny_bind (wpAny_of_eq (sliceIndices_raw lo hi none items.size (by simp)) ?_)
    rw [kms_bounds]
    dsimp only
    rw [if_pos (by rfl)]
    refine wpAny_bind (wpAny_rule ?_)
    rw [if_neg (by simp only [Builtin.List.listTooLong, decide_eq_true_eq]; omega)]
    rw [efun]
    refine wpAny_bind (m := Builtin.List.listUpdate (.ref l) _) ?_
    refine wpAny_updateSeq (xs := items) (n := n) ho rfl ?_ (by omega) (Nat.le_succ_of_le hsz)
    exact wpAny_bind (wpAny_letGo (wpAny_pure ⟨_, rfl, wpAny_pure hQ⟩))
  · refine wpAny_bind (m := Builtin.List.listAllItems (.ref b) _) ?_
    unfold Builtin.List.listAllItems
    refine wpAny_bind (wpAny_typeOf ⟨ob, hob, hcb⟩ ?_)
    rw [if_pos (by rfl)]
    unfold Builtin.List.listItems
    refine wpAny_bind (wpAny_seqItems hob hdb (wpAny_pure ?_))
    refine wpAny_bind (m := Builtin.List.listItems (.ref l)) ?_
    unfold Builtin.List.listItems
    refine wpAny_bind (wpAny_seqItems ho rfl (wpAny_pure ?_))
    refine wpAny_bind (wpAny_of_eq (sliceIndices_raw lo hi none items.size (by simp)) ?_)
    rw [kms_bounds]
    dsimp only
    rw [if_pos (by rfl)]
    refine wpAny_bind (wpAny_rule ?_)
    rw [if_neg (by simp only [Builtin.List.listTooLong, decide_eq_true_eq]; omega)]
    rw [efun]
    refine wpAny_bind (m := Builtin.List.listUpdate (.ref l) _) ?_
    refine wpAny_updateSeq (xs := items) (n := n) ho rfl ?_ (by omega) (Nat.le_succ_of_le hsz)
    exact wpAny_bind (wpAny_letGo (wpAny_pure ⟨_, rfl, wpAny_pure hQ⟩))
end
section
variable {c : Ctx} {loc loc' : Loc} {hp hp' : Hp}
/-! stores into lists -/
noncomputable def cutV {α : Type} (a b : Nat) (new l : List α) : List α := l.take a ++ new ++ l.drop (max a b)
theorem cutIn_toList (a b : Nat) (new xs : Array Value) : (cutIn a b new xs).toList = cutV a b new.toList xs.toList := by
  unfold cutIn cutV
  simp [List.take_of_length_le]
theorem RepL.cut {F : Addr → Obj → Prop} {vs ws : List Value} {l k : List V} (h : RepL F vs l) (h' : RepL F ws k) (a b : Nat) : RepL F (cutV a b ws vs) (cutV a b k l) := ((h.take a).append h').append (h.drop _)
theorem update_seq {D : Addr} {vs : List Value} {n : Nat} {h : Heap} {f : Array Value → Array Value} (ho : h.get? D = some (listOf vs.toArray n)) : ∃ n', (h.update D (Obj.mapSeq f)).get? D = some (listOf (f vs.toArray) n') := by
  refine ⟨_, (Heap.get?_update_self _ ho ?_)⟩ <;> rfl
section
variable {PN : Loc → Hp → Prop} {PR : Hp → V → Prop} {pos ap p : Pos}
theorem StB.listAt {Vs : List V} {ex : List (Addr × Obj)} {h : Heap} {vs : List Value} {m : Str → Option Value} {mt fz : List (Addr × Obj)} (S : StB c loc hp Vs ex h vs m mt fz) {a : Nat} {l l' : List V} (k : HpMod a (.list l) (.list l') hp hp') :
    ∃ ws n, h.get? a = some (listOf (List.toArray ws) n) ∧ RepL (c.F fz) ws l ∧ ∀ (f : Array Value → Array Value) ws', (f ws.toArray).toList = ws' → RepL (c.F fz) ws' l' →
      ∃ mt', StB c loc hp' Vs ex (h.update a (Obj.mapSeq f)) vs m mt' fz := by
  obtain ⟨ob, ho, hm, up⟩ := S.upd k
  cases ho with
  | @list ws n _ hr =>
    refine ⟨ws, n, (S.nw _ hm).1, hr, fun f ws' hf hr' => ?_⟩
    obtain ⟨n', hn'⟩ := update_seq (f := f) (S.nw _ hm).1
    have e : listOf (f ws.toArray) n' = listOf ws'.toArray n' := by rw [← hf]
    rw [e] at hn'
    obtain ⟨mt', U, fin⟩ := up _ (.list (n := n') hr')
    obtain ⟨pre, post, e1, e2, q1, q2⟩ := U.split
    have z := S.nw _ hm
    refine ⟨mt', fin _ (S.fr.change (Heap.SameBut.update ..) z.2.1 z.2.2) ?_⟩
    rw [e2]
    exact News.setAt (o := listOf ws.toArray n) (e1 ▸ S.nw) q1 q2 (Heap.SameBut.update ..) hn'
noncomputable abbrev SSl (hp4 : Hp) (V1 V2 V3 V4 : V) (K : Hp → Prop) : Prop := ∃ a l new i j hp5, V2 = .ref a ∧ V1 = .lst new ∧ V3 = .int i ∧ V4 = .int j ∧
      HpMod a (.list l) (.list (cutV (kms_lo (some i) l.length) (kms_hi (some j) l.length) new l)) hp4 hp5 ∧ l.length + new.length ≤ sizeLine ∧ K hp5
theorem WX_setSlice {e eo e2 e3 : PySem.Expr} (h : WE c loc hp e fun hp1 V1 => WE c loc hp1 eo fun hp2 V2 => WE c loc hp2 e2 fun hp3 V3 => WE c loc hp3 e3 fun hp4 V4 => SSl hp4 V1 V2 V3 V4 (PN loc))
    (hs : swapsWith e (some (.Subscript eo (.Slice (some e2) (some e3) none p) ap)) pos.line c.env = pure false := by rfl) : WX c loc hp (.Assign [.Subscript eo (.Slice (some e2) (some e3) none p) ap] e pos) PN PR := by
  intro Vs vs ex s Q hst hN hR
  refine wpAny_Assign_Subscript (h _ _ _ _ _ hst fun hp1 V1 v1 s1 h1 hs1 => h1 _ _ _ _ _ hs1 fun hp2 V2 v2 s2 h2 hs2 => ?_) hs
  refine wpAny_Slice ?_
  rw [evalPart_some]
  refine h2 _ _ _ _ _ hs2 fun hp3 V3 v3 s3 h3 hs3 => ?_
  rw [evalPart_some]
  refine h3 _ _ _ _ _ hs3 fun hp4 V4 v4 s4 h4 hs4 => ?_
  rw [evalPart_none]
  refine wpAny_pure ?_
  obtain ⟨a, l, new, i, j, hp5, rfl, rfl, rfl, rfl, hmod, hz, hP⟩ := h4
  obtain ⟨h', tk, m, mt, fz, rfl, S⟩ := hs4
  have hv := S.vr
  cases hv with
  | cons r4 hv =>
    cases hv with
    | cons r3 hv =>
      cases hv with
      | cons r2 hv =>
        cases hv with
        | cons r1 hv =>
          obtain ⟨t4, rfl⟩ : ∃ t, v4 = .int j t := by cases r4; exact ⟨_, rfl⟩
          obtain ⟨t3, rfl⟩ : ∃ t, v3 = .int i t := by cases r3; exact ⟨_, rfl⟩
          cases r2
          cases r1 with
          | @lst b ws2 n2 _ hF2 hr2 =>
            have S' : StB c loc hp4 Vs ex (h'.push { cls := .type "slice", data := .fields #[.int i t3, .int j t4, .none] }) vs m mt fz :=
              { S with vr := hv, fr := S.fr.keeps fun _ _ e => Heap.get?_push_of_some _ e, nw := S.nw.grown fun _ _ e => Heap.get?_push_of_some _ e }
            obtain ⟨ws, n, hws, hr, fin⟩ := S'.listAt hmod
            have hlen := hr.length
            have hlen2 := hr2.length
            refine set_slice (s := ⟨h'.push _, c.gens, c.drawn, tk, c.os⟩) hws (S'.list hF2) (Heap.IsSliceOf.new ..) (.int _ _) (.int _ _) (by simp; omega) ?_
            obtain ⟨mt', S''⟩ := fin (fun xs => cutIn (kms_lo (some i) ws.toArray.size) (kms_hi (some j) ws.toArray.size) ws2.toArray xs) _ (cutIn_toList _ _ _ _) (by
              simp only [List.size_toArray]
              rw [hlen]
              exact hr.cut hr2 _ _)
            exact hN _ _ _ hP ⟨_, tk, m, mt', fz, rfl, S''⟩
/-- what `o[i] = v` does -/
noncomputable def SetOk (c : Ctx) (hp : Hp) (V2 V3 V1 : V) (hp' : Hp) : Prop :=
  ∀ loc Vs ex h vs m mt fz v1 v2 v3 tk (Q : Unit → Shared → Prop), StB c loc hp Vs ex h vs m mt fz → Rep (c.F fz) v1 V1 → Rep (c.F fz) v2 V2 → Rep (c.F fz) v3 V3 →
    (∀ h' mt' tk', StB c loc hp' Vs ex h' vs m mt' fz → Q () ⟨h', c.gens, c.drawn, tk', c.os⟩) → wpAny (model prg c.w) c.A (setItem v2 v3 v1) Q NoE ⟨h, c.gens, c.drawn, tk, c.os⟩
theorem set_at {a : Nat} {l : List V} {i : Int} {X : V} (h : HpMod a (.list l) (.list (l.set i.toNat X)) hp hp') (h0 : 0 ≤ i) (h1 : i < l.length) (hf : i < 2 ^ 63) : SetOk c hp (.ref a) (.int i) X hp' := by
  intro loc Vs ex h' vs m mt fz v1 v2 v3 tk Q S r1 r2 r3 hQ
  cases r2; cases r3
  obtain ⟨ws, n, hws, hr, fin⟩ := S.listAt h
  have hlen := hr.length
  refine ki_setAt (s := ⟨h', c.gens, c.drawn, tk, c.os⟩) hws h0 hf (by simp; omega) ?_
  obtain ⟨mt', S''⟩ := fin (·.setIfInBounds i.toNat v1) (ws.set i.toNat v1) (by simp) (hr.set r1 _)
  exact hQ _ _ _ S''
theorem set_last {a : Nat} {l : List V} {X : V} (h : HpMod a (.list l) (.list (l.set (l.length - 1) X)) hp hp') (h1 : 0 < l.length) : SetOk c hp (.ref a) (.int (-1)) X hp' := by
  intro loc Vs ex h' vs m mt fz v1 v2 v3 tk Q S r1 r2 r3 hQ
  cases r2; cases r3
  obtain ⟨ws, n, hws, hr, fin⟩ := S.listAt h
  have hlen := hr.length
  refine ki_setBack (s := ⟨h', c.gens, c.drawn, tk, c.os⟩) hws (by decide) (by simp; omega) (by decide) ?_
  obtain ⟨mt', S''⟩ := fin (·.setIfInBounds ((-1 : Int) + (ws.toArray.size : Nat)).toNat v1) (ws.set (l.length - 1) v1) (by
    have e : ((-1 : Int) + (ws.toArray.size : Nat)).toNat = l.length - 1 := by simp; omega
    rw [e]; simp) (hr.set r1 _)
  exact hQ _ _ _ S''
noncomputable abbrev SIt (c : Ctx) (hp3 : Hp) (V2 V3 V1 : V) (K : Hp → Prop) : Prop := ∃ hp4, SetOk c hp3 V2 V3 V1 hp4 ∧ K hp4
theorem WX_setItem {e eo ei : PySem.Expr} (h : WE c loc hp e fun hp1 V1 => WE c loc hp1 eo fun hp2 V2 => WE c loc hp2 ei fun hp3 V3 => SIt c hp3 V2 V3 V1 (PN loc))
    (hs : swapsWith e (some (.Subscript eo ei ap)) pos.line c.env = pure false := by rfl) : WX c loc hp (.Assign [.Subscript eo ei ap] e pos) PN PR := by
  intro Vs vs ex s Q hst hN hR
  refine wpAny_Assign_Subscript (h _ _ _ _ _ hst fun hp1 V1 v1 s1 h1 hs1 => h1 _ _ _ _ _ hs1 fun hp2 V2 v2 s2 h2 hs2 => h2 _ _ _ _ _ hs2 fun hp3 V3 v3 s3 h3 hs3 => ?_) hs
  obtain ⟨hp4, hset, hP⟩ := h3
  obtain ⟨h', tk, m, mt, fz, rfl, S⟩ := hs3
  have hv := S.vr
  cases hv with
  | cons r3 hv =>
    cases hv with
    | cons r2 hv =>
      cases hv with
      | cons r1 hv =>
        exact hset _ _ _ _ _ _ _ _ _ _ _ _ _ { S with vr := hv } r1 r2 r3 fun h'' mt' tk' S' => hN _ _ _ hP ⟨h'', tk', m, mt', fz, rfl, S'⟩
end
/-! dicts of the program's own -/
theorem RepK.keys {F : Addr → Obj → Prop} {es : List (Str × Value)} {fs : List (Str × V)} (h : RepK F es fs) : es.map (·.1) = fs.map (·.1) := by
  induction h with
  | nil => rfl
  | cons _ _ ih => rw [List.map_cons, List.map_cons, ih]
theorem RepK.valueAt {F : Addr → Obj → Prop} {es : List (Str × Value)} {fs : List (Str × V)} (h : RepK F es fs) {k : Str} {X : V} (hk : LocAt fs k X) (hn : (fs.map (·.1)).Nodup) : ∃ v, PySem.valueAt es k = some v ∧ Rep F v X := by
  induction h with
  | nil => cases hk
  | @cons k' v x es fs hv r ih =>
    rw [List.map_cons, List.nodup_cons] at hn
    unfold PySem.valueAt
    rw [List.find?_cons]
    cases hk with
    | head => simp; exact hv
    | tail hk =>
      have hne : ¬ (k' = k) := fun q => hn.1 (q ▸ List.mem_map.mpr ⟨_, hk.mem, rfl⟩)
      obtain ⟨u, h1, h2⟩ := ih hk hn.2
      refine ⟨u, ?_, h2⟩
      simp only [hne, decide_false]
      exact h1
theorem stored_map {es : List (Str × Value)} {k : Str} {v : Value} (h : ∀ p ∈ es, p.1 ≠ k) : es.map (fun kv => if kv.1 = k then (kv.1, v) else kv) = es := by
  induction es with
  | nil => rfl
  | cons p es ih => rw [List.map_cons, if_neg (h p (.head _)), ih fun q hq => h q (.tail _ hq)]
theorem RepK.stored {F : Addr → Obj → Prop} {es : List (Str × Value)} {fs fs' : List (Str × V)} (h : RepK F es fs) {k : Str} {X : V} {v : Value} (hk : LocSet k X fs fs') (hn : (fs.map (·.1)).Nodup) (hv : Rep F v X) : RepK F (PySem.stored es k v) fs' := by
  have key : RepK F (es.map (fun kv => if kv.1 = k then (kv.1, v) else kv)) fs' := by
    induction hk generalizing es with
    | @head U r =>
      rw [List.map_cons, List.nodup_cons] at hn
      cases h with
      | @cons k' v' x es fs hv' r' =>
        rw [List.map_cons, if_pos rfl, stored_map]
        · exact .cons hv r'
        · intro p hp e
          have := r'.keys
          exact hn.1 (by rw [← this]; exact List.mem_map.mpr ⟨p, hp, e⟩)
    | @tail p r r' hk ih =>
      rw [List.map_cons, List.nodup_cons] at hn
      cases h with
      | @cons k' v' x es fs hv' r2 =>
        have hne : ¬ (k' = k) := fun q => hn.1 (q ▸ hk.keys.2)
        rw [List.map_cons, if_neg hne]
        exact .cons hv' (ih r2 hn.2)
  unfold PySem.stored
  rw [if_pos]
  · exact key
  · have := hk.keys.2
    rw [← h.keys] at this
    obtain ⟨p, hp, e⟩ := List.mem_map.mp this
    exact List.any_eq_true.mpr ⟨p, hp, by simpa using e⟩
theorem item_dct {a : Nat} {fs : List (Str × V)} {k : Str} {X : V} (ha : HpAt hp a (.dct c.w fs)) (hk : LocAt fs k X) (hn : (fs.map (·.1)).Nodup) : ItemOk c hp (.ref a) (.str k) X := by
  intro loc Vs ex h vs m mt fz v1 v2 tk Q value slice S r1 r2 hs hQ
  cases r2; cases r1
  obtain ⟨ob, hm, ho⟩ := S.get ha
  cases ho with
  | @dct _ o kvs fs hd hr =>
    obtain ⟨v, h1, h2⟩ := hr.valueAt hk hn
    exact kdt_tail (s := ⟨h, c.gens, c.drawn, tk, c.os⟩) S.nw hm hd (kdt_getItem (s := ⟨h, c.gens, c.drawn, tk, c.os⟩) S.nw hm hd (strKind_is _ _ _ _) h1 (hQ _ _ h2)) (hs _ _)
theorem set_dct {a : Nat} {fs fs' : List (Str × V)} {k : Str} {X : V} (h : HpMod a (.dct c.w fs) (.dct c.w fs') hp hp') (hk : LocSet k X fs fs') (hn : (fs.map (·.1)).Nodup) (hz : fs.length ≤ sizeLine) : SetOk c hp (.ref a) (.str k) X hp' := by
  intro loc Vs ex h' vs m mt fz v1 v2 v3 tk Q S r1 r2 r3 hQ
  cases r2; cases r3
  obtain ⟨ob, ho, hm, up⟩ := S.upd h
  cases ho with
  | @dct _ o kvs fs hd hr =>
    have z := S.nw _ hm
    refine wpAny_setItem_pairs (s := ⟨h', c.gens, c.drawn, tk, c.os⟩) (strKind_is _ _ _ _) (Heap.dictOf_iff.mpr ⟨_, z.1, hd⟩) (fun h'' hm' hs' => ?_) (by
      have := congrArg List.length hr.keys
      simp at this
      omega)
    obtain ⟨o', ho', hd'⟩ := Heap.dictOf_iff.mp hm'
    obtain ⟨mt', U, fin⟩ := up o' (.dct hd' (hr.stored hk hn r1))
    obtain ⟨pre, post, e1, e2, q1, q2⟩ := U.split
    refine hQ h'' mt' _ (fin _ (S.fr.change hs' z.2.1 z.2.2) ?_)
    rw [e2]
    exact News.setAt (o := ob) (e1 ▸ S.nw) q1 q2 hs' ho'
end
section
variable {c : Ctx} {loc loc' : Loc} {hp hp' : Hp}
/-! built-in functions -/
section
variable {P : Hp → V → Prop}
theorem inv1 {F : Addr → Obj → Prop} {ws vs : List Value} {X : V} {Vs : List V} (h : RepL F (ws ++ vs) ([X] ++ Vs)) (hl : ws.length = 1) : ∃ v, ws = [v] ∧ Rep F v X ∧ RepL F vs Vs :=
  let ⟨v, e⟩ := ws1 hl; ⟨v, e, RepL.inv (e ▸ h : RepL F ([v] ++ vs) ([X] ++ Vs))⟩
theorem inv2 {F : Addr → Obj → Prop} {ws vs : List Value} {X Y : V} {Vs : List V} (h : RepL F (ws ++ vs) ([X, Y] ++ Vs)) (hl : ws.length = 2) : ∃ u v, ws = [u, v] ∧ Rep F u X ∧ Rep F v Y ∧ RepL F vs Vs :=
  let ⟨u, v, e⟩ := ws2 hl; let ⟨a, b⟩ := RepL.inv (e ▸ h : RepL F ([u, v] ++ vs) ([X, Y] ++ Vs)); ⟨u, v, e, a, RepL.inv b⟩
/-- built-ins that leave the ledger alone, of one argument -/
theorem call_len {V1 : V} {l : List V} (h : LstV hp V1 l) (hz : l.length < 2 ^ 62) (hP : P hp (.int l.length)) : CallOk c loc hp (.builtin "len") [V1] P := by
  rintro Vs vs ws ex s Q ⟨h', tk, m, mt, fz, rfl, S⟩ hl hQ
  obtain ⟨v, rfl, r, hv⟩ := inv1 S.vr hl
  obtain ⟨a, ys, n, rfl, ha, hr⟩ := S.lstv r h
  have hlen := hr.length
  refine len_list (s := ⟨h', c.gens, c.drawn, tk, c.os⟩) (PySem.IsL.isList (n := n) ha) (by simp; omega) ?_
  have e : (ys.toArray.size : Int) = (l.length : Nat) := by simp [hlen]
  rw [e]
  exact hQ _ _ _ _ hP ⟨h', _, m, mt, fz, rfl, { S with vr := .cons (.int _ _) hv }⟩
theorem call_abs {i : Int} (hP : P hp (.int (if i < 0 then -i else i))) : CallOk c loc hp (.builtin "abs") [.int i] P := by
  rintro Vs vs ws ex s Q ⟨h', tk, m, mt, fz, rfl, S⟩ hl hQ
  obtain ⟨v, rfl, r, hv⟩ := inv1 S.vr hl
  cases r
  exact call_abs_int fun u tk' => hQ _ _ _ _ hP ⟨h', _, m, mt, fz, rfl, { S with vr := .cons (.int _ _) hv }⟩
theorem call_min {i j : Int} (hP : P hp (.int (if j < i then j else i))) : CallOk c loc hp (.builtin "min") [.int i, .int j] P := by
  rintro Vs vs ws ex s Q ⟨h', tk, m, mt, fz, rfl, S⟩ hl hQ
  obtain ⟨u, v, rfl, r1, r2, hv⟩ := inv2 S.vr hl
  cases r1; cases r2
  exact min_two_N (s := ⟨h', c.gens, c.drawn, tk, c.os⟩) rfl S.fr S.nw fun h'' tk' F' N' => hQ _ _ _ _ hP ⟨h'', _, m, mt, fz, rfl, { S with fr := F', nw := N', vr := .cons (.int _ _) hv }⟩
theorem RepL.ints {F : Addr → Obj → Prop} {vs : List Value} {ns : List Int} (h : RepL F vs (ns.map V.int)) : IntsAre vs ns := by
  induction ns generalizing vs with
  | nil => cases h; exact .nil
  | cons n ns ih => cases h with | cons a b => cases a; exact .cons _ _ (ih b)
theorem call_sum {V1 : V} {ns : List Int} (h : LstV hp V1 (ns.map V.int)) (hP : P hp (.int ns.sum)) : CallOk c loc hp (.builtin "sum") [V1] P := by
  rintro Vs vs ws ex s Q ⟨h', tk, m, mt, fz, rfl, S⟩ hl hQ
  obtain ⟨v, rfl, r, hv⟩ := inv1 S.vr hl
  obtain ⟨a, ys, n, rfl, ha, hr⟩ := S.lstv r h
  have hi := hr.ints
  obtain ⟨xs, e⟩ := hi.allInts.items
  have hns : xs.toList.map (·.1) = ns := by
    rw [← nums_intItems, ← e]
    exact hi.numsOf
  refine sum_intListG (s := ⟨h', c.gens, c.drawn, tk, c.os⟩) (xs := xs) rfl (e ▸ PySem.IsL.isList (n := n) ha) fun h'' tk' t' hk => ?_
  rw [preSum_eq, List.take_of_length_le (by simp), hns]
  exact hQ _ _ _ _ hP ⟨h'', _, m, mt, fz, rfl, { S with fr := S.fr.keeps hk, nw := S.nw.grown hk, vr := .cons (.int _ _) hv }⟩
theorem call_range {n : Int} (hP : P hp (.rng n)) : CallOk c loc hp (.type "range") [.int n] P := by
  rintro Vs vs ws ex s Q ⟨h', tk, m, mt, fz, rfl, S⟩ hl hQ
  obtain ⟨v, rfl, r, hv⟩ := inv1 S.vr hl
  obtain ⟨t, rfl⟩ : ∃ t, v = .int n t := by cases r; exact ⟨_, rfl⟩
  refine PySem.call_range_1 (s := ⟨h', c.gens, c.drawn, tk, c.os⟩) (hQ _ (.rng n) _ _ hP ?_)
  have S0 : StB c loc hp Vs ex h' vs m mt fz := { S with vr := hv }
  have S1 := S0.pushF (S.fr.push { cls := .type "range", data := .fields #[.int 0 tk, .int n t, .int 1 (tk + 1)] }) (News.push S.fr S.nw _) fun p hp => Heap.lt_size (S.nw p hp).1
  exact ⟨_, _, m, mt, _, rfl, { S1 with vr := .cons (.rng (.inl (.head _))) S1.vr }⟩
theorem call_listR {n : Nat} (hz : n ≤ 2 ^ 20) (hP : ∀ a : Nat, P ((a, .list (vints n)) :: hp) (.ref a)) : CallOk c loc hp (.type "list") [.rng n] P := by
  rintro Vs vs ws ex s Q ⟨h', tk, m, mt, fz, rfl, S⟩ hl hQ
  obtain ⟨v, rfl, r, hv⟩ := inv1 S.vr hl
  cases r with
  | rng hF =>
    refine call_list_range (s := ⟨h', c.gens, c.drawn, tk, c.os⟩) rfl (S.frz hF) (small_one (by decide) (by decide) (by omega) (by omega)) range_size (by omega) fun h'' tk' acc c' hk hS hacc => hQ _ (.ref h'.objs.size) _ _ (hP _) ?_
    have hr : RepL (c.F fz) acc.toList (vints n) := by
      have key : ∀ (k : Nat) (vs : List Value), vs.length = k → (∀ (i : Nat) (v : Value), vs[i]? = some v → ∃ t, v = .int (i : Nat) t) → RepL (c.F fz) vs (vints k) := by
        intro k
        induction k with
        | zero => intro vs hl _; cases vs with | nil => exact .nil | cons _ _ => simp at hl
        | succ k ih =>
          intro vs hl hi
          obtain ⟨ys, y, rfl⟩ : ∃ ys y, vs = ys ++ [y] := by
            rcases List.eq_nil_or_concat vs with e | ⟨ys, y, e⟩
            · subst e; simp at hl
            · exact ⟨ys, y, by simpa using e⟩
          have hyl : ys.length = k := by simpa using hl
          have e : vints (k + 1) = vints k ++ [.int (k : Nat)] := by simp [vints, List.range_succ]
          rw [e]
          obtain ⟨t, ht⟩ := hi k y (by rw [← hyl]; simp)
          rw [ht]
          refine (ih ys hyl fun i v hv => hi i v ?_).append (.cons (.int _ _) .nil)
          have := (List.getElem?_eq_some_iff.mp hv).1
          rw [List.getElem?_append_left this]; exact hv
      refine key n acc.toList (by rw [Array.length_toList]; exact hacc.1) fun i v hv => ?_
      obtain ⟨t, ht⟩ := hacc.2 i v (by simpa using hv)
      exact ⟨t, by rw [ht]; congr 1; omega⟩
    have S0 : StB c loc hp Vs ex h' vs m mt fz := { S with vr := hv }
    have S1 := S0.pushM (o := .list (vints n)) (ob := listOf acc.toList.toArray c') (S.fr.keeps hk) (news_pushed S.fr S.nw hk (by simpa using hS) rfl) (fun p hp => Heap.lt_size (S.nw p hp).1) (.list hr)
    exact ⟨_, _, m, _, fz, rfl, { S1 with vr := .cons (.ref _) S1.vr }⟩
theorem call_listF {V1 : V} {l : List V} (h : LstV hp V1 l) (hz : l.length ≤ sizeLine) (hP : P hp (.lst l)) : CallOk c loc hp (.type "list") [V1] P := by
  rintro Vs vs ws ex s Q ⟨h', tk, m, mt, fz, rfl, S⟩ hl hQ
  obtain ⟨v, rfl, r, hv⟩ := inv1 S.vr hl
  obtain ⟨a, ys, n, rfl, ha, hr⟩ := S.lstv r h
  have hlen := hr.length
  refine list_copyK (s := ⟨h', c.gens, c.drawn, tk, c.os⟩) S.fr S.nw (PySem.IsL.isList (n := n) ha) (fun D c' h'' F' N' hlt => hQ _ (.lst l) _ _ hP ?_) (by simp; omega)
  have S1 := StB.pushF { S with vr := hv } F' N' hlt
  exact ⟨_, _, m, mt, _, rfl, { S1 with vr := .cons (.lst (.inl (.head _)) (hr.mono StB.F_cons)) S1.vr }⟩
theorem call_listM {V1 : V} {l : List V} (h : LstV hp V1 l) (hz : l.length ≤ sizeLine) (hP : ∀ a : Nat, P ((a, .list l) :: hp) (.ref a)) : CallOk c loc hp (.type "list") [V1] P := by
  rintro Vs vs ws ex s Q ⟨h', tk, m, mt, fz, rfl, S⟩ hl hQ
  obtain ⟨v, rfl, r, hv⟩ := inv1 S.vr hl
  obtain ⟨a, ys, n, rfl, ha, hr⟩ := S.lstv r h
  have hlen := hr.length
  refine list_copyK (s := ⟨h', c.gens, c.drawn, tk, c.os⟩) S.fr S.nw (PySem.IsL.isList (n := n) ha) (fun D c' h'' F' N' hlt => hQ _ (.ref D) _ _ (hP D) ?_) (by simp; omega)
  have S1 := StB.pushM (o := .list l) { S with vr := hv } F' N' hlt (.list hr)
  exact ⟨_, _, m, _, fz, rfl, { S1 with vr := .cons (.ref D) S1.vr }⟩
/-! methods of lists -/
theorem ne_of_lt_idxOf {k : Int} : ∀ {ns : List Int} {q : Nat}, q < ns.idxOf k → ∀ hq : q < ns.length, ¬ ns[q] = k
  | [], _, _, hq => absurd hq (Nat.not_lt_zero _)
  | n :: ns, q, h, hq => by
    rw [List.idxOf_cons] at h
    by_cases e : n = k
    · subst e; simp at h
    · rw [beq_eq_false_iff_ne.mpr e] at h
      cases q with
      | zero => simpa using e
      | succ q =>
        have h' : q < ns.idxOf k := by simpa using h
        simpa using ne_of_lt_idxOf h' (by simpa using hq)
theorem eraseIdx_map' {α β : Type} (f : α → β) : ∀ (l : List α) (k : Nat), (l.eraseIdx k).map f = (l.map f).eraseIdx k
  | [], _ => by simp
  | _ :: _, 0 => rfl
  | x :: l, k + 1 => by simp [eraseIdx_map' f l k]
theorem call_append {a : Nat} {l : List V} {X : V} (h : HpMod a (.list l) (.list (l ++ [X])) hp hp') (hz : l.length ≤ sizeLine) (hP : P hp' .none) : CallOk c loc hp (.builtin "list.append") [.ref a, X] P := by
  rintro Vs vs ws ex s Q ⟨h', tk, m, mt, fz, rfl, S⟩ hl hQ
  obtain ⟨u, v, rfl, r1, r2, hv⟩ := inv2 S.vr hl
  cases r1
  obtain ⟨ys, n, hys, hr, fin⟩ := StB.listAt { S with vr := hv } h
  have hlen := hr.length
  refine wpAny_call_entry slot_list_append ⟨_, hys, rfl⟩ entry_list_append ?_ (args_list_append _ _)
  show wpAny _ _ (updateSeq a (·.push v) >>= fun _ => ret .none) _ _ _
  refine wpAny_bind (wpAny_updateSeq hys rfl (wpAny_pure ⟨.none, rfl, ?_⟩) (by simp; omega) (by simp; omega))
  obtain ⟨mt', S''⟩ := fin (·.push v) (ys ++ [v]) (by simp) (hr.append (.cons r2 .nil))
  exact hQ _ .none _ _ hP ⟨_, tk, m, mt', fz, rfl, { S'' with vr := .cons .none S''.vr }⟩
theorem call_pop0 {a : Nat} {X : V} {l : List V} (h : HpMod a (.list (X :: l)) (.list l) hp hp') (hz : l.length < sizeLine) (hP : P hp' X) : CallOk c loc hp (.builtin "list.pop") [.ref a, .int 0] P := by
  rintro Vs vs ws ex s Q ⟨h', tk, m, mt, fz, rfl, S⟩ hl hQ
  obtain ⟨u, v, rfl, r1, r2, hv⟩ := inv2 S.vr hl
  cases r1; cases r2
  obtain ⟨ob, ho, hm, up⟩ := StB.upd { S with vr := hv } h
  cases ho with
  | @list ys n _ hr =>
    cases hr with
    | @cons y ys _ _ ry hr =>
      have hlen := hr.length
      obtain ⟨mt', U, fin⟩ := up _ (.list (n := n + 1) hr)
      refine my_pop0 (s := ⟨h', c.gens, c.drawn, tk, c.os⟩) S.fr S.nw U (by omega) fun h'' F' N' => hQ _ X _ _ hP ⟨_, tk, m, mt', fz, rfl, ?_⟩
      have S'' := fin h'' F' N'
      exact { S'' with vr := .cons ry S''.vr }
theorem call_index {V1 : V} {ns : List Int} {k : Int} (h : LstV hp V1 (ns.map V.int)) (hk : k ∈ ns) (hz : ns.length ≤ 2 ^ 20) (hP : P hp (.int (ns.idxOf k : Nat))) : CallOk c loc hp (.builtin "list.index") [V1, .int k] P := by
  rintro Vs vs ws ex s Q ⟨h', tk, m, mt, fz, rfl, S⟩ hl hQ
  obtain ⟨u, v, rfl, r1, r2, hv⟩ := inv2 S.vr hl
  obtain ⟨t, rfl⟩ : ∃ t, v = .int k t := by cases r2; exact ⟨_, rfl⟩
  obtain ⟨a, ys, n, rfl, ha, hr⟩ := S.lstv r1 h
  have hi := hr.ints
  have hlen : ys.length = ns.length := by have := hr.length; simpa using this
  have hj : ns.idxOf k < ns.length := List.idxOf_lt_length_iff.mpr hk
  refine call_meets PySem.F.slot_list_index ⟨_, ha, rfl⟩ PySem.F.entry_list_index (PySem.F.args_list_index_2 _ _) (MeetsSeq.list_index a ys.toArray n (.int k t) (isInt k) (fun y hy => eq_isInt k t hi y (by simpa using hy)) (ns.idxOf k) (by simp; omega) (by omega) ?_ ?_) ⟨ha, ?_⟩
  · have key : ∀ (j : Nat) (hj : j < ys.length), isInt k ys[j] = decide (ns[j]'(by omega) = k) := fun j hj => by
      have hx : (ns.map V.int)[j]? = some (V.int (ns[j]'(by omega))) := by simp [show j < ns.length by omega]
      obtain ⟨v, hv0, rv⟩ := hr.get hx
      have : ys[j] = v := by have := List.getElem?_eq_getElem hj; rw [this] at hv0; exact Option.some.inj hv0
      rw [this]
      cases rv
      rfl
    simp only [List.getElem_toArray]
    rw [key _ (by omega)]
    simp
  · intro q hq hlt
    have hx : (ns.map V.int)[q]? = some (V.int (ns[q]'(by omega))) := by simp [show q < ns.length by omega]
    obtain ⟨v, hv0, rv⟩ := hr.get hx
    have hq' : q < ys.length := by simpa using hq
    have : ys[q] = v := by have := List.getElem?_eq_getElem hq'; rw [this] at hv0; exact Option.some.inj hv0
    simp only [List.getElem_toArray]
    rw [this]
    cases rv
    exact decide_eq_false (ne_of_lt_idxOf hlt _)
  · exact hQ _ _ _ _ hP ⟨h', _, m, mt, fz, rfl, { S with vr := .cons (.int _ _) hv }⟩
theorem call_extend {a : Nat} {V2 : V} {l k : List V} (h2 : V2 = .lst k) (h : HpMod a (.list l) (.list (l ++ k)) hp hp') (hz : l.length + k.length ≤ sizeLine) (hP : P hp' .none) : CallOk c loc hp (.builtin "list.extend") [.ref a, V2] P := by
  subst h2
  rintro Vs vs ws ex s Q ⟨h', tk, m, mt, fz, rfl, S⟩ hl hQ
  obtain ⟨u, v, rfl, r1, r2, hv⟩ := inv2 S.vr hl
  cases r1
  cases r2 with
  | @lst b ys2 n2 _ hF2 hr2 =>
    obtain ⟨ys, n, hys, hr, fin⟩ := StB.listAt { S with vr := hv } h
    have hlen := hr.length
    have hlen2 := hr2.length
    refine call_meets PySem.F.slot_list_extend ⟨_, hys, rfl⟩ PySem.F.entry_list_extend (PySem.F.args_list_extend_2 _ _) (PySem.AutoSeq1.list_extend_list_list_0 a ys.toArray n b ys2.toArray n2 ?_ (by simp; omega) (by simp; omega)) ⟨hys, S.frz hF2, ?_⟩
    · simp only [Builtin.List.listTooLong, List.size_toArray, Bool.and_eq_true, decide_eq_true_eq, not_and]
      intro _; omega
    · obtain ⟨mt', S''⟩ := fin (· ++ ys2.toArray) (ys ++ ys2) (by simp) (hr.append hr2)
      exact hQ _ .none _ _ hP ⟨_, tk, m, mt', fz, rfl, { S'' with vr := .cons .none S''.vr }⟩
theorem RepL.eraseIdx {F : Addr → Obj → Prop} {vs : List Value} {l : List V} (h : RepL F vs l) : ∀ k : Nat, RepL F (vs.eraseIdx k) (l.eraseIdx k) := by
  induction vs generalizing l with
  | nil => intro k; cases h; exact .nil
  | cons u vs ih =>
    intro k
    cases h with
    | cons a b => cases k with
      | zero => exact b
      | succ k => exact .cons a (ih b k)
theorem call_remove {a : Nat} {ns : List Int} {k : Int} (h : HpMod a (.list (ns.map V.int)) (.list ((ns.erase k).map V.int)) hp hp') (hk : k ∈ ns) (hz : ns.length ≤ 2 ^ 20) (hP : P hp' .none) : CallOk c loc hp (.builtin "list.remove") [.ref a, .int k] P := by
  rintro Vs vs ws ex s Q ⟨h', tk, m, mt, fz, rfl, S⟩ hl hQ
  obtain ⟨u, v, rfl, r1, r2, hv⟩ := inv2 S.vr hl
  obtain ⟨t, rfl⟩ : ∃ t, v = .int k t := by cases r2; exact ⟨_, rfl⟩
  cases r1
  obtain ⟨ys, n, hys, hr, fin⟩ := StB.listAt { S with vr := hv } h
  have hi := hr.ints
  have hlen : ys.length = ns.length := by have := hr.length; simpa using this
  have hj : ns.idxOf k < ns.length := List.idxOf_lt_length_iff.mpr hk
  have hline : sizeLine = 536870895 ∨ 2 ^ 20 ≤ sizeLine := by first | (right; decide) | (right; rw [sizeLine_eq]; decide)
  have hz' : ys.length ≤ sizeLine := by rcases hline with e | e <;> omega
  refine call_meets PySem.F.slot_list_remove ⟨_, hys, rfl⟩ PySem.F.entry_list_remove (PySem.F.args_list_remove_2 _ _) (MeetsSeq.list_remove a ys.toArray n (.int k t) (isInt k) (fun y hy => eq_isInt k t hi y (by simpa using hy)) (ns.idxOf k) (by simp; omega) ?_ ?_ (by simpa using hz')) ⟨hys, ?_⟩
  · have hx : (ns.map V.int)[ns.idxOf k]? = some (V.int k) := by simp [hj]
    obtain ⟨v, hv0, rv⟩ := hr.get hx
    have : ys[ns.idxOf k]'(by omega) = v := by have := List.getElem?_eq_getElem (show ns.idxOf k < ys.length by omega); rw [this] at hv0; exact Option.some.inj hv0
    simp only [List.getElem_toArray]
    rw [this]
    cases rv
    exact decide_eq_true rfl
  · intro q hq hlt
    have hx : (ns.map V.int)[q]? = some (V.int (ns[q]'(by omega))) := by simp [show q < ns.length by omega]
    obtain ⟨v, hv0, rv⟩ := hr.get hx
    have hq' : q < ys.length := by simpa using hq
    have : ys[q] = v := by have := List.getElem?_eq_getElem hq'; rw [this] at hv0; exact Option.some.inj hv0
    simp only [List.getElem_toArray]
    rw [this]
    cases rv
    exact decide_eq_false (ne_of_lt_idxOf hlt _)
  · have e : (ns.erase k).map V.int = (ns.map V.int).eraseIdx (ns.idxOf k) := by rw [List.erase_eq_eraseIdx_of_idxOf rfl, eraseIdx_map']
    obtain ⟨mt', S''⟩ := fin (fun xs => xs.eraseIdxIfInBounds (ns.idxOf k)) (ys.eraseIdx (ns.idxOf k)) (by simp) (e ▸ hr.eraseIdx _)
    exact hQ _ .none _ _ hP ⟨_, tk, m, mt', fz, rfl, { S'' with vr := .cons .none S''.vr }⟩
end
end
section
variable {c : Ctx} {loc loc' : Loc} {hp hp' : Hp}
/-! plain data -/
mutual
inductive Den (hp : Hp) : V → PyData → Prop
  | none : Den hp .none .none
  | bool (b : Bool) : Den hp (.bool b) (.bool b)
  | int (i : Int) : Den hp (.int i) (.int i)
  | str (x : Str) : Den hp (.str x) (.str x)
  | tup {l : List V} {ds : List PyData} : DenL hp l ds → Den hp (.tup l) (.tuple ds)
  | lst {l : List V} {ds : List PyData} : DenL hp l ds → Den hp (.lst l) (.list ds)
  | ref {a : Nat} {l : List V} {ds : List PyData} : HpAt hp a (.list l) → DenL hp l ds → Den hp (.ref a) (.list ds)
inductive DenL (hp : Hp) : List V → List PyData → Prop
  | nil : DenL hp [] []
  | cons {X : V} {l : List V} {d : PyData} {ds : List PyData} : Den hp X d → DenL hp l ds → DenL hp (X :: l) (d :: ds)
end
section
variable {Vs : List V} {ex : List (Addr × Obj)} {h : Heap} {vs : List Value} {m : Str → Option Value} {mt fz : List (Addr × Obj)}
mutual
theorem Den.reads (S : StB c loc hp Vs ex h vs m mt fz) : ∀ {X : V} {d : PyData} {v : Value}, Den hp X d → Rep (c.F fz) v X → ∃ as, Reads h v d as
  | _, _, _, .none, r => by cases r; exact ⟨_, .none⟩
  | _, _, _, .bool b, r => by cases r; exact ⟨_, .bool b⟩
  | _, _, _, .int i, r => by cases r; exact ⟨_, .int i _⟩
  | _, _, _, .str x, r => by cases r; exact ⟨_, .str x _⟩
  | _, _, _, .tup k, r => by
    cases r with
    | tup hF hr =>
      obtain ⟨as, q⟩ := DenL.reads S k hr
      exact ⟨_, .tuple (S.frz hF) rfl rfl (by simpa using q)⟩
  | _, _, _, .lst k, r => by
    cases r with
    | lst hF hr =>
      obtain ⟨as, q⟩ := DenL.reads S k hr
      exact ⟨_, .list (S.frz hF) rfl rfl (by simpa using q)⟩
  | _, _, _, .ref ha k, r => by
    cases r
    obtain ⟨ob, hm, ho⟩ := S.get ha
    cases ho with
    | list hr =>
      obtain ⟨as, q⟩ := DenL.reads S k hr
      exact ⟨_, .list (S.nw _ hm).1 rfl rfl (by simpa using q)⟩
theorem DenL.reads (S : StB c loc hp Vs ex h vs m mt fz) : ∀ {l : List V} {ds : List PyData} {ws : List Value}, DenL hp l ds → RepL (c.F fz) ws l → ∃ as, ReadsAll h ws ds as
  | _, _, _, .nil, r => by cases r; exact ⟨_, .nil⟩
  | _, _, _, .cons k1 k2, r => by
    cases r with
    | cons r1 r2 =>
      obtain ⟨a1, q1⟩ := Den.reads S k1 r1
      obtain ⟨a2, q2⟩ := DenL.reads S k2 r2
      exact ⟨_, .cons q1 q2⟩
end
end
theorem units_ok {k : Nat} (ho : c.Ok) (hk : k ≤ 64 := by decide) : c.A.units + k < cLine := by
  have h1 := ho.hu
  have h2 := cLine_is
  show c.un + k < cLine
  omega
theorem cmp_eqD {V1 V2 : V} {d1 d2 : PyData} (h1 : Den hp V1 d1) (h2 : Den hp V2 d2) (s1 : SeqAt.shaped d1 = true) (s2 : SeqAt.shaped d2 = true) : CmpOk c hp .Eq V1 V2 (PyData.eqv d1 d2) := by
  intro loc Vs ex h vs m mt fz v1 v2 tk Q S r1 r2 hQ
  obtain ⟨as, q1⟩ := h1.reads S r1
  obtain ⟨bs, q2⟩ := h2.reads S r2
  exact eq_dataH (s := ⟨h, c.gens, c.drawn, tk, c.os⟩) q1 q2 s1 s2 (units_ok S.ok) (hQ tk)
theorem cmp_neD {V1 V2 : V} {d1 d2 : PyData} (h1 : Den hp V1 d1) (h2 : Den hp V2 d2) (s1 : SeqAt.shaped d1 = true) (s2 : SeqAt.shaped d2 = true) : CmpOk c hp .NotEq V1 V2 (!PyData.eqv d1 d2) := by
  intro loc Vs ex h vs m mt fz v1 v2 tk Q S r1 r2 hQ
  obtain ⟨as, q1⟩ := h1.reads S r1
  obtain ⟨bs, q2⟩ := h2.reads S r2
  exact ne_dataH (s := ⟨h, c.gens, c.drawn, tk, c.os⟩) q1 q2 s1 s2 (units_ok S.ok) (hQ tk)
/-- a list against the empty list -/
theorem cmp_neNil {V1 : V} {l : List V} (h1 : LstV hp V1 l) : CmpOk c hp .NotEq V1 (.lst []) (decide (l ≠ [])) := by
  intro loc Vs ex h vs m mt fz v1 v2 tk Q S r1 r2 hQ
  obtain ⟨a, ws, n, rfl, ha, hr⟩ := S.lstv r1 h1
  have hlen := hr.length
  cases r2 with
  | @lst b ws2 n2 _ hF2 hr2 =>
    cases hr2
    have hb := S.frz hF2
    cases l with
    | nil =>
      have : ws = [] := List.eq_nil_of_length_eq_zero (by simpa using hlen)
      subst this
      exact SeqAt.RcNeAt.lists (s := ⟨h, c.gens, c.drawn, tk, c.os⟩) (e := fun _ => true) (PySem.IsL.isList (n := n) ha) (PySem.IsL.isList (n := n2) hb) rfl (by have := units_ok (k := 0) S.ok; simpa using this) (fun j h1 _ => absurd h1 (Nat.not_lt_zero _)) _ _ _ _ (by simpa using hQ tk)
    | cons x l =>
      refine SeqAt.RcNeAt.lists_lengths (s := ⟨h, c.gens, c.drawn, tk, c.os⟩) (PySem.IsL.isList (n := n) ha) (PySem.IsL.isList (n := n2) hb) (by simp; intro e; rw [e] at hlen; simp at hlen) (by have := units_ok (k := 0) S.ok; simpa using this) _ _ _ _ (by simpa using hQ tk)
theorem cmp_eqNil {V1 : V} {l : List V} (h1 : LstV hp V1 l) : CmpOk c hp .Eq V1 (.lst []) (decide (l = [])) := by
  intro loc Vs ex h vs m mt fz v1 v2 tk Q S r1 r2 hQ
  obtain ⟨a, ws, n, rfl, ha, hr⟩ := S.lstv r1 h1
  have hlen := hr.length
  cases r2 with
  | @lst b ws2 n2 _ hF2 hr2 =>
    cases hr2
    have hb := S.frz hF2
    cases l with
    | nil =>
      have : ws = [] := List.eq_nil_of_length_eq_zero (by simpa using hlen)
      subst this
      exact SeqAt.RcAt.lists (s := ⟨h, c.gens, c.drawn, tk, c.os⟩) (e := fun _ => true) (PySem.IsL.isList (n := n) ha) (PySem.IsL.isList (n := n2) hb) rfl (by have := units_ok (k := 0) S.ok; simpa using this) (fun j h1 _ => absurd h1 (Nat.not_lt_zero _)) _ _ _ _ (by simpa using hQ tk)
    | cons x l =>
      refine SeqAt.RcAt.lists_lengths (s := ⟨h, c.gens, c.drawn, tk, c.os⟩) (PySem.IsL.isList (n := n) ha) (PySem.IsL.isList (n := n2) hb) (by simp; intro e; rw [e] at hlen; simp at hlen) (by have := units_ok (k := 0) S.ok; simpa using this) _ _ _ _ (by simpa using hQ tk)
theorem eqb_str {x y : Str} : (x.cps.toList == y.cps.toList) = decide (x = y) := str_eq_iff
/-- a tuple that begins with a text, against a tuple of one text -/
theorem tup1_at {Vs : List V} {ex : List (Addr × Obj)} {h : Heap} {vs : List Value} {m : Str → Option Value} {mt fz : List (Addr × Obj)} {v1 v2 : Value} {x y : Str} {r : List V} (S : StB c loc hp Vs ex h vs m mt fz) (r1 : Rep (c.F fz) v1 (.tup (.str x :: r))) (r2 : Rep (c.F fz) v2 (.tup [.str y])) (tk : Nat) :
    ∃ a b items items2, v1 = .ref a ∧ v2 = .ref b ∧ h.IsTuple a items ∧ h.IsTuple b items2 ∧ items.size = r.length + 1 ∧ items2.size = 1 ∧ ∀ j (h1 : j < items.size) (h2 : j < items2.size), SeqAt.EqAt c.A.in1 ⟨h, c.gens, c.drawn, tk, c.os⟩ items[j] items2[j] (decide (x = y)) := by
  cases r1 with
  | @tup a ws n d sl _ hF1 hr1 =>
    cases r2 with
    | @tup b ws2 n2 d2 sl2 _ hF2 hr2 =>
      cases hr1 with
      | @cons u ws _ _ ru hr1 =>
        cases hr2 with
        | @cons u2 ws2 _ _ ru2 hr2 =>
          cases hr2
          have hlen := hr1.length
          refine ⟨a, b, _, _, rfl, rfl, ⟨_, S.frz hF1, rfl, _, rfl⟩, ⟨_, S.frz hF2, rfl, _, rfl⟩, by simp [hlen], by simp, fun j h1 h2 => ?_⟩
          have : j = 0 := by simp at h2; exact h2
          subst this
          obtain ⟨t1, rfl⟩ : ∃ t, u = .str x t := by cases ru; exact ⟨_, rfl⟩
          obtain ⟨t2, rfl⟩ : ∃ t, u2 = .str y t := by cases ru2; exact ⟨_, rfl⟩
          have := (SeqRoads2.EqGives.str x y t1 t2).at c.A.in1 ⟨h, c.gens, c.drawn, tk, c.os⟩
          rw [eqb_str] at this
          exact this
theorem cmp_eqTup1 {x y : Str} {r : List V} : CmpOk c hp .Eq (.tup (.str x :: r)) (.tup [.str y]) (decide (x = y ∧ r = [])) := by
  intro loc Vs ex h vs m mt fz v1 v2 tk Q S r1 r2 hQ
  obtain ⟨a, b, it1, it2, rfl, rfl, t1, t2, n1, n2, he⟩ := tup1_at S r1 r2 tk
  refine SeqAt.eq_tupleAt (s := ⟨h, c.gens, c.drawn, tk, c.os⟩) (e := fun _ => decide (x = y)) t1 t2 (by have := units_ok (k := 0) S.ok; simpa using this) he ?_
  rw [n1, n2]
  have e : ((List.range (min (r.length + 1) 1)).all (fun _ => decide (x = y)) && r.length + 1 == 1) = decide (x = y ∧ r = []) := by
    have : min (r.length + 1) 1 = 1 := by omega
    rw [this]
    by_cases hx : x = y <;> cases r <;> simp [hx]
  rw [e]; exact hQ tk
theorem cmp_neTup1 {x y : Str} {r : List V} : CmpOk c hp .NotEq (.tup (.str x :: r)) (.tup [.str y]) (!decide (x = y ∧ r = [])) := by
  intro loc Vs ex h vs m mt fz v1 v2 tk Q S r1 r2 hQ
  obtain ⟨a, b, it1, it2, rfl, rfl, t1, t2, n1, n2, he⟩ := tup1_at S r1 r2 tk
  refine SeqAt.RcNeAt.tuples (s := ⟨h, c.gens, c.drawn, tk, c.os⟩) (e := fun _ => decide (x = y)) t1 t2 (by have := units_ok (k := 0) S.ok; simpa using this) he _ _ _ _ ?_
  rw [n1, n2]
  have e : (!((List.range (min (r.length + 1) 1)).all (fun _ => decide (x = y)) && r.length + 1 == 1)) = !decide (x = y ∧ r = []) := by
    have : min (r.length + 1) 1 = 1 := by omega
    rw [this]
    by_cases hx : x = y <;> cases r <;> simp [hx]
  rw [e]; exact hQ tk
/-! in -/
theorem any_isInt {k : Int} {F : Addr → Obj → Prop} : ∀ {ns : List Int} {ws : List Value}, RepL F ws (ns.map V.int) → ws.any (isInt k) = decide (k ∈ ns)
  | [], _, h => by cases h; simp
  | n :: ns, _, h => by
    cases h with
    | cons a b =>
      cases a
      rw [List.any_cons, any_isInt b]
      show (decide (n = k) || _) = _
      by_cases e : n = k
      · subst e; simp
      · have e' : ¬ k = n := fun q => e q.symm
        simp [e, e']
theorem cmp_in {V2 : V} {ns : List Int} {k : Int} (h2 : LstV hp V2 (ns.map V.int)) : CmpOk c hp .In (.int k) V2 (decide (k ∈ ns)) := by
  intro loc Vs ex h vs m mt fz v1 v2 tk Q S r1 r2 hQ
  obtain ⟨a, ws, n, rfl, ha, hr⟩ := S.lstv r2 h2
  obtain ⟨t, rfl⟩ : ∃ t, v1 = .int k t := by cases r1; exact ⟨_, rfl⟩
  refine SeqInW.in_listW (s := ⟨h, c.gens, c.drawn, tk, c.os⟩) (isInt k) (fun y hy => eq_isInt k t hr.ints y (by simpa using hy)) (PySem.IsL.isList (n := n) ha) ?_
  have e : ws.toArray.any (isInt k) = decide (k ∈ ns) := by rw [List.any_toArray]; exact any_isInt hr
  rw [e]; exact hQ tk
theorem cmp_notIn {V2 : V} {ns : List Int} {k : Int} (h2 : LstV hp V2 (ns.map V.int)) : CmpOk c hp .NotIn (.int k) V2 (!decide (k ∈ ns)) := by
  intro loc Vs ex h vs m mt fz v1 v2 tk Q S r1 r2 hQ
  obtain ⟨a, ws, n, rfl, ha, hr⟩ := S.lstv r2 h2
  obtain ⟨t, rfl⟩ : ∃ t, v1 = .int k t := by cases r1; exact ⟨_, rfl⟩
  refine SeqInW.notIn_listW (s := ⟨h, c.gens, c.drawn, tk, c.os⟩) (isInt k) (fun y hy => eq_isInt k t hr.ints y (by simpa using hy)) (PySem.IsL.isList (n := n) ha) ?_
  have e : ws.toArray.any (isInt k) = decide (k ∈ ns) := by rw [List.any_toArray]; exact any_isInt hr
  rw [e]; exact hQ tk
/-! adding lists and tuples -/
section
variable {P : Hp → V → Prop} {pos p : Pos} {k : Nat}
theorem WE_addL {l r : PySem.Expr} (h : WE c loc hp l fun hp1 V1 => WE c loc hp1 r fun hp2 V2 => ∃ l1 l2, LstV hp2 V1 l1 ∧ LstV hp2 V2 l2 ∧ l1.length + l2.length ≤ sizeLine ∧ P hp2 (.lst (l1 ++ l2))) : WE c loc hp (.BinOp l .Add r pos) P := by
  intro Vs vs ex s Q hs hQ
  refine wpAny_BinOp (h _ _ _ _ _ hs fun hp1 V1 v1 s1 h1 hs1 => h1 _ _ _ _ _ hs1 fun hp2 V2 v2 s2 h2 hs2 => ?_)
  obtain ⟨l1, l2, k1, k2, hz, hP⟩ := h2
  obtain ⟨h', tk, m, mt, fz, rfl, S⟩ := hs2
  have hv := S.vr
  cases hv with
  | cons r2 hv =>
    cases hv with
    | cons r1 hv =>
      obtain ⟨a, ws1, n1, rfl, ha, hr1⟩ := S.lstv r1 k1
      obtain ⟨b, ws2, n2, rfl, hb, hr2⟩ := S.lstv r2 k2
      have e1 := hr1.length
      have e2 := hr2.length
      refine PyProof.Rows.add_lists (s := ⟨h', c.gens, c.drawn, tk, c.os⟩) S.fr S.nw (PySem.IsL.isList (n := n1) ha) (PySem.IsL.isList (n := n2) hb) (fun h'' F' N' => ?_) (by omega)
      have S0 : StB c loc hp2 Vs ex h' vs m mt fz := { S with vr := hv }
      have S1 := S0.pushF F' N' fun p hp => Heap.lt_size (S.nw p hp).1
      exact hQ _ _ _ _ hP ⟨h'', tk, m, mt, _, rfl, { S1 with vr := .cons (.lst (vs := ws1 ++ ws2) (n := 0) (.inl (.head _)) ((hr1.append hr2).mono StB.F_cons)) S1.vr }⟩
theorem WE_addT {l r : PySem.Expr} (h : WE c loc hp l fun hp1 V1 => WE c loc hp1 r fun hp2 V2 => ∃ l1 l2, V1 = .tup l1 ∧ V2 = .tup l2 ∧ l1 ≠ [] ∧ l2 ≠ [] ∧ l1.length + l2.length ≤ sizeLine ∧ P hp2 (.tup (l1 ++ l2))) : WE c loc hp (.BinOp l .Add r pos) P := by
  intro Vs vs ex s Q hs hQ
  refine wpAny_BinOp (h _ _ _ _ _ hs fun hp1 V1 v1 s1 h1 hs1 => h1 _ _ _ _ _ hs1 fun hp2 V2 v2 s2 h2 hs2 => ?_)
  obtain ⟨l1, l2, rfl, rfl, n1, n2, hz, hP⟩ := h2
  obtain ⟨h', tk, m, mt, fz, rfl, S⟩ := hs2
  have hv := S.vr
  cases hv with
  | cons r2 hv =>
    cases hv with
    | cons r1 hv =>
      cases r1 with
      | @tup a ws1 _ _ _ _ hF1 hr1 =>
        cases r2 with
        | @tup b ws2 _ _ _ _ hF2 hr2 =>
          have e1 := hr1.length
          have e2 := hr2.length
          refine PyProof.Rows.add_tuples (s := ⟨h', c.gens, c.drawn, tk, c.os⟩) (vs := ws1) (ws := ws2) S.fr S.nw ⟨_, S.frz hF1, rfl, _, rfl⟩ ⟨_, S.frz hF2, rfl, _, rfl⟩ (fun e => ?_) (fun _ e => ?_) (fun _ _ h'' F' N' => ?_) (by omega)
          · subst e; exact absurd (List.eq_nil_of_length_eq_zero e1.symm) n1
          · subst e; exact absurd (List.eq_nil_of_length_eq_zero e2.symm) n2
          · have S0 : StB c loc hp2 Vs ex h' vs m mt fz := { S with vr := hv }
            have S1 := S0.pushF F' N' fun p hp => Heap.lt_size (S.nw p hp).1
            exact hQ _ _ _ _ hP ⟨h'', tk, m, mt, _, rfl, { S1 with vr := .cons (.tup (vs := ws1 ++ ws2) (.inl (.head _)) ((hr1.append hr2).mono StB.F_cons)) S1.vr }⟩
theorem sliceApplied_to {A : Around} {E : Value → Shared → Prop} {s : Shared} {sl : Addr} {b n : Nat} {u : Tok} {Q : Int × Int × Nat → Shared → Prop} (hs : s.heap.IsSliceOf sl .none (.int b u) .none) (hb : b ≤ n) (h : Q ((0 : Int), 1, b) s) :
    wpAny (model prg c.w) A (Builtin.Slice.sliceApplied (.ref sl) (pure (n : Int))) Q E s := by
  obtain ⟨os, hos, hcs, hds⟩ := id hs
  unfold Builtin.Slice.sliceApplied Builtin.Slice.sliceFields
  refine wpAny_bind (wpAny_bind (wpAny_field hos hds (x := .none) rfl (wpAny_bind (wpAny_field hos hds (x := .int b u) rfl (wpAny_bind (wpAny_field hos hds (x := .none) rfl (wpAny_pure ?_)))))))
  refine wpAny_bind (slicePart_none ?_)
  show wpAny _ _ (if ((1 : Int) == 0) = true then _ else _) _ _ s
  rw [if_neg (by decide)]
  refine wpAny_bind (slicePart_none (wpAny_bind (slicePart_int (wpAny_bind (wpAny_pure ?_)))))
  show wpAny _ _ (match Builtin.Slice.sliceAdjust none (some (b : Int)) 1 (n : Int) with | (lo, hi) => pure (lo, (1 : Int), Builtin.Slice.slicePlaces lo hi 1)) _ _ s
  have e1 : Builtin.Slice.sliceAdjust none (some (b : Int)) 1 (n : Int) = ((0 : Int), (b : Int)) := by
    unfold Builtin.Slice.sliceAdjust
    have h1 : ¬ ((1 : Int) < 0) := by omega
    have h2 : ¬ ((b : Int) < 0) := by omega
    simp only [h1, h2, if_false]
    congr 1
    omega
  have e2 : Builtin.Slice.slicePlaces (0 : Int) (b : Int) 1 = b := by
    unfold Builtin.Slice.slicePlaces
    have h1 : (1 : Int) > 0 := by omega
    simp only [h1, if_true, Int.ediv_one]
    split <;> omega
  rw [e1]
  show wpAny _ _ (pure ((0 : Int), (1 : Int), Builtin.Slice.slicePlaces (0 : Int) (b : Int) 1)) _ _ s
  rw [e2]
  exact wpAny_pure h
theorem getItem_tuple_to {A : Around} {E : Value → Shared → Prop} {s : Shared} {t sl : Addr} {items : Array Value} {b : Nat} {u : Tok} {Q : Value → Shared → Prop} (ht : IsTup s.heap t items) (hs : s.heap.IsSliceOf sl .none (.int b u) .none) (hb : b < items.size)
    (h : Q (.ref s.heap.objs.size) { s with heap := s.heap.push { cls := .type "tuple", data := .seq (items.toList.take b).toArray } })
    (hsz : items.size ≤ sizeLine) : wpAny (model prg c.w) A (getItem (.ref t) (.ref sl)) Q E s := by
  have hdrop : sizeOk (.seq (items.toList.take b).toArray) := by
    show (items.toList.take b).toArray.size ≤ sizeLine
    rw [List.size_toArray, List.length_take, Array.length_toList]
    omega
  obtain ⟨os, hos, hcs, hds⟩ := id hs
  have hTs : s.TypeIs (.ref sl) "slice" := ⟨os, hos, hcs⟩
  unfold getItem
  try with_reducible refine wpAny_holding ?_
  first | refine wpAny_bind (wpAny_pure ?_) | skip
  refine wpAny_bind (wpAny_sequenceKey ht.typeIs (by decide) ?_)
  refine wpAny_bind (wpAny_callSpecial?_slot (name := Str.ofString "__getitem__") ht.typeIs slot_tuple_getitem
    (wpAny_call_entry slot_tuple_getitem ht.typeIs entry_tuple_getitem ?_ (args_tuple_getitem _ _)))
  show wpAny _ _ (Builtin.Tuple.tupleItemsOf (.ref t) >>= _) _ _ s
  refine wpAny_bind (tupleItemsOf_ ht ?_)
  refine wpAny_bind (wpAny_typeOf hTs ?_)
  rw [if_pos (by decide)]
  refine wpAny_bind (sliceApplied_to hs (Nat.le_of_lt hb) ?_)
  have hno : ¬ (((0 : Int) == 0 && (1 : Int) == 1 && b == items.size) = true) := by
    have : (b == items.size) = false := by rw [beq_eq_false_iff_ne]; omega
    rw [this]; simp
  show wpAny _ _ (if ((0 : Int) == 0 && (1 : Int) == 1 && b == items.size) = true then _ else _) _ _ s
  have pick : ((List.range b).filterMap fun (k : Nat) => items[((0 : Int) + (k : Int) * 1).toNat]?).toArray = (items.toList.take b).toArray := by
    have e : (fun (k : Nat) => items[((0 : Int) + (k : Int) * 1).toNat]?) = fun k => items[0 + k]? := by
      funext k
      have : ((0 : Int) + (k : Int) * 1).toNat = 0 + k := by omega
      rw [this]
    rw [e]
    have := pick_run items 0 b
    rw [List.filterMap_map] at this
    have e2 : ((fun x => items[x]?) ∘ fun x => 0 + x) = fun k => items[0 + k]? := rfl
    rw [e2] at this
    rw [this, List.drop_zero]
  rw [if_neg hno, pick]
  first
    | exact wpAny_bind (m := Builtin.Tuple.tupleExact _) (wpAny_newObj_type (wpAny_pure ⟨_, rfl, wpAny_pure h⟩) hdrop)
    | exact wpAny_bind (m := Builtin.Tuple.tupleExact _) (wpAny_newObj_type (wpAny_bind (wpAny_pure (wpAny_pure ⟨_, rfl, wpAny_pure h⟩))) hdrop)
    | exact wpAny_bind (wpAny_bind (m := Builtin.Tuple.tupleExact _) (wpAny_newObj_type (wpAny_pure (wpAny_pure ⟨_, rfl, wpAny_pure h⟩)) hdrop))
    | exact wpAny_bind (wpAny_bind (m := Builtin.Tuple.tupleExact _) (wpAny_newObj_type (wpAny_pure ⟨_, rfl, wpAny_pure h⟩) hdrop))
theorem WE_sliceTup {e1 e2 : PySem.Expr} (h : WE c loc hp e1 fun hp1 V1 => WE c loc hp1 e2 fun hp2 V2 => ∃ l, ∃ j : Nat, V1 = .tup l ∧ V2 = .int j ∧ j < l.length ∧ l.length ≤ sizeLine ∧ P hp2 (.tup (l.take j))) :
    WE c loc hp (.Subscript e1 (.Slice none (some e2) none p) pos) P := by
  intro Vs vs ex s Q hst hQ
  refine Subscript_ (h _ _ _ _ _ hst fun hp1 V1 v1 s1 h1 hs1 => ?_)
  refine wpAny_Slice ?_
  rw [evalPart_none]
  refine wpAny_pure ?_
  rw [evalPart_some]
  refine h1 _ _ _ _ _ hs1 fun hp2 V2 v2 s2 h2 hs2 => ?_
  refine wpAny_pure ?_
  obtain ⟨l, j, rfl, rfl, hj, hz, hP⟩ := h2
  obtain ⟨h', tk, m, mt, fz, rfl, S⟩ := hs2
  have hv := S.vr
  cases hv with
  | cons r2 hv =>
    cases hv with
    | cons r1 hv =>
      obtain ⟨t, rfl⟩ : ∃ t, v2 = .int j t := by cases r2; exact ⟨_, rfl⟩
      cases r1 with
      | @tup a ws n _ _ _ hF hr =>
        have hlen := hr.length
        have S0 : StB c loc hp2 Vs ex (h'.push { cls := .type "slice", data := .fields #[.none, .int j t, .none] }) vs m mt fz :=
          { S with vr := hv, fr := S.fr.keeps fun _ _ e => Heap.get?_push_of_some _ e, nw := S.nw.grown fun _ _ e => Heap.get?_push_of_some _ e }
        have ht : IsTup (h'.push { cls := .type "slice", data := .fields #[.none, .int j t, .none] }) a ws.toArray := ⟨_, S0.frz hF, rfl, _, rfl⟩
        refine tail_any (s := ⟨h'.push { cls := .type "slice", data := .fields #[.none, .int j t, .none] }, c.gens, c.drawn, tk, c.os⟩) ht.typeIs slot_tuple_getitem.lookup (getItem_tuple_to ht (Heap.IsSliceOf.new ..) (by simp; omega) ?_ (by simp; omega)) (rfl)
        have S1 := S0.pushF (S0.fr.push { cls := .type "tuple", data := .seq (ws.take j).toArray }) (News.push S0.fr S0.nw _) fun p hp => Heap.lt_size (S0.nw p hp).1
        exact hQ _ _ _ _ hP ⟨_, tk, m, mt, _, rfl, { S1 with vr := .cons (.tup (vs := ws.take j) (.inl (.head _)) ((hr.take j).mono StB.F_cons)) S1.vr }⟩
end
end
section
variable {c : Ctx} {loc loc' : Loc} {hp hp' : Hp}
/-! unpacking -/
inductive LocSets : List (Str × V) → Loc → Loc → Prop
  | nil {l : Loc} : LocSets [] l l
  | cons {x : Str} {X : V} {r : List (Str × V)} {l l1 l2 : Loc} : LocSet x X l l1 → LocSets r l1 l2 → LocSets ((x, X) :: r) l l2
theorem store_s {x : Str} {X : V} {v : Value} {E : Value → Shared → Prop} {Vs : List V} {ex : List (Addr × Obj)} {h : Heap} {vs : List Value} {m : Str → Option Value} {mt fz : List (Addr × Obj)} {tk : Nat} {Q : Unit → Shared → Prop}
    (S : StB c loc hp Vs ex h vs m mt fz) (hc : c.fi.cm = none) (hx : c.cs.names.lookup x = some .local) (k : LocSet x X loc loc') (r : Rep (c.F fz) v X)
    (hQ : ∀ h' m' tk', StB c loc' hp Vs ex h' vs m' mt fz → Q () ⟨h', c.gens, c.drawn, tk', c.os⟩) : wpAny (model prg c.w) c.A (storeName c.env x v) Q E ⟨h, c.gens, c.drawn, tk, c.os⟩ := by
  rw [env_none hc]
  exact storeX_L S.fr S.nw (fun h'' F' N' => hQ _ _ _ (StB.store S hc hx k r F' N')) S.ok.hk (kind_of hx)
theorem assign_s {x : Str} {px : Pos} {X : V} {v : Value} {E : Value → Shared → Prop} {Vs : List V} {ex : List (Addr × Obj)} {h : Heap} {vs : List Value} {m : Str → Option Value} {mt fz : List (Addr × Obj)} {tk : Nat} {Q : Unit → Shared → Prop}
    (S : StB c loc hp Vs ex h vs m mt fz) (hc : c.fi.cm = none) (hx : c.cs.names.lookup x = some .local) (k : LocSet x X loc loc') (r : Rep (c.F fz) v X)
    (hQ : ∀ h' m' tk', StB c loc' hp Vs ex h' vs m' mt fz → Q () ⟨h', c.gens, c.drawn, tk', c.os⟩) : wpAny (model prg c.w) c.A (assign (.Name x px) c.env v) Q E ⟨h, c.gens, c.drawn, tk, c.os⟩ :=
  wpAny_assign_Name (store_s S hc hx k r hQ)
noncomputable def nms : List (Str × Pos) → List PySem.Expr := List.map fun p => .Name p.1 p.2
inductive SeqV : V → List V → Prop
  | tup {l : List V} : SeqV (.tup l) l
  | lst {l : List V} : SeqV (.lst l) l
theorem assignEach_nms {env : Env} : ∀ ns : List (Str × Pos), assignEach (nms ns) env = ns.map fun p => (false, fun v => assign (.Name p.1 p.2) env v)
  | [] => rfl
  | p :: ns => by
    show assignEach (.Name p.1 p.2 :: nms ns) env = _
    have := assignEach_nms (env := env) ns
    rw [List.map_cons, ← this]
    rfl
theorem inOrder {E : Value → Shared → Prop} (hc : c.fi.cm = none) : ∀ {ns : List (Str × Pos)} {Xs : List V} {ws : List Value} {loc loc1 : Loc} {Vs : List V} {ex : List (Addr × Obj)} {h : Heap} {vs : List Value} {m : Str → Option Value} {mt fz : List (Addr × Obj)} {tk : Nat} {Q : Unit → Shared → Prop},
    StB c loc hp Vs ex h vs m mt fz → (∀ p ∈ ns, c.cs.names.lookup p.1 = some .local) → ns.length = Xs.length → RepL (c.F fz) ws Xs → LocSets ((ns.map (·.1)).zip Xs) loc loc1 →
    (∀ h' m' tk', StB c loc1 hp Vs ex h' vs m' mt fz → Q () ⟨h', c.gens, c.drawn, tk', c.os⟩) →
    wpAny (model prg c.w) c.A (assignInOrder (ns.map fun p => fun v => assign (.Name p.1 p.2) c.env v) ws) Q E ⟨h, c.gens, c.drawn, tk, c.os⟩
  | [], _, _, _, _, _, _, _, _, _, _, _, _, _, S, _, hl, hr, hs, hQ => by
    cases hr with
    | nil => cases hs; exact PyProof.Rows.assignInOrder_nil (hQ _ _ _ S)
    | cons _ _ => simp at hl
  | p :: ns, _, _, _, _, _, _, _, _, _, _, _, _, _, S, hloc, hl, hr, hs, hQ => by
    cases hr with
    | nil => simp at hl
    | cons r1 hr =>
      rw [List.map_cons, List.zip_cons_cons] at hs
      cases hs with
      | cons k1 k2 =>
        refine PyProof.Rows.assignInOrder_cons (assign_s S hc (hloc p (.head _)) k1 r1 fun h' m' tk' S' => ?_)
        exact inOrder hc S' (fun q hq => hloc q (.tail _ hq)) (by simpa using hl) hr k2 hQ
theorem unpack_ok {E : Value → Shared → Prop} {v1 : Value} {V1 : V} {l : List V} {n : Nat} {Vs : List V} {ex : List (Addr × Obj)} {h : Heap} {vs : List Value} {m : Str → Option Value} {mt fz : List (Addr × Obj)} {tk : Nat} {Q : List Value → Shared → Prop}
    (S : StB c loc hp Vs ex h vs m mt fz) (r : Rep (c.F fz) v1 V1) (hs : SeqV V1 l) (hn : n = l.length) (hQ : ∀ h' ws, StB c loc hp Vs ex h' vs m mt fz → RepL (c.F fz) ws l → Q ws ⟨h', c.gens, c.drawn, tk, c.os⟩) :
    wpAny (model prg c.w) c.A (unpackItems v1 n none) Q E ⟨h, c.gens, c.drawn, tk, c.os⟩ := by
  cases hs with
  | tup =>
    cases r with
    | @tup a ws _ _ _ _ hF hr =>
      have hlen := hr.length
      have hsz : n = ws.toArray.size := by simp; omega
      rw [hsz]
      exact unpackItems_tuple (s := ⟨h, c.gens, c.drawn, tk, c.os⟩) rfl ⟨_, S.frz hF, rfl, _, rfl⟩ fun h' he => hQ h' ws (S.keep (S.fr.extBut he (Nat.le_refl _)) (S.nw.extBut he (Nat.le_refl _))) hr
  | lst =>
    cases r with
    | @lst a ws _ _ hF hr =>
      have hlen := hr.length
      exact kun_items (s := ⟨h, c.gens, c.drawn, tk, c.os⟩) S.fr S.nw (S.list hF) rfl (by simp; omega) fun h' F' N' => hQ h' ws (S.keep F' N') hr
noncomputable abbrev Unp (loc : Loc) (names : List Str) (V1 : V) (K : Loc → Prop) : Prop := ∃ l loc1, SeqV V1 l ∧ l.length = names.length ∧ LocSets (names.zip l) loc loc1 ∧ K loc1
theorem WX_unpack {ns : List (Str × Pos)} {e : PySem.Expr} {k : Nat} {tp pos : Pos} {PN : Loc → Hp → Prop} {PR : Hp → V → Prop} (h : WE c loc hp e fun hp1 V1 => ∃ l loc1, SeqV V1 l ∧ l.length = ns.length ∧ LocSets ((ns.map (·.1)).zip l) loc loc1 ∧ PN loc1 hp1)
    (hc : c.fi.cm = none) (hloc : ∀ p ∈ ns, c.cs.names.lookup p.1 = some .local) (hs : swapsWithSole [.Tuple (nms ns) k tp] e pos.line c.env = pure false) (hw : swappedStores [.Tuple (nms ns) k tp] e c.env = pure none) :
    WX c loc hp (.Assign [.Tuple (nms ns) k tp] e pos) PN PR := by
  intro Vs vs ex s Q hst hN hR
  refine Assign_Tuple (h _ _ _ _ _ hst fun hp1 V1 v1 s1 h1 hs1 => ?_) hs hw
  obtain ⟨l, loc1, hsv, hl, hset, hP⟩ := h1
  obtain ⟨h', tk, m, mt, fz, rfl, S⟩ := hs1
  have hv := S.vr
  cases hv with
  | cons r1 hv =>
    rw [PyProof.Rows.assign_Tuple]
    refine wpAny_bind (wpAny_standAt ?_)
    unfold unpack
    rw [assignEach_nms]
    have e1 : (ns.map fun p => (false, fun v => assign (.Name p.1 p.2) c.env v)).findIdx? (·.1) = none := by
      rw [List.findIdx?_eq_none_iff]
      intro x hx
      obtain ⟨p, _, rfl⟩ := List.mem_map.mp hx
      rfl
    rw [e1]
    have S0 : StB c loc hp1 Vs ex h' vs m mt fz := { S with vr := hv }
    refine wpAny_bind (wpAny_holding (unpack_ok S0 r1 hsv (by simp [hl]) fun h2 ws S2 hr2 => ?_))
    have e2 : (ns.map fun p => (false, fun v => assign (.Name p.1 p.2) c.env v)).map (·.2) = ns.map fun p => fun v => assign (.Name p.1 p.2) c.env v := by rw [List.map_map]; rfl
    rw [e2]
    exact inOrder hc S2 hloc (by omega) hr2 hset fun h3 m3 tk3 S3 => hN _ _ _ hP ⟨h3, tk3, m3, mt, fz, rfl, S3⟩
/-- both sides written out: the stores go from the right -/
theorem WX_unpackS {elts : List PySem.Expr} {names : List Str} {e : PySem.Expr} {k : Nat} {tp pos : Pos} {PN : Loc → Hp → Prop} {PR : Hp → V → Prop} (h : WE c loc hp e fun hp1 V1 => ∃ l loc1, SeqV V1 l ∧ l.length = names.length ∧ LocSets (names.reverse.zip l.reverse) loc loc1 ∧ PN loc1 hp1)
    (hc : c.fi.cm = none) (hloc : ∀ p ∈ names, c.cs.names.lookup p = some .local) (hs : swapsWithSole [.Tuple elts k tp] e pos.line c.env = pure false) (hw : swappedStores [.Tuple elts k tp] e c.env = pure (some names)) :
    WX c loc hp (.Assign [.Tuple elts k tp] e pos) PN PR := by
  intro Vs vs ex s Q hst hN hR
  refine Assign_Tuple_swapped (h _ _ _ _ _ hst fun hp1 V1 v1 s1 h1 hs1 => ?_) hs hw
  obtain ⟨l, loc1, hsv, hl, hset, hP⟩ := h1
  obtain ⟨h', tk, m, mt, fz, rfl, S⟩ := hs1
  have hv := S.vr
  cases hv with
  | cons r1 hv =>
    have S0 : StB c loc hp1 Vs ex h' vs m mt fz := { S with vr := hv }
    refine unpack_ok S0 r1 hsv hl.symm fun h2 ws S2 hr2 => ?_
    have key : ∀ {ns : List Str} {Xs : List V} {ws : List Value} {loc loc1 : Loc} {h : Heap} {m : Str → Option Value} {tk : Nat}, StB c loc hp1 Vs ex h vs m mt fz → (∀ p ∈ ns, c.cs.names.lookup p = some .local) → ns.length = Xs.length → RepL (c.F fz) ws Xs → LocSets (ns.zip Xs) loc loc1 → PN loc1 hp1 →
        wpAny (model prg c.w) c.A (assignInOrder (ns.map fun n => bindName c.env n) ws) (fun _ => Q .next) NoE ⟨h, c.gens, c.drawn, tk, c.os⟩ := by
      intro ns
      induction ns with
      | nil =>
        intro Xs ws loc loc1 h m tk S hloc hl hr hs hP
        cases hr with
        | nil => cases hs; exact PyProof.Rows.assignInOrder_nil (hN _ _ _ hP ⟨h, tk, m, mt, fz, rfl, S⟩)
        | cons _ _ => simp at hl
      | cons n ns ih =>
        intro Xs ws loc loc1 h m tk S hloc hl hr hs hP
        cases hr with
        | nil => simp at hl
        | cons r1 hr =>
          rw [List.zip_cons_cons] at hs
          cases hs with
          | cons k1 k2 =>
            refine PyProof.Rows.assignInOrder_cons (wpAny_bindName (store_s S hc (hloc n (.head _)) k1 r1 fun h' m' tk' S' => ?_))
            exact ih S' (fun q hq => hloc q (.tail _ hq)) (by simpa using hl) hr k2 hP
    exact key S2 (fun p hp => hloc p (List.mem_reverse.mp hp)) (by simp [hl]) hr2.reverse hset hP
/-! freezing, pinning, weakening -/
noncomputable def Wk (X Y : V) : Prop := ∀ (F : Addr → Obj → Prop) v, Rep F v X → Rep F v Y
theorem WE_weak {e : PySem.Expr} {P : Hp → V → Prop} (h : WE c loc hp e fun hp1 V1 => ∃ V2, Wk V1 V2 ∧ P hp1 V2) : WE c loc hp e P := by
  intro Vs vs ex s Q hst hQ
  refine h _ _ _ _ _ hst fun hp1 V1 v1 s1 h1 hs1 => ?_
  obtain ⟨V2, hw, hP⟩ := h1
  obtain ⟨h', tk, m, mt, fz, rfl, S⟩ := hs1
  have hv := S.vr
  cases hv with
  | cons r1 hv => exact hQ _ _ _ _ hP ⟨h', tk, m, mt, fz, rfl, { S with vr := .cons (hw _ _ r1) hv }⟩
inductive PinOf : List V → List V → Prop
  | nil : PinOf [] []
  | cons {X : V} {v : Value} {l l' : List V} : PinOf l l' → PinOf (X :: l) (.pin v X :: l')
theorem PinOf.wkL {F : Addr → Obj → Prop} {l l' : List V} (h : PinOf l l') {ws : List Value} (r : RepL F ws l') : RepL F ws l := by
  induction h generalizing ws with
  | nil => exact r
  | cons _ ih => cases r with | cons a b => cases a with | pin a => exact .cons a (ih b)
theorem PinOf.wk {l l' : List V} (h : PinOf l l') : Wk (.lst l') (.lst l) := fun F v r => by
  cases r with | lst hF hr => exact .lst hF (h.wkL hr)
theorem PinOf.append {l l' k k' : List V} (h : PinOf l l') (g : PinOf k k') : PinOf (l ++ k) (l' ++ k') := by
  induction h with
  | nil => exact g
  | cons _ ih => exact .cons ih
theorem PinOf.reverse {l l' : List V} (h : PinOf l l') : PinOf l.reverse l'.reverse := by
  induction h with
  | nil => exact .nil
  | @cons X v l l' _ ih => rw [List.reverse_cons, List.reverse_cons]; exact ih.append (.cons .nil)
theorem PinOf.same {F G : Addr → Obj → Prop} {l l' : List V} (h : PinOf l l') {ws us : List Value} (r : RepL F ws l') (r' : RepL G us l') : ws = us := by
  induction h generalizing ws us with
  | nil => cases r; cases r'; rfl
  | cons _ ih =>
    cases r with
    | cons a b =>
      cases r' with
      | cons a' b' => cases a; cases a'; rw [ih b b']
theorem pin_ex {F : Addr → Obj → Prop} {ws : List Value} {l : List V} (r : RepL F ws l) : ∃ l', PinOf l l' ∧ RepL F ws l' := by
  induction ws generalizing l with
  | nil => cases r; exact ⟨[], .nil, .nil⟩
  | cons v vs ih =>
    cases r with
    | cons a b =>
      obtain ⟨l', h1, h2⟩ := ih b
      exact ⟨_, .cons h1, .cons (.pin a) h2⟩
/-- the list of a ledger's list, its items pinned from here on -/
theorem call_listPin {P : Hp → V → Prop} {a : Nat} {l : List V} (ha : HpAt hp a (.list l)) (hz : l.length ≤ sizeLine) (h : ∀ l', PinOf l l' → ∃ hp', HpMod a (.list l) (.list l') hp hp' ∧ P hp' (.lst l')) : CallOk c loc hp (.type "list") [.ref a] P := by
  rintro Vs vs ws ex s Q ⟨h', tk, m, mt, fz, rfl, S⟩ hl hQ
  obtain ⟨v, rfl, r, hv⟩ := inv1 S.vr hl
  cases r
  obtain ⟨ob, hm, ho⟩ := S.get ha
  cases ho with
  | @list ws n _ hr =>
    obtain ⟨l', hpin, hr'⟩ := pin_ex hr
    obtain ⟨hp', hmod, hP⟩ := h l' hpin
    obtain ⟨pre, ob2, post, e, ho2, upd⟩ := S.hr.mod hmod
    have e2 : ob2 = listOf ws.toArray n := by
      have h1 := (S.nw _ hm).1
      have h2 := (S.nw (a, ob2) (List.mem_append.mpr (.inl (by rw [e]; exact List.mem_append.mpr (.inr (.head _)))))).1
      rw [h1] at h2
      exact (Option.some.inj h2).symm
    subst e2
    have hr2 : HpR (c.F fz) hp' mt := by rw [e]; exact upd _ (.list hr')
    have hlen := hr.length
    refine list_copyK (s := ⟨h', c.gens, c.drawn, tk, c.os⟩) S.fr S.nw (PySem.IsL.isList (n := n) (S.nw _ hm).1) (fun D c' h'' F' N' hlt => hQ _ (.lst l') _ _ hP ?_) (by simp; omega)
    have S0 : StB c loc hp' Vs ex h' vs m mt fz := { S with vr := hv, hr := hr2 }
    have S1 := S0.pushF F' N' hlt
    exact ⟨_, _, m, mt, _, rfl, { S1 with vr := .cons (.lst (.inl (.head _)) (hr'.mono StB.F_cons)) S1.vr }⟩
theorem cmp_eqPin {a : Nat} {l l' : List V} (ha : HpAt hp a (.list l')) (hp0 : PinOf l l') : CmpOk c hp .Eq (.ref a) (.lst l') true := by
  intro loc Vs ex h vs m mt fz v1 v2 tk Q S r1 r2 hQ
  cases r1
  obtain ⟨ob, hm, ho⟩ := S.get ha
  cases ho with
  | @list ws n _ hr =>
    cases r2 with
    | @lst b ws2 n2 _ hF2 hr2 =>
      have e := hp0.same hr hr2
      subst e
      refine SeqAt.eq_listAt (s := ⟨h, c.gens, c.drawn, tk, c.os⟩) (e := fun _ => true) (PySem.IsL.isList (n := n) (S.nw _ hm).1) (S.list hF2) rfl (by have := units_ok (k := 0) S.ok; simpa using this) (fun j h1 h2 => SeqAt.EqAt.same _) ?_
      have e : ((List.range (min ws.toArray.size ws.toArray.size)).all fun _ => true) = true := List.all_eq_true.mpr fun _ _ => rfl
      first
        | exact hQ tk
        | (rw [List.all_eq_true.mpr fun _ _ => rfl]; exact hQ tk)
theorem WE_freeze {e : PySem.Expr} {P : Hp → V → Prop} (h : WE c loc hp e fun hp1 V1 => ∃ a C d fs hp2, hp1 = (a, .inst C d) :: (d, .dict fs) :: hp2 ∧ V1 = .ref a ∧ P hp2 (.obj C fs)) : WE c loc hp e P := by
  intro Vs vs ex s Q hst hQ
  refine h _ _ _ _ _ hst fun hp1 V1 v1 s1 h1 hs1 => ?_
  obtain ⟨a, C, d, fs, hp2, rfl, rfl, hP⟩ := h1
  obtain ⟨h', tk, m, mt, fz, rfl, S⟩ := hs1
  have hv := S.vr
  have hhr := S.hr
  cases hv with
  | cons r1 hv =>
    cases r1
    cases hhr with
    | @cons _ _ ob1 _ mt1 o1 hhr =>
      cases hhr with
      | @cons _ _ ob2 _ mt2 o2 hhr =>
        have hF : ∀ b o, c.F fz b o → c.F ((a, ob1) :: (d, ob2) :: fz) b o := fun b o e => e.elim (fun e => .inl (.tail _ (.tail _ e))) .inr
        have perm : ((a, ob1) :: (d, ob2) :: mt2 ++ (fz ++ ex)).Perm (mt2 ++ ((a, ob1) :: (d, ob2) :: fz ++ ex)) := by
          show ([(a, ob1), (d, ob2)] ++ (mt2 ++ (fz ++ ex))).Perm (mt2 ++ ([(a, ob1), (d, ob2)] ++ (fz ++ ex)))
          exact List.perm_append_comm_assoc _ _ _
        cases o1
        cases o2 with
        | dict nd rd =>
          refine hQ _ _ _ _ hP ⟨h', tk, m, mt2, _, rfl, ⟨S.ok, S.fr, fun p hp => S.nw p (perm.mem_iff.mpr hp), (perm.map _).nodup_iff.mp S.nd, S.lk, S.lr.mono hF, S.cxs, S.olr.mono hF, hhr.mono hF, .cons (.obj nd (.inl (.head _)) (.inl (.tail _ (.head _))) (rd.mono hF)) (hv.mono hF)⟩⟩
end
section
variable {c : Ctx} {loc loc' : Loc} {hp hp' : Hp}
/-! a dict's display -/
noncomputable def WP (c : Ctx) (loc : Loc) (hp : Hp) (keys : List (Option PySem.Expr)) (values : List PySem.Expr) (pos : Pos) (P : Hp → List (Str × V) → Prop) : Prop :=
  ∀ Vs vs ex s (Q : List (Value × Value) → Shared → Prop), St c loc hp Vs ex s vs →
    (∀ hp' fs kv s', P hp' fs → allStrKeys kv = true → (strPairs kv).map (·.1) = fs.map (·.1) → St c loc hp' (fs.map (·.2) ++ Vs) ex s' ((strPairs kv).map (·.2) ++ vs) → Q kv s') →
    wpAny (model prg c.w) c.A (evalPairs (pairTrees keys values c.env pos)) Q NoE s
theorem WP_nil {pos : Pos} {P : Hp → List (Str × V) → Prop} (h : P hp []) : WP c loc hp [] [] pos P := fun _ _ _ _ _ hs hQ => evalPairs_nil (hQ _ [] [] _ h rfl rfl hs)
theorem WP_cons {k : Str} {n : Nat} {kp pos : Pos} {ks : List (Option PySem.Expr)} {v : PySem.Expr} {vs' : List PySem.Expr} {P : Hp → List (Str × V) → Prop} (h : WE c loc hp v fun hp1 X => WP c loc hp1 ks vs' pos fun hp2 fs => P hp2 ((k, X) :: fs)) :
    WP c loc hp (some (.Constant (.str k) n kp) :: ks) (v :: vs') pos P := by
  rintro Vs vs ex s Q ⟨h', tk, m, mt, fz, rfl, S⟩ hQ
  refine evalPairs_cons (wpAny_Constant_str ?_)
  refine wpAny_bind (h _ _ _ _ _ ⟨h', _, m, mt, fz, rfl, S⟩ fun hp1 X u s1 h1 hs1 => wpAny_bind (wpAny_standAt (wpAny_pure ?_)))
  refine h1 _ _ _ _ _ hs1 fun hp2 fs kv s2 hP hk he hs2 => ?_
  refine hQ _ _ _ _ hP (by simpa [allStrKeys] using hk) (by simpa [strPairs] using he) ?_
  obtain ⟨h2, tk2, m2, mt2, fz2, rfl, S2⟩ := hs2
  obtain ⟨a, b, e1, ra, rb⟩ := S2.vr.split
  have hl : ((strPairs kv).map (·.2)).length = (fs.map (·.2)).length := by
    have := congrArg List.length he
    simpa using this
  obtain ⟨rfl, rfl⟩ := List.append_inj e1 (by rw [hl, ra.length])
  cases rb with
  | cons r1 rb => exact ⟨h2, tk2, m2, mt2, fz2, rfl, { S2 with vr := (RepL.cons r1 ra).append rb }⟩
theorem updF_mk {d : Addr} {o : Obj} : ∀ {pre post : List (Addr × Obj)}, ((pre ++ (d, o) :: post).map (·.1)).Nodup → UpdF d o (pre ++ (d, o) :: post) fun o' => pre ++ (d, o') :: post
  | [], post, h => by
    rw [List.nil_append, List.map_cons, List.nodup_cons] at h
    exact .head fun p hp e => h.1 (List.mem_map.mpr ⟨p, hp, e⟩)
  | p :: pre, post, h => by
    rw [List.cons_append, List.map_cons, List.nodup_cons] at h
    exact .tail (fun e => h.1 (List.mem_map.mpr ⟨(d, o), List.mem_append.mpr (.inr (.head _)), e.symm⟩)) (updF_mk h.2)
theorem repK_of {F : Addr → Obj → Prop} : ∀ {es : List (Str × Value)} {fs : List (Str × V)}, es.map (·.1) = fs.map (·.1) → RepL F (es.map (·.2)) (fs.map (·.2)) → RepK F es fs
  | [], [], _, _ => .nil
  | [], _ :: _, h, _ => by simp at h
  | _ :: _, [], h, _ => by simp at h
  | (k, v) :: es, (k', x) :: fs, h, r => by
    rw [List.map_cons, List.map_cons, List.cons.injEq] at h
    obtain ⟨rfl, h⟩ : k = k' ∧ _ := h
    cases r with | cons a b => exact .cons a (repK_of h b)
theorem WE_dict {keys : List (Option PySem.Expr)} {values : List PySem.Expr} {pos : Pos} {P : Hp → V → Prop} (h : WP c loc hp keys values pos fun hp1 fs => (fs.map (·.1)).Nodup ∧ ∀ d : Nat, P ((d, .dct c.w fs) :: hp1) (.ref d))
    (hall : keys.all (·.isSome) = true := by rfl) (hl : keys.length = values.length := by rfl) (h0 : keys ≠ [] := by exact List.cons_ne_nil _ _) (hlen : keys.length ≤ 15 := by decide) : WE c loc hp (.Dict keys values pos) P := by
  rintro Vs vs ex s Q ⟨h', tk, m, mt, fz, rfl, S⟩ hQ
  refine kdn_eval (knd := PySem.strKind prg c.w) (s := ⟨h', c.gens, c.drawn, tk, c.os⟩) S.fr S.nw S.ok.T.nolimit hall hl h0 hlen fun d h1 o F1 N1 hlt hsys hd => ?_
  have S1 : StB c loc hp Vs ((d, o) :: ex) h1 vs m mt fz := by
    refine { S with fr := F1, nw := fun p hp => ?_, nd := nd_ins.mpr ⟨nodup_new hlt, S.nd⟩, cxs := fun p hp => .tail _ (S.cxs p hp) }
    rcases mem_ins hp with rfl | hp
    · exact N1 _ (.head _)
    · exact N1 _ (.tail _ hp)
  refine h _ _ _ _ _ ⟨h1, tk, m, mt, fz, rfl, S1⟩ fun hp1 fs kv s2 hP hk he hs2 => ?_
  obtain ⟨hnd, hP⟩ := hP
  obtain ⟨h2, tk2, m2, mt2, fz2, rfl, S2⟩ := hs2
  obtain ⟨a, b, e1, ra, rb⟩ := S2.vr.split
  have hl2 : ((strPairs kv).map (·.2)).length = (fs.map (·.2)).length := by
    have := congrArg List.length he
    simpa using this
  obtain ⟨rfl, rfl⟩ := List.append_inj e1 (by rw [hl2, ra.length])
  have S2' := S2.nd
  have nw2 := S2.nw
  have e2 : mt2 ++ (fz2 ++ (d, o) :: ex) = (mt2 ++ fz2) ++ (d, o) :: ex := by rw [List.append_assoc]
  rw [e2] at S2' nw2
  refine kdn_made_str (s := ⟨h2, c.gens, c.drawn, tk2, c.os⟩) S2.fr nw2 (updF_mk S2') hd hk (by rw [he]; exact hnd) fun h3 o3 F3 N3 hd3 => hQ _ _ _ _ (hP d) ⟨h3, _, m2, (d, o3) :: mt2, fz2, rfl, ?_⟩
  have perm : ((mt2 ++ fz2) ++ (d, o3) :: ex).Perm ((d, o3) :: mt2 ++ (fz2 ++ ex)) := by
    refine List.perm_middle.trans ?_
    rw [List.append_assoc]
    exact .refl _
  refine ⟨S2.ok, F3, fun p hp => N3 p (perm.mem_iff.mpr hp), (perm.map _).nodup_iff.mp (by simpa using S2'), S2.lk, S2.lr, S.cxs, S2.olr, .cons (.dct hd3 (repK_of he ra)) S2.hr, .cons (.ref d) rb⟩
end
/-! what the walk asks of the ledger, behind a prefix -/
theorem HpAt.pre {a : Nat} {o : O} {r : Hp} (h : HpAt r a o) : ∀ p : Hp, HpAt (p ++ r) a o
  | [] => h
  | _ :: p => .tail (h.pre p)
theorem HpMod.pre {a : Nat} {o o' : O} {r r' : Hp} (h : HpMod a o o' r r') : ∀ p : Hp, HpMod a o o' (p ++ r) (p ++ r')
  | [] => h
  | _ :: p => .tail (h.pre p)
theorem size_ok {n : Nat} (h : n ≤ 100000) : n ≤ sizeLine := Nat.le_trans h (by rw [sizeLine_eq]; decide)
noncomputable def isU : V → Bool
  | .undef => true
  | _ => false
theorem neU {X : V} (h : isU X = false) : X ≠ .undef := fun e => by subst e; cases h
theorem item_ints {cells : List Int} {i : Int} (h0 : 0 ≤ i) (h1 : i < cells.length) : ∃ z, (cells.map V.int)[i.toNat]? = some (.int z) := by
  have h : i.toNat < cells.length := by omega
  exact ⟨cells[i.toNat], by rw [List.getElem?_map, List.getElem?_eq_getElem h]; rfl⟩
theorem g_len (w : World) : nsIn (KK w) mainGlobals "len" = some none := by kernel_rfl
theorem g_sum (w : World) : nsIn (KK w) mainGlobals "sum" = some none := by kernel_rfl
theorem g_abs (w : World) : nsIn (KK w) mainGlobals "abs" = some none := by kernel_rfl
theorem g_min (w : World) : nsIn (KK w) mainGlobals "min" = some none := by kernel_rfl
theorem g_range (w : World) : nsIn (KK w) mainGlobals "range" = some none := by kernel_rfl
theorem g_list (w : World) : nsIn (KK w) mainGlobals "list" = some none := by kernel_rfl
section
variable {c : Ctx} {loc : Loc} {hp : Hp}
theorem WE_len {args : List PySem.Expr} {pos np : Pos} {P : Hp → V → Prop} (h : WL c loc hp args fun hp1 Xs => CallOk c loc hp1 (.builtin "len") Xs P) (hx : c.env.kindOf "len" = some .globalImplicit) (hpl : Plain c.env args pos)
    (he : eval (.Call (.Name "len" np) args [] pos) c.env = (do callWith pos (← eval (.Name "len" np) c.env) [] (backTo pos (starEach args c.env)) (backToKw pos (keywordEach [] c.env)))) : WE c loc hp (.Call (.Name "len" np) args [] pos) P :=
  WE_callB (g_len _) rfl .B h (by decide) hx (by decide) hpl he
theorem WE_sum {args : List PySem.Expr} {pos np : Pos} {P : Hp → V → Prop} (h : WL c loc hp args fun hp1 Xs => CallOk c loc hp1 (.builtin "sum") Xs P) (hx : c.env.kindOf "sum" = some .globalImplicit) (hpl : Plain c.env args pos)
    (he : eval (.Call (.Name "sum" np) args [] pos) c.env = (do callWith pos (← eval (.Name "sum" np) c.env) [] (backTo pos (starEach args c.env)) (backToKw pos (keywordEach [] c.env)))) : WE c loc hp (.Call (.Name "sum" np) args [] pos) P :=
  WE_callB (g_sum _) rfl .B h (by decide) hx (by decide) hpl he
theorem WE_abs {args : List PySem.Expr} {pos np : Pos} {P : Hp → V → Prop} (h : WL c loc hp args fun hp1 Xs => CallOk c loc hp1 (.builtin "abs") Xs P) (hx : c.env.kindOf "abs" = some .globalImplicit) (hpl : Plain c.env args pos)
    (he : eval (.Call (.Name "abs" np) args [] pos) c.env = (do callWith pos (← eval (.Name "abs" np) c.env) [] (backTo pos (starEach args c.env)) (backToKw pos (keywordEach [] c.env)))) : WE c loc hp (.Call (.Name "abs" np) args [] pos) P :=
  WE_callB (g_abs _) rfl .B h (by decide) hx (by decide) hpl he
theorem WE_min {args : List PySem.Expr} {pos np : Pos} {P : Hp → V → Prop} (h : WL c loc hp args fun hp1 Xs => CallOk c loc hp1 (.builtin "min") Xs P) (hx : c.env.kindOf "min" = some .globalImplicit) (hpl : Plain c.env args pos)
    (he : eval (.Call (.Name "min" np) args [] pos) c.env = (do callWith pos (← eval (.Name "min" np) c.env) [] (backTo pos (starEach args c.env)) (backToKw pos (keywordEach [] c.env)))) : WE c loc hp (.Call (.Name "min" np) args [] pos) P :=
  WE_callB (g_min _) rfl .B h (by decide) hx (by decide) hpl he
theorem WE_range {args : List PySem.Expr} {pos np : Pos} {P : Hp → V → Prop} (h : WL c loc hp args fun hp1 Xs => CallOk c loc hp1 (.type "range") Xs P) (hx : c.env.kindOf "range" = some .globalImplicit) (hpl : Plain c.env args pos)
    (he : eval (.Call (.Name "range" np) args [] pos) c.env = (do callWith pos (← eval (.Name "range" np) c.env) [] (backTo pos (starEach args c.env)) (backToKw pos (keywordEach [] c.env)))) : WE c loc hp (.Call (.Name "range" np) args [] pos) P :=
  WE_callB (g_range _) rfl .T h (by decide) hx (by decide) hpl he
theorem WE_list {args : List PySem.Expr} {pos np : Pos} {P : Hp → V → Prop} (h : WL c loc hp args fun hp1 Xs => CallOk c loc hp1 (.type "list") Xs P) (hx : c.env.kindOf "list" = some .globalImplicit) (hpl : Plain c.env args pos)
    (he : eval (.Call (.Name "list" np) args [] pos) c.env = (do callWith pos (← eval (.Name "list" np) c.env) [] (backTo pos (starEach args c.env)) (backToKw pos (keywordEach [] c.env)))) : WE c loc hp (.Call (.Name "list" np) args [] pos) P :=
  WE_callB (g_list _) rfl .T h (by decide) hx (by decide) hpl he
end
noncomputable def scOk (sc : Scope) : Bool := sc.names.all (fun y => y.2 != .cell) && sc.kind == .function && sc.names.all fun y => y.2 != .local || sc.names.lookup y.1 == some .local
theorem resL_map {α : Type} {enc f : α → V} {t : α → Bool} {xs : List α} : resL (xs.map fun x => (enc x, t x, f x)) = (xs.filter t).map f := by
  unfold resL
  rw [List.filter_map, List.map_map]
  rfl
theorem mapL {α : Type} {enc f : α → V} {t : α → Bool} {xs : List α} {p : V × Bool × V → Prop} (h : ∀ x ∈ xs, p (enc x, t x, f x)) : ∀ q ∈ xs.map fun x => (enc x, t x, f x), p q := fun q hq => by
  obtain ⟨x, hx, rfl⟩ := List.mem_map.mp hq
  exact h x hx
noncomputable abbrev CompS (c : Ctx) (loc : Loc) (hp1 : Hp) (target elt : PySem.Expr) (ifs : List PySem.Expr) (sc : Scope) (V1 : V) (K : V → Prop) : Prop :=
  ∃ L : List (V × Bool × V), LstV hp1 V1 (L.map (·.1)) ∧ L.length ≤ sizeLine ∧ (∀ q ∈ L, Elt c loc hp1 target elt ifs sc [] [] q.1 q.2.1 q.2.2) ∧ K (.lst (resL L))
/-- a comprehension that captures nothing, over a list -/
theorem WE_compL {c : Ctx} {loc : Loc} {hp : Hp} {elt target iter : PySem.Expr} {ifs : List PySem.Expr} {sc : Scope} {pos : Pos} {P : Hp → V → Prop}
    (h : WE c loc hp iter fun hp1 V1 => CompS c loc hp1 target elt ifs sc V1 (P hp1))
    (hcm : c.fi.cm = none) (hclos : closureFor sc c.env = pure []) (hsc : scOk sc = true) (hs : ∀ x, foldedSetIterable iter c.env x = pure x) : WE c loc hp (.ListComp elt [⟨target, iter, ifs, 0⟩] sc pos) P := by
  unfold scOk at hsc
  simp only [Bool.and_eq_true, List.all_eq_true, beq_iff_eq, bne_iff_ne, Bool.or_eq_true] at hsc
  refine WE_comp [] [] (fun Vs vs ex s Q hst hQ => h Vs vs ex s Q hst fun hp1 V1 v s1 h1 => hQ hp1 V1 v s1 ?_) hcm hclos (fun y hy => hsc.1.1 y hy) hsc.1.2 (fun y hy e => (hsc.2 y hy).resolve_left fun q => q e) (fun _ _ _ h => (List.not_mem_nil h).elim) hs
  obtain ⟨L, hl, hz, he, hP⟩ := h1
  exact ⟨L, fun hp => LstV hp V1 (L.map (·.1)), true, ListT, iter_lst, hl, rfl, hz, he, hP⟩
theorem compS_of {c : Ctx} {loc : Loc} {hp1 : Hp} {target elt : PySem.Expr} {ifs : List PySem.Expr} {sc : Scope} {V1 : V} {K : V → Prop} {α : Type} (xs : List α) (enc f : α → V) (t : α → Bool) (hl : LstV hp1 V1 (xs.map enc)) (hz : xs.length ≤ sizeLine)
    (he : ∀ x ∈ xs, Elt c loc hp1 target elt ifs sc [] [] (enc x) (t x) (f x)) (hP : K (.lst ((xs.filter t).map f))) : CompS c loc hp1 target elt ifs sc V1 K :=
  ⟨xs.map fun x => (enc x, t x, f x), by rw [List.map_map]; exact hl, by rw [List.length_map]; exact hz, mapL (p := fun q => Elt c loc hp1 target elt ifs sc [] [] q.1 q.2.1 q.2.2) he, by rw [resL_map]; exact hP⟩
noncomputable def keysB (ks : List Str) : Bool := decide ks.Nodup && ks.all fun x => !(x == ("__debug__" : Str))
theorem keysOk_of {ks : List Str} (h : keysB ks = true) : KeysOk ks := by
  obtain ⟨a, b⟩ := Bool.and_eq_true_iff.mp h
  exact ⟨of_decide_eq_true a, fun x hx => by simpa using List.all_eq_true.mp b x hx⟩
noncomputable def locB (sc : Scope) (ks : List Str) : Bool := ks.all fun x => sc.names.lookup x == some .local
noncomputable def scB (sc : Scope) : Bool := !sc.isCoroutine && !sc.isGenerator && sc.kind == .function
theorem scB_of {sc : Scope} (h : scB sc = true) : sc.isCoroutine = false ∧ sc.isGenerator = false ∧ sc.kind = .function := by
  unfold scB at h
  simp only [Bool.and_eq_true, Bool.not_eq_true', beq_iff_eq] at h
  exact ⟨h.1.1, h.1.2, h.2⟩
theorem ws6 {ws : List Value} (h : ws.length = 6) : ∃ a b c d e f, ws = [a, b, c, d, e, f] := let ⟨a, _, p, h⟩ := ws_s h; let ⟨b, _, q, h⟩ := ws_s h; let ⟨c, d, e, f, r⟩ := ws4 h; ⟨a, b, c, d, e, f, p.trans (congrArg _ (q.trans (congrArg _ r)))⟩
theorem ws7 {ws : List Value} (h : ws.length = 7) : ∃ a b c d e f g, ws = [a, b, c, d, e, f, g] := let ⟨a, _, p, h⟩ := ws_s h; let ⟨b, c, d, e, f, g, q⟩ := ws6 h; ⟨a, b, c, d, e, f, g, p.trans (congrArg _ q)⟩
/-- a plain function, as the walk enters it -/
theorem callF {c : Ctx} {loc : Loc} {hp : Hp} {P : Hp → V → Prop} {k : Nat} {name qual : Str} {params : Arguments} {body : List Stmt} {scope : Scope} {dV kV doc pm cdv ct oc : Value} {an od : Option Addr} {osl : Array (Option Value)} {f : Addr}
    {Xs : List V} {names rest : List Str} {loc0 : Loc} (hcm : c.fi.cm = none) (room : c.Room (k + 1))
    (ho : (KK c.w).lookup f = some ⟨oc, od, .func (fnOf name qual params body scope dV kV doc pm an cdv ct), osl⟩) (hcd : codeIn (KK c.w) cdv qual = true)
    (hbind : ∀ ws : List Value, ws.length = names.length → bindArgs (fnOf name qual params body scope dV kV doc pm an cdv ct) ⟨ws, []⟩ = pure (names.zip ws))
    (hkeys : keysB (names ++ rest) = true) (hloc : locB scope names = true) (hs : scB scope = true) (hcell : scope.names.all (fun x => x.2 != .cell) = true)
    (hn : Xs.length = names.length) (hl0 : names.zip Xs ++ rest.map (·, V.undef) = loc0)
    (hb : ∀ r : CtxR, r.w = c.w → (⟨⟨qual, scope, none⟩, r⟩ : Ctx).Room k → WS ⟨⟨qual, scope, none⟩, r⟩ loc0 hp body (fun _ hp' => P hp' .none) P) : CallOk c loc hp (.ref f) Xs P :=
  callK hcm room ho hcd hbind (keysOk_of hkeys) (fun x hx => by simpa using List.all_eq_true.mp hloc x hx) (scB_of hs) (fun x hx => by simpa using List.all_eq_true.mp hcell x hx) hn fun r hr => hl0 ▸ hb _ rfl hr
section
variable {c : Ctx} {loc : Loc} {hp : Hp} {elt : PySem.Expr} {ifs : List PySem.Expr} {sc : Scope}
theorem elt_pair {x y : Str} {px py tp : Pos} {k : Nat} {X Y Z : V} {b : Bool} (hx : sc.names.lookup x = some .local) (hy : sc.names.lookup y = some .local) (hxy : x ≠ y) (hk : sc.kind = .function) (hkeys : keysB [x, y] = true)
    (h : ∀ C oC, TestsC (cctx c sc [] C oC loc) [(x, X), (y, Y)] hp ifs b ∧ (b = true → WE (cctx c sc [] C oC loc) [(x, X), (y, Y)] hp elt fun hp' Y' => hp' = hp ∧ Y' = Z)) :
    Elt c loc hp (.Tuple [.Name x px, .Name y py] k tp) elt ifs sc [] [] (.lst [X, Y]) b Z :=
  .mk' ⟨_, bindC_pair hx hy hxy hk, List.forall_mem_cons.mpr ⟨hx, List.forall_mem_cons.mpr ⟨hy, List.forall_mem_nil _⟩⟩, keysOk_of hkeys, h⟩
theorem elt_name {x : Str} {px : Pos} {X Z : V} {b : Bool} (hx : sc.names.lookup x = some .local) (hk : sc.kind = .function) (hkeys : keysB [x] = true)
    (h : ∀ C oC, TestsC (cctx c sc [] C oC loc) [(x, X)] hp ifs b ∧ (b = true → WE (cctx c sc [] C oC loc) [(x, X)] hp elt fun hp' Y' => hp' = hp ∧ Y' = Z)) :
    Elt c loc hp (.Name x px) elt ifs sc [] [] X b Z :=
  .mk' ⟨_, bindC_name hx hk, List.forall_mem_cons.mpr ⟨hx, List.forall_mem_nil _⟩, keysOk_of hkeys, h⟩
theorem tests0 : TestsC c loc hp [] true := rfl
theorem tests1 {t : PySem.Expr} {b : Bool} (h : WT c loc hp t (fun hp' => hp' = hp ∧ b = true) (fun hp' => hp' = hp ∧ b = false)) : TestsC c loc hp [t] b := h
end
/-- a test that turns nothing, its value said ahead -/
theorem WX_ifD {c : Ctx} {loc : Loc} {hp : Hp} {t : PySem.Expr} {x y : List Stmt} {pos : Pos} {PN : Loc → Hp → Prop} {PR : Hp → V → Prop} (b : Bool) (ht : WT c loc hp t (fun hp1 => hp1 = hp ∧ b = true) (fun hp1 => hp1 = hp ∧ b = false))
    (h1 : b = true → WS c loc hp x PN PR) (h2 : b = false → WS c loc hp y PN PR) : WX c loc hp (.If t x y pos) PN PR :=
  WX_if fun Vs vs ex s Q hst hT hF => ht Vs vs ex s Q hst (fun hp' s' e => hT hp' s' (e.1 ▸ h1 e.2)) fun hp' s' e => hF hp' s' (e.1 ▸ h2 e.2)
theorem kms_hi_nat {k n : Nat} : kms_hi (some (k : Int)) n = min k n := (if_neg (by omega) : (if (k : Int) < 0 then n - (-(k : Int)).toNat else min (k : Int).toNat n) = min (k : Int).toNat n)
theorem kms_lo_nat {k n : Nat} : kms_lo (some (k : Int)) n = min k n := (if_neg (by omega) : (if (k : Int) < 0 then n - (-(k : Int)).toNat else min (k : Int).toNat n) = min (k : Int).toNat n)
theorem slc_to {α : Type} {l : List α} {k : Nat} : slc none (some (k : Int)) l = l.take k := by
  unfold slc
  rw [kms_hi_nat]
  show (l.drop 0).take (min k l.length - 0) = l.take k
  rw [List.drop_zero, Nat.sub_zero]
  by_cases h : k ≤ l.length
  · rw [Nat.min_eq_left h]
  · rw [Nat.min_eq_right (by omega), List.take_length, List.take_of_length_le (by omega)]
theorem slc_ft {α : Type} {l : List α} {i j : Nat} : slc (some (i : Int)) (some (j : Int)) l = (l.drop i).take (j - i) := by
  unfold slc
  rw [kms_hi_nat, kms_lo_nat]
  by_cases h : i ≤ l.length
  · rw [Nat.min_eq_left h]
    by_cases h2 : j ≤ l.length
    · rw [Nat.min_eq_left h2]
    · rw [Nat.min_eq_right (by omega), List.take_of_length_le (by simp), List.take_of_length_le (by simp; omega)]
  · rw [show min i l.length = l.length by omega, List.drop_of_length_le (Nat.le_refl _), List.drop_of_length_le (by omega), List.take_nil, List.take_nil]
/-! stretches: (in the text then, in the text beside), how many -/
noncomputable abbrev Wd := Bool × Bool
noncomputable abbrev Sr := Wd × Nat
noncomputable def wS (w : Wd) : Str := cond w.1 (cond w.2 "same" "gone") "new"
noncomputable def eS (s : Sr) : V := .lst [.str (wS s.1), .int s.2]
noncomputable def split : List Sr → Nat → List Sr × Nat
  | [], _ => ([], 0)
  | x :: r, left => if left = 0 then (x :: r, 0) else if x.1.1 = false then (x :: (split r left).1, (split r left).2 + 1)
    else if left < x.2 then ((x.1, left) :: (x.1, x.2 - left) :: r, 1) else (x :: (split r (left - x.2)).1, (split r (left - x.2)).2 + 1)
theorem wS_new {w : Wd} : wS w = "new" ↔ w.1 = false := by
  obtain ⟨a, b⟩ := w
  cases a <;> cases b <;> decide
theorem wS_gone {w : Wd} : wS w = "gone" ↔ w.1 = true ∧ w.2 = false := by
  obtain ⟨a, b⟩ := w
  cases a <;> cases b <;> decide
theorem wS_same {w : Wd} : wS w = "same" ↔ w.1 = true ∧ w.2 = true := by
  obtain ⟨a, b⟩ := w
  cases a <;> cases b <;> decide
/-! classes of the program -/
theorem gk_stretches (w : World) : GetK w 130 "stretches" := ⟨by kernel_rfl, by kernel_rfl, by kernel_rfl⟩
theorem gk_start (w : World) : GetK w 130 "start" := ⟨by kernel_rfl, by kernel_rfl, by kernel_rfl⟩
theorem gk_end (w : World) : GetK w 130 "end" := ⟨by kernel_rfl, by kernel_rfl, by kernel_rfl⟩
theorem gk_rows (w : World) : GetK w 109 "rows" := ⟨by kernel_rfl, by kernel_rfl, by kernel_rfl⟩
theorem gk_is_on (w : World) : GetK w 109 "is_on" := ⟨by kernel_rfl, by kernel_rfl, by kernel_rfl⟩
theorem gk_point_before (w : World) : GetK w 109 "point_before" := ⟨by kernel_rfl, by kernel_rfl, by kernel_rfl⟩
theorem gk_codes (w : World) : GetK w 208 "codes" := ⟨by kernel_rfl, by kernel_rfl, by kernel_rfl⟩
theorem sk_stretches (w : World) : SetK w 130 "stretches" := ⟨by kernel_rfl, by kernel_rfl, by kernel_rfl, by kernel_rfl⟩
theorem sk_start (w : World) : SetK w 130 "start" := ⟨by kernel_rfl, by kernel_rfl, by kernel_rfl, by kernel_rfl⟩
theorem sk_end (w : World) : SetK w 130 "end" := ⟨by kernel_rfl, by kernel_rfl, by kernel_rfl, by kernel_rfl⟩
theorem sk_rows (w : World) : SetK w 109 "rows" := ⟨by kernel_rfl, by kernel_rfl, by kernel_rfl, by kernel_rfl⟩
theorem sk_dropped (w : World) : SetK w 109 "dropped" := ⟨by kernel_rfl, by kernel_rfl, by kernel_rfl, by kernel_rfl⟩
theorem sk_is_on (w : World) : SetK w 109 "is_on" := ⟨by kernel_rfl, by kernel_rfl, by kernel_rfl, by kernel_rfl⟩
theorem sk_point_before (w : World) : SetK w 109 "point_before" := ⟨by kernel_rfl, by kernel_rfl, by kernel_rfl, by kernel_rfl⟩
theorem sk_noted_tick (w : World) : SetK w 109 "noted_tick" := ⟨by kernel_rfl, by kernel_rfl, by kernel_rfl, by kernel_rfl⟩
theorem sk_codes (w : World) : SetK w 208 "codes" := ⟨by kernel_rfl, by kernel_rfl, by kernel_rfl, by kernel_rfl⟩
theorem sk_runs (w : World) : SetK w 208 "runs" := ⟨by kernel_rfl, by kernel_rfl, by kernel_rfl, by kernel_rfl⟩
theorem mk_is_at_boundary (w : World) : MethK w 109 "is_at_boundary" 50 := ⟨by kernel_rfl, by kernel_rfl, by kernel_rfl, by kernel_rfl⟩
theorem mk_boundary (w : World) : MethK w 109 "boundary" 57 := ⟨by kernel_rfl, by kernel_rfl, by kernel_rfl, by kernel_rfl⟩
theorem mk_note_state (w : World) : MethK w 109 "note_state" 71 := ⟨by kernel_rfl, by kernel_rfl, by kernel_rfl, by kernel_rfl⟩
theorem mk_note_insert (w : World) : MethK w 109 "note_insert" 78 := ⟨by kernel_rfl, by kernel_rfl, by kernel_rfl, by kernel_rfl⟩
theorem mk_note_delete (w : World) : MethK w 109 "note_delete" 85 := ⟨by kernel_rfl, by kernel_rfl, by kernel_rfl, by kernel_rfl⟩
theorem mk_note_property (w : World) : MethK w 109 "note_property" 92 := ⟨by kernel_rfl, by kernel_rfl, by kernel_rfl, by kernel_rfl⟩
section
variable {c : Ctx} {loc : Loc} {hp : Hp} {P : Hp → V → Prop} {args : List PySem.Expr} {pos np : Pos}
/-- calls of the program's own functions by their names -/
noncomputable def Own (w : World) (x : Str) (f : Nat) : Prop := nsIn (KK w) mainGlobals x = some (some (.ref f)) ∧ keepIn (KK w) (.ref f) = true
theorem o_split_there (w : World) : Own w "split_there" 141 := ⟨by kernel_rfl, by kernel_rfl⟩
theorem o_here_at (w : World) : Own w "here_at" 146 := ⟨by kernel_rfl, by kernel_rfl⟩
theorem o_range_there (w : World) : Own w "range_there" 153 := ⟨by kernel_rfl, by kernel_rfl⟩
theorem o_is_untouched (w : World) : Own w "is_untouched" 158 := ⟨by kernel_rfl, by kernel_rfl⟩
theorem o_undone_insert (w : World) : Own w "undone_insert" 163 := ⟨by kernel_rfl, by kernel_rfl⟩
theorem o_undone_delete (w : World) : Own w "undone_delete" 170 := ⟨by kernel_rfl, by kernel_rfl⟩
theorem o_undone_property (w : World) : Own w "undone_property" 177 := ⟨by kernel_rfl, by kernel_rfl⟩
theorem o_undone_row (w : World) : Own w "undone_row" 184 := ⟨by kernel_rfl, by kernel_rfl⟩
theorem o_rows_in_region (w : World) : Own w "rows_in_region" 191 := ⟨by kernel_rfl, by kernel_rfl⟩
theorem o_plain_piece (w : World) : Own w "plain_piece" 219 := ⟨by kernel_rfl, by kernel_rfl⟩
theorem o_Piece (w : World) : Own w "Piece" 208 := ⟨by kernel_rfl, by kernel_rfl⟩
theorem o_Beside (w : World) : Own w "Beside" 130 := ⟨by kernel_rfl, by kernel_rfl⟩
theorem o_UndoList (w : World) : Own w "UndoList" 109 := ⟨by kernel_rfl, by kernel_rfl⟩
theorem o_law_deck (w : World) : Own w "_law_deck" 224 := ⟨by kernel_rfl, by kernel_rfl⟩
theorem o_law_draw (w : World) : Own w "_law_draw" 231 := ⟨by kernel_rfl, by kernel_rfl⟩
theorem o_law_changed (w : World) : Own w "_law_changed" 236 := ⟨by kernel_rfl, by kernel_rfl⟩
theorem o_law_undone (w : World) : Own w "_law_undone" 241 := ⟨by kernel_rfl, by kernel_rfl⟩
theorem o_law_groups (w : World) : Own w "_law_groups" 246 := ⟨by kernel_rfl, by kernel_rfl⟩
theorem WE_own {x : Str} {f : Nat} (o : Own c.w x f) (h : WL c loc hp args fun hp1 Xs => CallOk c loc hp1 (.ref f) Xs P) (hx : c.env.kindOf x = some .globalImplicit) (hd : (x == ("__debug__" : Str)) = false) (hpl : Plain c.env args pos)
    (he : eval (.Call (.Name x np) args [] pos) c.env = (do callWith pos (← eval (.Name x np) c.env) [] (backTo pos (starEach args c.env)) (backToKw pos (keywordEach [] c.env)))) : WE c loc hp (.Call (.Name x np) args [] pos) P :=
  WE_callK o.1 o.2 h hx hd hpl he
end
theorem g_BOUNDARY (w : World) : nsIn (KK w) mainGlobals "BOUNDARY" = some (some (.ref 22)) := by kernel_rfl
theorem WE_BOUNDARY {c : Ctx} {loc : Loc} {hp : Hp} {P : Hp → V → Prop} {np : Pos} (h : P hp (.tup [.str "boundary"])) (hx : c.env.kindOf "BOUNDARY" = some .globalImplicit) : WE c loc hp (.Name "BOUNDARY" np) P :=
  WE_global (g_BOUNDARY c.w) (fun F k => .tup (vs := [_]) (k 22 _ rfl) (.cons (.str _ _) .nil)) h hx (by decide)
theorem notin_of {name : Str} {l : List Str} (h : l.contains name = false) : name ∉ l := fun q => by rw [List.contains_iff_mem.mpr q] at h; cases h
theorem mth_of {c : Ctx} {loc : Loc} {hp1 : Hp} {name : Str} {args : List PySem.Expr} {P : Hp → V → Prop} {a C d f : Nat} {fs : Loc} (h1 : HpAt hp1 a (.inst C d)) (h2 : HpAt hp1 d (.dict fs)) (h3 : (fs.map (·.1)).contains name = false) (h4 : MethK c.w C name f)
    (k : WL c loc hp1 args fun hp2 Xs => CallOk c loc hp2 (.ref f) (.ref a :: Xs) P) : MthK c loc hp1 name args (.ref a) P := ⟨a, C, d, fs, f, rfl, h1, h2, notin_of h3, h4, k⟩
theorem Ctx.Room.le {c : Ctx} {k k' : Nat} (h : c.Room k) (l : k' ≤ k) : c.Room k' := ⟨by have := h.1; omega, by have := h.2; omega⟩
theorem valT {X Y : Prop} (h : X) : ∃ b, V.bool true = V.bool b ∧ (b = true → X) ∧ (b = false → Y) := ⟨true, rfl, fun _ => h, nofun⟩
theorem valF {X Y : Prop} (h : Y) : ∃ b, V.bool false = V.bool b ∧ (b = true → X) ∧ (b = false → Y) := ⟨false, rfl, nofun, fun _ => h⟩
theorem WE_val {c : Ctx} {loc : Loc} {hp : Hp} {e : PySem.Expr} {P : Hp → V → Prop} {Y : V} (h : WE c loc hp e fun hp' X => hp' = hp ∧ X = Y) (k : P hp Y) : WE c loc hp e P := fun Vs vs ex s Q hst hQ => h Vs vs ex s Q hst fun hp' X v s' q => hQ hp' X v s' (by rw [q.1, q.2]; exact k)
inductive Snoc (x : Str × V) : Loc → Loc → Prop
  | nil : Snoc x [] [x]
  | cons {p : Str × V} {r r' : Loc} : Snoc x r r' → Snoc x (p :: r) (p :: r')
theorem Snoc.eq {x : Str × V} {l l' : Loc} (h : Snoc x l l') : l' = l ++ [x] := by
  induction h with
  | nil => rfl
  | cons _ ih => rw [ih]; rfl
theorem sat_old {w : World} {hp2 hp3 : Hp} {name : Str} {X : V} {K : Hp → Prop} {a C d : Nat} {fs fs' : Loc} (h1 : HpAt hp2 a (.inst C d)) (h2 : HpMod d (.dict fs) (.dict fs') hp2 hp3) (h3 : SetK w C name) (h4 : Nat.ble fs.length 900 = true) (h5 : LocSet name X fs fs') (k : K hp3) : SAt w hp2 name (.ref a) X K :=
  ⟨a, C, d, fs, fs', hp3, rfl, h1, h2, h3, Nat.le_of_ble_eq_true h4, .inl h5, k⟩
theorem sat_new {w : World} {hp2 hp3 : Hp} {name : Str} {X : V} {K : Hp → Prop} {a C d : Nat} {fs fs' : Loc} (h1 : HpAt hp2 a (.inst C d)) (h2 : HpMod d (.dict fs) (.dict fs') hp2 hp3) (h3 : SetK w C name) (h4 : Nat.ble fs.length 900 = true) (h5 : Snoc (name, X) fs fs') (h6 : (fs.map (·.1)).contains name = false) (k : K hp3) : SAt w hp2 name (.ref a) X K :=
  ⟨a, C, d, fs, fs', hp3, rfl, h1, h2, h3, Nat.le_of_ble_eq_true h4, .inr ⟨notin_of h6, h5.eq⟩, k⟩
theorem WS.monoN {c : Ctx} {loc : Loc} {hp : Hp} {b : List Stmt} {PN PN' : Loc → Hp → Prop} {PR : Hp → V → Prop} (h : WS c loc hp b PN PR) (k : ∀ l q, PN l q → PN' l q) : WS c loc hp b PN' PR := fun Vs vs ex s Q hst hN hR => h Vs vs ex s Q hst (fun l q s' p => hN l q s' (k l q p)) hR
/-- a loop over written items by what holds between the turns -/
theorem wfor_inv {α : Type} {c : Ctx} {x : Str} {body : List Stmt} {PN : Loc → Hp → Prop} {PR : Hp → V → Prop} {enc : α → V} (I : List α → Loc → Hp → Prop)
    (step : ∀ a r loc hp, I (a :: r) loc hp → ∃ loc1, LocSet x (enc a) loc loc1 ∧ WS c loc1 hp body (I r) PR) (done : ∀ loc hp, I [] loc hp → PN loc hp) : ∀ (xs : List α) (loc : Loc) (hp : Hp), I xs loc hp → WFor c x body PN PR (xs.map enc) loc hp
  | [], loc, hp, h => done loc hp h
  | a :: r, loc, hp, h => let ⟨loc1, h1, h2⟩ := step a r loc hp h; ⟨loc1, h1, h2.monoN fun l q => wfor_inv I step done r l q⟩
/-- making an object, as the walk enters it -/
theorem makeF {c : Ctx} {loc : Loc} {hp : Hp} {P : Hp → V → Prop} {k : Nat} {C : Nat} {name qual : Str} {params : Arguments} {body : List Stmt} {scope : Scope} {dV kV doc pm cdv ct oc : Value} {an od : Option Addr} {osl : Array (Option Value)} {f : Addr}
    {Xs : List V} {names rest : List Str} (l0 : V → Loc) (hcm : c.fi.cm = none) (room : c.Room (k + 1)) (hm : makesIn (KK c.w) C = true) (hi : findIn (KK c.w) (.ref C) "__init__" = some (some (.ref f))) (hf : isFn (KK c.w) (.ref f) = true)
    (ho : (KK c.w).lookup f = some ⟨oc, od, .func (fnOf name qual params body scope dV kV doc pm an cdv ct), osl⟩) (hcd : codeIn (KK c.w) cdv qual = true)
    (hbind : ∀ ws : List Value, ws.length = names.length → bindArgs (fnOf name qual params body scope dV kV doc pm an cdv ct) ⟨ws, []⟩ = pure (names.zip ws))
    (hkeys : keysB (names ++ rest) = true) (hloc : locB scope names = true) (hs : scB scope = true) (hcell : scope.names.all (fun x => x.2 != .cell) = true)
    (hn : (Xs.length + 1) = names.length) (hl0 : ∀ X, names.zip (X :: Xs) ++ rest.map (·, V.undef) = l0 X)
    (hb : ∀ (r : CtxR) (a d : Nat), r.w = c.w → (⟨⟨qual, scope, none⟩, r⟩ : Ctx).Room k → WS ⟨⟨qual, scope, none⟩, r⟩ (l0 (.ref a)) ((a, .inst C d) :: (d, .dict []) :: hp) body (fun _ hp' => P hp' (.ref a)) (fun _ _ => False)) : CallOk c loc hp (.ref C) Xs P :=
  make_ok hcm room hm hi hf ho hcd hbind (keysOk_of hkeys) (fun x hx => by simpa using List.all_eq_true.mp hloc x hx) (scB_of hs) (fun x hx => by simpa using List.all_eq_true.mp hcell x hx) hn fun r a d hr => hl0 (.ref a) ▸ hb _ a d rfl hr
/-! comprehensions, with what they capture -/
noncomputable abbrev CompSC (c : Ctx) (loc : Loc) (hp1 : Hp) (target elt : PySem.Expr) (ifs : List PySem.Expr) (sc : Scope) (cl : List (Str × Addr)) (fl : Loc) (V1 : V) (K : V → Prop) : Prop :=
  ∃ L : List (V × Bool × V), (LstV hp1 V1 (L.map (·.1)) ∨ ∃ n : Nat, V1 = .rng n ∧ n < 2 ^ 60 ∧ L.map (·.1) = vints n ∧ isNm target = true) ∧ L.length ≤ sizeLine ∧ (∀ q ∈ L, Elt c loc hp1 target elt ifs sc cl fl q.1 q.2.1 q.2.2) ∧ K (.lst (resL L))
section
variable {c : Ctx} {loc : Loc} {hp : Hp} {elt target iter : PySem.Expr} {ifs : List PySem.Expr} {sc : Scope} {pos : Pos}
theorem compSC_of {hp1 : Hp} {cl : List (Str × Addr)} {fl : Loc} {V1 : V} {K : V → Prop} {α : Type} (xs : List α) (enc f : α → V) (t : α → Bool) (hl : LstV hp1 V1 (xs.map enc) ∨ ∃ n : Nat, V1 = .rng n ∧ n < 2 ^ 60 ∧ xs.map enc = vints n ∧ isNm target = true) (hz : xs.length ≤ sizeLine)
    (he : ∀ x ∈ xs, Elt c loc hp1 target elt ifs sc cl fl (enc x) (t x) (f x)) (hP : K (.lst ((xs.filter t).map f))) : CompSC c loc hp1 target elt ifs sc cl fl V1 K :=
  ⟨xs.map fun x => (enc x, t x, f x), by rw [List.map_map]; exact hl, by rw [List.length_map]; exact hz, mapL (p := fun q => Elt c loc hp1 target elt ifs sc cl fl q.1 q.2.1 q.2.2) he, by rw [resL_map]; exact hP⟩
theorem compSC_it {hp1 : Hp} {V1 : V} {L : List (V × Bool × V)} (h : LstV hp1 V1 (L.map (·.1)) ∨ ∃ n : Nat, V1 = .rng n ∧ n < 2 ^ 60 ∧ L.map (·.1) = vints n ∧ isNm target = true) : ∃ K any T, Iter c K any V1 (L.map (·.1)) T ∧ K hp1 ∧ (any || isNm target) = true := by
  rcases h with h | ⟨n, rfl, hn, e, ht⟩
  · exact ⟨fun hp => LstV hp V1 (L.map (·.1)), true, ListT, iter_lst, h, rfl⟩
  · rw [e]; exact ⟨_, false, _, iter_rng hn, trivial, ht⟩
theorem scOk_of (h : scOk sc = true) : (∀ y ∈ sc.names, y.2 ≠ .cell) ∧ sc.kind = .function ∧ ∀ y ∈ sc.names, y.2 = .local → sc.names.lookup y.1 = some .local := by
  unfold scOk at h
  simp only [Bool.and_eq_true, List.all_eq_true, beq_iff_eq, bne_iff_ne, Bool.or_eq_true] at h
  exact ⟨h.1.1, h.1.2, fun y hy e => (h.2 y hy).resolve_left fun q => q e⟩
noncomputable abbrev FlOk (c : Ctx) (loc : Loc) (sc : Scope) (cl : List (Str × Addr)) (fl : Loc) : Prop := ∀ C : Addr, ∀ x X, (x, X) ∈ fl → (x, X) ∈ loc ∧ X ≠ .undef ∧ c.cs.names.lookup x = some .cell ∧ (compEnvC sc cl C c.fenv).kindOf x = some .cell ∧ cl.lookup x = c.r.fcl.lookup x
theorem flOk0 {cl : List (Str × Addr)} : FlOk c loc sc cl [] := fun _ _ _ h => (List.not_mem_nil h).elim
theorem flOk1 {cl : List (Str × Addr)} {x : Str} {X : V} (h1 : LocAt loc x X) (h2 : isU X = false) (h3 : c.cs.names.lookup x = some .cell) (h4 : ∀ C, (compEnvC sc cl C c.fenv).kindOf x = some .cell) (h5 : cl.lookup x = c.r.fcl.lookup x) : FlOk c loc sc cl [(x, X)] := fun C y Y h => by
  obtain ⟨rfl, rfl⟩ := Prod.mk.inj (List.mem_singleton.mp h)
  exact ⟨h1.mem, neU h2, h3, h4 C, h5⟩
theorem WE_compC {P : Hp → V → Prop} (cl : List (Str × Addr)) (fl : Loc) (h : WE c loc hp iter fun hp1 V1 => CompSC c loc hp1 target elt ifs sc cl fl V1 (P hp1))
    (hcm : c.fi.cm = none) (hclos : closureFor sc c.env = pure cl) (hsc : scOk sc = true) (hfl : FlOk c loc sc cl fl) (hs : ∀ x, foldedSetIterable iter c.env x = pure x) : WE c loc hp (.ListComp elt [⟨target, iter, ifs, 0⟩] sc pos) P := by
  obtain ⟨a1, a2, a3⟩ := scOk_of hsc
  refine WE_comp cl fl (fun Vs vs ex s Q hst hQ => h Vs vs ex s Q hst fun hp1 V1 v s1 h1 => hQ hp1 V1 v s1 ?_) hcm hclos a1 a2 a3 hfl hs
  obtain ⟨L, hl, hz, he, hP⟩ := h1
  obtain ⟨K, any, T, i1, i2, i3⟩ := compSC_it (c := c) hl
  exact ⟨L, K, any, T, i1, i2, i3, hz, he, hP⟩
theorem WX_asgC {x : Str} {px spos : Pos} {PN : Loc → Hp → Prop} {PR : Hp → V → Prop} (cl : List (Str × Addr)) (fl : Loc) (h : WE c loc hp iter fun hp1 V1 => CompSC c loc hp1 target elt ifs sc cl fl V1 fun X => Asn loc x X fun loc1 => PN loc1 hp1)
    (hcm : c.fi.cm = none) (hx : c.cs.names.lookup x = some .local) (hsw : swapsWith (.ListComp elt [⟨target, iter, ifs, 0⟩] sc pos) (some (.Name x px)) spos.line c.env = pure true)
    (hclos : closureFor sc c.env = pure cl) (hsc : scOk sc = true) (hfl : FlOk c loc sc cl fl) (hs : ∀ x, foldedSetIterable iter c.env x = pure x) : WX c loc hp (.Assign [.Name x px] (.ListComp elt [⟨target, iter, ifs, 0⟩] sc pos) spos) PN PR := by
  obtain ⟨a1, a2, a3⟩ := scOk_of hsc
  refine WX_assignComp cl fl (fun Vs vs ex s Q hst hQ => h Vs vs ex s Q hst fun hp1 V1 v s1 h1 => hQ hp1 V1 v s1 ?_) hcm hx hsw hclos a1 a2 a3 hfl hs
  obtain ⟨L, hl, hz, he, hP⟩ := h1
  obtain ⟨K, any, T, i1, i2, i3⟩ := compSC_it (c := c) hl
  exact ⟨L, K, any, T, i1, i2, i3, hz, he, hP⟩
theorem elt_nameC {cl : List (Str × Addr)} {fl : Loc} {x : Str} {px : Pos} {X Z : V} {b : Bool} (hx : sc.names.lookup x = some .local) (hk : sc.kind = .function) (hkeys : keysB (x :: fl.map (·.1)) = true)
    (h : ∀ C oC, TestsC (cctx c sc cl C oC loc) ((x, X) :: fl) hp ifs b ∧ (b = true → WE (cctx c sc cl C oC loc) ((x, X) :: fl) hp elt fun hp' Y' => hp' = hp ∧ Y' = Z)) :
    Elt c loc hp (.Name x px) elt ifs sc cl fl X b Z :=
  .mk' ⟨_, bindC_name hx hk, List.forall_mem_cons.mpr ⟨hx, List.forall_mem_nil _⟩, keysOk_of hkeys, h⟩
end
/-- a function one of whose parameters is captured, as the walk enters it -/
theorem callCF {c : Ctx} {loc : Loc} {hp : Hp} {P : Hp → V → Prop} {k : Nat} {name qual x₀ : Str} {params : Arguments} {body : List Stmt} {scope : Scope} {dV kV doc pm cdv ct oc : Value} {an od : Option Addr} {osl : Array (Option Value)} {f : Addr}
    {Xs : List V} {names rest : List Str} {loc0 : Loc} (hcm : c.fi.cm = none) (room : c.Room (k + 1))
    (ho : (KK c.w).lookup f = some ⟨oc, od, .func (fnOf name qual params body scope dV kV doc pm an cdv ct), osl⟩) (hcd : codeIn (KK c.w) cdv qual = true)
    (hbind : ∀ ws : List Value, ws.length = names.length → bindArgs (fnOf name qual params body scope dV kV doc pm an cdv ct) ⟨ws, []⟩ = pure (names.zip ws))
    (hkeys : keysB (names ++ rest) = true) (hloc : (names.all fun x => x == x₀ || scope.names.lookup x == some .local) = true) (h0 : scope.names.lookup x₀ = some .cell) (hcf : ∀ n, cellsFrom n scope.names [] = [(x₀, n)]) (hs : scB scope = true)
    (hn : Xs.length = names.length) (hl0 : names.zip Xs ++ rest.map (·, V.undef) = loc0)
    (hb : ∀ r : CtxR, (⟨⟨qual, scope, none⟩, { r with w := c.w, fcl := [(x₀, r.L + 1)] }⟩ : Ctx).Room k → WS ⟨⟨qual, scope, none⟩, { r with w := c.w, fcl := [(x₀, r.L + 1)] }⟩ loc0 hp body (fun _ hp' => P hp' .none) P) : CallOk c loc hp (.ref f) Xs P :=
  callC hcm room ho hcd hbind (keysOk_of hkeys) (fun x hx hne => by
    have := List.all_eq_true.mp hloc x hx
    rw [beq_eq_false_iff_ne.mpr hne, Bool.false_or] at this
    exact beq_iff_eq.mp this) h0 hcf (scB_of hs) hn fun r hr => hl0 ▸ hb r hr
set_option compiler.extract_closed false
local macro_rules | `(tactic| o_facts $x) => `(tactic| with_reducible refine $x ?_)
local macro_rules | `(tactic| w_dflts $x) => `(tactic| ((with_reducible refine $x ?_ ?a); (case a => rfl)))
local macro_rules | `(tactic| row_more $x) => `(tactic| ((with_reducible refine $x ?_ ?a ?b); (case a => rfl); (case b => rfl)))
local macro_rules | `(tactic| row_cond $x) => `(tactic| ((with_reducible refine $x ?_ ?a ?b ?c); (case a => rfl); (case b => rfl); (case c => rfl)))
local macro_rules | `(tactic| row_room_at $x) => `(tactic| ((with_reducible refine $x ?_ ?a ?b ?c); (case a => rfl); (case b => first | exact ⟨rfl, rfl⟩ | exact trivial); (case c => rfl)))
local macro_rules | `(tactic| walk_at "np at") => `(tactic| first | with_reducible exact LocAt.head | ((with_reducible refine' LocAt.tail ?a); (case a => walk_at "np at")))
local macro_rules | `(tactic| walk_at "np set") => `(tactic| first | with_reducible exact LocSet.head | ((with_reducible refine' LocSet.tail ?a); (case a => walk_at "np set")))
local macro_rules | `(tactic| walk_at "np snoc") => `(tactic| first | with_reducible exact Snoc.nil | ((with_reducible refine' Snoc.cons ?a); (case a => walk_at "np snoc")))
local macro_rules | `(tactic| walk_at "np hat") => `(tactic| first | with_reducible assumption | exact HpAt.head | ((with_reducible refine' HpAt.tail ?a); (case a => walk_at "np hat")) | ((with_reducible refine' HpAt.pre ?a _); (case a => walk_at "np hat")))
local macro_rules | `(tactic| walk_at "np mod") => `(tactic| first | with_reducible assumption | exact HpMod.head | ((with_reducible refine' HpMod.tail ?a); (case a => walk_at "np mod")) | ((with_reducible refine' HpMod.pre ?a _); (case a => walk_at "np mod")))
local macro_rules | `(tactic| walk_at "np lst") => `(tactic| first | with_reducible assumption | with_reducible exact LstV.lst | ((with_reducible refine' LstV.ref ?a); (case a => walk_at "np hat")))
local macro_rules | `(tactic| walk_at "np ar") => `(tactic| first | decide | omega | (simp; done) | (simp; omega) | (simp at *; omega))
theorem draw_ok {c : Ctx} {loc : Loc} {pre rest : Hp} {D D0 : Nat} {big cells : List Int} {n many : Int} {P : Hp → V → Prop} (hcm : c.fi.cm = none) (room : c.Room 1) (hc : 0 < cells.length) (hl : cells.length < 100) (hb : big.length < 100) (h0 : 0 ≤ n) (h1 : n < 100000) (hm : 0 < many) (hm2 : many < 100000)
  (hP : ∀ (v n' : Int) (big' : List Int), 0 ≤ v → v < many → n ≤ n' → n' ≤ n + 1 → big'.length ≤ big.length → P (pre ++ (D, .list [.ref D0, .lst (cells.map V.int), .int n']) :: (D0, .list (big'.map V.int)) :: rest) (.int v)) :
  CallOk c loc (pre ++ (D, .list [.ref D0, .lst (cells.map V.int), .int n]) :: (D0, .list (big.map V.int)) :: rest) (.ref 231) [.ref D, .int many] P := by
  refine callF (names := ["deck", "many"]) (rest := ["rest", "mixed"]) (loc0 := [("deck", .ref D), ("many", .int many), ("rest", .undef), ("mixed", .undef)]) hcm room (by exact rfl) (by kernel_rfl) (fun ws h => by obtain ⟨a, b, rfl⟩ := ws2 h; rfl) (by decide) (by decide) (by decide) (by decide) rfl rfl fun r hw room => ?_
  (o_facts WS_cons)
  (o_facts WX_if; w_dflts WT_cmp; ((with_reducible refine WE_item ?_ ?hs1); (case hs1 => (intro _ _; rfl))); ((with_reducible refine' WE_name ?hx2 ?hd2 ?_); (case hx2 => walk_at "np at"); (case hd2 => first | exact neU rfl | assumption)); o_facts WE_int; ((with_reducible refine' ⟨_, item_ref ?a3 ?b3 ?c3 ?d3, ?_⟩); (case a3 => walk_at "np hat"); (case b3 => decide); (case c3 => decide); (case d3 => rfl)))
  refine WE_listF ?_
  (o_facts WL_nil; ((with_reducible refine' And.intro ?a4 ?_); (case a4 => exact Nat.le_of_ble_eq_true rfl)))
  have two : big = [] ∨ ∃ b bs, big = b :: bs := by cases big with | nil => exact .inl rfl | cons b bs => exact .inr ⟨b, bs, rfl⟩
  refine ⟨_, cmp_neNil (.ref (by walk_at "np hat")), fun h => ?_, fun h => ?_⟩
  · obtain ⟨b, bs, rfl⟩ : ∃ b bs, big = b :: bs := two.resolve_left fun e => by subst e; simp at h
    (o_facts WS_cons; row_cond WX_assign; ((with_reducible refine WE_item ?_ ?hs5); (case hs5 => (intro _ _; rfl))); ((with_reducible refine WE_item ?_ ?hs6); (case hs6 => (intro _ _; rfl))); ((with_reducible refine' WE_name ?hx7 ?hd7 ?_); (case hx7 => walk_at "np at"); (case hd7 => first | exact neU rfl | assumption)); o_facts WE_int; ((with_reducible refine' ⟨_, item_ref ?a8 ?b8 ?c8 ?d8, ?_⟩); (case a8 => walk_at "np hat"); (case b8 => decide); (case c8 => decide); (case d8 => rfl)); o_facts WE_int; ((with_reducible refine' ⟨_, item_ref ?a9 ?b9 ?c9 ?d9, ?_⟩); (case a9 => walk_at "np hat"); (case b9 => decide); (case c9 => decide); (case d9 => rfl)); ((with_reducible refine' ⟨_, ?ls10, ?_⟩); (case ls10 => walk_at "np set")); o_facts WS_cons; w_dflts WX_setItem; o_facts WE_bin; ((with_reducible refine' WE_name ?hx11 ?hd11 ?_); (case hx11 => walk_at "np at"); (case hd11 => first | exact neU rfl | assumption)); ((with_reducible refine' WE_name ?hx12 ?hd12 ?_); (case hx12 => walk_at "np at"); (case hd12 => first | exact neU rfl | assumption)))
    refine BinK.fdiv (by omega) (PyProof.noPylong_small (by omega)) ?_
    (((with_reducible refine WE_item ?_ ?hs13); (case hs13 => (intro _ _; rfl))); ((with_reducible refine' WE_name ?hx14 ?hd14 ?_); (case hx14 => walk_at "np at"); (case hd14 => first | exact neU rfl | assumption)); o_facts WE_int; ((with_reducible refine' ⟨_, item_ref ?a15 ?b15 ?c15 ?d15, ?_⟩); (case a15 => walk_at "np hat"); (case b15 => decide); (case c15 => decide); (case d15 => rfl)); o_facts WE_int; ((with_reducible refine' ⟨_, set_at ?a16 ?b16 ?c16 ?d16, ?_⟩); (case a16 => walk_at "np mod"); (case b16 => decide); (case c16 => (first | decide | (simp; done) | (simp; omega))); (case d16 => decide)); o_facts WS_cons)
    (o_facts WX_if; w_dflts WT_cmp; ((with_reducible refine WE_item ?_ ?hs17); (case hs17 => (intro _ _; rfl))); ((with_reducible refine WE_item ?_ ?hs18); (case hs18 => (intro _ _; rfl))); ((with_reducible refine' WE_name ?hx19 ?hd19 ?_); (case hx19 => walk_at "np at"); (case hd19 => first | exact neU rfl | assumption)); o_facts WE_int; ((with_reducible refine' ⟨_, item_ref ?a20 ?b20 ?c20 ?d20, ?_⟩); (case a20 => walk_at "np hat"); (case b20 => decide); (case c20 => decide); (case d20 => rfl)); o_facts WE_int; ((with_reducible refine' ⟨_, item_ref ?a21 ?b21 ?c21 ?d21, ?_⟩); (case a21 => walk_at "np hat"); (case b21 => decide); (case c21 => decide); (case d21 => rfl)); o_facts WE_int)
    refine tst_int cmp_eq (fun h => ?_) (fun h => ?_)
    · (o_facts WS_cons; row_more WX_expr)
      refine WE_methL PySem.F.slot_list_pop rfl ?_ ⟨rfl, rfl⟩ rfl
      (((with_reducible refine WE_item ?_ ?hs22); (case hs22 => (intro _ _; rfl))); ((with_reducible refine' WE_name ?hx23 ?hd23 ?_); (case hx23 => walk_at "np at"); (case hd23 => first | exact neU rfl | assumption)); o_facts WE_int; ((with_reducible refine' ⟨_, item_ref ?a24 ?b24 ?c24 ?d24, ?_⟩); (case a24 => walk_at "np hat"); (case b24 => decide); (case c24 => decide); (case d24 => rfl)))
      refine ⟨_, by walk_at "np lst", ?_⟩
      (w_dflts WL_cons; o_facts WE_int; o_facts WL_nil)
      refine call_pop0 (by walk_at "np mod") (by simp [sizeLine_eq] at *; omega) ?_
      (o_facts WS_nil; o_facts WS_cons; o_facts WX_ret; o_facts WE_bin; ((with_reducible refine' WE_name ?hx25 ?hd25 ?_); (case hx25 => walk_at "np at"); (case hd25 => first | exact neU rfl | assumption)); ((with_reducible refine' WE_name ?hx26 ?hd26 ?_); (case hx26 => walk_at "np at"); (case hd26 => first | exact neU rfl | assumption)))
      refine BinK.mod (by omega) ?_
      refine hP _ n bs (fmod_lo _ hm) (fmod_hi _ hm) (by omega) (by omega) ?_
      simp
    · (o_facts WS_nil; o_facts WS_cons; o_facts WX_ret; o_facts WE_bin; ((with_reducible refine' WE_name ?hx27 ?hd27 ?_); (case hx27 => walk_at "np at"); (case hd27 => first | exact neU rfl | assumption)); ((with_reducible refine' WE_name ?hx28 ?hd28 ?_); (case hx28 => walk_at "np at"); (case hd28 => first | exact neU rfl | assumption)))
      refine BinK.mod (by omega) ?_
      refine hP _ n (b.fdiv many :: bs) (fmod_lo _ hm) (fmod_hi _ hm) (by omega) (by omega) ?_
      simp
  · obtain rfl : big = [] := by rcases two with e | ⟨b, bs, e⟩; exact e; subst e; simp at h
    (o_facts WS_nil; o_facts WS_cons; w_dflts WX_setItem; o_facts WE_bin; ((with_reducible refine WE_item ?_ ?hs29); (case hs29 => (intro _ _; rfl))); ((with_reducible refine' WE_name ?hx30 ?hd30 ?_); (case hx30 => walk_at "np at"); (case hd30 => first | exact neU rfl | assumption)); o_facts WE_int; ((with_reducible refine' ⟨_, item_ref ?a31 ?b31 ?c31 ?d31, ?_⟩); (case a31 => walk_at "np hat"); (case b31 => decide); (case c31 => decide); (case d31 => rfl)); o_facts WE_int; (with_reducible refine .add ?_); ((with_reducible refine' WE_name ?hx32 ?hd32 ?_); (case hx32 => walk_at "np at"); (case hd32 => first | exact neU rfl | assumption)); o_facts WE_int; ((with_reducible refine' ⟨_, set_at ?a33 ?b33 ?c33 ?d33, ?_⟩); (case a33 => walk_at "np mod"); (case b33 => decide); (case c33 => (first | decide | (simp; done) | (simp; omega))); (case d33 => decide)); o_facts WS_cons; row_cond WX_assign; o_facts WE_bin; o_facts WE_bin; ((with_reducible refine WE_item ?_ ?hs34); (case hs34 => (intro _ _; rfl))); ((with_reducible refine WE_item ?_ ?hs35); (case hs35 => (intro _ _; rfl))); ((with_reducible refine' WE_name ?hx36 ?hd36 ?_); (case hx36 => walk_at "np at"); (case hd36 => first | exact neU rfl | assumption)); o_facts WE_int; ((with_reducible refine' ⟨_, item_ref ?a37 ?b37 ?c37 ?d37, ?_⟩); (case a37 => walk_at "np hat"); (case b37 => decide); (case c37 => decide); (case d37 => rfl)); o_facts WE_bin; ((with_reducible refine WE_item ?_ ?hs38); (case hs38 => (intro _ _; rfl))); ((with_reducible refine' WE_name ?hx39 ?hd39 ?_); (case hx39 => walk_at "np at"); (case hd39 => first | exact neU rfl | assumption)); o_facts WE_int; ((with_reducible refine' ⟨_, item_ref ?a40 ?b40 ?c40 ?d40, ?_⟩); (case a40 => walk_at "np hat"); (case b40 => decide); (case c40 => decide); (case d40 => rfl)); row_room_at WE_len; w_dflts WL_cons; ((with_reducible refine WE_item ?_ ?hs41); (case hs41 => (intro _ _; rfl))); ((with_reducible refine' WE_name ?hx42 ?hd42 ?_); (case hx42 => walk_at "np at"); (case hd42 => first | exact neU rfl | assumption)); o_facts WE_int; ((with_reducible refine' ⟨_, item_ref ?a43 ?b43 ?c43 ?d43, ?_⟩); (case a43 => walk_at "np hat"); (case b43 => decide); (case c43 => decide); (case d43 => rfl)); o_facts WL_nil; ((with_reducible refine' call_len ?a44 ?b44 ?_); (case a44 => walk_at "np lst"); (case b44 => walk_at "np ar")))
    have k0 : (0 : Int) < ((cells.map V.int).length : Nat) := by simp; omega
    refine BinK.mod (by omega) ?_
    obtain ⟨z, hz⟩ := item_ints (cells := cells) (fmod_lo (n + 1) k0) (by have := fmod_hi (n + 1) k0; simpa using this)
    refine ⟨_, item_lst (fmod_lo _ k0) (by have := fmod_hi (n + 1) k0; simp at this ⊢; omega) hz, ?_⟩
    (o_facts WE_bin; o_facts WE_int; ((with_reducible refine WE_item ?_ ?hs45); (case hs45 => (intro _ _; rfl))); ((with_reducible refine' WE_name ?hx46 ?hd46 ?_); (case hx46 => walk_at "np at"); (case hd46 => first | exact neU rfl | assumption)); o_facts WE_int; ((with_reducible refine' ⟨_, item_ref ?a47 ?b47 ?c47 ?d47, ?_⟩); (case a47 => walk_at "np hat"); (case b47 => decide); (case c47 => decide); (case d47 => rfl)))
    refine BinK.mul (IntMulOk.of_left (by decide)) ?_
    ((with_reducible refine .add ?_); o_facts WE_int)
    refine BinK.mod (by decide) ?_
    (((with_reducible refine' ⟨_, ?ls48, ?_⟩); (case ls48 => walk_at "np set")); o_facts WS_cons; row_cond WX_assign; o_facts WE_bin; o_facts WE_bin; o_facts WE_bin; ((with_reducible refine' WE_name ?hx49 ?hd49 ?_); (case hx49 => walk_at "np at"); (case hd49 => first | exact neU rfl | assumption)); ((with_reducible refine' WE_name ?hx50 ?hd50 ?_); (case hx50 => walk_at "np at"); (case hd50 => first | exact neU rfl | assumption)))
    have m0 := fmod_lo (z + 1640531527 * (n + 1)) (show (0 : Int) < 4294966297 by decide)
    have m1 := fmod_hi (z + 1640531527 * (n + 1)) (show (0 : Int) < 4294966297 by decide)
    revert m0 m1
    generalize Int.fmod (z + 1640531527 * (n + 1)) 4294966297 = w
    intro m0 m1
    refine BinK.mul (IntMulOk.of_left (intBits_le_64 (by omega) (by omega))) ?_
    (o_facts WE_bin; o_facts WE_int; ((with_reducible refine WE_item ?_ ?hs51); (case hs51 => (intro _ _; rfl))); ((with_reducible refine' WE_name ?hx52 ?hd52 ?_); (case hx52 => walk_at "np at"); (case hd52 => first | exact neU rfl | assumption)); o_facts WE_int; ((with_reducible refine' ⟨_, item_ref ?a53 ?b53 ?c53 ?d53, ?_⟩); (case a53 => walk_at "np hat"); (case b53 => decide); (case c53 => decide); (case d53 => rfl)))
    refine BinK.mul (IntMulOk.of_left (by decide)) ?_
    ((with_reducible refine .add ?_); o_facts WE_int)
    refine BinK.mod (by decide) ?_
    (((with_reducible refine' ⟨_, ?ls54, ?_⟩); (case ls54 => walk_at "np set")); o_facts WS_cons; o_facts WX_ret; o_facts WE_bin; o_facts WE_bin; o_facts WE_bin; o_facts WE_bin; ((with_reducible refine' WE_name ?hx55 ?hd55 ?_); (case hx55 => walk_at "np at"); (case hd55 => first | exact neU rfl | assumption)); ((with_reducible refine' WE_name ?hx56 ?hd56 ?_); (case hx56 => walk_at "np at"); (case hd56 => first | exact neU rfl | assumption)))
    have m2 := fmod_lo (w * w + 122949823 * (n + 1)) (show (0 : Int) < 4294966237 by decide)
    have m3 := fmod_hi (w * w + 122949823 * (n + 1)) (show (0 : Int) < 4294966237 by decide)
    revert m2 m3
    generalize Int.fmod (w * w + 122949823 * (n + 1)) 4294966237 = y
    intro m2 m3
    refine BinK.mul (IntMulOk.of_left (intBits_le_64 (by omega) (by omega))) ?_
    (o_facts WE_int)
    refine BinK.mod (by decide) ?_
    (o_facts WE_int)
    refine BinK.fdiv (by decide) (PyProof.noPylong_small (by decide)) ?_
    (((with_reducible refine' WE_name ?hx57 ?hd57 ?_); (case hx57 => walk_at "np at"); (case hd57 => first | exact neU rfl | assumption)))
    refine BinK.mod (by omega) ?_
    exact hP _ (n + 1) [] (fmod_lo _ hm) (fmod_hi _ hm) (by omega) (by omega) (Nat.le_refl _)
theorem cut_mid {α : Type} {A B C new l : List α} {i j : Int} {n : Nat} (hl : l = A ++ (B ++ C)) (hi : i = A.length) (hj : j = A.length + B.length) (hn : n = l.length) : cutV (kms_lo (some i) n) (kms_hi (some j) n) new l = A ++ (new ++ C) := by
  subst hl hi hj hn
  have e1 : kms_lo (some (A.length : Int)) (A ++ (B ++ C)).length = A.length := by simp [kms_lo]; omega
  have e2 : kms_hi (some ((A.length : Int) + B.length)) (A ++ (B ++ C)).length = A.length + B.length := by
    unfold kms_hi
    simp only [List.length_append]
    rw [if_neg (by omega)]
    omega
  rw [e1, e2]
  unfold cutV
  rw [show max A.length (A.length + B.length) = A.length + B.length by omega, List.take_left', List.append_assoc, ← List.append_assoc A B C, List.drop_left']
  · simp
  · rfl
theorem split_cons {w : Wd} {m left : Nat} {r : List Sr} (h : 0 < left) : split ((w, m) :: r) left = if w.1 = false then ((w, m) :: (split r left).1, (split r left).2 + 1) else if left < m then ((w, left) :: (w, m - left) :: r, 1) else ((w, m) :: (split r (left - m)).1, (split r (left - m)).2 + 1) := by
  rw [split, if_neg (by omega)]
theorem len_snoc {α : Type} {l : List α} {x : α} : (((l ++ [x]).length : Nat) : Int) = (l.length : Nat) + 1 := by rw [List.length_append]; rfl
theorem snoc_cons {α : Type} {l r : List α} {x : α} : (l ++ [x]) ++ r = l ++ x :: r := by rw [List.append_assoc]; rfl
noncomputable abbrev bes (s a d : Nat) (l : List Sr) (st en : Int) (rest : Hp) : Hp := (s, .list (l.map eS)) :: (a, .inst 130 d) :: (d, .dict [("stretches", .ref s), ("start", .int st), ("end", .int en)]) :: rest
noncomputable def SplitI (F : Nat × O) (s a d : Nat) (l : List Sr) (off : Nat) (st en : Int) (rest : Hp) (n : Nat) (loc : Loc) (hp : Hp) : Prop := ∃ (done todo : List Sr) (left : Nat) (W M : V), n = todo.length + left ∧ split l off = (done ++ (split todo left).1, done.length + (split todo left).2) ∧ done.length + todo.length ≤ l.length + 1 ∧ (0 < left → done.length + todo.length ≤ l.length) ∧
    loc = ([("beside", .ref a), ("offset", .int off), ("at", .int done.length), ("left", .int left), ("word", W), ("many", M)] : Loc) ∧
    hp = F :: bes s a d (done ++ todo) st en rest
theorem split_ok {c : Ctx} {loc : Loc} {F : Nat × O} {s a d : Nat} {l : List Sr} {off : Nat} {st en : Int} {rest : Hp} {P : Hp → V → Prop} (hcm : c.fi.cm = none) (room : c.Room 1) (hl : l.length < 10000)
  (hP : P (F :: bes s a d (split l off).1 st en rest) (.int (split l off).2)) :
  CallOk c loc (F :: bes s a d l st en rest) (.ref 141) [.ref a, .int off] P := by
  refine callF (names := ["beside", "offset"]) (rest := ["at", "left", "word", "many"]) (loc0 := [("beside", .ref a), ("offset", .int off), ("at", .undef), ("left", .undef), ("word", .undef), ("many", .undef)]) hcm room (by exact rfl) (by kernel_rfl) (fun ws h => by obtain ⟨a, b, rfl⟩ := ws2 h; rfl) (by decide) (by decide) (by decide) (by decide) rfl rfl fun r hw room => ?_
  (o_facts WS_cons; row_cond WX_assign; o_facts WE_int; ((with_reducible refine' ⟨_, ?ls1, ?_⟩); (case ls1 => walk_at "np set")); o_facts WS_cons; row_cond WX_assign; ((with_reducible refine' WE_name ?hx2 ?hd2 ?_); (case hx2 => walk_at "np at"); (case hd2 => first | exact neU rfl | assumption)); ((with_reducible refine' ⟨_, ?ls3, ?_⟩); (case ls3 => walk_at "np set")); o_facts WS_cons)
  refine WX_while (SplitI F s a d l off st en rest) (l.length + off) ⟨[], l, off, .undef, .undef, rfl, by simp, by simp, by simp, rfl, rfl⟩ ?_
  rintro n loc hp ⟨done, todo, left, W, M, hn, hs, hz, hz', rfl, rfl⟩
  rcases todo with _ | ⟨⟨w, m⟩, r⟩
  · (o_facts WT_bool; o_facts WB_and; w_dflts WT_cmp; ((with_reducible refine' WE_name ?hx4 ?hd4 ?_); (case hx4 => walk_at "np at"); (case hd4 => first | exact neU rfl | assumption)); row_room_at WE_len; w_dflts WL_cons; w_dflts WE_attr; ((with_reducible refine' WE_name ?hx5 ?hd5 ?_); (case hx5 => walk_at "np at"); (case hd5 => first | exact neU rfl | assumption)); ((with_reducible refine' ⟨_, AttrV.ref ?a6 ?b6 ?c6 ?d6 ?e6, ?_⟩); (case a6 => walk_at "np hat"); (case b6 => walk_at "np hat"); (case c6 => walk_at "np at"); (case d6 => rfl); (case e6 => with_reducible exact gk_stretches _)); o_facts WL_nil; ((with_reducible refine' call_len ?a7 ?b7 ?_); (case a7 => walk_at "np lst"); (case b7 => walk_at "np ar")))
    refine tst_f cmp_lt (by simp) ?_
    (o_facts WS_cons; o_facts WX_ret; ((with_reducible refine' WE_name ?hx8 ?hd8 ?_); (case hx8 => walk_at "np at"); (case hd8 => first | exact neU rfl | assumption)))
    rw [hs] at hP
    simpa [split] using hP
  · (o_facts WT_bool; o_facts WB_and; w_dflts WT_cmp; ((with_reducible refine' WE_name ?hx9 ?hd9 ?_); (case hx9 => walk_at "np at"); (case hd9 => first | exact neU rfl | assumption)); row_room_at WE_len; w_dflts WL_cons; w_dflts WE_attr; ((with_reducible refine' WE_name ?hx10 ?hd10 ?_); (case hx10 => walk_at "np at"); (case hd10 => first | exact neU rfl | assumption)); ((with_reducible refine' ⟨_, AttrV.ref ?a11 ?b11 ?c11 ?d11 ?e11, ?_⟩); (case a11 => walk_at "np hat"); (case b11 => walk_at "np hat"); (case c11 => walk_at "np at"); (case d11 => rfl); (case e11 => with_reducible exact gk_stretches _)); o_facts WL_nil; ((with_reducible refine' call_len ?a12 ?b12 ?_); (case a12 => walk_at "np lst"); (case b12 => walk_at "np ar")))
    refine tst_t cmp_lt (by simp; omega) ?_
    (o_facts WB_and; w_dflts WT_cmp; ((with_reducible refine' WE_name ?hx13 ?hd13 ?_); (case hx13 => walk_at "np at"); (case hd13 => first | exact neU rfl | assumption)); o_facts WE_int)
    refine tst_int cmp_gt (fun h => ?_) (fun h => ?_)
    · (o_facts WB_andN; o_facts WS_cons)
      refine WX_unpack (ns := [("word", _), ("many", _)]) ?_ rfl (List.forall_mem_cons.mpr ⟨rfl, List.forall_mem_cons.mpr ⟨rfl, List.forall_mem_nil _⟩⟩) rfl rfl
      (((with_reducible refine WE_item ?_ ?hs14); (case hs14 => (intro _ _; rfl))); w_dflts WE_attr; ((with_reducible refine' WE_name ?hx15 ?hd15 ?_); (case hx15 => walk_at "np at"); (case hd15 => first | exact neU rfl | assumption)); ((with_reducible refine' ⟨_, AttrV.ref ?a16 ?b16 ?c16 ?d16 ?e16, ?_⟩); (case a16 => walk_at "np hat"); (case b16 => walk_at "np hat"); (case c16 => walk_at "np at"); (case d16 => rfl); (case e16 => with_reducible exact gk_stretches _)); ((with_reducible refine' WE_name ?hx17 ?hd17 ?_); (case hx17 => walk_at "np at"); (case hd17 => first | exact neU rfl | assumption)))
      refine ⟨_, item_ref (X := eS (w, m)) (by walk_at "np hat") (by omega) (by omega) (by simp), ?_⟩
      refine ⟨_, _, .lst, rfl, .cons (by walk_at "np set") (.cons (by walk_at "np set") .nil), ?_⟩
      (o_facts WS_cons)
      (o_facts WX_if; w_dflts WT_cmp; ((with_reducible refine' WE_name ?hx18 ?hd18 ?_); (case hx18 => walk_at "np at"); (case hd18 => first | exact neU rfl | assumption)); o_facts WE_str)
      refine tst_int cmp_neS (fun h2 => ?_) (fun h2 => ?_)
      · (o_facts WS_cons)
        (o_facts WX_if; w_dflts WT_cmp; ((with_reducible refine' WE_name ?hx19 ?hd19 ?_); (case hx19 => walk_at "np at"); (case hd19 => first | exact neU rfl | assumption)); ((with_reducible refine' WE_name ?hx20 ?hd20 ?_); (case hx20 => walk_at "np at"); (case hd20 => first | exact neU rfl | assumption)))
        refine tst_int cmp_gt (fun h3 => ?_) (fun h3 => ?_)
        · (o_facts WS_cons; w_dflts WX_setSlice)
          refine WE_listF ?_
          refine WL_cons (WE_listF ?_) rfl
          (w_dflts WL_cons; ((with_reducible refine' WE_name ?hx21 ?hd21 ?_); (case hx21 => walk_at "np at"); (case hd21 => first | exact neU rfl | assumption)); w_dflts WL_cons; ((with_reducible refine' WE_name ?hx22 ?hd22 ?_); (case hx22 => walk_at "np at"); (case hd22 => first | exact neU rfl | assumption)); o_facts WL_nil; ((with_reducible refine' And.intro ?a23 ?_); (case a23 => exact Nat.le_of_ble_eq_true rfl)); w_dflts WL_cons)
          refine WE_listF ?_
          (w_dflts WL_cons; ((with_reducible refine' WE_name ?hx24 ?hd24 ?_); (case hx24 => walk_at "np at"); (case hd24 => first | exact neU rfl | assumption)); w_dflts WL_cons; o_facts WE_bin; ((with_reducible refine' WE_name ?hx25 ?hd25 ?_); (case hx25 => walk_at "np at"); (case hd25 => first | exact neU rfl | assumption)); ((with_reducible refine' WE_name ?hx26 ?hd26 ?_); (case hx26 => walk_at "np at"); (case hd26 => first | exact neU rfl | assumption)); (with_reducible refine .sub ?_); o_facts WL_nil; ((with_reducible refine' And.intro ?a27 ?_); (case a27 => exact Nat.le_of_ble_eq_true rfl)); o_facts WL_nil; ((with_reducible refine' And.intro ?a28 ?_); (case a28 => exact Nat.le_of_ble_eq_true rfl)); w_dflts WE_attr; ((with_reducible refine' WE_name ?hx29 ?hd29 ?_); (case hx29 => walk_at "np at"); (case hd29 => first | exact neU rfl | assumption)); ((with_reducible refine' ⟨_, AttrV.ref ?a30 ?b30 ?c30 ?d30 ?e30, ?_⟩); (case a30 => walk_at "np hat"); (case b30 => walk_at "np hat"); (case c30 => walk_at "np at"); (case d30 => rfl); (case e30 => with_reducible exact gk_stretches _)); ((with_reducible refine' WE_name ?hx31 ?hd31 ?_); (case hx31 => walk_at "np at"); (case hd31 => first | exact neU rfl | assumption)); o_facts WE_bin; ((with_reducible refine' WE_name ?hx32 ?hd32 ?_); (case hx32 => walk_at "np at"); (case hd32 => first | exact neU rfl | assumption)); o_facts WE_int; (with_reducible refine .add ?_))
          refine ⟨_, _, _, _, _, _, rfl, rfl, rfl, rfl, (by walk_at "np mod"), size_ok (by simp at *; omega), ?_⟩
          (o_facts WS_cons; row_cond WX_assign; ((with_reducible refine' WE_name ?hx33 ?hd33 ?_); (case hx33 => walk_at "np at"); (case hd33 => first | exact neU rfl | assumption)); ((with_reducible refine' ⟨_, ?ls34, ?_⟩); (case ls34 => walk_at "np set")); o_facts WS_nil; o_facts WS_cons; row_cond WX_assign; o_facts WE_bin; ((with_reducible refine' WE_name ?hx35 ?hd35 ?_); (case hx35 => walk_at "np at"); (case hd35 => first | exact neU rfl | assumption)); ((with_reducible refine' WE_name ?hx36 ?hd36 ?_); (case hx36 => walk_at "np at"); (case hd36 => first | exact neU rfl | assumption)); (with_reducible refine .sub ?_); ((with_reducible refine' ⟨_, ?ls37, ?_⟩); (case ls37 => walk_at "np set")); o_facts WS_nil; o_facts WS_cons; row_cond WX_assign; o_facts WE_bin; ((with_reducible refine' WE_name ?hx38 ?hd38 ?_); (case hx38 => walk_at "np at"); (case hd38 => first | exact neU rfl | assumption)); o_facts WE_int; (with_reducible refine .add ?_); ((with_reducible refine' ⟨_, ?ls39, ?_⟩); (case ls39 => walk_at "np set")); o_facts WS_nil)
          have hw1 : w.1 = true := by cases q : w.1; exact absurd (wS_new.mpr q) h2; rfl
          have h3' : left < m := by omega
          rw [split_cons (by omega), if_neg (by simp [hw1]), if_pos h3'] at hs
          refine ⟨_, ?_, done ++ [(w, left)], (w, m - left) :: r, 0, .str (wS w), .int left, rfl, ?_, ?_, fun q => absurd q (Nat.lt_irrefl 0), ?_, ?_⟩
          · simp at hn ⊢; omega
          · rw [hs, split, if_pos rfl, snoc_cons, List.length_append]; rfl
          · simp at hz' ⊢; omega
          · rw [len_snoc, Int.sub_self]; rfl
          · unfold bes
            rw [cut_mid (A := done.map eS) (B := [eS (w, m)]) (C := r.map eS) (by rw [List.map_append]; rfl) (by rw [List.length_map]) (by rw [List.length_map]; rfl) rfl, snoc_cons, List.map_append, List.map_cons, List.map_cons]
            simp only [eS]
            rw [Int.ofNat_sub (by omega)]
            rfl
        · (o_facts WS_nil; o_facts WS_cons; row_cond WX_assign; o_facts WE_bin; ((with_reducible refine' WE_name ?hx40 ?hd40 ?_); (case hx40 => walk_at "np at"); (case hd40 => first | exact neU rfl | assumption)); ((with_reducible refine' WE_name ?hx41 ?hd41 ?_); (case hx41 => walk_at "np at"); (case hd41 => first | exact neU rfl | assumption)); (with_reducible refine .sub ?_); ((with_reducible refine' ⟨_, ?ls42, ?_⟩); (case ls42 => walk_at "np set")); o_facts WS_nil; o_facts WS_cons; row_cond WX_assign; o_facts WE_bin; ((with_reducible refine' WE_name ?hx43 ?hd43 ?_); (case hx43 => walk_at "np at"); (case hd43 => first | exact neU rfl | assumption)); o_facts WE_int; (with_reducible refine .add ?_); ((with_reducible refine' ⟨_, ?ls44, ?_⟩); (case ls44 => walk_at "np set")); o_facts WS_nil)
          have hw1 : w.1 = true := by cases q : w.1; exact absurd (wS_new.mpr q) h2; rfl
          have h3' : ¬ left < m := fun q => h3 (by exact Int.ofNat_lt.mpr q)
          rw [split_cons (by omega), if_neg (by simp [hw1]), if_neg h3'] at hs
          refine ⟨_, ?_, done ++ [(w, m)], r, left - m, .str (wS w), .int m, rfl, ?_, ?_, fun q => ?_, ?_, ?_⟩
          · simp at hn ⊢; omega
          · rw [hs, snoc_cons, List.length_append, Nat.add_assoc, List.length_singleton, Nat.add_comm 1]
          · simp at hz ⊢; omega
          · have := hz' (by omega); simp at this ⊢; omega
          · rw [len_snoc, Int.ofNat_sub (by omega)]
          · rw [snoc_cons]
      · (o_facts WS_nil; o_facts WS_cons; row_cond WX_assign; o_facts WE_bin; ((with_reducible refine' WE_name ?hx45 ?hd45 ?_); (case hx45 => walk_at "np at"); (case hd45 => first | exact neU rfl | assumption)); o_facts WE_int; (with_reducible refine .add ?_); ((with_reducible refine' ⟨_, ?ls46, ?_⟩); (case ls46 => walk_at "np set")); o_facts WS_nil)
        have hw1 : w.1 = false := wS_new.mp (Decidable.not_not.mp h2)
        rw [split_cons (by omega), if_pos hw1] at hs
        refine ⟨_, ?_, done ++ [(w, m)], r, left, .str (wS w), .int m, rfl, ?_, ?_, fun q => ?_, ?_, ?_⟩
        · simp at hn ⊢; omega
        · rw [hs, snoc_cons, List.length_append, Nat.add_assoc, List.length_singleton, Nat.add_comm 1]
        · simp at hz ⊢; omega
        · have := hz' (by omega); simp at this ⊢; omega
        · rw [len_snoc]
        · rw [snoc_cons]
    · (o_facts WS_cons; o_facts WX_ret; ((with_reducible refine' WE_name ?hx47 ?hd47 ?_); (case hx47 => walk_at "np at"); (case hd47 => first | exact neU rfl | assumption)))
      obtain rfl : left = 0 := by omega
      rw [hs] at hP
      simpa [split] using hP
noncomputable def here (l : List Sr) : Nat := ((l.filter fun x => !(x.1.1 && !x.1.2)).map (·.2)).sum
theorem sum_cast {α : Type} {f : α → Nat} {l : List α} : (l.map fun x => ((f x : Nat) : Int)).sum = ((l.map f).sum : Nat) := by
  induction l with
  | nil => rfl
  | cons x l ih => rw [List.map_cons, List.map_cons, List.sum_cons, List.sum_cons, ih, Int.natCast_add]
theorem here_ok {c : Ctx} {loc : Loc} {F : Nat × O} {s a d : Nat} {l : List Sr} {k : Nat} {st en : Int} {rest : Hp} {P : Hp → V → Prop} (hcm : c.fi.cm = none) (room : c.Room 1) (hl : l.length < 10000)
  (hP : P (F :: bes s a d l st en rest) (.int (1 + here (l.take k)))) :
  CallOk c loc (F :: bes s a d l st en rest) (.ref 146) [.ref a, .int k] P := by
  refine callF (names := ["beside", "at"]) (rest := []) (loc0 := [("beside", .ref a), ("at", .int k)]) hcm room (by exact rfl) (by kernel_rfl) (fun ws h => by obtain ⟨a, b, rfl⟩ := ws2 h; rfl) (by decide) (by decide) (by decide) (by decide) rfl rfl fun r hw room => ?_
  (o_facts WS_cons; o_facts WX_ret; o_facts WE_bin; o_facts WE_int; row_room_at WE_sum; w_dflts WL_cons; ((with_reducible refine WE_compL ?_ ?a1 ?b1 ?c1 ?d1); (case a1 => rfl); (case b1 => rfl); (case c1 => decide); (case d1 => (intro _; rfl))); o_facts WE_sliceTo; w_dflts WE_attr; ((with_reducible refine' WE_name ?hx2 ?hd2 ?_); (case hx2 => walk_at "np at"); (case hd2 => first | exact neU rfl | assumption)); ((with_reducible refine' ⟨_, AttrV.ref ?a3 ?b3 ?c3 ?d3 ?e3, ?_⟩); (case a3 => walk_at "np hat"); (case b3 => walk_at "np hat"); (case c3 => walk_at "np at"); (case d3 => rfl); (case e3 => with_reducible exact gk_stretches _)); ((with_reducible refine' WE_name ?hx4 ?hd4 ?_); (case hx4 => walk_at "np at"); (case hd4 => first | exact neU rfl | assumption)); ((with_reducible refine' ⟨_, _, ?a5, rfl, ?b5, ?_⟩); (case a5 => walk_at "np lst"); (case b5 => exact size_ok (by walk_at "np ar"))))
  refine compS_of (l.take k) eS (fun x => .int x.2) (fun x => !(x.1.1 && !x.1.2)) ?_ (size_ok (by simp; omega)) (fun x _ => ?_) ?_
  · rw [slc_to, List.map_take]; exact .lst
  · refine elt_pair rfl rfl (by decide) rfl (by decide) fun C oC => ⟨tests1 ?_, fun _ => ?_⟩
    · (w_dflts WT_cmp; ((with_reducible refine' WE_name ?hx6 ?hd6 ?_); (case hx6 => walk_at "np at"); (case hd6 => first | exact neU rfl | assumption)); o_facts WE_str)
      refine tst_int cmp_neS (fun h2 => ⟨rfl, ?_⟩) (fun h2 => ⟨rfl, ?_⟩)
      · cases q : (x.1.1 && !x.1.2)
        · rfl
        · exact absurd (wS_gone.mpr (by simpa using q)) h2
      · have := wS_gone.mp (Decidable.not_not.mp h2)
        rw [this.1, this.2]; rfl
    · (((with_reducible refine' WE_name ?hx7 ?hd7 ?_); (case hx7 => walk_at "np at"); (case hd7 => first | exact neU rfl | assumption)))
      exact ⟨rfl, rfl⟩
  · (o_facts WL_nil)
    refine call_sum (ns := ((l.take k).filter fun x => !(x.1.1 && !x.1.2)).map fun x => (x.2 : Int)) (by rw [List.map_map]; exact .lst) ?_
    rw [sum_cast (f := fun x : Sr => x.2)]
    exact .add hP
theorem split_grow : ∀ {l : List Sr} {n : Nat}, l.length ≤ (split l n).1.length ∧ (split l n).1.length ≤ l.length + 1 ∧ (split l n).2 ≤ (split l n).1.length
  | [], n => by simp [split]
  | (w, m) :: r, n => by
    have h1 := split_grow (l := r) (n := n)
    have h2 := split_grow (l := r) (n := n - m)
    unfold split
    split
    · simp
    · split
      · simp; omega
      · split
        · simp
        · simp; omega
noncomputable def skipN (l : List Sr) (first : Nat) : Nat → Nat
  | 0 => first
  | k + 1 => if (l[first]?).any (fun x => !x.1.1) then skipN l (first + 1) k else first
/-- where the range begins and ends, and the stretches then -/
noncomputable def rng3 (l : List Sr) (A B : Nat) : List Sr × Nat × Nat :=
  ((split (split (split l A).1 B).1 A).1, skipN (split (split (split l A).1 B).1 A).1 (split (split (split l A).1 B).1 A).2 ((split (split l A).1 B).2 - (split (split (split l A).1 B).1 A).2), (split (split l A).1 B).2)
noncomputable def RngI (F : Nat × O) (s a d : Nat) (l : List Sr) (A B : Int) (last f0 : Nat) (st en : Int) (rest : Hp) (n : Nat) (loc : Loc) (hp : Hp) : Prop := ∃ first : Nat, n = last - first ∧ skipN l f0 (last - f0) = skipN l first (last - first) ∧
    loc = ([("beside", .ref a), ("start", .int A), ("end", .int B), ("last", .int last), ("first", .int first)] : Loc) ∧ hp = F :: bes s a d l st en rest
theorem rng_ok {c : Ctx} {loc : Loc} {F : Nat × O} {s a d : Nat} {l : List Sr} {A B : Nat} {i j : Int} {st en : Int} {rest : Hp} {P : Hp → V → Prop} (hcm : c.fi.cm = none) (room : c.Room 2) (hl : l.length < 9000) (hi : i - 1 = A) (hj : j - 1 = B)
  (hP : P (F :: bes s a d (rng3 l A B).1 st en rest) (.tup [.int (rng3 l A B).2.1, .int (rng3 l A B).2.2])) :
  CallOk c loc (F :: bes s a d l st en rest) (.ref 153) [.ref a, .int i, .int j] P := by
  refine callF (names := ["beside", "start", "end"]) (rest := ["last", "first"]) (loc0 := [("beside", .ref a), ("start", .int i), ("end", .int j), ("last", .undef), ("first", .undef)]) hcm room (by exact rfl) (by kernel_rfl) (fun ws h => by obtain ⟨a, b, c, rfl⟩ := ws3 h; rfl) (by decide) (by decide) (by decide) (by decide) rfl rfl fun r hw room => ?_
  have g1 := split_grow (l := l) (n := A)
  have g2 := split_grow (l := (split l A).1) (n := B)
  have g3 := split_grow (l := (split (split l A).1 B).1) (n := A)
  (o_facts WS_cons; row_more WX_expr; ((with_reducible refine' WE_own ?o1 ?_ ?a1 ?b1 ?c1 ?d1); (case o1 => with_reducible exact o_split_there _); (case a1 => rfl); (case b1 => decide); (case c1 => first | exact ⟨rfl, rfl⟩ | exact trivial); (case d1 => rfl)); w_dflts WL_cons; ((with_reducible refine' WE_name ?hx2 ?hd2 ?_); (case hx2 => walk_at "np at"); (case hd2 => first | exact neU rfl | assumption)); w_dflts WL_cons; o_facts WE_bin; ((with_reducible refine' WE_name ?hx3 ?hd3 ?_); (case hx3 => walk_at "np at"); (case hd3 => first | exact neU rfl | assumption)); o_facts WE_int; (with_reducible refine .sub ?_); o_facts WL_nil)
  rw [hi]
  refine split_ok rfl room (by omega) ?_
  (o_facts WS_cons; row_cond WX_assign; ((with_reducible refine' WE_own ?o4 ?_ ?a4 ?b4 ?c4 ?d4); (case o4 => with_reducible exact o_split_there _); (case a4 => rfl); (case b4 => decide); (case c4 => first | exact ⟨rfl, rfl⟩ | exact trivial); (case d4 => rfl)); w_dflts WL_cons; ((with_reducible refine' WE_name ?hx5 ?hd5 ?_); (case hx5 => walk_at "np at"); (case hd5 => first | exact neU rfl | assumption)); w_dflts WL_cons; o_facts WE_bin; ((with_reducible refine' WE_name ?hx6 ?hd6 ?_); (case hx6 => walk_at "np at"); (case hd6 => first | exact neU rfl | assumption)); o_facts WE_int; (with_reducible refine .sub ?_); o_facts WL_nil)
  rw [hj]
  refine split_ok rfl room (by omega) ?_
  (((with_reducible refine' ⟨_, ?ls7, ?_⟩); (case ls7 => walk_at "np set")); o_facts WS_cons; row_cond WX_assign; ((with_reducible refine' WE_own ?o8 ?_ ?a8 ?b8 ?c8 ?d8); (case o8 => with_reducible exact o_split_there _); (case a8 => rfl); (case b8 => decide); (case c8 => first | exact ⟨rfl, rfl⟩ | exact trivial); (case d8 => rfl)); w_dflts WL_cons; ((with_reducible refine' WE_name ?hx9 ?hd9 ?_); (case hx9 => walk_at "np at"); (case hd9 => first | exact neU rfl | assumption)); w_dflts WL_cons; o_facts WE_bin; ((with_reducible refine' WE_name ?hx10 ?hd10 ?_); (case hx10 => walk_at "np at"); (case hd10 => first | exact neU rfl | assumption)); o_facts WE_int; (with_reducible refine .sub ?_); o_facts WL_nil)
  rw [hi]
  refine split_ok rfl room (by omega) ?_
  (((with_reducible refine' ⟨_, ?ls11, ?_⟩); (case ls11 => walk_at "np set")); o_facts WS_cons)
  unfold rng3 at hP
  revert hP g1 g2 g3
  generalize (split (split (split l A).1 B).1 A).1 = l3
  generalize (split (split (split l A).1 B).1 A).2 = f0
  generalize (split (split l A).1 B).2 = last
  intro hP g1 g2 g3
  refine WX_while (RngI F s a d l3 i j last f0 st en rest) (last - f0) ⟨f0, rfl, rfl, rfl, rfl⟩ ?_
  rintro n loc hp ⟨first, hn, hs, rfl, rfl⟩
  (o_facts WT_bool; o_facts WB_and; w_dflts WT_cmp; ((with_reducible refine' WE_name ?hx12 ?hd12 ?_); (case hx12 => walk_at "np at"); (case hd12 => first | exact neU rfl | assumption)); ((with_reducible refine' WE_name ?hx13 ?hd13 ?_); (case hx13 => walk_at "np at"); (case hd13 => first | exact neU rfl | assumption)))
  refine tst_int cmp_lt (fun h => ?_) (fun h => ?_)
  · obtain ⟨x, hx⟩ : ∃ x, l3[first]? = some x := ⟨l3[first]'(by omega), List.getElem?_eq_getElem (by omega)⟩
    (o_facts WB_and; w_dflts WT_cmp; ((with_reducible refine WE_item ?_ ?hs14); (case hs14 => (intro _ _; rfl))); ((with_reducible refine WE_item ?_ ?hs15); (case hs15 => (intro _ _; rfl))); w_dflts WE_attr; ((with_reducible refine' WE_name ?hx16 ?hd16 ?_); (case hx16 => walk_at "np at"); (case hd16 => first | exact neU rfl | assumption)); ((with_reducible refine' ⟨_, AttrV.ref ?a17 ?b17 ?c17 ?d17 ?e17, ?_⟩); (case a17 => walk_at "np hat"); (case b17 => walk_at "np hat"); (case c17 => walk_at "np at"); (case d17 => rfl); (case e17 => with_reducible exact gk_stretches _)); ((with_reducible refine' WE_name ?hx18 ?hd18 ?_); (case hx18 => walk_at "np at"); (case hd18 => first | exact neU rfl | assumption)))
    refine ⟨_, item_ref (X := eS x) (by walk_at "np hat") (by omega) (by omega) (by rw [List.getElem?_map]; exact congrArg (Option.map eS) hx), ?_⟩
    (o_facts WE_int; ((with_reducible refine' ⟨_, item_lst ?b19 ?c19 ?d19, ?_⟩); (case b19 => decide); (case c19 => decide); (case d19 => rfl)); o_facts WE_str)
    rw [show last - first = (last - first - 1) + 1 by omega, skipN, hx] at hs
    refine tst_int cmp_eqS (fun h2 => ?_) (fun h2 => ?_)
    · (o_facts WB_andN; o_facts WS_cons; row_cond WX_assign; o_facts WE_bin; ((with_reducible refine' WE_name ?hx20 ?hd20 ?_); (case hx20 => walk_at "np at"); (case hd20 => first | exact neU rfl | assumption)); o_facts WE_int; (with_reducible refine .add ?_); ((with_reducible refine' ⟨_, ?ls21, ?_⟩); (case ls21 => walk_at "np set")); o_facts WS_nil)
      rw [show (some x).any (fun x => !x.1.1) = true by simp [wS_new.mp h2], if_pos rfl] at hs
      exact ⟨_, by omega, first + 1, rfl, by rw [hs]; congr 1, rfl, rfl⟩
    · (o_facts WS_cons; o_facts WX_ret; o_facts WE_tuple; w_dflts WL_cons; ((with_reducible refine' WE_name ?hx22 ?hd22 ?_); (case hx22 => walk_at "np at"); (case hd22 => first | exact neU rfl | assumption)); w_dflts WL_cons; ((with_reducible refine' WE_name ?hx23 ?hd23 ?_); (case hx23 => walk_at "np at"); (case hd23 => first | exact neU rfl | assumption)); o_facts WL_nil; ((with_reducible refine' And.intro ?a24 ?_); (case a24 => exact Nat.le_of_ble_eq_true rfl)))
      have : x.1.1 = true := by cases q : x.1.1; exact absurd (wS_new.mpr q) h2; rfl
      rw [show (some x).any (fun x => !x.1.1) = false by simp [this], if_neg Bool.false_ne_true] at hs
      simp only [hs] at hP
      exact hP
  · (o_facts WS_cons; o_facts WX_ret; o_facts WE_tuple; w_dflts WL_cons; ((with_reducible refine' WE_name ?hx25 ?hd25 ?_); (case hx25 => walk_at "np at"); (case hd25 => first | exact neU rfl | assumption)); w_dflts WL_cons; ((with_reducible refine' WE_name ?hx26 ?hd26 ?_); (case hx26 => walk_at "np at"); (case hd26 => first | exact neU rfl | assumption)); o_facts WL_nil; ((with_reducible refine' And.intro ?a27 ?_); (case a27 => exact Nat.le_of_ble_eq_true rfl)))
    rw [show last - first = 0 by omega] at hs
    simp only [hs] at hP
    exact hP
noncomputable def untouched (l : List Sr) (f t : Nat) : Bool := decide (f < t) && ((l.drop f).take (t - f)).all fun x => x.1.1 && x.1.2
theorem unt_ok {c : Ctx} {loc : Loc} {F : Nat × O} {s a d : Nat} {l : List Sr} {f t : Nat} {st en : Int} {rest : Hp} {P : Hp → V → Prop} (hcm : c.fi.cm = none) (room : c.Room 1) (hl : l.length < 10000)
  (hP : P (F :: bes s a d l st en rest) (.bool (untouched l f t))) :
  CallOk c loc (F :: bes s a d l st en rest) (.ref 158) [.ref a, .int f, .int t] P := by
  refine callF (names := ["beside", "first", "last"]) (rest := []) (loc0 := [("beside", .ref a), ("first", .int f), ("last", .int t)]) hcm room (by exact rfl) (by kernel_rfl) (fun ws h => by obtain ⟨a, b, c, rfl⟩ := ws3 h; rfl) (by decide) (by decide) (by decide) (by decide) rfl rfl fun r hw room => ?_
  (o_facts WS_cons; o_facts WX_ret; o_facts WE_and; w_dflts WE_cmp; ((with_reducible refine' WE_name ?hx28 ?hd28 ?_); (case hx28 => walk_at "np at"); (case hd28 => first | exact neU rfl | assumption)); ((with_reducible refine' WE_name ?hx29 ?hd29 ?_); (case hx29 => walk_at "np at"); (case hd29 => first | exact neU rfl | assumption)))
  refine ⟨_, cmp_lt, _, rfl, fun h => ?_, fun h => ?_⟩
  · (w_dflts WE_cmp; ((with_reducible refine WE_compL ?_ ?a30 ?b30 ?c30 ?d30); (case a30 => rfl); (case b30 => rfl); (case c30 => decide); (case d30 => (intro _; rfl))); o_facts WE_slice; w_dflts WE_attr; ((with_reducible refine' WE_name ?hx31 ?hd31 ?_); (case hx31 => walk_at "np at"); (case hd31 => first | exact neU rfl | assumption)); ((with_reducible refine' ⟨_, AttrV.ref ?a32 ?b32 ?c32 ?d32 ?e32, ?_⟩); (case a32 => walk_at "np hat"); (case b32 => walk_at "np hat"); (case c32 => walk_at "np at"); (case d32 => rfl); (case e32 => with_reducible exact gk_stretches _)); ((with_reducible refine' WE_name ?hx33 ?hd33 ?_); (case hx33 => walk_at "np at"); (case hd33 => first | exact neU rfl | assumption)); ((with_reducible refine' WE_name ?hx34 ?hd34 ?_); (case hx34 => walk_at "np at"); (case hd34 => first | exact neU rfl | assumption)); ((with_reducible refine' ⟨_, _, _, ?a35, rfl, rfl, ?b35, ?_⟩); (case a35 => walk_at "np lst"); (case b35 => exact size_ok (by walk_at "np ar"))))
    rw [slc_ft, ← List.map_drop, ← List.map_take]
    refine compS_of ((l.drop f).take (t - f)) eS (fun _ => .int 1) (fun x => !(x.1.1 && x.1.2)) .lst (size_ok (by simp; omega)) (fun x _ => ?_) ?_
    · refine elt_pair rfl rfl (by decide) rfl (by decide) fun C oC => ⟨tests1 ?_, fun _ => ?_⟩
      · (w_dflts WT_cmp; ((with_reducible refine' WE_name ?hx36 ?hd36 ?_); (case hx36 => walk_at "np at"); (case hd36 => first | exact neU rfl | assumption)); o_facts WE_str)
        refine tst_int cmp_neS (fun h2 => ⟨rfl, ?_⟩) (fun h2 => ⟨rfl, ?_⟩)
        · cases q : (x.1.1 && x.1.2)
          · rfl
          · exact absurd (wS_same.mpr (by simpa using q)) h2
        · have := wS_same.mp (Decidable.not_not.mp h2)
          rw [this.1, this.2]; rfl
      · (o_facts WE_int)
        exact ⟨rfl, rfl⟩
    · refine WE_listF ?_
      (o_facts WL_nil; ((with_reducible refine' And.intro ?a37 ?_); (case a37 => exact Nat.le_of_ble_eq_true rfl)))
      refine ⟨_, cmp_eqNil .lst, ?_⟩
      have e : untouched l f t = decide ((((l.drop f).take (t - f)).filter fun x => !(x.1.1 && x.1.2)).map (fun _ => V.int 1) = []) := by
        unfold untouched
        rw [show decide (f < t) = true by simpa using h, Bool.true_and]
        rw [Bool.eq_iff_iff]
        simp [List.all_eq_true]
      rw [← e]
      exact hP
  · have e : untouched l f t = false := by
      unfold untouched
      rw [show decide (f < t) = false by simpa using h]; rfl
    rw [e] at hP
    exact hP
theorem cut_nat {α : Type} {f t : Nat} {new l : List α} : cutV (kms_lo (some (f : Int)) l.length) (kms_hi (some (t : Int)) l.length) new l = l.take f ++ new ++ l.drop (max f t) := by
  rw [kms_lo_nat, kms_hi_nat]
  unfold cutV
  congr 1
  · congr 1
    by_cases h : f ≤ l.length
    · rw [Nat.min_eq_left h]
    · rw [show min f l.length = l.length by omega, List.take_length, List.take_of_length_le (by omega)]
  · by_cases h : max f t ≤ l.length
    · congr 1; omega
    · rw [List.drop_of_length_le (by omega), List.drop_of_length_le (by omega)]
inductive Rw | ins (q m : Nat) | del (q : Nat) (xs : List Int) (b : Bool) | prop (q m : Nat) (p : Int) | bnd
noncomputable def pieceV (xs : List Int) : V := .obj 208 [("codes", .lst (xs.map V.int)), ("runs", .lst [])]
noncomputable def rwV : Rw → V
  | .ins q m => .tup [.str "insert", .int (q + 1), .int (q + 1 + m)]
  | .del q xs b => .tup [.str "delete", .int (q + 1), pieceV xs, .bool b]
  | .prop q m p => .tup [.str "property", .int (q + 1), .int (q + 1 + m), .int 7, .tup [.int p]]
  | .bnd => .tup [.str "boundary"]
noncomputable def newed (l : List Sr) : List Sr := (l.filter fun x => !(x.1.1 && !x.1.2)).map fun x => ((false, true), x.2)
/-- whether the range is there, untouched and in the region; its place -/
noncomputable def okR (R : List Sr × Nat × Nat) (st en : Int) (m : Nat) : Bool := untouched R.1 R.2.1 R.2.2 && (decide (st ≤ 1 + here (R.1.take R.2.1)) && decide ((1 + here (R.1.take R.2.1) + m : Int) ≤ en))
noncomputable def insR (R : List Sr × Nat × Nat) (st en : Int) (m : Nat) : List Sr × Int × Option Rw :=
  if okR R st en m = true then (R.1.take R.2.1 ++ R.1.drop (max R.2.1 R.2.2), en - m, some (.ins (here (R.1.take R.2.1)) m))
  else (R.1.take R.2.1 ++ newed ((R.1.drop R.2.1).take (R.2.2 - R.2.1)) ++ R.1.drop (max R.2.1 R.2.2), en, none)
noncomputable def delR (R : List Sr × Nat) (st en : Int) (xs : List Int) (b : Bool) : List Sr × Int × Option Rw :=
  if (decide (st ≤ 1 + here (R.1.take R.2)) && decide ((1 + here (R.1.take R.2) : Int) ≤ en)) = true then (R.1.take R.2 ++ ((true, true), xs.length) :: R.1.drop R.2, en + xs.length, some (.del (here (R.1.take R.2)) xs b))
  else (R.1.take R.2 ++ ((true, false), xs.length) :: R.1.drop R.2, en, none)
noncomputable def propR (R : List Sr × Nat × Nat) (st en : Int) (m : Nat) (p : Int) : List Sr × Int × Option Rw :=
  (R.1, en, if okR R st en m = true then some (.prop (here (R.1.take R.2.1)) m p) else none)
noncomputable def undo (l : List Sr) (st en : Int) : Rw → List Sr × Int × Option Rw
  | .ins q m => insR (rng3 l q (q + m)) st en m
  | .del q xs b => delR (split l q) st en xs b
  | .prop q m p => propR (rng3 l q (q + m)) st en m p
  | .bnd => (l, en, none)
noncomputable def outV : Option Rw → V
  | some r => rwV r
  | none => .none
theorem rng3_len {l : List Sr} {A B : Nat} : (rng3 l A B).1.length ≤ l.length + 3 := by
  have g1 := split_grow (l := l) (n := A)
  have g2 := split_grow (l := (split l A).1) (n := B)
  have g3 := split_grow (l := (split (split l A).1 B).1) (n := A)
  unfold rng3
  dsimp only
  omega
theorem not_gone {w : Wd} (h : wS w ≠ "gone") : (!(w.1 && !w.2)) = true := by
  cases q : (w.1 && !w.2)
  · rfl
  · exact absurd (wS_gone.mpr (by simpa using q)) h
theorem is_gone {w : Wd} (h : ¬ wS w ≠ "gone") : (!(w.1 && !w.2)) = false := by
  have := wS_gone.mp (Decidable.not_not.mp h)
  rw [this.1, this.2]; rfl
theorem uins_ok {c : Ctx} {loc : Loc} {F : Nat × O} {s a d : Nat} {l : List Sr} {q m : Nat} {st en : Int} {rest : Hp} {P : Hp → V → Prop} (hcm : c.fi.cm = none) (room : c.Room 3) (hl : l.length < 8000)
  (hP : P (F :: bes s a d (undo l st en (.ins q m)).1 st (undo l st en (.ins q m)).2.1 rest) (outV (undo l st en (.ins q m)).2.2)) :
  CallOk c loc (F :: bes s a d l st en rest) (.ref 163) [.ref a, rwV (.ins q m)] P := by
  refine callF (names := ["beside", "row"]) (rest := ["first", "last", "place", "many"]) (loc0 := [("beside", .ref a), ("row", .tup [.str "insert", .int (q + 1), .int (q + 1 + m)]), ("first", .undef), ("last", .undef), ("place", .undef), ("many", .undef)]) hcm room (by exact rfl) (by kernel_rfl) (fun ws h => by obtain ⟨a, b, rfl⟩ := ws2 h; rfl) (by decide) (by decide) (by decide) (by decide) rfl rfl fun r hw room => ?_
  have g := rng3_len (l := l) (A := q) (B := q + m)
  change P (F :: bes s a d (insR (rng3 l q (q + m)) st en m).1 st (insR (rng3 l q (q + m)) st en m).2.1 rest) (outV (insR (rng3 l q (q + m)) st en m).2.2) at hP
  (o_facts WS_cons)
  refine WX_unpack (ns := [("first", _), ("last", _)]) ?_ rfl (List.forall_mem_cons.mpr ⟨rfl, List.forall_mem_cons.mpr ⟨rfl, List.forall_mem_nil _⟩⟩) rfl rfl
  (((with_reducible refine' WE_own ?o1 ?_ ?a1 ?b1 ?c1 ?d1); (case o1 => with_reducible exact o_range_there _); (case a1 => rfl); (case b1 => decide); (case c1 => first | exact ⟨rfl, rfl⟩ | exact trivial); (case d1 => rfl)); w_dflts WL_cons; ((with_reducible refine' WE_name ?hx2 ?hd2 ?_); (case hx2 => walk_at "np at"); (case hd2 => first | exact neU rfl | assumption)); w_dflts WL_cons; ((with_reducible refine WE_item ?_ ?hs3); (case hs3 => (intro _ _; rfl))); ((with_reducible refine' WE_name ?hx4 ?hd4 ?_); (case hx4 => walk_at "np at"); (case hd4 => first | exact neU rfl | assumption)); o_facts WE_int; ((with_reducible refine' ⟨_, item_tup ?b5 ?c5 ?d5, ?_⟩); (case b5 => decide); (case c5 => decide); (case d5 => rfl)); w_dflts WL_cons; ((with_reducible refine WE_item ?_ ?hs6); (case hs6 => (intro _ _; rfl))); ((with_reducible refine' WE_name ?hx7 ?hd7 ?_); (case hx7 => walk_at "np at"); (case hd7 => first | exact neU rfl | assumption)); o_facts WE_int; ((with_reducible refine' ⟨_, item_tup ?b8 ?c8 ?d8, ?_⟩); (case b8 => decide); (case c8 => decide); (case d8 => rfl)); o_facts WL_nil)
  refine rng_ok (A := q) (B := q + m) rfl room (by omega) (by omega) (by omega) ?_
  revert hP g
  generalize rng3 l q (q + m) = R
  obtain ⟨l3, f, t⟩ := R
  dsimp only
  intro hP g
  refine ⟨_, _, .tup, rfl, .cons (by walk_at "np set") (.cons (by walk_at "np set") .nil), ?_⟩
  (o_facts WS_cons; row_cond WX_assign; ((with_reducible refine' WE_own ?o9 ?_ ?a9 ?b9 ?c9 ?d9); (case o9 => with_reducible exact o_here_at _); (case a9 => rfl); (case b9 => decide); (case c9 => first | exact ⟨rfl, rfl⟩ | exact trivial); (case d9 => rfl)); w_dflts WL_cons; ((with_reducible refine' WE_name ?hx10 ?hd10 ?_); (case hx10 => walk_at "np at"); (case hd10 => first | exact neU rfl | assumption)); w_dflts WL_cons; ((with_reducible refine' WE_name ?hx11 ?hd11 ?_); (case hx11 => walk_at "np at"); (case hd11 => first | exact neU rfl | assumption)); o_facts WL_nil)
  refine here_ok rfl ⟨by have := room.1; omega, by have := room.2; omega⟩ (by omega) ?_
  (((with_reducible refine' ⟨_, ?ls12, ?_⟩); (case ls12 => walk_at "np set")); o_facts WS_cons; row_cond WX_assign; o_facts WE_bin; ((with_reducible refine WE_item ?_ ?hs13); (case hs13 => (intro _ _; rfl))); ((with_reducible refine' WE_name ?hx14 ?hd14 ?_); (case hx14 => walk_at "np at"); (case hd14 => first | exact neU rfl | assumption)); o_facts WE_int; ((with_reducible refine' ⟨_, item_tup ?b15 ?c15 ?d15, ?_⟩); (case b15 => decide); (case c15 => decide); (case d15 => rfl)); ((with_reducible refine WE_item ?_ ?hs16); (case hs16 => (intro _ _; rfl))); ((with_reducible refine' WE_name ?hx17 ?hd17 ?_); (case hx17 => walk_at "np at"); (case hd17 => first | exact neU rfl | assumption)); o_facts WE_int; ((with_reducible refine' ⟨_, item_tup ?b18 ?c18 ?d18, ?_⟩); (case b18 => decide); (case c18 => decide); (case d18 => rfl)); (with_reducible refine .sub ?_); ((with_reducible refine' ⟨_, ?ls19, ?_⟩); (case ls19 => walk_at "np set")); o_facts WS_cons)
  refine WX_ifD (okR (l3, f, t) st en m) ?_ (fun h => ?_) (fun h => ?_)
  · (o_facts WT_bool; o_facts WB_and; w_dflts WT_val; ((with_reducible refine' WE_own ?o20 ?_ ?a20 ?b20 ?c20 ?d20); (case o20 => with_reducible exact o_is_untouched _); (case a20 => rfl); (case b20 => decide); (case c20 => first | exact ⟨rfl, rfl⟩ | exact trivial); (case d20 => rfl)); w_dflts WL_cons; ((with_reducible refine' WE_name ?hx21 ?hd21 ?_); (case hx21 => walk_at "np at"); (case hd21 => first | exact neU rfl | assumption)); w_dflts WL_cons; ((with_reducible refine' WE_name ?hx22 ?hd22 ?_); (case hx22 => walk_at "np at"); (case hd22 => first | exact neU rfl | assumption)); w_dflts WL_cons; ((with_reducible refine' WE_name ?hx23 ?hd23 ?_); (case hx23 => walk_at "np at"); (case hd23 => first | exact neU rfl | assumption)); o_facts WL_nil)
    refine unt_ok rfl ⟨by have := room.1; omega, by have := room.2; omega⟩ (by omega) ?_
    refine ⟨_, rfl, fun h => ?_, fun h => ⟨rfl, by unfold okR; rw [h]; rfl⟩⟩
    (o_facts WB_and; w_dflts WT_cmp; w_dflts WE_attr; ((with_reducible refine' WE_name ?hx24 ?hd24 ?_); (case hx24 => walk_at "np at"); (case hd24 => first | exact neU rfl | assumption)); ((with_reducible refine' ⟨_, AttrV.ref ?a25 ?b25 ?c25 ?d25 ?e25, ?_⟩); (case a25 => walk_at "np hat"); (case b25 => walk_at "np hat"); (case c25 => walk_at "np at"); (case d25 => rfl); (case e25 => with_reducible exact gk_start _)); ((with_reducible refine' WE_name ?hx26 ?hd26 ?_); (case hx26 => walk_at "np at"); (case hd26 => first | exact neU rfl | assumption)))
    refine tst_int cmp_le (fun h2 => ?_) (fun h2 => ⟨rfl, by unfold okR; rw [h, decide_eq_false h2]; rfl⟩)
    (o_facts WB_and; w_dflts WT_cmp; o_facts WE_bin; ((with_reducible refine' WE_name ?hx27 ?hd27 ?_); (case hx27 => walk_at "np at"); (case hd27 => first | exact neU rfl | assumption)); ((with_reducible refine' WE_name ?hx28 ?hd28 ?_); (case hx28 => walk_at "np at"); (case hd28 => first | exact neU rfl | assumption)); (with_reducible refine .add ?_); w_dflts WE_attr; ((with_reducible refine' WE_name ?hx29 ?hd29 ?_); (case hx29 => walk_at "np at"); (case hd29 => first | exact neU rfl | assumption)); ((with_reducible refine' ⟨_, AttrV.ref ?a30 ?b30 ?c30 ?d30 ?e30, ?_⟩); (case a30 => walk_at "np hat"); (case b30 => walk_at "np hat"); (case c30 => walk_at "np at"); (case d30 => rfl); (case e30 => with_reducible exact gk_end _)))
    refine tst_int cmp_le (fun h3 => ?_) (fun h3 => ⟨rfl, by unfold okR; rw [h, decide_eq_true h2, decide_eq_false (by dsimp only; omega)]; rfl⟩)
    (o_facts WB_andN)
    exact ⟨rfl, by unfold okR; rw [h, decide_eq_true h2, decide_eq_true (by dsimp only; omega)]; rfl⟩
  · unfold insR at g
    rw [h, if_pos rfl] at g
    (o_facts WS_cons; w_dflts WX_setSlice)
    refine WE_listF ?_
    (o_facts WL_nil; ((with_reducible refine' And.intro ?a31 ?_); (case a31 => exact Nat.le_of_ble_eq_true rfl)); w_dflts WE_attr; ((with_reducible refine' WE_name ?hx32 ?hd32 ?_); (case hx32 => walk_at "np at"); (case hd32 => first | exact neU rfl | assumption)); ((with_reducible refine' ⟨_, AttrV.ref ?a33 ?b33 ?c33 ?d33 ?e33, ?_⟩); (case a33 => walk_at "np hat"); (case b33 => walk_at "np hat"); (case c33 => walk_at "np at"); (case d33 => rfl); (case e33 => with_reducible exact gk_stretches _)); ((with_reducible refine' WE_name ?hx34 ?hd34 ?_); (case hx34 => walk_at "np at"); (case hd34 => first | exact neU rfl | assumption)); ((with_reducible refine' WE_name ?hx35 ?hd35 ?_); (case hx35 => walk_at "np at"); (case hd35 => first | exact neU rfl | assumption)))
    refine ⟨_, _, _, _, _, _, rfl, rfl, rfl, rfl, (by walk_at "np mod"), size_ok (by simp; omega), ?_⟩
    (o_facts WS_cons; w_dflts WX_setattr; o_facts WE_bin; w_dflts WE_attr; ((with_reducible refine' WE_name ?hx36 ?hd36 ?_); (case hx36 => walk_at "np at"); (case hd36 => first | exact neU rfl | assumption)); ((with_reducible refine' ⟨_, AttrV.ref ?a37 ?b37 ?c37 ?d37 ?e37, ?_⟩); (case a37 => walk_at "np hat"); (case b37 => walk_at "np hat"); (case c37 => walk_at "np at"); (case d37 => rfl); (case e37 => with_reducible exact gk_end _)); ((with_reducible refine' WE_name ?hx38 ?hd38 ?_); (case hx38 => walk_at "np at"); (case hd38 => first | exact neU rfl | assumption)); (with_reducible refine .sub ?_); ((with_reducible refine' WE_name ?hx39 ?hd39 ?_); (case hx39 => walk_at "np at"); (case hd39 => first | exact neU rfl | assumption)); ((with_reducible refine' sat_old ?a40 ?b40 ?c40 ?d40 ?e40 ?_); (case a40 => walk_at "np hat"); (case b40 => walk_at "np mod"); (case e40 => walk_at "np set"); (case c40 => with_reducible exact sk_end _); (case d40 => rfl)); o_facts WS_cons; o_facts WX_ret; o_facts WE_tuple; w_dflts WL_cons; o_facts WE_str; w_dflts WL_cons; ((with_reducible refine' WE_name ?hx41 ?hd41 ?_); (case hx41 => walk_at "np at"); (case hd41 => first | exact neU rfl | assumption)); w_dflts WL_cons; o_facts WE_bin; ((with_reducible refine' WE_name ?hx42 ?hd42 ?_); (case hx42 => walk_at "np at"); (case hd42 => first | exact neU rfl | assumption)); ((with_reducible refine' WE_name ?hx43 ?hd43 ?_); (case hx43 => walk_at "np at"); (case hd43 => first | exact neU rfl | assumption)); (with_reducible refine .add ?_); o_facts WL_nil; ((with_reducible refine' And.intro ?a44 ?_); (case a44 => exact Nat.le_of_ble_eq_true rfl)))
    have e1 : (q + 1 + m - (q + 1) : Int) = m := by omega
    rw [e1, cut_nat, List.append_nil, ← List.map_take, ← List.map_drop, ← List.map_append]
    have e2 : (1 + here (l3.take f) : Int) = (here (l3.take f) : Nat) + 1 := by omega
    rw [e2]
    exact g
  · unfold insR at g
    rw [h, if_neg Bool.false_ne_true] at g
    (o_facts WS_nil; o_facts WS_cons; w_dflts WX_setSlice; ((with_reducible refine WE_compL ?_ ?a45 ?b45 ?c45 ?d45); (case a45 => rfl); (case b45 => rfl); (case c45 => decide); (case d45 => (intro _; rfl))); o_facts WE_slice; w_dflts WE_attr; ((with_reducible refine' WE_name ?hx46 ?hd46 ?_); (case hx46 => walk_at "np at"); (case hd46 => first | exact neU rfl | assumption)); ((with_reducible refine' ⟨_, AttrV.ref ?a47 ?b47 ?c47 ?d47 ?e47, ?_⟩); (case a47 => walk_at "np hat"); (case b47 => walk_at "np hat"); (case c47 => walk_at "np at"); (case d47 => rfl); (case e47 => with_reducible exact gk_stretches _)); ((with_reducible refine' WE_name ?hx48 ?hd48 ?_); (case hx48 => walk_at "np at"); (case hd48 => first | exact neU rfl | assumption)); ((with_reducible refine' WE_name ?hx49 ?hd49 ?_); (case hx49 => walk_at "np at"); (case hd49 => first | exact neU rfl | assumption)); ((with_reducible refine' ⟨_, _, _, ?a50, rfl, rfl, ?b50, ?_⟩); (case a50 => walk_at "np lst"); (case b50 => exact size_ok (by walk_at "np ar"))))
    rw [slc_ft, ← List.map_drop, ← List.map_take]
    refine compS_of ((l3.drop f).take (t - f)) eS (fun x => eS ((false, true), x.2)) (fun x => !(x.1.1 && !x.1.2)) .lst (size_ok (by simp; omega)) (fun x _ => ?_) ?_
    · refine elt_pair rfl rfl (by decide) rfl (by decide) fun C oC => ⟨tests1 ?_, fun _ => ?_⟩
      · (w_dflts WT_cmp; ((with_reducible refine' WE_name ?hx51 ?hd51 ?_); (case hx51 => walk_at "np at"); (case hd51 => first | exact neU rfl | assumption)); o_facts WE_str)
        exact tst_int cmp_neS (fun h2 => ⟨rfl, not_gone h2⟩) (fun h2 => ⟨rfl, is_gone h2⟩)
      · refine WE_listF ?_
        (w_dflts WL_cons; o_facts WE_str; w_dflts WL_cons; ((with_reducible refine' WE_name ?hx52 ?hd52 ?_); (case hx52 => walk_at "np at"); (case hd52 => first | exact neU rfl | assumption)); o_facts WL_nil; ((with_reducible refine' And.intro ?a53 ?_); (case a53 => exact Nat.le_of_ble_eq_true rfl)))
        exact ⟨rfl, rfl⟩
    · (w_dflts WE_attr; ((with_reducible refine' WE_name ?hx54 ?hd54 ?_); (case hx54 => walk_at "np at"); (case hd54 => first | exact neU rfl | assumption)); ((with_reducible refine' ⟨_, AttrV.ref ?a55 ?b55 ?c55 ?d55 ?e55, ?_⟩); (case a55 => walk_at "np hat"); (case b55 => walk_at "np hat"); (case c55 => walk_at "np at"); (case d55 => rfl); (case e55 => with_reducible exact gk_stretches _)); ((with_reducible refine' WE_name ?hx56 ?hd56 ?_); (case hx56 => walk_at "np at"); (case hd56 => first | exact neU rfl | assumption)); ((with_reducible refine' WE_name ?hx57 ?hd57 ?_); (case hx57 => walk_at "np at"); (case hd57 => first | exact neU rfl | assumption)))
      refine ⟨_, _, _, _, _, _, rfl, rfl, rfl, rfl, (by walk_at "np mod"), size_ok ?_, ?_⟩
      · have := List.length_filter_le (fun x : Sr => !(x.1.1 && !x.1.2)) ((l3.drop f).take (t - f))
        simp at this ⊢
        omega
      · (o_facts WS_cons; o_facts WX_ret; o_facts WE_none)
        rw [cut_nat, ← List.map_take, ← List.map_drop]
        have e3 : (((l3.drop f).take (t - f)).filter fun x => !(x.1.1 && !x.1.2)).map (fun x => eS ((false, true), x.2)) = (newed ((l3.drop f).take (t - f))).map eS := by
          unfold newed; rw [List.map_map]; rfl
        rw [e3, ← List.map_append, ← List.map_append]
        exact g
theorem uprop_ok {c : Ctx} {loc : Loc} {F : Nat × O} {s a d : Nat} {l : List Sr} {q m : Nat} {p : Int} {st en : Int} {rest : Hp} {P : Hp → V → Prop} (hcm : c.fi.cm = none) (room : c.Room 3) (hl : l.length < 8000)
  (hP : P (F :: bes s a d (undo l st en (.prop q m p)).1 st (undo l st en (.prop q m p)).2.1 rest) (outV (undo l st en (.prop q m p)).2.2)) :
  CallOk c loc (F :: bes s a d l st en rest) (.ref 177) [.ref a, rwV (.prop q m p)] P := by
  refine callF (names := ["beside", "row"]) (rest := ["first", "last", "place", "many"]) (loc0 := [("beside", .ref a), ("row", .tup [.str "property", .int (q + 1), .int (q + 1 + m), .int 7, .tup [.int p]]), ("first", .undef), ("last", .undef), ("place", .undef), ("many", .undef)]) hcm room (by exact rfl) (by kernel_rfl) (fun ws h => by obtain ⟨a, b, rfl⟩ := ws2 h; rfl) (by decide) (by decide) (by decide) (by decide) rfl rfl fun r hw room => ?_
  have g := rng3_len (l := l) (A := q) (B := q + m)
  change P (F :: bes s a d (propR (rng3 l q (q + m)) st en m p).1 st (propR (rng3 l q (q + m)) st en m p).2.1 rest) (outV (propR (rng3 l q (q + m)) st en m p).2.2) at hP
  (o_facts WS_cons)
  refine WX_unpack (ns := [("first", _), ("last", _)]) ?_ rfl (List.forall_mem_cons.mpr ⟨rfl, List.forall_mem_cons.mpr ⟨rfl, List.forall_mem_nil _⟩⟩) rfl rfl
  (((with_reducible refine' WE_own ?o1 ?_ ?a1 ?b1 ?c1 ?d1); (case o1 => with_reducible exact o_range_there _); (case a1 => rfl); (case b1 => decide); (case c1 => first | exact ⟨rfl, rfl⟩ | exact trivial); (case d1 => rfl)); w_dflts WL_cons; ((with_reducible refine' WE_name ?hx2 ?hd2 ?_); (case hx2 => walk_at "np at"); (case hd2 => first | exact neU rfl | assumption)); w_dflts WL_cons; ((with_reducible refine WE_item ?_ ?hs3); (case hs3 => (intro _ _; rfl))); ((with_reducible refine' WE_name ?hx4 ?hd4 ?_); (case hx4 => walk_at "np at"); (case hd4 => first | exact neU rfl | assumption)); o_facts WE_int; ((with_reducible refine' ⟨_, item_tup ?b5 ?c5 ?d5, ?_⟩); (case b5 => decide); (case c5 => decide); (case d5 => rfl)); w_dflts WL_cons; ((with_reducible refine WE_item ?_ ?hs6); (case hs6 => (intro _ _; rfl))); ((with_reducible refine' WE_name ?hx7 ?hd7 ?_); (case hx7 => walk_at "np at"); (case hd7 => first | exact neU rfl | assumption)); o_facts WE_int; ((with_reducible refine' ⟨_, item_tup ?b8 ?c8 ?d8, ?_⟩); (case b8 => decide); (case c8 => decide); (case d8 => rfl)); o_facts WL_nil)
  refine rng_ok (A := q) (B := q + m) rfl room (by omega) (by omega) (by omega) ?_
  revert hP g
  generalize rng3 l q (q + m) = R
  obtain ⟨l3, f, t⟩ := R
  dsimp only
  intro g hP
  refine ⟨_, _, .tup, rfl, .cons (by walk_at "np set") (.cons (by walk_at "np set") .nil), ?_⟩
  (o_facts WS_cons; row_cond WX_assign; ((with_reducible refine' WE_own ?o9 ?_ ?a9 ?b9 ?c9 ?d9); (case o9 => with_reducible exact o_here_at _); (case a9 => rfl); (case b9 => decide); (case c9 => first | exact ⟨rfl, rfl⟩ | exact trivial); (case d9 => rfl)); w_dflts WL_cons; ((with_reducible refine' WE_name ?hx10 ?hd10 ?_); (case hx10 => walk_at "np at"); (case hd10 => first | exact neU rfl | assumption)); w_dflts WL_cons; ((with_reducible refine' WE_name ?hx11 ?hd11 ?_); (case hx11 => walk_at "np at"); (case hd11 => first | exact neU rfl | assumption)); o_facts WL_nil)
  refine here_ok rfl ⟨by have := room.1; omega, by have := room.2; omega⟩ (by omega) ?_
  (((with_reducible refine' ⟨_, ?ls12, ?_⟩); (case ls12 => walk_at "np set")); o_facts WS_cons; row_cond WX_assign; o_facts WE_bin; ((with_reducible refine WE_item ?_ ?hs13); (case hs13 => (intro _ _; rfl))); ((with_reducible refine' WE_name ?hx14 ?hd14 ?_); (case hx14 => walk_at "np at"); (case hd14 => first | exact neU rfl | assumption)); o_facts WE_int; ((with_reducible refine' ⟨_, item_tup ?b15 ?c15 ?d15, ?_⟩); (case b15 => decide); (case c15 => decide); (case d15 => rfl)); ((with_reducible refine WE_item ?_ ?hs16); (case hs16 => (intro _ _; rfl))); ((with_reducible refine' WE_name ?hx17 ?hd17 ?_); (case hx17 => walk_at "np at"); (case hd17 => first | exact neU rfl | assumption)); o_facts WE_int; ((with_reducible refine' ⟨_, item_tup ?b18 ?c18 ?d18, ?_⟩); (case b18 => decide); (case c18 => decide); (case d18 => rfl)); (with_reducible refine .sub ?_); ((with_reducible refine' ⟨_, ?ls19, ?_⟩); (case ls19 => walk_at "np set")); o_facts WS_cons)
  refine WX_ifD (okR (l3, f, t) st en m) ?_ (fun h => ?_) (fun h => ?_)
  · (o_facts WT_bool; o_facts WB_and; w_dflts WT_val; ((with_reducible refine' WE_own ?o20 ?_ ?a20 ?b20 ?c20 ?d20); (case o20 => with_reducible exact o_is_untouched _); (case a20 => rfl); (case b20 => decide); (case c20 => first | exact ⟨rfl, rfl⟩ | exact trivial); (case d20 => rfl)); w_dflts WL_cons; ((with_reducible refine' WE_name ?hx21 ?hd21 ?_); (case hx21 => walk_at "np at"); (case hd21 => first | exact neU rfl | assumption)); w_dflts WL_cons; ((with_reducible refine' WE_name ?hx22 ?hd22 ?_); (case hx22 => walk_at "np at"); (case hd22 => first | exact neU rfl | assumption)); w_dflts WL_cons; ((with_reducible refine' WE_name ?hx23 ?hd23 ?_); (case hx23 => walk_at "np at"); (case hd23 => first | exact neU rfl | assumption)); o_facts WL_nil)
    refine unt_ok rfl ⟨by have := room.1; omega, by have := room.2; omega⟩ (by omega) ?_
    refine ⟨_, rfl, fun h => ?_, fun h => ⟨rfl, by unfold okR; rw [h]; rfl⟩⟩
    (o_facts WB_and; w_dflts WT_cmp; w_dflts WE_attr; ((with_reducible refine' WE_name ?hx24 ?hd24 ?_); (case hx24 => walk_at "np at"); (case hd24 => first | exact neU rfl | assumption)); ((with_reducible refine' ⟨_, AttrV.ref ?a25 ?b25 ?c25 ?d25 ?e25, ?_⟩); (case a25 => walk_at "np hat"); (case b25 => walk_at "np hat"); (case c25 => walk_at "np at"); (case d25 => rfl); (case e25 => with_reducible exact gk_start _)); ((with_reducible refine' WE_name ?hx26 ?hd26 ?_); (case hx26 => walk_at "np at"); (case hd26 => first | exact neU rfl | assumption)))
    refine tst_int cmp_le (fun h2 => ?_) (fun h2 => ⟨rfl, by unfold okR; rw [h, decide_eq_false h2]; rfl⟩)
    (o_facts WB_and; w_dflts WT_cmp; o_facts WE_bin; ((with_reducible refine' WE_name ?hx27 ?hd27 ?_); (case hx27 => walk_at "np at"); (case hd27 => first | exact neU rfl | assumption)); ((with_reducible refine' WE_name ?hx28 ?hd28 ?_); (case hx28 => walk_at "np at"); (case hd28 => first | exact neU rfl | assumption)); (with_reducible refine .add ?_); w_dflts WE_attr; ((with_reducible refine' WE_name ?hx29 ?hd29 ?_); (case hx29 => walk_at "np at"); (case hd29 => first | exact neU rfl | assumption)); ((with_reducible refine' ⟨_, AttrV.ref ?a30 ?b30 ?c30 ?d30 ?e30, ?_⟩); (case a30 => walk_at "np hat"); (case b30 => walk_at "np hat"); (case c30 => walk_at "np at"); (case d30 => rfl); (case e30 => with_reducible exact gk_end _)))
    refine tst_int cmp_le (fun h3 => ?_) (fun h3 => ⟨rfl, by unfold okR; rw [h, decide_eq_true h2, decide_eq_false (by dsimp only; omega)]; rfl⟩)
    (o_facts WB_andN)
    exact ⟨rfl, by unfold okR; rw [h, decide_eq_true h2, decide_eq_true (by dsimp only; omega)]; rfl⟩
  · unfold propR at hP
    rw [h, if_pos rfl] at hP
    (o_facts WS_cons; o_facts WX_ret; o_facts WE_tuple; w_dflts WL_cons; o_facts WE_str; w_dflts WL_cons; ((with_reducible refine' WE_name ?hx31 ?hd31 ?_); (case hx31 => walk_at "np at"); (case hd31 => first | exact neU rfl | assumption)); w_dflts WL_cons; o_facts WE_bin; ((with_reducible refine' WE_name ?hx32 ?hd32 ?_); (case hx32 => walk_at "np at"); (case hd32 => first | exact neU rfl | assumption)); ((with_reducible refine' WE_name ?hx33 ?hd33 ?_); (case hx33 => walk_at "np at"); (case hd33 => first | exact neU rfl | assumption)); (with_reducible refine .add ?_); w_dflts WL_cons; ((with_reducible refine WE_item ?_ ?hs34); (case hs34 => (intro _ _; rfl))); ((with_reducible refine' WE_name ?hx35 ?hd35 ?_); (case hx35 => walk_at "np at"); (case hd35 => first | exact neU rfl | assumption)); o_facts WE_int; ((with_reducible refine' ⟨_, item_tup ?b36 ?c36 ?d36, ?_⟩); (case b36 => decide); (case c36 => decide); (case d36 => rfl)); w_dflts WL_cons; ((with_reducible refine WE_item ?_ ?hs37); (case hs37 => (intro _ _; rfl))); ((with_reducible refine' WE_name ?hx38 ?hd38 ?_); (case hx38 => walk_at "np at"); (case hd38 => first | exact neU rfl | assumption)); o_facts WE_int; ((with_reducible refine' ⟨_, item_tup ?b39 ?c39 ?d39, ?_⟩); (case b39 => decide); (case c39 => decide); (case d39 => rfl)); o_facts WL_nil; ((with_reducible refine' And.intro ?a40 ?_); (case a40 => exact Nat.le_of_ble_eq_true rfl)))
    have e1 : (q + 1 + m - (q + 1) : Int) = m := by omega
    have e2 : (1 + here (l3.take f) : Int) = (here (l3.take f) : Nat) + 1 := by omega
    rw [e1, e2]
    exact hP
  · unfold propR at hP
    rw [h, if_neg Bool.false_ne_true] at hP
    (o_facts WS_nil; o_facts WS_cons; o_facts WX_ret; o_facts WE_none)
    exact hP
theorem udel_ok {c : Ctx} {loc : Loc} {F : Nat × O} {s a d : Nat} {l : List Sr} {q : Nat} {xs : List Int} {b : Bool} {st en : Int} {rest : Hp} {P : Hp → V → Prop} (hcm : c.fi.cm = none) (room : c.Room 3) (hl : l.length < 8000) (hx : xs.length < 1000)
  (hP : P (F :: bes s a d (undo l st en (.del q xs b)).1 st (undo l st en (.del q xs b)).2.1 rest) (outV (undo l st en (.del q xs b)).2.2)) :
  CallOk c loc (F :: bes s a d l st en rest) (.ref 170) [.ref a, rwV (.del q xs b)] P := by
  refine callF (names := ["beside", "row"]) (rest := ["at", "place", "many"]) (loc0 := [("beside", .ref a), ("row", .tup [.str "delete", .int (q + 1), .obj 208 [("codes", .lst (xs.map V.int)), ("runs", .lst [])], .bool b]), ("at", .undef), ("place", .undef), ("many", .undef)]) hcm room (by exact rfl) (by kernel_rfl) (fun ws h => by obtain ⟨a, b, rfl⟩ := ws2 h; rfl) (by decide) (by decide) (by decide) (by decide) rfl rfl fun r hw room => ?_
  have g := split_grow (l := l) (n := q)
  change P (F :: bes s a d (delR (split l q) st en xs b).1 st (delR (split l q) st en xs b).2.1 rest) (outV (delR (split l q) st en xs b).2.2) at hP
  (o_facts WS_cons; row_cond WX_assign; ((with_reducible refine' WE_own ?o41 ?_ ?a41 ?b41 ?c41 ?d41); (case o41 => with_reducible exact o_split_there _); (case a41 => rfl); (case b41 => decide); (case c41 => first | exact ⟨rfl, rfl⟩ | exact trivial); (case d41 => rfl)); w_dflts WL_cons; ((with_reducible refine' WE_name ?hx42 ?hd42 ?_); (case hx42 => walk_at "np at"); (case hd42 => first | exact neU rfl | assumption)); w_dflts WL_cons; o_facts WE_bin; ((with_reducible refine WE_item ?_ ?hs43); (case hs43 => (intro _ _; rfl))); ((with_reducible refine' WE_name ?hx44 ?hd44 ?_); (case hx44 => walk_at "np at"); (case hd44 => first | exact neU rfl | assumption)); o_facts WE_int; ((with_reducible refine' ⟨_, item_tup ?b45 ?c45 ?d45, ?_⟩); (case b45 => decide); (case c45 => decide); (case d45 => rfl)); o_facts WE_int; (with_reducible refine .sub ?_); o_facts WL_nil)
  rw [show (q + 1 - 1 : Int) = (q : Nat) by omega]
  refine split_ok rfl ⟨by have := room.1; omega, by have := room.2; omega⟩ (by omega) ?_
  revert hP g
  generalize split l q = R
  obtain ⟨l3, f⟩ := R
  dsimp only
  intro g hP
  (((with_reducible refine' ⟨_, ?ls46, ?_⟩); (case ls46 => walk_at "np set")); o_facts WS_cons; row_cond WX_assign; ((with_reducible refine' WE_own ?o47 ?_ ?a47 ?b47 ?c47 ?d47); (case o47 => with_reducible exact o_here_at _); (case a47 => rfl); (case b47 => decide); (case c47 => first | exact ⟨rfl, rfl⟩ | exact trivial); (case d47 => rfl)); w_dflts WL_cons; ((with_reducible refine' WE_name ?hx48 ?hd48 ?_); (case hx48 => walk_at "np at"); (case hd48 => first | exact neU rfl | assumption)); w_dflts WL_cons; ((with_reducible refine' WE_name ?hx49 ?hd49 ?_); (case hx49 => walk_at "np at"); (case hd49 => first | exact neU rfl | assumption)); o_facts WL_nil)
  refine here_ok rfl ⟨by have := room.1; omega, by have := room.2; omega⟩ (by omega) ?_
  (((with_reducible refine' ⟨_, ?ls50, ?_⟩); (case ls50 => walk_at "np set")); o_facts WS_cons; row_cond WX_assign; row_room_at WE_len; w_dflts WL_cons; w_dflts WE_attr; ((with_reducible refine WE_item ?_ ?hs51); (case hs51 => (intro _ _; rfl))); ((with_reducible refine' WE_name ?hx52 ?hd52 ?_); (case hx52 => walk_at "np at"); (case hd52 => first | exact neU rfl | assumption)); o_facts WE_int; ((with_reducible refine' ⟨_, item_tup ?b53 ?c53 ?d53, ?_⟩); (case b53 => decide); (case c53 => decide); (case d53 => rfl)); ((with_reducible refine' ⟨_, AttrV.obj ?c54 ?d54 ?e54, ?_⟩); (case c54 => walk_at "np at"); (case d54 => rfl); (case e54 => with_reducible exact gk_codes _)); o_facts WL_nil; ((with_reducible refine' call_len ?a55 ?b55 ?_); (case a55 => walk_at "np lst"); (case b55 => walk_at "np ar")); ((with_reducible refine' ⟨_, ?ls56, ?_⟩); (case ls56 => walk_at "np set")); o_facts WS_cons)
  refine WX_ifD (decide (st ≤ 1 + here (l3.take f)) && decide ((1 + here (l3.take f) : Int) ≤ en)) ?_ (fun h => ?_) (fun h => ?_)
  · refine WT_chain ?_ rfl
    (w_dflts WE_attr; ((with_reducible refine' WE_name ?hx57 ?hd57 ?_); (case hx57 => walk_at "np at"); (case hd57 => first | exact neU rfl | assumption)); ((with_reducible refine' ⟨_, AttrV.ref ?a58 ?b58 ?c58 ?d58 ?e58, ?_⟩); (case a58 => walk_at "np hat"); (case b58 => walk_at "np hat"); (case c58 => walk_at "np at"); (case d58 => rfl); (case e58 => with_reducible exact gk_start _)); ((with_reducible refine' WE_name ?hx59 ?hd59 ?_); (case hx59 => walk_at "np at"); (case hd59 => first | exact neU rfl | assumption)))
    refine ⟨_, cmp_le, fun h => ⟨rfl, by rw [h]; rfl⟩, fun h => ?_⟩
    (w_dflts WE_attr; ((with_reducible refine' WE_name ?hx60 ?hd60 ?_); (case hx60 => walk_at "np at"); (case hd60 => first | exact neU rfl | assumption)); ((with_reducible refine' ⟨_, AttrV.ref ?a61 ?b61 ?c61 ?d61 ?e61, ?_⟩); (case a61 => walk_at "np hat"); (case b61 => walk_at "np hat"); (case c61 => walk_at "np at"); (case d61 => rfl); (case e61 => with_reducible exact gk_end _)))
    refine ⟨_, cmp_le, fun h2 => ⟨rfl, by rw [h, h2]; rfl⟩, fun h2 => ⟨rfl, by rw [h, h2]; rfl⟩⟩
  · unfold delR at hP
    rw [if_pos h] at hP
    (o_facts WS_cons; w_dflts WX_setSlice)
    refine WE_listF ?_
    refine WL_cons (WE_listF ?_) rfl
    (w_dflts WL_cons; o_facts WE_str; w_dflts WL_cons; ((with_reducible refine' WE_name ?hx62 ?hd62 ?_); (case hx62 => walk_at "np at"); (case hd62 => first | exact neU rfl | assumption)); o_facts WL_nil; ((with_reducible refine' And.intro ?a63 ?_); (case a63 => exact Nat.le_of_ble_eq_true rfl)); o_facts WL_nil; ((with_reducible refine' And.intro ?a64 ?_); (case a64 => exact Nat.le_of_ble_eq_true rfl)); w_dflts WE_attr; ((with_reducible refine' WE_name ?hx65 ?hd65 ?_); (case hx65 => walk_at "np at"); (case hd65 => first | exact neU rfl | assumption)); ((with_reducible refine' ⟨_, AttrV.ref ?a66 ?b66 ?c66 ?d66 ?e66, ?_⟩); (case a66 => walk_at "np hat"); (case b66 => walk_at "np hat"); (case c66 => walk_at "np at"); (case d66 => rfl); (case e66 => with_reducible exact gk_stretches _)); ((with_reducible refine' WE_name ?hx67 ?hd67 ?_); (case hx67 => walk_at "np at"); (case hd67 => first | exact neU rfl | assumption)); ((with_reducible refine' WE_name ?hx68 ?hd68 ?_); (case hx68 => walk_at "np at"); (case hd68 => first | exact neU rfl | assumption)))
    refine ⟨_, _, _, _, _, _, rfl, rfl, rfl, rfl, (by walk_at "np mod"), size_ok (by simp; omega), ?_⟩
    (o_facts WS_cons; w_dflts WX_setattr; o_facts WE_bin; w_dflts WE_attr; ((with_reducible refine' WE_name ?hx69 ?hd69 ?_); (case hx69 => walk_at "np at"); (case hd69 => first | exact neU rfl | assumption)); ((with_reducible refine' ⟨_, AttrV.ref ?a70 ?b70 ?c70 ?d70 ?e70, ?_⟩); (case a70 => walk_at "np hat"); (case b70 => walk_at "np hat"); (case c70 => walk_at "np at"); (case d70 => rfl); (case e70 => with_reducible exact gk_end _)); ((with_reducible refine' WE_name ?hx71 ?hd71 ?_); (case hx71 => walk_at "np at"); (case hd71 => first | exact neU rfl | assumption)); (with_reducible refine .add ?_); ((with_reducible refine' WE_name ?hx72 ?hd72 ?_); (case hx72 => walk_at "np at"); (case hd72 => first | exact neU rfl | assumption)); ((with_reducible refine' sat_old ?a73 ?b73 ?c73 ?d73 ?e73 ?_); (case a73 => walk_at "np hat"); (case b73 => walk_at "np mod"); (case e73 => walk_at "np set"); (case c73 => with_reducible exact sk_end _); (case d73 => rfl)); o_facts WS_cons; o_facts WX_ret; o_facts WE_tuple; w_dflts WL_cons; o_facts WE_str; w_dflts WL_cons; ((with_reducible refine' WE_name ?hx74 ?hd74 ?_); (case hx74 => walk_at "np at"); (case hd74 => first | exact neU rfl | assumption)); w_dflts WL_cons; ((with_reducible refine WE_item ?_ ?hs75); (case hs75 => (intro _ _; rfl))); ((with_reducible refine' WE_name ?hx76 ?hd76 ?_); (case hx76 => walk_at "np at"); (case hd76 => first | exact neU rfl | assumption)); o_facts WE_int; ((with_reducible refine' ⟨_, item_tup ?b77 ?c77 ?d77, ?_⟩); (case b77 => decide); (case c77 => decide); (case d77 => rfl)); w_dflts WL_cons; ((with_reducible refine WE_item ?_ ?hs78); (case hs78 => (intro _ _; rfl))); ((with_reducible refine' WE_name ?hx79 ?hd79 ?_); (case hx79 => walk_at "np at"); (case hd79 => first | exact neU rfl | assumption)); o_facts WE_int; ((with_reducible refine' ⟨_, item_tup ?b80 ?c80 ?d80, ?_⟩); (case b80 => decide); (case c80 => decide); (case d80 => rfl)); o_facts WL_nil; ((with_reducible refine' And.intro ?a81 ?_); (case a81 => exact Nat.le_of_ble_eq_true rfl)))
    rw [cut_nat, Nat.max_self, ← List.map_take, ← List.map_drop, List.append_assoc, List.length_map] 
    have e0 : (l3.take f).map eS ++ ([V.lst [.str "same", .int (xs.length : Nat)]] ++ (l3.drop f).map eS) = (l3.take f ++ ((true, true), xs.length) :: l3.drop f).map eS := by rw [List.map_append, List.map_cons]; rfl
    rw [e0]
    have e2 : (1 + here (l3.take f) : Int) = (here (l3.take f) : Nat) + 1 := by omega
    rw [e2]
    exact hP
  · unfold delR at hP
    rw [h, if_neg Bool.false_ne_true] at hP
    (o_facts WS_nil; o_facts WS_cons; w_dflts WX_setSlice)
    refine WE_listF ?_
    refine WL_cons (WE_listF ?_) rfl
    (w_dflts WL_cons; o_facts WE_str; w_dflts WL_cons; ((with_reducible refine' WE_name ?hx82 ?hd82 ?_); (case hx82 => walk_at "np at"); (case hd82 => first | exact neU rfl | assumption)); o_facts WL_nil; ((with_reducible refine' And.intro ?a83 ?_); (case a83 => exact Nat.le_of_ble_eq_true rfl)); o_facts WL_nil; ((with_reducible refine' And.intro ?a84 ?_); (case a84 => exact Nat.le_of_ble_eq_true rfl)); w_dflts WE_attr; ((with_reducible refine' WE_name ?hx85 ?hd85 ?_); (case hx85 => walk_at "np at"); (case hd85 => first | exact neU rfl | assumption)); ((with_reducible refine' ⟨_, AttrV.ref ?a86 ?b86 ?c86 ?d86 ?e86, ?_⟩); (case a86 => walk_at "np hat"); (case b86 => walk_at "np hat"); (case c86 => walk_at "np at"); (case d86 => rfl); (case e86 => with_reducible exact gk_stretches _)); ((with_reducible refine' WE_name ?hx87 ?hd87 ?_); (case hx87 => walk_at "np at"); (case hd87 => first | exact neU rfl | assumption)); ((with_reducible refine' WE_name ?hx88 ?hd88 ?_); (case hx88 => walk_at "np at"); (case hd88 => first | exact neU rfl | assumption)))
    refine ⟨_, _, _, _, _, _, rfl, rfl, rfl, rfl, (by walk_at "np mod"), size_ok (by simp; omega), ?_⟩
    (o_facts WS_cons; o_facts WX_ret; o_facts WE_none)
    rw [cut_nat, Nat.max_self, ← List.map_take, ← List.map_drop, List.append_assoc, List.length_map] 
    have e0 : (l3.take f).map eS ++ ([V.lst [.str "gone", .int (xs.length : Nat)]] ++ (l3.drop f).map eS) = (l3.take f ++ ((true, false), xs.length) :: l3.drop f).map eS := by rw [List.map_append, List.map_cons]; rfl
    rw [e0]
    exact hP
noncomputable def delOk : Rw → Prop
  | .del _ xs _ => xs.length < 1000
  | _ => True
noncomputable def isBnd : Rw → Bool
  | .bnd => true
  | _ => false
theorem urow_ok {c : Ctx} {loc : Loc} {F : Nat × O} {s a d : Nat} {l : List Sr} {x : Rw} {st en : Int} {rest : Hp} {P : Hp → V → Prop} (hcm : c.fi.cm = none) (room : c.Room 4) (hl : l.length < 8000) (hx : delOk x) (hb : isBnd x = false)
  (hP : P (F :: bes s a d (undo l st en x).1 st (undo l st en x).2.1 rest) (outV (undo l st en x).2.2)) :
  CallOk c loc (F :: bes s a d l st en rest) (.ref 184) [.ref a, rwV x] P := by
  refine callF (names := ["beside", "row"]) (rest := []) (loc0 := [("beside", .ref a), ("row", rwV x)]) hcm room (by exact rfl) (by kernel_rfl) (fun ws h => by obtain ⟨a, b, rfl⟩ := ws2 h; rfl) (by decide) (by decide) (by decide) (by decide) rfl rfl fun r hw room => ?_
  cases x with
  | ins q m =>
    (o_facts WS_cons)
    (o_facts WX_if; w_dflts WT_cmp; ((with_reducible refine WE_item ?_ ?hs1); (case hs1 => (intro _ _; rfl))); ((with_reducible refine' WE_name ?hx2 ?hd2 ?_); (case hx2 => walk_at "np at"); (case hd2 => first | exact neU rfl | assumption)); o_facts WE_int; ((with_reducible refine' ⟨_, item_tup ?b3 ?c3 ?d3, ?_⟩); (case b3 => decide); (case c3 => decide); (case d3 => rfl)); o_facts WE_str)
    refine tst_t cmp_eqS rfl ?_
    (o_facts WS_cons; o_facts WX_ret; ((with_reducible refine' WE_own ?o4 ?_ ?a4 ?b4 ?c4 ?d4); (case o4 => with_reducible exact o_undone_insert _); (case a4 => rfl); (case b4 => decide); (case c4 => first | exact ⟨rfl, rfl⟩ | exact trivial); (case d4 => rfl)); w_dflts WL_cons; ((with_reducible refine' WE_name ?hx5 ?hd5 ?_); (case hx5 => walk_at "np at"); (case hd5 => first | exact neU rfl | assumption)); w_dflts WL_cons; ((with_reducible refine' WE_name ?hx6 ?hd6 ?_); (case hx6 => walk_at "np at"); (case hd6 => first | exact neU rfl | assumption)); o_facts WL_nil)
    exact uins_ok rfl room hl hP
  | del q xs b =>
    (o_facts WS_cons)
    (o_facts WX_if; w_dflts WT_cmp; ((with_reducible refine WE_item ?_ ?hs7); (case hs7 => (intro _ _; rfl))); ((with_reducible refine' WE_name ?hx8 ?hd8 ?_); (case hx8 => walk_at "np at"); (case hd8 => first | exact neU rfl | assumption)); o_facts WE_int; ((with_reducible refine' ⟨_, item_tup ?b9 ?c9 ?d9, ?_⟩); (case b9 => decide); (case c9 => decide); (case d9 => rfl)); o_facts WE_str)
    refine tst_f cmp_eqS (by decide) ?_
    (o_facts WS_nil; o_facts WS_cons)
    (o_facts WX_if; w_dflts WT_cmp; ((with_reducible refine WE_item ?_ ?hs10); (case hs10 => (intro _ _; rfl))); ((with_reducible refine' WE_name ?hx11 ?hd11 ?_); (case hx11 => walk_at "np at"); (case hd11 => first | exact neU rfl | assumption)); o_facts WE_int; ((with_reducible refine' ⟨_, item_tup ?b12 ?c12 ?d12, ?_⟩); (case b12 => decide); (case c12 => decide); (case d12 => rfl)); o_facts WE_str)
    refine tst_t cmp_eqS rfl ?_
    (o_facts WS_cons; o_facts WX_ret; ((with_reducible refine' WE_own ?o13 ?_ ?a13 ?b13 ?c13 ?d13); (case o13 => with_reducible exact o_undone_delete _); (case a13 => rfl); (case b13 => decide); (case c13 => first | exact ⟨rfl, rfl⟩ | exact trivial); (case d13 => rfl)); w_dflts WL_cons; ((with_reducible refine' WE_name ?hx14 ?hd14 ?_); (case hx14 => walk_at "np at"); (case hd14 => first | exact neU rfl | assumption)); w_dflts WL_cons; ((with_reducible refine' WE_name ?hx15 ?hd15 ?_); (case hx15 => walk_at "np at"); (case hd15 => first | exact neU rfl | assumption)); o_facts WL_nil)
    exact udel_ok rfl room hl hx hP
  | prop q m p =>
    (o_facts WS_cons)
    (o_facts WX_if; w_dflts WT_cmp; ((with_reducible refine WE_item ?_ ?hs16); (case hs16 => (intro _ _; rfl))); ((with_reducible refine' WE_name ?hx17 ?hd17 ?_); (case hx17 => walk_at "np at"); (case hd17 => first | exact neU rfl | assumption)); o_facts WE_int; ((with_reducible refine' ⟨_, item_tup ?b18 ?c18 ?d18, ?_⟩); (case b18 => decide); (case c18 => decide); (case d18 => rfl)); o_facts WE_str)
    refine tst_f cmp_eqS (by decide) ?_
    (o_facts WS_nil; o_facts WS_cons)
    (o_facts WX_if; w_dflts WT_cmp; ((with_reducible refine WE_item ?_ ?hs19); (case hs19 => (intro _ _; rfl))); ((with_reducible refine' WE_name ?hx20 ?hd20 ?_); (case hx20 => walk_at "np at"); (case hd20 => first | exact neU rfl | assumption)); o_facts WE_int; ((with_reducible refine' ⟨_, item_tup ?b21 ?c21 ?d21, ?_⟩); (case b21 => decide); (case c21 => decide); (case d21 => rfl)); o_facts WE_str)
    refine tst_f cmp_eqS (by decide) ?_
    (o_facts WS_nil; o_facts WS_cons; o_facts WX_ret; o_facts WE_ifexp; w_dflts WT_cmp; ((with_reducible refine WE_item ?_ ?hs22); (case hs22 => (intro _ _; rfl))); ((with_reducible refine' WE_name ?hx23 ?hd23 ?_); (case hx23 => walk_at "np at"); (case hd23 => first | exact neU rfl | assumption)); o_facts WE_int; ((with_reducible refine' ⟨_, item_tup ?b24 ?c24 ?d24, ?_⟩); (case b24 => decide); (case c24 => decide); (case d24 => rfl)); o_facts WE_str)
    refine tst_t cmp_eqS rfl ?_
    (((with_reducible refine' WE_own ?o25 ?_ ?a25 ?b25 ?c25 ?d25); (case o25 => with_reducible exact o_undone_property _); (case a25 => rfl); (case b25 => decide); (case c25 => first | exact ⟨rfl, rfl⟩ | exact trivial); (case d25 => rfl)); w_dflts WL_cons; ((with_reducible refine' WE_name ?hx26 ?hd26 ?_); (case hx26 => walk_at "np at"); (case hd26 => first | exact neU rfl | assumption)); w_dflts WL_cons; ((with_reducible refine' WE_name ?hx27 ?hd27 ?_); (case hx27 => walk_at "np at"); (case hd27 => first | exact neU rfl | assumption)); o_facts WL_nil)
    exact uprop_ok rfl room hl hP
  | bnd => cases hb
noncomputable abbrev RS := List Sr × Int × List Rw
noncomputable def stepR (st : Int) (S : RS) (x : Rw) : RS :=
  if isBnd x then (S.1, S.2.1, if (S.2.2.getLast?).any (fun y => !isBnd y) then S.2.2 ++ [.bnd] else S.2.2)
  else ((undo S.1 st S.2.1 x).1, (undo S.1 st S.2.1 x).2.1, S.2.2 ++ (undo S.1 st S.2.1 x).2.2.toList)
noncomputable def RegI (st : Int) (fin : RS) (s a d fo : Nat) (Rv Sv Ev : V) (rest : Hp) (xs : List Rw) (loc : Loc) (hp : Hp) : Prop := ∃ (S : RS) (W1 W2 : V), xs.foldl (stepR st) S = fin ∧ S.1.length + 4 * xs.length ≤ 7000 ∧ S.2.2.length + xs.length ≤ 1000 ∧ (∀ x ∈ xs, delOk x) ∧
  loc = ([("rows", Rv), ("size", Sv), ("start", .int st), ("end", Ev), ("beside", .ref a), ("found", .ref fo), ("row", W1), ("own", W2)] : Loc) ∧ hp = (fo, .list (S.2.2.map rwV)) :: bes s a d S.1 st S.2.1 rest
theorem bnd_eq {x : Rw} {y : Str} {r : List V} (e : rwV x = .tup (.str y :: r)) : (y = "boundary" ∧ r = []) ↔ isBnd x = true := by
  cases x <;> (unfold rwV at e; injection e with e; injection e with e1 e2; injection e1 with e1; subst e1 e2; simp [isBnd]; try decide)
theorem PinOf.len {l l' : List V} (h : PinOf l l') : l.length = l'.length := by
  induction h with
  | nil => rfl
  | cons _ ih => exact congrArg Nat.succ ih
theorem rw_tup (x : Rw) : ∃ y r, rwV x = .tup (.str y :: r) := by cases x <;> exact ⟨_, _, rfl⟩
section
variable {c : Ctx} {hp : Hp} {x : Rw}
theorem dec_bnd {y : Str} {r : List V} (e : rwV x = .tup (.str y :: r)) : decide (y = "boundary" ∧ r = []) = isBnd x := by
  have := bnd_eq e
  cases q : isBnd x
  · exact decide_eq_false fun h => by rw [this.mp h] at q; cases q
  · exact decide_eq_true (this.mpr q)
theorem cmp_bnd : CmpOk c hp .Eq (rwV x) (.tup [.str "boundary"]) (isBnd x) := by
  obtain ⟨y, r, e⟩ := rw_tup x
  rw [← dec_bnd e, e]
  exact cmp_eqTup1
theorem cmp_nbnd : CmpOk c hp .NotEq (rwV x) (.tup [.str "boundary"]) (!isBnd x) := by
  obtain ⟨y, r, e⟩ := rw_tup x
  rw [← dec_bnd e, e]
  exact cmp_neTup1
theorem cmp_out {o : Option Rw} : CmpOk c hp .IsNot (outV o) .none o.isSome := by
  cases o with
  | none => exact cmp_isNot_none
  | some x => obtain ⟨y, r, e⟩ := rw_tup x; unfold outV; simp only [e]; exact cmp_isNot_tup
end
theorem len3 (i j n a : Nat) (h : a ≤ min (j - i) (n - i)) : min i n + (a + (n - max i j)) ≤ n := by
  rcases Nat.le_total n i with k | k
  · rw [Nat.min_eq_right k, Nat.sub_eq_zero_of_le (Nat.le_trans k (Nat.le_max_left ..)), Nat.le_zero.mp (Nat.le_trans h (Nat.le_trans (Nat.min_le_right ..) (Nat.le_of_eq (Nat.sub_eq_zero_of_le k))))]; exact Nat.le_refl _
  · rw [Nat.min_eq_left k]
    rcases Nat.le_total i j with q | q
    · rw [Nat.max_eq_right q]
      rcases Nat.le_total n j with p | p
      · rw [Nat.sub_eq_zero_of_le p]; exact Nat.add_le_of_le_sub' k (Nat.le_trans h (Nat.min_le_right ..))
      · refine Nat.le_trans (Nat.add_le_add_left (Nat.add_le_add_right (Nat.le_trans h (Nat.min_le_left ..)) _) _) ?_
        rw [← Nat.add_assoc, Nat.add_sub_cancel' q, Nat.add_sub_cancel' p]; exact Nat.le_refl _
    · rw [Nat.max_eq_left q, Nat.le_zero.mp (Nat.le_trans h (Nat.le_trans (Nat.min_le_left ..) (Nat.le_of_eq (Nat.sub_eq_zero_of_le q)))), Nat.zero_add, Nat.add_sub_cancel' k]; exact Nat.le_refl _
theorem len3L {α : Type} (L X : List α) (i j : Nat) (h : X.length ≤ ((L.drop i).take (j - i)).length) : (L.take i ++ (X ++ L.drop (max i j))).length ≤ L.length := by
  rw [List.length_append, List.length_append, List.length_take, List.length_drop]
  rw [List.length_take, List.length_drop] at h
  exact len3 _ _ _ _ h
theorem len2L {α : Type} (L : List α) (x : α) (i : Nat) : (L.take i ++ x :: L.drop i).length = L.length + 1 := by
  rw [List.length_append, List.length_cons, ← Nat.add_assoc, ← List.length_append, List.take_append_drop]
theorem undo_len {l : List Sr} {st en : Int} {x : Rw} : (undo l st en x).1.length ≤ l.length + 4 := by
  cases x with
  | ins q m =>
    refine Nat.le_trans ?_ (Nat.le_succ_of_le (rng3_len (l := l) (A := q) (B := q + m)))
    show (insR (rng3 l q (q + m)) st en m).1.length ≤ _
    unfold insR
    split
    · exact len3L _ [] _ _ (Nat.zero_le _)
    · show (_ ++ _ ++ _ : List Sr).length ≤ _
      rw [List.append_assoc]
      exact len3L _ _ _ _ (Nat.le_trans (Nat.le_of_eq (List.length_map _)) (List.length_filter_le _ _))
  | del q xs b =>
    show (delR (split l q) st en xs b).1.length ≤ _
    unfold delR
    split <;> exact Nat.le_trans (Nat.le_of_eq (len2L _ _ _)) (Nat.le_trans (Nat.succ_le_succ (split_grow (l := l) (n := q)).2.1) (Nat.add_le_add_left (by decide : 2 ≤ 4) _))
  | prop q m p => exact Nat.le_trans rng3_len (Nat.add_le_add_left (by decide) _)
  | bnd => exact Nat.le_add_right _ _
theorem rir_ok {c : Ctx} {loc : Loc} {hp : Hp} {R : Nat} {rows : List Rw} {l' : List V} {size : Nat} {st en : Int} {P : Hp → V → Prop} (hcm : c.fi.cm = none) (room : c.Room 6) (hR : HpAt hp R (.list l')) (hpin : PinOf (rows.map rwV) l') (hl : rows.length < 900) (hd : ∀ x ∈ rows, delOk x)
  (hP : ∀ fo s a d : Nat, P ((fo, .list ((rows.reverse.foldl (stepR st) ([((true, true), size)], en, [])).2.2.map rwV)) :: bes s a d (rows.reverse.foldl (stepR st) ([((true, true), size)], en, [])).1 st (rows.reverse.foldl (stepR st) ([((true, true), size)], en, [])).2.1 hp) (.lst ((rows.reverse.foldl (stepR st) ([((true, true), size)], en, [])).2.2.reverse.map rwV))) :
  CallOk c loc hp (.ref 191) [.ref R, .int size, .int st, .int en] P := by
  refine callF (names := ["rows", "size", "start", "end"]) (rest := ["beside", "found", "row", "own"]) (loc0 := [("rows", .ref R), ("size", .int size), ("start", .int st), ("end", .int en), ("beside", .undef), ("found", .undef), ("row", .undef), ("own", .undef)]) hcm room (by exact rfl) (by kernel_rfl) (fun ws h => by obtain ⟨a, b, c, d, rfl⟩ := ws4 h; rfl) (by decide) (by decide) (by decide) (by decide) rfl rfl fun r hw room => ?_
  (o_facts WS_cons; row_cond WX_assign; ((with_reducible refine' WE_own ?o28 ?_ ?a28 ?b28 ?c28 ?d28); (case o28 => with_reducible exact o_Beside _); (case a28 => rfl); (case b28 => decide); (case c28 => first | exact ⟨rfl, rfl⟩ | exact trivial); (case d28 => rfl)); w_dflts WL_cons; ((with_reducible refine' WE_name ?hx29 ?hd29 ?_); (case hx29 => walk_at "np at"); (case hd29 => first | exact neU rfl | assumption)); w_dflts WL_cons; ((with_reducible refine' WE_name ?hx30 ?hd30 ?_); (case hx30 => walk_at "np at"); (case hd30 => first | exact neU rfl | assumption)); w_dflts WL_cons; ((with_reducible refine' WE_name ?hx31 ?hd31 ?_); (case hx31 => walk_at "np at"); (case hd31 => first | exact neU rfl | assumption)); o_facts WL_nil)
  refine makeF (f := 127) (names := ["self", "size", "start", "end"]) (rest := []) (fun X => [("self", X), ("size", .int size), ("start", .int st), ("end", .int en)]) rfl room (by kernel_rfl) (by kernel_rfl) (by kernel_rfl) (by exact rfl) (by kernel_rfl) (fun ws h => by obtain ⟨a, b, c, d, rfl⟩ := ws4 h; rfl) (by decide) (by decide) (by decide) (by decide) rfl (fun _ => rfl) fun r2 a d hw2 room2 => ?_
  (o_facts WS_cons; w_dflts WX_setattr)
  refine WE_listM ?_
  refine WL_cons (WE_listF ?_) rfl
  (w_dflts WL_cons; o_facts WE_str; w_dflts WL_cons; ((with_reducible refine' WE_name ?hx32 ?hd32 ?_); (case hx32 => walk_at "np at"); (case hd32 => first | exact neU rfl | assumption)); o_facts WL_nil; ((with_reducible refine' And.intro ?a33 ?_); (case a33 => exact Nat.le_of_ble_eq_true rfl)); o_facts WL_nil; ((with_reducible refine' And.intro ?a34 ?_); (case a34 => exact Nat.le_of_ble_eq_true rfl)))
  intro s
  (((with_reducible refine' WE_name ?hx35 ?hd35 ?_); (case hx35 => walk_at "np at"); (case hd35 => first | exact neU rfl | assumption)); ((with_reducible refine' sat_new ?a36 ?b36 ?c36 ?d36 ?e36 ?f36 ?_); (case a36 => walk_at "np hat"); (case b36 => walk_at "np mod"); (case e36 => walk_at "np snoc"); (case c36 => with_reducible exact sk_stretches _); (case d36 => rfl); (case f36 => rfl)); o_facts WS_cons; w_dflts WX_setattr; ((with_reducible refine' WE_name ?hx37 ?hd37 ?_); (case hx37 => walk_at "np at"); (case hd37 => first | exact neU rfl | assumption)); ((with_reducible refine' WE_name ?hx38 ?hd38 ?_); (case hx38 => walk_at "np at"); (case hd38 => first | exact neU rfl | assumption)); ((with_reducible refine' sat_new ?a39 ?b39 ?c39 ?d39 ?e39 ?f39 ?_); (case a39 => walk_at "np hat"); (case b39 => walk_at "np mod"); (case e39 => walk_at "np snoc"); (case c39 => with_reducible exact sk_start _); (case d39 => rfl); (case f39 => rfl)); o_facts WS_cons; w_dflts WX_setattr; ((with_reducible refine' WE_name ?hx40 ?hd40 ?_); (case hx40 => walk_at "np at"); (case hd40 => first | exact neU rfl | assumption)); ((with_reducible refine' WE_name ?hx41 ?hd41 ?_); (case hx41 => walk_at "np at"); (case hd41 => first | exact neU rfl | assumption)); ((with_reducible refine' sat_new ?a42 ?b42 ?c42 ?d42 ?e42 ?f42 ?_); (case a42 => walk_at "np hat"); (case b42 => walk_at "np mod"); (case e42 => walk_at "np snoc"); (case c42 => with_reducible exact sk_end _); (case d42 => rfl); (case f42 => rfl)); o_facts WS_nil; ((with_reducible refine' ⟨_, ?ls43, ?_⟩); (case ls43 => walk_at "np set")); o_facts WS_cons; row_cond WX_assign)
  refine WE_listM ?_
  (o_facts WL_nil; ((with_reducible refine' And.intro ?a44 ?_); (case a44 => exact Nat.le_of_ble_eq_true rfl)))
  intro fo
  (((with_reducible refine' ⟨_, ?ls45, ?_⟩); (case ls45 => walk_at "np set")); o_facts WS_cons)
  refine WX_for (WE_weak ?_) rfl rfl (fun _ => rfl)
  (o_facts WE_sliceRev; ((with_reducible refine' WE_name ?hx46 ?hd46 ?_); (case hx46 => walk_at "np at"); (case hd46 => first | exact neU rfl | assumption)))
  have hlen : l'.length = rows.length := by rw [← hpin.len, List.length_map]
  refine ⟨l', .ref (.tail (.tail (.tail (.tail hR)))), size_ok (by omega), .lst (rows.map rwV).reverse, hpin.reverse.wk, _, rfl, ?_⟩
  rw [← List.map_reverse]
  refine wfor_inv (RegI st (rows.reverse.foldl (stepR st) ([((true, true), size)], en, [])) s a d fo (.ref R) (.int size) (.int en) hp) ?_ ?_ rows.reverse _ _ ⟨([((true, true), size)], en, []), .undef, .undef, rfl, by simp; omega, by simp; omega, fun x hx => hd x (List.mem_reverse.mp hx), rfl, rfl⟩
  · rintro x r loc hp ⟨S, W1, W2, hS, h1, h2, h3, rfl, rfl⟩
    refine ⟨_, by walk_at "np set", ?_⟩
    (o_facts WS_cons)
    have hu1 : rwV x ≠ .undef := neU (by cases x <;> rfl)
    have hu2 : ∀ o, outV o ≠ .undef := fun o => neU (by cases o with | none => rfl | some x => cases x <;> rfl)
    refine WX_if ?_
    (w_dflts WT_cmp; ((with_reducible refine' WE_name ?hx47 ?hd47 ?_); (case hx47 => walk_at "np at"); (case hd47 => first | exact neU rfl | assumption)); w_dflts WE_BOUNDARY)
    have hd' := h3 x (.head _)
    have hS2 : r.foldl (stepR st) (stepR st S x) = _ := hS
    simp only [List.length_cons] at h1 h2
    refine ⟨_, cmp_bnd, fun h => ?_, fun h => ?_⟩
    · unfold stepR at hS2
      rw [if_pos h] at hS2
      (o_facts WS_cons)
      refine WX_ifD ((S.2.2.getLast?).any fun y => !isBnd y) ?_ (fun h4 => ?_) (fun h4 => ?_)
      · (o_facts WT_bool; o_facts WB_and; w_dflts WT_cmp; row_room_at WE_len; w_dflts WL_cons; ((with_reducible refine' WE_name ?hx48 ?hd48 ?_); (case hx48 => walk_at "np at"); (case hd48 => first | exact neU rfl | assumption)); o_facts WL_nil; ((with_reducible refine' call_len ?a49 ?b49 ?_); (case a49 => walk_at "np lst"); (case b49 => walk_at "np ar")); o_facts WE_int)
        have two : S.2.2 = [] ∨ ∃ y, S.2.2.getLast? = some y := by
          cases q : S.2.2.getLast? with
          | none => exact .inl (List.getLast?_eq_none_iff.mp q)
          | some y => exact .inr ⟨y, rfl⟩
        refine tst_int cmp_gt (fun h4 => ?_) (fun h4 => ⟨rfl, ?_⟩)
        · obtain ⟨y, hy⟩ := two.resolve_left fun e => by rw [e] at h4; simp at h4
          (o_facts WB_and; w_dflts WT_cmp; ((with_reducible refine WE_item ?_ ?hs50); (case hs50 => (intro _ _; rfl))); ((with_reducible refine' WE_name ?hx51 ?hd51 ?_); (case hx51 => walk_at "np at"); (case hd51 => first | exact neU rfl | assumption)); o_facts WE_neg)
          refine ⟨_, item_last (X := rwV y) .head (by rw [List.getLast?_map, hy]; rfl), ?_⟩
          (w_dflts WE_BOUNDARY)
          refine ⟨_, cmp_nbnd, fun h5 => ?_, fun h5 => ⟨rfl, by rw [hy]; exact h5⟩⟩
          (o_facts WB_andN)
          exact ⟨rfl, by rw [hy]; exact h5⟩
        · rcases two with e | ⟨y, hy⟩
          · rw [e]; rfl
          · have : S.2.2 ≠ [] := fun e => by rw [e] at hy; cases hy
            have := List.length_pos_iff.mpr this
            rw [List.length_map] at h4
            omega
      · rw [if_pos h4] at hS2
        (o_facts WS_cons; row_more WX_expr)
        refine WE_methL PySem.F.slot_list_append rfl ?_ ⟨rfl, rfl⟩ rfl
        (((with_reducible refine' WE_name ?hx52 ?hd52 ?_); (case hx52 => walk_at "np at"); (case hd52 => first | exact neU rfl | assumption)))
        refine ⟨_, .ref .head, ?_⟩
        (w_dflts WL_cons; w_dflts WE_BOUNDARY; o_facts WL_nil)
        refine call_append .head (size_ok (by rw [List.length_map]; omega)) ?_
        (o_facts WS_nil; o_facts WS_nil; o_facts WS_nil)
        exact ⟨_, rwV x, W2, hS2, by dsimp only; omega, by rw [List.length_append, List.length_singleton]; omega, fun y hy => h3 y (.tail _ hy), rfl, by rw [List.map_append]; rfl⟩
      · rw [h4, if_neg Bool.false_ne_true] at hS2
        (o_facts WS_nil; o_facts WS_nil; o_facts WS_nil)
        exact ⟨_, rwV x, W2, hS2, by dsimp only; omega, by dsimp only; omega, fun y hy => h3 y (.tail _ hy), rfl, rfl⟩
    · unfold stepR at hS2
      rw [h, if_neg Bool.false_ne_true] at hS2
      have hu := undo_len (l := S.1) (st := st) (en := S.2.1) (x := x)
      (o_facts WS_cons; row_cond WX_assign; ((with_reducible refine' WE_own ?o53 ?_ ?a53 ?b53 ?c53 ?d53); (case o53 => with_reducible exact o_undone_row _); (case a53 => rfl); (case b53 => decide); (case c53 => first | exact ⟨rfl, rfl⟩ | exact trivial); (case d53 => rfl)); w_dflts WL_cons; ((with_reducible refine' WE_name ?hx54 ?hd54 ?_); (case hx54 => walk_at "np at"); (case hd54 => first | exact neU rfl | assumption)); w_dflts WL_cons; ((with_reducible refine' WE_name ?hx55 ?hd55 ?_); (case hx55 => walk_at "np at"); (case hd55 => first | exact neU rfl | assumption)); o_facts WL_nil)
      have hu3 := hu2 (undo S.1 st S.2.1 x).2.2
      refine urow_ok rfl ⟨by have := room.1; omega, by have := room.2; omega⟩ (by omega) hd' h ?_
      (((with_reducible refine' ⟨_, ?ls56, ?_⟩); (case ls56 => walk_at "np set")); o_facts WS_cons)
      refine WX_if ?_
      (w_dflts WT_cmp; ((with_reducible refine' WE_name ?hx57 ?hd57 ?_); (case hx57 => walk_at "np at"); (case hd57 => first | exact neU rfl | assumption)); o_facts WE_none)
      refine ⟨_, cmp_out, fun h4 => ?_, fun h4 => ?_⟩
      · (o_facts WS_cons; row_more WX_expr)
        obtain ⟨z, hz⟩ := Option.isSome_iff_exists.mp h4
        refine WE_methL PySem.F.slot_list_append rfl ?_ ⟨rfl, rfl⟩ rfl
        (((with_reducible refine' WE_name ?hx58 ?hd58 ?_); (case hx58 => walk_at "np at"); (case hd58 => first | exact neU rfl | assumption)))
        refine ⟨_, .ref .head, ?_⟩
        (w_dflts WL_cons; ((with_reducible refine' WE_name ?hx59 ?hd59 ?_); (case hx59 => walk_at "np at"); (case hd59 => first | exact neU rfl | assumption)); o_facts WL_nil)
        refine call_append .head (size_ok (by rw [List.length_map]; omega)) ?_
        (o_facts WS_nil; o_facts WS_nil; o_facts WS_nil)
        rw [hz] at hS2 ⊢
        exact ⟨_, rwV x, outV (some z), hS2, by dsimp only; omega, by rw [Option.toList_some, List.length_append, List.length_singleton]; omega, fun y hy => h3 y (.tail _ hy), rfl, by rw [Option.toList_some, List.map_append]; rfl⟩
      · (o_facts WS_nil; o_facts WS_nil; o_facts WS_nil)
        have hz : (undo S.1 st S.2.1 x).2.2 = none := Option.not_isSome_iff_eq_none.mp (by rw [h4]; exact Bool.false_ne_true)
        rw [hz] at hS2 ⊢
        exact ⟨_, rwV x, outV none, hS2, by dsimp only; omega, by rw [Option.toList_none, List.append_nil]; dsimp only; omega, fun y hy => h3 y (.tail _ hy), rfl, by rw [Option.toList_none, List.append_nil]⟩
  · rintro loc hp ⟨S, W1, W2, hS, h1, h2, h3, rfl, rfl⟩
    (o_facts WS_cons; o_facts WX_ret; o_facts WE_sliceRev; ((with_reducible refine' WE_name ?hx60 ?hd60 ?_); (case hx60 => walk_at "np at"); (case hd60 => first | exact neU rfl | assumption)))
    have hP := hP fo s a d
    rw [← show S = _ from hS] at hP
    refine ⟨_, .ref .head, size_ok (by rw [List.length_map]; simp only [List.length_nil] at h2; omega), ?_⟩
    rw [← List.map_reverse]
    exact hP
noncomputable abbrev hst (R h d : Nat) (rows : List Rw) (rest : Hp) : Hp := (R, .list (rows.map rwV)) :: (h, .inst 109 d) :: (d, .dict [("rows", .ref R), ("dropped", .int 0), ("is_on", .bool true), ("point_before", .none), ("noted_tick", .none)]) :: rest
noncomputable def atB (rows : List Rw) : Bool := !(rows.getLast?).any fun y => !isBnd y
theorem two_last (rows : List Rw) : rows = [] ∨ ∃ y, rows.getLast? = some y := by
  cases q : rows.getLast? with
  | none => exact .inl (List.getLast?_eq_none_iff.mp q)
  | some y => exact .inr ⟨y, rfl⟩
section
variable {c : Ctx} {loc : Loc} {pre rest : Hp} {R h d : Nat} {rows : List Rw} {P : Hp → V → Prop}
theorem atb_ok (hcm : c.fi.cm = none) (room : c.Room 1) (hl : rows.length < 1000) (hP : P (pre ++ hst R h d rows rest) (.bool (atB rows))) :
  CallOk c loc (pre ++ hst R h d rows rest) (.ref 50) [.ref h] P := by
  refine callF (names := ["self"]) (rest := []) (loc0 := [("self", .ref h)]) hcm room (by exact rfl) (by kernel_rfl) (fun ws h => by obtain ⟨a, rfl⟩ := ws1 h; rfl) (by decide) (by decide) (by decide) (by decide) rfl rfl fun r hw room => ?_
  (o_facts WS_cons; o_facts WX_ret; o_facts WE_or; w_dflts WE_cmp; row_room_at WE_len; w_dflts WL_cons; w_dflts WE_attr; ((with_reducible refine' WE_name ?hx1 ?hd1 ?_); (case hx1 => walk_at "np at"); (case hd1 => first | exact neU rfl | assumption)); ((with_reducible refine' ⟨_, AttrV.ref ?a2 ?b2 ?c2 ?d2 ?e2, ?_⟩); (case a2 => walk_at "np hat"); (case b2 => walk_at "np hat"); (case c2 => walk_at "np at"); (case d2 => rfl); (case e2 => with_reducible exact gk_rows _)); o_facts WL_nil; ((with_reducible refine' call_len ?a3 ?b3 ?_); (case a3 => walk_at "np lst"); (case b3 => walk_at "np ar")); o_facts WE_int)
  refine ⟨_, cmp_eq, ?_⟩
  refine ⟨_, rfl, fun h => ?_, fun h => ?_⟩
  · rcases two_last rows with e | ⟨y, hy⟩
    · rw [e] at h; simp at h
    · (w_dflts WE_cmp; ((with_reducible refine WE_item ?_ ?hs4); (case hs4 => (intro _ _; rfl))); w_dflts WE_attr; ((with_reducible refine' WE_name ?hx5 ?hd5 ?_); (case hx5 => walk_at "np at"); (case hd5 => first | exact neU rfl | assumption)); ((with_reducible refine' ⟨_, AttrV.ref ?a6 ?b6 ?c6 ?d6 ?e6, ?_⟩); (case a6 => walk_at "np hat"); (case b6 => walk_at "np hat"); (case c6 => walk_at "np at"); (case d6 => rfl); (case e6 => with_reducible exact gk_rows _)); o_facts WE_neg)
      refine ⟨_, item_last (X := rwV y) (by walk_at "np hat") (by rw [List.getLast?_map, hy]; rfl), ?_⟩
      (w_dflts WE_BOUNDARY)
      refine ⟨_, cmp_bnd, ?_⟩
      unfold atB at hP
      rw [hy] at hP
      simpa using hP
  · have e : rows = [] := by simpa using h
    subst e
    exact hP
theorem bnd_ok (hcm : c.fi.cm = none) (room : c.Room 2) (hl : rows.length < 1000) (hP : P (pre ++ hst R h d (if atB rows then rows else rows ++ [.bnd]) rest) .none) :
  CallOk c loc (pre ++ hst R h d rows rest) (.ref 57) [.ref h] P := by
  refine callF (names := ["self"]) (rest := []) (loc0 := [("self", .ref h)]) hcm room (by exact rfl) (by kernel_rfl) (fun ws h => by obtain ⟨a, rfl⟩ := ws1 h; rfl) (by decide) (by decide) (by decide) (by decide) rfl rfl fun r hw room => ?_
  (o_facts WS_cons)
  (o_facts WX_if; o_facts WT_not; w_dflts WT_val)
  ((refine WE_methK ?_ (by first | exact trivial | exact ⟨rfl, rfl⟩) rfl); ((with_reducible refine' WE_name ?hx7 ?hd7 ?_); (case hx7 => walk_at "np at"); (case hd7 => first | exact neU rfl | assumption)); ((with_reducible refine' mth_of ?a8 ?b8 ?c8 ?d8 ?_); (case a8 => walk_at "np hat"); (case b8 => walk_at "np hat"); (case d8 => with_reducible exact mk_is_at_boundary _); (case c8 => rfl)); o_facts WL_nil)
  refine atb_ok rfl room hl ?_
  refine ⟨_, rfl, fun h => ?_, fun h => ?_⟩
  · rw [if_pos h] at hP
    (o_facts WS_nil; o_facts WS_nil)
    exact hP
  · rw [h, if_neg Bool.false_ne_true] at hP
    (o_facts WS_cons; row_more WX_expr)
    refine WE_methL PySem.F.slot_list_append rfl ?_ ⟨rfl, rfl⟩ rfl
    (w_dflts WE_attr; ((with_reducible refine' WE_name ?hx9 ?hd9 ?_); (case hx9 => walk_at "np at"); (case hd9 => first | exact neU rfl | assumption)); ((with_reducible refine' ⟨_, AttrV.ref ?a10 ?b10 ?c10 ?d10 ?e10, ?_⟩); (case a10 => walk_at "np hat"); (case b10 => walk_at "np hat"); (case c10 => walk_at "np at"); (case d10 => rfl); (case e10 => with_reducible exact gk_rows _)))
    refine ⟨_, .ref (by walk_at "np hat"), ?_⟩
    (w_dflts WL_cons; w_dflts WE_BOUNDARY; o_facts WL_nil)
    refine call_append (by walk_at "np mod") (size_ok (by rw [List.length_map]; omega)) ?_
    (o_facts WS_nil; o_facts WS_nil)
    rw [show rows.map rwV ++ [V.tup [.str "boundary"]] = (rows ++ [Rw.bnd]).map rwV by rw [List.map_append]; rfl]
    exact hP
theorem nst_ok (hcm : c.fi.cm = none) (room : c.Room 1) (hP : P (pre ++ hst R h d rows rest) .none) :
  CallOk c loc (pre ++ hst R h d rows rest) (.ref 71) [.ref h, .bool true, .int 0] P := by
  refine callF (names := ["self", "is_modified", "tick"]) (rest := []) (loc0 := [("self", .ref h), ("is_modified", .bool true), ("tick", .int 0)]) hcm room (by exact rfl) (by kernel_rfl) (fun ws h => by obtain ⟨a, b, c, rfl⟩ := ws3 h; rfl) (by decide) (by decide) (by decide) (by decide) rfl rfl fun r hw room => ?_
  (o_facts WS_cons)
  (o_facts WX_if; o_facts WT_bool; o_facts WB_and; o_facts WT_not; w_dflts WT_val; ((with_reducible refine' WE_name ?hx11 ?hd11 ?_); (case hx11 => walk_at "np at"); (case hd11 => first | exact neU rfl | assumption)); o_facts valT; o_facts WS_nil; o_facts WS_nil)
  exact hP
noncomputable def insAt (p : Nat) : Rw → Bool
  | .ins q m => decide (q + m = p)
  | _ => false
noncomputable def grow (n : Nat) : Rw → Rw
  | .ins q m => .ins q (m + n)
  | x => x
noncomputable def noteIns (rows : List Rw) (p n : Nat) : List Rw := if insAt p (rows.getLast?.getD .bnd) = true then rows.set (rows.length - 1) (grow n (rows.getLast?.getD .bnd)) else rows ++ [.ins p n]
theorem nins_ok {p n : Nat} {pt : Int} (hcm : c.fi.cm = none) (room : c.Room 2) (hl : rows.length < 1000) (hn : 0 < n) (hP : P (pre ++ hst R h d (noteIns rows p n) rest) .none) :
  CallOk c loc (pre ++ hst R h d rows rest) (.ref 78) [.ref h, .int (p + 1), .int n, .int pt, .bool true, .int 0] P := by
  refine callF (names := ["self", "start", "many", "point", "is_modified", "tick"]) (rest := ["last"]) (loc0 := [("self", .ref h), ("start", .int (p + 1)), ("many", .int n), ("point", .int pt), ("is_modified", .bool true), ("tick", .int 0), ("last", .undef)]) hcm room (by exact rfl) (by kernel_rfl) (fun ws h => by obtain ⟨a, b, c, d, e, f, rfl⟩ := ws6 h; rfl) (by decide) (by decide) (by decide) (by decide) rfl rfl fun r hw room => ?_
  (o_facts WS_cons)
  (o_facts WX_if; o_facts WT_bool; o_facts WB_or; o_facts WT_not; w_dflts WT_val; w_dflts WE_attr; ((with_reducible refine' WE_name ?hx12 ?hd12 ?_); (case hx12 => walk_at "np at"); (case hd12 => first | exact neU rfl | assumption)); ((with_reducible refine' ⟨_, AttrV.ref ?a13 ?b13 ?c13 ?d13 ?e13, ?_⟩); (case a13 => walk_at "np hat"); (case b13 => walk_at "np hat"); (case c13 => walk_at "np at"); (case d13 => rfl); (case e13 => with_reducible exact gk_is_on _)); o_facts valT; o_facts WB_or; w_dflts WT_cmp; ((with_reducible refine' WE_name ?hx14 ?hd14 ?_); (case hx14 => walk_at "np at"); (case hd14 => first | exact neU rfl | assumption)); o_facts WE_int)
  refine tst_f cmp_eq (by omega) ?_
  (o_facts WB_orN; o_facts WS_nil; o_facts WS_cons; row_more WX_expr)
  ((refine WE_methK ?_ (by first | exact trivial | exact ⟨rfl, rfl⟩) rfl); ((with_reducible refine' WE_name ?hx15 ?hd15 ?_); (case hx15 => walk_at "np at"); (case hd15 => first | exact neU rfl | assumption)); ((with_reducible refine' mth_of ?a16 ?b16 ?c16 ?d16 ?_); (case a16 => walk_at "np hat"); (case b16 => walk_at "np hat"); (case d16 => with_reducible exact mk_note_state _); (case c16 => rfl)); w_dflts WL_cons; ((with_reducible refine' WE_name ?hx17 ?hd17 ?_); (case hx17 => walk_at "np at"); (case hd17 => first | exact neU rfl | assumption)); w_dflts WL_cons; ((with_reducible refine' WE_name ?hx18 ?hd18 ?_); (case hx18 => walk_at "np at"); (case hd18 => first | exact neU rfl | assumption)); o_facts WL_nil)
  refine nst_ok rfl (room.le (by decide)) ?_
  refine WS_cons (WX_assign (WE_val (Y := rwV (rows.getLast?.getD .bnd)) ?_ ?_) rfl rfl rfl)
  · (o_facts WE_ifexp; w_dflts WT_cmp; row_room_at WE_len; w_dflts WL_cons; w_dflts WE_attr; ((with_reducible refine' WE_name ?hx19 ?hd19 ?_); (case hx19 => walk_at "np at"); (case hd19 => first | exact neU rfl | assumption)); ((with_reducible refine' ⟨_, AttrV.ref ?a20 ?b20 ?c20 ?d20 ?e20, ?_⟩); (case a20 => walk_at "np hat"); (case b20 => walk_at "np hat"); (case c20 => walk_at "np at"); (case d20 => rfl); (case e20 => with_reducible exact gk_rows _)); o_facts WL_nil; ((with_reducible refine' call_len ?a21 ?b21 ?_); (case a21 => walk_at "np lst"); (case b21 => walk_at "np ar")); o_facts WE_int)
    refine tst_int cmp_gt (fun h => ?_) (fun h => ?_)
    · obtain ⟨y, hy⟩ := (two_last rows).resolve_left fun e => by rw [e] at h; simp at h
      (((with_reducible refine WE_item ?_ ?hs22); (case hs22 => (intro _ _; rfl))); w_dflts WE_attr; ((with_reducible refine' WE_name ?hx23 ?hd23 ?_); (case hx23 => walk_at "np at"); (case hd23 => first | exact neU rfl | assumption)); ((with_reducible refine' ⟨_, AttrV.ref ?a24 ?b24 ?c24 ?d24 ?e24, ?_⟩); (case a24 => walk_at "np hat"); (case b24 => walk_at "np hat"); (case c24 => walk_at "np at"); (case d24 => rfl); (case e24 => with_reducible exact gk_rows _)); o_facts WE_neg)
      exact ⟨_, item_last (X := rwV y) (by walk_at "np hat") (by rw [List.getLast?_map, hy]; rfl), rfl, by rw [hy]; rfl⟩
    · have e : rows = [] := by rw [List.length_map] at h; exact List.eq_nil_of_length_eq_zero (by omega)
      (w_dflts WE_BOUNDARY)
      subst e
      exact ⟨rfl, rfl⟩
  · have hu : rwV (rows.getLast?.getD .bnd) ≠ .undef := neU (by cases rows.getLast?.getD .bnd <;> rfl)
    (((with_reducible refine' ⟨_, ?ls25, ?_⟩); (case ls25 => walk_at "np set")); o_facts WS_cons)
    refine WX_ifD (insAt p (rows.getLast?.getD .bnd)) ?_ (fun h => ?_) (fun h => ?_)
    · clear hu
      cases rows.getLast?.getD .bnd with
      | ins q m =>
        (o_facts WT_bool; o_facts WB_and; w_dflts WT_cmp; ((with_reducible refine WE_item ?_ ?hs26); (case hs26 => (intro _ _; rfl))); ((with_reducible refine' WE_name ?hx27 ?hd27 ?_); (case hx27 => walk_at "np at"); (case hd27 => first | exact neU rfl | assumption)); o_facts WE_int; ((with_reducible refine' ⟨_, item_tup ?b28 ?c28 ?d28, ?_⟩); (case b28 => decide); (case c28 => decide); (case d28 => rfl)); o_facts WE_str)
        refine tst_t cmp_eqS rfl ?_
        (o_facts WB_and; w_dflts WT_cmp; ((with_reducible refine WE_item ?_ ?hs29); (case hs29 => (intro _ _; rfl))); ((with_reducible refine' WE_name ?hx30 ?hd30 ?_); (case hx30 => walk_at "np at"); (case hd30 => first | exact neU rfl | assumption)); o_facts WE_int; ((with_reducible refine' ⟨_, item_tup ?b31 ?c31 ?d31, ?_⟩); (case b31 => decide); (case c31 => decide); (case d31 => rfl)); ((with_reducible refine' WE_name ?hx32 ?hd32 ?_); (case hx32 => walk_at "np at"); (case hd32 => first | exact neU rfl | assumption)))
        refine tst_int cmp_eq (fun h => ?_) (fun h => ⟨rfl, decide_eq_false (by omega)⟩)
        (o_facts WB_andN)
        exact ⟨rfl, decide_eq_true (by omega)⟩
      | del q xs b =>
        (o_facts WT_bool; o_facts WB_and; w_dflts WT_cmp; ((with_reducible refine WE_item ?_ ?hs33); (case hs33 => (intro _ _; rfl))); ((with_reducible refine' WE_name ?hx34 ?hd34 ?_); (case hx34 => walk_at "np at"); (case hd34 => first | exact neU rfl | assumption)); o_facts WE_int; ((with_reducible refine' ⟨_, item_tup ?b35 ?c35 ?d35, ?_⟩); (case b35 => decide); (case c35 => decide); (case d35 => rfl)); o_facts WE_str)
        exact tst_f cmp_eqS (by decide) ⟨rfl, rfl⟩
      | prop q m k =>
        (o_facts WT_bool; o_facts WB_and; w_dflts WT_cmp; ((with_reducible refine WE_item ?_ ?hs36); (case hs36 => (intro _ _; rfl))); ((with_reducible refine' WE_name ?hx37 ?hd37 ?_); (case hx37 => walk_at "np at"); (case hd37 => first | exact neU rfl | assumption)); o_facts WE_int; ((with_reducible refine' ⟨_, item_tup ?b38 ?c38 ?d38, ?_⟩); (case b38 => decide); (case c38 => decide); (case d38 => rfl)); o_facts WE_str)
        exact tst_f cmp_eqS (by decide) ⟨rfl, rfl⟩
      | bnd =>
        (o_facts WT_bool; o_facts WB_and; w_dflts WT_cmp; ((with_reducible refine WE_item ?_ ?hs39); (case hs39 => (intro _ _; rfl))); ((with_reducible refine' WE_name ?hx40 ?hd40 ?_); (case hx40 => walk_at "np at"); (case hd40 => first | exact neU rfl | assumption)); o_facts WE_int; ((with_reducible refine' ⟨_, item_tup ?b41 ?c41 ?d41, ?_⟩); (case b41 => decide); (case c41 => decide); (case d41 => rfl)); o_facts WE_str)
        exact tst_f cmp_eqS (by decide) ⟨rfl, rfl⟩
    · unfold noteIns at hP
      rw [if_pos h] at hP
      obtain ⟨y, hy⟩ := (two_last rows).resolve_left fun e => by subst e; cases h
      have hpos : 0 < rows.length := List.length_pos_iff.mpr fun e => by subst e; cases hy
      rw [hy] at hP h ⊢
      cases y with
      | ins q m =>
        (o_facts WS_cons; w_dflts WX_setItem; o_facts WE_tuple; w_dflts WL_cons; o_facts WE_str; w_dflts WL_cons; ((with_reducible refine WE_item ?_ ?hs42); (case hs42 => (intro _ _; rfl))); ((with_reducible refine' WE_name ?hx43 ?hd43 ?_); (case hx43 => walk_at "np at"); (case hd43 => first | exact neU rfl | assumption)); o_facts WE_int; ((with_reducible refine' ⟨_, item_tup ?b44 ?c44 ?d44, ?_⟩); (case b44 => decide); (case c44 => decide); (case d44 => rfl)); w_dflts WL_cons; o_facts WE_bin; ((with_reducible refine' WE_name ?hx45 ?hd45 ?_); (case hx45 => walk_at "np at"); (case hd45 => first | exact neU rfl | assumption)); ((with_reducible refine' WE_name ?hx46 ?hd46 ?_); (case hx46 => walk_at "np at"); (case hd46 => first | exact neU rfl | assumption)); (with_reducible refine .add ?_); o_facts WL_nil; ((with_reducible refine' And.intro ?a47 ?_); (case a47 => exact Nat.le_of_ble_eq_true rfl)); w_dflts WE_attr; ((with_reducible refine' WE_name ?hx48 ?hd48 ?_); (case hx48 => walk_at "np at"); (case hd48 => first | exact neU rfl | assumption)); ((with_reducible refine' ⟨_, AttrV.ref ?a49 ?b49 ?c49 ?d49 ?e49, ?_⟩); (case a49 => walk_at "np hat"); (case b49 => walk_at "np hat"); (case c49 => walk_at "np at"); (case d49 => rfl); (case e49 => with_reducible exact gk_rows _)); o_facts WE_neg)
        refine ⟨_, set_last (by walk_at "np mod") (by rw [List.length_map]; exact hpos), ?_⟩
        (o_facts WS_nil; o_facts WS_nil)
        have hq : q + m = p := of_decide_eq_true h
        rw [show (p + 1 + n : Int) = q + 1 + (m + n : Nat) by omega]
        rw [List.length_map, show (rows.map rwV).set (rows.length - 1) (V.tup [.str "insert", .int (q + 1), .int (q + 1 + (m + n : Nat))]) = (rows.set (rows.length - 1) (Rw.ins q (m + n))).map rwV by rw [List.map_set]; rfl]
        exact hP
      | _ => cases h
    · unfold noteIns at hP
      rw [h, if_neg Bool.false_ne_true] at hP
      (o_facts WS_cons; row_more WX_expr)
      refine WE_methL PySem.F.slot_list_append rfl ?_ ⟨rfl, rfl⟩ rfl
      (w_dflts WE_attr; ((with_reducible refine' WE_name ?hx50 ?hd50 ?_); (case hx50 => walk_at "np at"); (case hd50 => first | exact neU rfl | assumption)); ((with_reducible refine' ⟨_, AttrV.ref ?a51 ?b51 ?c51 ?d51 ?e51, ?_⟩); (case a51 => walk_at "np hat"); (case b51 => walk_at "np hat"); (case c51 => walk_at "np at"); (case d51 => rfl); (case e51 => with_reducible exact gk_rows _)))
      refine ⟨_, .ref (by walk_at "np hat"), ?_⟩
      (w_dflts WL_cons; o_facts WE_tuple; w_dflts WL_cons; o_facts WE_str; w_dflts WL_cons; ((with_reducible refine' WE_name ?hx52 ?hd52 ?_); (case hx52 => walk_at "np at"); (case hd52 => first | exact neU rfl | assumption)); w_dflts WL_cons; o_facts WE_bin; ((with_reducible refine' WE_name ?hx53 ?hd53 ?_); (case hx53 => walk_at "np at"); (case hd53 => first | exact neU rfl | assumption)); ((with_reducible refine' WE_name ?hx54 ?hd54 ?_); (case hx54 => walk_at "np at"); (case hd54 => first | exact neU rfl | assumption)); (with_reducible refine .add ?_); o_facts WL_nil; ((with_reducible refine' And.intro ?a55 ?_); (case a55 => exact Nat.le_of_ble_eq_true rfl)); o_facts WL_nil)
      refine call_append (by walk_at "np mod") (size_ok (by rw [List.length_map]; omega)) ?_
      (o_facts WS_nil; o_facts WS_nil)
      rw [show rows.map rwV ++ [V.tup [.str "insert", .int (p + 1), .int (p + 1 + n)]] = (rows ++ [Rw.ins p n]).map rwV by rw [List.map_append]; rfl]
      exact hP
theorem ndel_ok {p : Nat} {xs : List Int} {pt : Int} {b : Bool} (hcm : c.fi.cm = none) (room : c.Room 2) (hl : rows.length < 1000) (hx0 : xs ≠ []) (hx : xs.length < 1000) (hb : decide (pt = p + 1 + xs.length) = b) (hP : P (pre ++ hst R h d (rows ++ [.del p xs b]) rest) .none) :
  CallOk c loc (pre ++ hst R h d rows rest) (.ref 85) [.ref h, .int (p + 1), pieceV xs, .int pt, .lst [], .bool true, .int 0] P := by
  refine callF (names := ["self", "start", "piece", "point", "markers", "is_modified", "tick"]) (rest := ["is_first", "marker", "distance"]) (loc0 := [("self", .ref h), ("start", .int (p + 1)), ("piece", .obj 208 [("codes", .lst (xs.map V.int)), ("runs", .lst [])]), ("point", .int pt), ("markers", .lst []), ("is_modified", .bool true), ("tick", .int 0), ("is_first", .undef), ("marker", .undef), ("distance", .undef)]) hcm room (by exact rfl) (by kernel_rfl) (fun ws h => by obtain ⟨a, b, c, d, e, f, g, rfl⟩ := ws7 h; rfl) (by decide) (by decide) (by decide) (by decide) rfl rfl fun r hw room => ?_
  (o_facts WS_cons)
  (o_facts WX_if; o_facts WT_bool; o_facts WB_or; o_facts WT_not; w_dflts WT_val; w_dflts WE_attr; ((with_reducible refine' WE_name ?hx56 ?hd56 ?_); (case hx56 => walk_at "np at"); (case hd56 => first | exact neU rfl | assumption)); ((with_reducible refine' ⟨_, AttrV.ref ?a57 ?b57 ?c57 ?d57 ?e57, ?_⟩); (case a57 => walk_at "np hat"); (case b57 => walk_at "np hat"); (case c57 => walk_at "np at"); (case d57 => rfl); (case e57 => with_reducible exact gk_is_on _)); o_facts valT; o_facts WB_or; w_dflts WT_cmp; row_room_at WE_len; w_dflts WL_cons; w_dflts WE_attr; ((with_reducible refine' WE_name ?hx58 ?hd58 ?_); (case hx58 => walk_at "np at"); (case hd58 => first | exact neU rfl | assumption)); ((with_reducible refine' ⟨_, AttrV.obj ?c59 ?d59 ?e59, ?_⟩); (case c59 => walk_at "np at"); (case d59 => rfl); (case e59 => with_reducible exact gk_codes _)); o_facts WL_nil; ((with_reducible refine' call_len ?a60 ?b60 ?_); (case a60 => walk_at "np lst"); (case b60 => walk_at "np ar")); o_facts WE_int)
  refine tst_f cmp_eq (by rw [List.length_map]; have := List.length_pos_iff.mpr hx0; omega) ?_
  (o_facts WB_orN; o_facts WS_nil; o_facts WS_cons; row_cond WX_assign)
  ((refine WE_methK ?_ (by first | exact trivial | exact ⟨rfl, rfl⟩) rfl); ((with_reducible refine' WE_name ?hx61 ?hd61 ?_); (case hx61 => walk_at "np at"); (case hd61 => first | exact neU rfl | assumption)); ((with_reducible refine' mth_of ?a62 ?b62 ?c62 ?d62 ?_); (case a62 => walk_at "np hat"); (case b62 => walk_at "np hat"); (case d62 => with_reducible exact mk_is_at_boundary _); (case c62 => rfl)); o_facts WL_nil)
  refine atb_ok rfl (room.le (by decide)) hl ?_
  (((with_reducible refine' ⟨_, ?ls63, ?_⟩); (case ls63 => walk_at "np set")); o_facts WS_cons; row_more WX_expr)
  ((refine WE_methK ?_ (by first | exact trivial | exact ⟨rfl, rfl⟩) rfl); ((with_reducible refine' WE_name ?hx64 ?hd64 ?_); (case hx64 => walk_at "np at"); (case hd64 => first | exact neU rfl | assumption)); ((with_reducible refine' mth_of ?a65 ?b65 ?c65 ?d65 ?_); (case a65 => walk_at "np hat"); (case b65 => walk_at "np hat"); (case d65 => with_reducible exact mk_note_state _); (case c65 => rfl)); w_dflts WL_cons; ((with_reducible refine' WE_name ?hx66 ?hd66 ?_); (case hx66 => walk_at "np at"); (case hd66 => first | exact neU rfl | assumption)); w_dflts WL_cons; ((with_reducible refine' WE_name ?hx67 ?hd67 ?_); (case hx67 => walk_at "np at"); (case hd67 => first | exact neU rfl | assumption)); o_facts WL_nil)
  refine nst_ok rfl (room.le (by decide)) ?_
  (o_facts WS_cons)
  refine WX_ifD false ?_ nofun (fun _ => ?_)
  · (o_facts WT_bool; o_facts WB_and; w_dflts WT_val; ((with_reducible refine' WE_name ?hx68 ?hd68 ?_); (case hx68 => walk_at "np at"); (case hd68 => first | exact neU rfl | assumption)))
    refine ⟨_, rfl, fun h => ?_, fun h => ⟨rfl, rfl⟩⟩
    (o_facts WB_and; w_dflts WT_cmp; w_dflts WE_attr; ((with_reducible refine' WE_name ?hx69 ?hd69 ?_); (case hx69 => walk_at "np at"); (case hd69 => first | exact neU rfl | assumption)); ((with_reducible refine' ⟨_, AttrV.ref ?a70 ?b70 ?c70 ?d70 ?e70, ?_⟩); (case a70 => walk_at "np hat"); (case b70 => walk_at "np hat"); (case c70 => walk_at "np at"); (case d70 => rfl); (case e70 => with_reducible exact gk_point_before _)); o_facts WE_none)
    exact ⟨_, cmp_isNot_none, nofun, fun _ => ⟨rfl, rfl⟩⟩
  · (o_facts WS_nil; o_facts WS_cons)
    refine WX_for0 ?_ (fun _ => rfl)
    (((with_reducible refine' WE_name ?hx71 ?hd71 ?_); (case hx71 => walk_at "np at"); (case hd71 => first | exact neU rfl | assumption)))
    refine ⟨rfl, ?_⟩
    (o_facts WS_cons; row_more WX_expr)
    refine WE_methL PySem.F.slot_list_append rfl ?_ ⟨rfl, rfl⟩ rfl
    (w_dflts WE_attr; ((with_reducible refine' WE_name ?hx72 ?hd72 ?_); (case hx72 => walk_at "np at"); (case hd72 => first | exact neU rfl | assumption)); ((with_reducible refine' ⟨_, AttrV.ref ?a73 ?b73 ?c73 ?d73 ?e73, ?_⟩); (case a73 => walk_at "np hat"); (case b73 => walk_at "np hat"); (case c73 => walk_at "np at"); (case d73 => rfl); (case e73 => with_reducible exact gk_rows _)))
    refine ⟨_, .ref (by walk_at "np hat"), ?_⟩
    (w_dflts WL_cons; o_facts WE_tuple; w_dflts WL_cons; o_facts WE_str; w_dflts WL_cons; ((with_reducible refine' WE_name ?hx74 ?hd74 ?_); (case hx74 => walk_at "np at"); (case hd74 => first | exact neU rfl | assumption)); w_dflts WL_cons; ((with_reducible refine' WE_name ?hx75 ?hd75 ?_); (case hx75 => walk_at "np at"); (case hd75 => first | exact neU rfl | assumption)); w_dflts WL_cons; w_dflts WE_cmp; ((with_reducible refine' WE_name ?hx76 ?hd76 ?_); (case hx76 => walk_at "np at"); (case hd76 => first | exact neU rfl | assumption)); o_facts WE_bin; ((with_reducible refine' WE_name ?hx77 ?hd77 ?_); (case hx77 => walk_at "np at"); (case hd77 => first | exact neU rfl | assumption)); row_room_at WE_len; w_dflts WL_cons; w_dflts WE_attr; ((with_reducible refine' WE_name ?hx78 ?hd78 ?_); (case hx78 => walk_at "np at"); (case hd78 => first | exact neU rfl | assumption)); ((with_reducible refine' ⟨_, AttrV.obj ?c79 ?d79 ?e79, ?_⟩); (case c79 => walk_at "np at"); (case d79 => rfl); (case e79 => with_reducible exact gk_codes _)); o_facts WL_nil; ((with_reducible refine' call_len ?a80 ?b80 ?_); (case a80 => walk_at "np lst"); (case b80 => walk_at "np ar")); (with_reducible refine .add ?_))
    rw [List.length_map]
    refine ⟨_, cmp_eq, ?_⟩
    (o_facts WL_nil; ((with_reducible refine' And.intro ?a81 ?_); (case a81 => exact Nat.le_of_ble_eq_true rfl)); o_facts WL_nil)
    refine call_append (by walk_at "np mod") (size_ok (by rw [List.length_map]; omega)) ?_
    (o_facts WS_nil)
    rw [hb, show rows.map rwV ++ [V.tup [.str "delete", .int (p + 1), .obj 208 [("codes", .lst (xs.map V.int)), ("runs", .lst [])], .bool b]] = (rows ++ [Rw.del p xs b]).map rwV by rw [List.map_append]; rfl]
    exact hP
theorem nprop_ok {p m : Nat} (hcm : c.fi.cm = none) (room : c.Room 2) (hl : rows.length < 1000) (hm : 0 < m) (hP : P (pre ++ hst R h d (rows ++ [.prop p m p]) rest) .none) :
  CallOk c loc (pre ++ hst R h d rows rest) (.ref 92) [.ref h, .int (p + 1), .int (p + 1 + m), .int 7, .tup [.int p], .bool true, .int 0] P := by
  refine callF (names := ["self", "start", "end", "number", "elder", "is_modified", "tick"]) (rest := []) (loc0 := [("self", .ref h), ("start", .int (p + 1)), ("end", .int (p + 1 + m)), ("number", .int 7), ("elder", .tup [.int p]), ("is_modified", .bool true), ("tick", .int 0)]) hcm room (by exact rfl) (by kernel_rfl) (fun ws h => by obtain ⟨a, b, c, d, e, f, g, rfl⟩ := ws7 h; rfl) (by decide) (by decide) (by decide) (by decide) rfl rfl fun r hw room => ?_
  (o_facts WS_cons)
  (o_facts WX_if; o_facts WT_bool; o_facts WB_and; w_dflts WT_val; w_dflts WE_attr; ((with_reducible refine' WE_name ?hx82 ?hd82 ?_); (case hx82 => walk_at "np at"); (case hd82 => first | exact neU rfl | assumption)); ((with_reducible refine' ⟨_, AttrV.ref ?a83 ?b83 ?c83 ?d83 ?e83, ?_⟩); (case a83 => walk_at "np hat"); (case b83 => walk_at "np hat"); (case c83 => walk_at "np at"); (case d83 => rfl); (case e83 => with_reducible exact gk_is_on _)); o_facts valT; o_facts WB_and; w_dflts WT_cmp; ((with_reducible refine' WE_name ?hx84 ?hd84 ?_); (case hx84 => walk_at "np at"); (case hd84 => first | exact neU rfl | assumption)); ((with_reducible refine' WE_name ?hx85 ?hd85 ?_); (case hx85 => walk_at "np at"); (case hd85 => first | exact neU rfl | assumption)))
  refine tst_t cmp_lt (by omega) ?_
  (o_facts WB_andN; o_facts WS_cons; row_more WX_expr)
  ((refine WE_methK ?_ (by first | exact trivial | exact ⟨rfl, rfl⟩) rfl); ((with_reducible refine' WE_name ?hx86 ?hd86 ?_); (case hx86 => walk_at "np at"); (case hd86 => first | exact neU rfl | assumption)); ((with_reducible refine' mth_of ?a87 ?b87 ?c87 ?d87 ?_); (case a87 => walk_at "np hat"); (case b87 => walk_at "np hat"); (case d87 => with_reducible exact mk_note_state _); (case c87 => rfl)); w_dflts WL_cons; ((with_reducible refine' WE_name ?hx88 ?hd88 ?_); (case hx88 => walk_at "np at"); (case hd88 => first | exact neU rfl | assumption)); w_dflts WL_cons; ((with_reducible refine' WE_name ?hx89 ?hd89 ?_); (case hx89 => walk_at "np at"); (case hd89 => first | exact neU rfl | assumption)); o_facts WL_nil)
  refine nst_ok rfl (room.le (by decide)) ?_
  (o_facts WS_cons; row_more WX_expr)
  refine WE_methL PySem.F.slot_list_append rfl ?_ ⟨rfl, rfl⟩ rfl
  (w_dflts WE_attr; ((with_reducible refine' WE_name ?hx90 ?hd90 ?_); (case hx90 => walk_at "np at"); (case hd90 => first | exact neU rfl | assumption)); ((with_reducible refine' ⟨_, AttrV.ref ?a91 ?b91 ?c91 ?d91 ?e91, ?_⟩); (case a91 => walk_at "np hat"); (case b91 => walk_at "np hat"); (case c91 => walk_at "np at"); (case d91 => rfl); (case e91 => with_reducible exact gk_rows _)))
  refine ⟨_, .ref (by walk_at "np hat"), ?_⟩
  (w_dflts WL_cons; o_facts WE_tuple; w_dflts WL_cons; o_facts WE_str; w_dflts WL_cons; ((with_reducible refine' WE_name ?hx92 ?hd92 ?_); (case hx92 => walk_at "np at"); (case hd92 => first | exact neU rfl | assumption)); w_dflts WL_cons; ((with_reducible refine' WE_name ?hx93 ?hd93 ?_); (case hx93 => walk_at "np at"); (case hd93 => first | exact neU rfl | assumption)); w_dflts WL_cons; ((with_reducible refine' WE_name ?hx94 ?hd94 ?_); (case hx94 => walk_at "np at"); (case hd94 => first | exact neU rfl | assumption)); w_dflts WL_cons; ((with_reducible refine' WE_name ?hx95 ?hd95 ?_); (case hx95 => walk_at "np at"); (case hd95 => first | exact neU rfl | assumption)); o_facts WL_nil; ((with_reducible refine' And.intro ?a96 ?_); (case a96 => exact Nat.le_of_ble_eq_true rfl)); o_facts WL_nil)
  refine call_append (by walk_at "np mod") (size_ok (by rw [List.length_map]; omega)) ?_
  (o_facts WS_nil; o_facts WS_nil)
  rw [show rows.map rwV ++ [V.tup [.str "property", .int (p + 1), .int (p + 1 + m), .int 7, .tup [.int p]]] = (rows ++ [Rw.prop p m p]).map rwV by rw [List.map_append]; rfl]
  exact hP
end
theorem piece_ok {c : Ctx} {loc : Loc} {hp : Hp} {X : V} {l : List V} {P : Hp → V → Prop} (hcm : c.fi.cm = none) (room : c.Room 2) (hX : LstV hp X l) (hu : X ≠ .undef) (hl : l.length < 1000) (hP : P hp (.obj 208 [("codes", .lst l), ("runs", .lst [])])) : CallOk c loc hp (.ref 219) [X] P := by
  refine callF (names := ["codes"]) (rest := []) (loc0 := [("codes", X)]) hcm room (by exact rfl) (by kernel_rfl) (fun ws h => by obtain ⟨a, rfl⟩ := ws1 h; rfl) (by decide) (by decide) (by decide) (by decide) rfl rfl fun r hw room => ?_
  refine WS_cons (WX_ret (WE_freeze ?_))
  (((with_reducible refine' WE_own ?o1 ?_ ?a1 ?b1 ?c1 ?d1); (case o1 => with_reducible exact o_Piece _); (case a1 => rfl); (case b1 => decide); (case c1 => first | exact ⟨rfl, rfl⟩ | exact trivial); (case d1 => rfl)); w_dflts WL_cons; row_room_at WE_list; w_dflts WL_cons; ((with_reducible refine' WE_name ?hx2 ?hd2 ?_); (case hx2 => walk_at "np at"); (case hd2 => first | exact neU rfl | assumption)); o_facts WL_nil)
  refine call_listF hX (size_ok (by omega)) ?_
  (w_dflts WL_cons)
  refine WE_listF ?_
  (o_facts WL_nil; ((with_reducible refine' And.intro ?a3 ?_); (case a3 => exact Nat.le_of_ble_eq_true rfl)); o_facts WL_nil)
  refine makeF (f := 205) (names := ["self", "codes", "runs"]) (rest := []) (fun X => [("self", X), ("codes", .lst l), ("runs", .lst [])]) rfl room (by kernel_rfl) (by kernel_rfl) (by kernel_rfl) (by exact rfl) (by kernel_rfl) (fun ws h => by obtain ⟨a, b, c, rfl⟩ := ws3 h; rfl) (by decide) (by decide) (by decide) (by decide) rfl (fun _ => rfl) fun r2 a d hw2 room2 => ?_
  (o_facts WS_cons; w_dflts WX_setattr; ((with_reducible refine' WE_name ?hx4 ?hd4 ?_); (case hx4 => walk_at "np at"); (case hd4 => first | exact neU rfl | assumption)); ((with_reducible refine' WE_name ?hx5 ?hd5 ?_); (case hx5 => walk_at "np at"); (case hd5 => first | exact neU rfl | assumption)); ((with_reducible refine' sat_new ?a6 ?b6 ?c6 ?d6 ?e6 ?f6 ?_); (case a6 => walk_at "np hat"); (case b6 => walk_at "np mod"); (case e6 => walk_at "np snoc"); (case c6 => with_reducible exact sk_codes _); (case d6 => rfl); (case f6 => rfl)); o_facts WS_cons; w_dflts WX_setattr; ((with_reducible refine' WE_name ?hx7 ?hd7 ?_); (case hx7 => walk_at "np at"); (case hd7 => first | exact neU rfl | assumption)); ((with_reducible refine' WE_name ?hx8 ?hd8 ?_); (case hx8 => walk_at "np at"); (case hd8 => first | exact neU rfl | assumption)); ((with_reducible refine' sat_new ?a9 ?b9 ?c9 ?d9 ?e9 ?f9 ?_); (case a9 => walk_at "np hat"); (case b9 => walk_at "np mod"); (case e9 => walk_at "np snoc"); (case c9 => with_reducible exact sk_runs _); (case d9 => rfl); (case f9 => rfl)); o_facts WS_nil)
  exact ⟨_, _, _, _, _, rfl, rfl, hP⟩
inductive Ch | ins (xs : List Int) (p : Nat) | del (xs : List Int) (p : Nat) (b : Bool) | prop (xs : List Int) (p : Nat) | fin
noncomputable def chV : Ch → V
  | .ins xs p => .tup [.str "insert", .lst (xs.map V.int), .int (p + xs.length)]
  | .del xs p b => .tup [.str "delete", .lst (xs.map V.int), .bool b]
  | .prop xs p => .tup [.str "property", .lst (xs.map V.int), .tup [.int p]]
  | .fin => .tup [.str "end"]
noncomputable def rwOf : Ch → Rw
  | .ins xs p => .ins p xs.length
  | .del xs p b => .del p xs b
  | .prop xs p => .prop p xs.length p
  | .fin => .bnd
noncomputable def dueV : Rw → V
  | .del q xs b => .tup [.str "delete", .int (q + 1), .lst (xs.map V.int), .bool b]
  | x => rwV x
noncomputable def dueO : Option Rw → V
  | some r => dueV r
  | none => .none
noncomputable def cntB (there order : List Int) (y : Int) : Nat := ((order.take (order.idxOf y)).filter (there.contains ·)).length
noncomputable def nowB (there order : List Int) : List Int := order.filter (there.contains ·)
noncomputable def lawDel (there : List Int) (r0 r1 : Int) (k : Nat) (xs : List Int) (b : Bool) : List Int × Int × Option Rw :=
  if (decide (r0 ≤ 1 + k) && decide ((1 + k : Int) ≤ r1)) = true then (there ++ xs, r1 + xs.length, some (.del k xs b)) else (there, r1, none)
noncomputable def lawAt (now xs : List Int) (r0 r1 : Int) (k : Nat) : Bool := decide ((now.drop k).take xs.length = xs) && (decide (r0 ≤ k + 1) && decide ((k + 1 + xs.length : Int) ≤ r1))
noncomputable def lawIn (there order : List Int) (r0 r1 : Int) (xs : List Int) : Bool := xs.all (there.contains ·) && lawAt (nowB there order) xs r0 r1 ((nowB there order).idxOf (xs.headD 0))
/-- what the law finds for a change: those in the text beside, the region's end, the row -/
noncomputable def lawU (there order : List Int) (r0 r1 : Int) : Ch → List Int × Int × Option Rw
  | .del xs _ b => lawDel there r0 r1 (cntB there order (xs.headD 0)) xs b
  | .ins xs _ => if lawIn there order r0 r1 xs = true then (xs.foldl List.erase there, r1 - xs.length, some (.ins ((nowB there order).idxOf (xs.headD 0)) xs.length)) else (there, r1, none)
  | .prop xs p => (there, r1, if lawIn there order r0 r1 xs = true then some (.prop ((nowB there order).idxOf (xs.headD 0)) xs.length p) else none)
  | .fin => (there, r1, none)
theorem denL_ints {hp : Hp} : ∀ {ns : List Int}, DenL hp (ns.map V.int) (ns.map PyData.int)
  | [] => .nil
  | n :: _ => .cons (.int n) denL_ints
theorem all_lay {k : Nat} : ∀ {ds : List PyData}, (∀ d ∈ ds, d.canLay0 = true ∧ d.depth ≤ k) → PyData.canLayAll0 ds = true ∧ PyData.depthAll ds ≤ k
  | [], _ => by simp [PyData.canLayAll0, PyData.depthAll]
  | d :: ds, h => by
    obtain ⟨a, b⟩ := h d (.head _)
    obtain ⟨a', b'⟩ := all_lay (ds := ds) fun x hx => h x (.tail _ hx)
    simp only [PyData.canLayAll0, PyData.depthAll]
    exact ⟨by rw [a, a']; rfl, by omega⟩
theorem lay_list {k : Nat} {ds : List PyData} (h : ∀ d ∈ ds, d.canLay0 = true ∧ d.depth ≤ k) : (PyData.list ds).canLay0 = true ∧ (PyData.list ds).depth ≤ k + 1 := by
  obtain ⟨a, b⟩ := all_lay h
  simp only [PyData.canLay0, PyData.depth]
  exact ⟨a, by omega⟩
theorem lay_tup {k : Nat} {ds : List PyData} (h : ∀ d ∈ ds, d.canLay0 = true ∧ d.depth ≤ k) : (PyData.tuple ds).canLay0 = true ∧ (PyData.tuple ds).depth ≤ k + 1 := by
  obtain ⟨a, b⟩ := all_lay h
  simp only [PyData.canLay0, PyData.depth]
  exact ⟨a, by omega⟩
theorem lay_int (i : Int) : (PyData.int i).canLay0 = true ∧ (PyData.int i).depth ≤ 0 := by simp [PyData.canLay0, PyData.depth]
theorem lay_str {x : Str} (h : PyData.strOk x = true) : (PyData.str x).canLay0 = true ∧ (PyData.str x).depth ≤ 0 := by simp [PyData.canLay0, PyData.depth, h]
theorem lay_bool (b : Bool) : (PyData.bool b).canLay0 = true ∧ (PyData.bool b).depth ≤ 0 := by simp [PyData.canLay0, PyData.depth]
theorem shaped_of {d : PyData} {k : Nat} (h : d.canLay0 = true ∧ d.depth ≤ k) (hk : k ≤ 64) : SeqAt.shaped d = true := by
  unfold SeqAt.shaped
  rw [h.1, decide_eq_true (Nat.le_trans h.2 hk)]; rfl
theorem shaped_ints (ns : List Int) : SeqAt.shaped (.list (ns.map PyData.int)) = true := shaped_of (lay_list fun d hd => by obtain ⟨n, _, rfl⟩ := List.mem_map.mp hd; exact lay_int n) (by decide)
theorem cmp_neI {c : Ctx} {hp : Hp} {a b : List Int} : CmpOk c hp .NotEq (.lst (a.map V.int)) (.lst (b.map V.int)) (!decide (a = b)) := by
  rw [← ked_eqvAll]
  exact cmp_neD (.lst denL_ints) (.lst denL_ints) (shaped_ints a) (shaped_ints b)
noncomputable def chXs : Ch → List Int
  | .ins xs _ => xs
  | .del xs _ _ => xs
  | .prop xs _ => xs
  | .fin => []
noncomputable def RemI (l0 : V → Loc) (mk : List Int → Hp) (fin : List Int) (xs : List Int) (loc : Loc) (hp : Hp) : Prop := ∃ (W : V) (T : List Int), loc = l0 W ∧ hp = mk T ∧ xs.foldl List.erase T = fin ∧ (∀ z ∈ xs, z ∈ T) ∧ xs.Nodup ∧ T.length < 1000
theorem lund_ok {c : Ctx} {loc : Loc} {pre base : Hp} {rg th o : Nat} {there order : List Int} {r0 r1 : Int} {x : Ch} {P : Hp → V → Prop} (hcm : c.fi.cm = none) (room : c.Room 1) (ho : HpAt base o (.list (order.map V.int)))
  (hx0 : chXs x ≠ []) (hxo : ∀ y ∈ chXs x, y ∈ order) (hxl : (chXs x).length < 1000) (hxn : (chXs x).Nodup) (hl : order.length < 1000) (hl2 : there.length < 1000)
  (hP : P (pre ++ (rg, .list [.int r0, .int (lawU there order r0 r1 x).2.1]) :: (th, .list ((lawU there order r0 r1 x).1.map V.int)) :: base) (dueO (lawU there order r0 r1 x).2.2)) :
  CallOk c loc (pre ++ (rg, .list [.int r0, .int r1]) :: (th, .list (there.map V.int)) :: base) (.ref 241) [chV x, .ref th, .ref o, .ref rg] P := by
  refine callCF (x₀ := "there") (names := ["change", "there", "order", "region"]) (rest := ["word", "some", "the_more", "place", "now", "at", "one"]) (loc0 := [("change", chV x), ("there", .ref th), ("order", .ref o), ("region", .ref rg), ("word", .undef), ("some", .undef), ("the_more", .undef), ("place", .undef), ("now", .undef), ("at", .undef), ("one", .undef)]) hcm room (by exact rfl) (by kernel_rfl) (fun ws h => by obtain ⟨a, b, c, d, rfl⟩ := ws4 h; rfl) (by decide) (by decide) rfl (fun _ => rfl) (by decide) rfl rfl fun r room => ?_
  obtain ⟨w, y, ys, M, e, hxs, hM, hD, hN⟩ : ∃ (w : Str) (y : Int) (ys : List Int) (M : V), chV x = .tup [.str w, .lst ((y :: ys).map V.int), M] ∧ chXs x = y :: ys ∧ isU M = false ∧ (w = "delete" → ∃ p b, x = .del (y :: ys) p b ∧ M = .bool b) ∧
      (w ≠ "delete" → (w = "property" ∧ ∃ p : Nat, x = .prop (y :: ys) p ∧ M = .tup [.int p]) ∨ (w ≠ "property" ∧ ∃ p, x = .ins (y :: ys) p)) := by
    obtain ⟨y, ys, hys⟩ := List.exists_cons_of_ne_nil hx0
    cases x with
    | fin => cases hys
    | ins xs p => obtain rfl : xs = y :: ys := hys; exact ⟨_, y, ys, _, rfl, rfl, rfl, fun h => absurd h (by decide), fun _ => .inr ⟨by decide, _, rfl⟩⟩
    | del xs p b => obtain rfl : xs = y :: ys := hys; exact ⟨_, y, ys, _, rfl, rfl, rfl, fun _ => ⟨_, _, rfl, rfl⟩, fun h => absurd rfl h⟩
    | prop xs p => obtain rfl : xs = y :: ys := hys; exact ⟨_, y, ys, _, rfl, rfl, rfl, fun h => absurd h (by decide), fun _ => .inl ⟨rfl, _, rfl, rfl⟩⟩
  rw [hxs] at hxo hxl hxn
  clear hx0 hxs
  rw [e]
  have hM := neU hM
  have hy : y ∈ order := hxo y (.head _)
  refine WS_cons (WX_unpack (ns := [("word", _), ("some", _), ("the_more", _)]) ?_ rfl (List.forall_mem_cons.mpr ⟨rfl, List.forall_mem_cons.mpr ⟨rfl, List.forall_mem_cons.mpr ⟨rfl, List.forall_mem_nil _⟩⟩⟩) rfl rfl)
  (((with_reducible refine' WE_name ?hx10 ?hd10 ?_); (case hx10 => walk_at "np at"); (case hd10 => first | exact neU rfl | assumption)))
  refine ⟨_, _, .tup, rfl, .cons (by walk_at "np set") (.cons (by walk_at "np set") (.cons (by walk_at "np set") .nil)), ?_⟩
  (o_facts WS_cons)
  refine WX_if ?_
  (w_dflts WT_cmp; ((with_reducible refine' WE_name ?hx11 ?hd11 ?_); (case hx11 => walk_at "np at"); (case hd11 => first | exact neU rfl | assumption)); o_facts WE_str)
  refine tst_int cmp_eqS (fun h => ?_) (fun h => ?_)
  · obtain ⟨p, b, rfl, rfl⟩ := hD h
    change P (pre ++ (rg, .list [.int r0, .int (lawDel there r0 r1 (cntB there order y) (y :: ys) b).2.1]) :: (th, .list ((lawDel there r0 r1 (cntB there order y) (y :: ys) b).1.map V.int)) :: base) (dueO (lawDel there r0 r1 (cntB there order y) (y :: ys) b).2.2) at hP
    (o_facts WS_cons; row_cond WX_assign; o_facts WE_bin; o_facts WE_int; row_room_at WE_len; w_dflts WL_cons)
    refine WE_compC [("there", r.L + 1)] [("there", .ref th)] ?_ rfl rfl (by decide) (flOk1 (by walk_at "np at") rfl rfl (fun _ => rfl) rfl) (fun _ => rfl)
    (o_facts WE_sliceTo; ((with_reducible refine' WE_name ?hx12 ?hd12 ?_); (case hx12 => walk_at "np at"); (case hd12 => first | exact neU rfl | assumption)))
    refine WE_methL PySem.F.slot_list_index rfl ?_ ⟨rfl, rfl⟩ rfl
    (((with_reducible refine' WE_name ?hx13 ?hd13 ?_); (case hx13 => walk_at "np at"); (case hd13 => first | exact neU rfl | assumption)))
    refine ⟨_, .ref (by walk_at "np hat"), ?_⟩
    (w_dflts WL_cons; ((with_reducible refine WE_item ?_ ?hs14); (case hs14 => (intro _ _; rfl))); ((with_reducible refine' WE_name ?hx15 ?hd15 ?_); (case hx15 => walk_at "np at"); (case hd15 => first | exact neU rfl | assumption)); o_facts WE_int; ((with_reducible refine' ⟨_, item_lst ?b16 ?c16 ?d16, ?_⟩); (case b16 => decide); (case c16 => decide); (case d16 => rfl)); o_facts WL_nil)
    refine call_index (ns := order) (.ref (by walk_at "np hat")) hy (by omega) ?_
    refine ⟨_, _, .ref (by walk_at "np hat"), rfl, size_ok (by rw [List.length_map]; omega), ?_⟩
    rw [slc_to, ← List.map_take]
    refine compSC_of (order.take (order.idxOf y)) V.int (fun _ => .int 1) (there.contains ·) (.inl .lst) (size_ok (by simp; omega)) (fun z _ => ?_) ?_
    · refine elt_nameC rfl rfl (by kernel_rfl) fun C oC => ⟨tests1 ?_, fun _ => ?_⟩
      · (w_dflts WT_cmp; ((with_reducible refine' WE_name ?hx17 ?hd17 ?_); (case hx17 => walk_at "np at"); (case hd17 => first | exact neU rfl | assumption)); ((with_reducible refine' WE_name ?hx18 ?hd18 ?_); (case hx18 => walk_at "np at"); (case hd18 => first | exact neU rfl | assumption)))
        exact tst_int (cmp_in (.ref (by walk_at "np hat"))) (fun h => ⟨rfl, List.contains_iff_mem.mpr h⟩) (fun h => ⟨rfl, by rw [← Bool.not_eq_true]; exact fun q => h (List.contains_iff_mem.mp q)⟩)
      · (o_facts WE_int)
        exact ⟨rfl, rfl⟩
    · (o_facts WL_nil)
      have hk : cntB there order y ≤ order.length := Nat.le_trans (List.length_filter_le _ _) (List.length_take_le' _ _)
      rw [show ((order.take (order.idxOf y)).filter (there.contains ·)).map (fun _ => V.int 1) = List.replicate (cntB there order y) (V.int 1) by rw [List.map_const']; rfl]
      revert hP hk
      generalize cntB there order y = k
      intro hP hk
      refine call_len .lst (by rw [List.length_replicate]; omega) ?_
      rw [List.length_replicate]
      ((with_reducible refine .add ?_); ((with_reducible refine' ⟨_, ?ls19, ?_⟩); (case ls19 => walk_at "np set")); o_facts WS_cons)
      refine WX_ifD (decide (r0 ≤ 1 + k) && decide ((1 + k : Int) ≤ r1)) ?_ (fun h => ?_) (fun h => ?_)
      · refine WT_chain ?_ rfl
        (((with_reducible refine WE_item ?_ ?hs20); (case hs20 => (intro _ _; rfl))); ((with_reducible refine' WE_name ?hx21 ?hd21 ?_); (case hx21 => walk_at "np at"); (case hd21 => first | exact neU rfl | assumption)); o_facts WE_int; ((with_reducible refine' ⟨_, item_ref ?a22 ?b22 ?c22 ?d22, ?_⟩); (case a22 => walk_at "np hat"); (case b22 => decide); (case c22 => decide); (case d22 => rfl)); ((with_reducible refine' WE_name ?hx23 ?hd23 ?_); (case hx23 => walk_at "np at"); (case hd23 => first | exact neU rfl | assumption)))
        refine ⟨_, cmp_le, fun h => ⟨rfl, by rw [h]; rfl⟩, fun h => ?_⟩
        (((with_reducible refine WE_item ?_ ?hs24); (case hs24 => (intro _ _; rfl))); ((with_reducible refine' WE_name ?hx25 ?hd25 ?_); (case hx25 => walk_at "np at"); (case hd25 => first | exact neU rfl | assumption)); o_facts WE_int; ((with_reducible refine' ⟨_, item_ref ?a26 ?b26 ?c26 ?d26, ?_⟩); (case a26 => walk_at "np hat"); (case b26 => decide); (case c26 => decide); (case d26 => rfl)))
        exact ⟨_, cmp_le, fun h2 => ⟨rfl, by rw [h, h2]; rfl⟩, fun h2 => ⟨rfl, by rw [h, h2]; rfl⟩⟩
      · unfold lawDel at hP
        rw [if_pos h] at hP
        (o_facts WS_cons; row_more WX_expr)
        refine WE_methL PySem.F.slot_list_extend rfl ?_ ⟨rfl, rfl⟩ rfl
        (((with_reducible refine' WE_name ?hx27 ?hd27 ?_); (case hx27 => walk_at "np at"); (case hd27 => first | exact neU rfl | assumption)))
        refine ⟨_, .ref (by walk_at "np hat"), ?_⟩
        (w_dflts WL_cons; ((with_reducible refine' WE_name ?hx28 ?hd28 ?_); (case hx28 => walk_at "np at"); (case hd28 => first | exact neU rfl | assumption)); o_facts WL_nil)
        refine call_extend rfl (by walk_at "np mod") (size_ok (by rw [List.length_map, List.length_map]; omega)) ?_
        (o_facts WS_cons; w_dflts WX_setItem; o_facts WE_bin; ((with_reducible refine WE_item ?_ ?hs29); (case hs29 => (intro _ _; rfl))); ((with_reducible refine' WE_name ?hx30 ?hd30 ?_); (case hx30 => walk_at "np at"); (case hd30 => first | exact neU rfl | assumption)); o_facts WE_int; ((with_reducible refine' ⟨_, item_ref ?a31 ?b31 ?c31 ?d31, ?_⟩); (case a31 => walk_at "np hat"); (case b31 => decide); (case c31 => decide); (case d31 => rfl)); row_room_at WE_len; w_dflts WL_cons; ((with_reducible refine' WE_name ?hx32 ?hd32 ?_); (case hx32 => walk_at "np at"); (case hd32 => first | exact neU rfl | assumption)); o_facts WL_nil; ((with_reducible refine' call_len ?a33 ?b33 ?_); (case a33 => walk_at "np lst"); (case b33 => walk_at "np ar")); (with_reducible refine .add ?_); ((with_reducible refine' WE_name ?hx34 ?hd34 ?_); (case hx34 => walk_at "np at"); (case hd34 => first | exact neU rfl | assumption)); o_facts WE_int; ((with_reducible refine' ⟨_, set_at ?a35 ?b35 ?c35 ?d35, ?_⟩); (case a35 => walk_at "np mod"); (case b35 => decide); (case c35 => (first | decide | (simp; done) | (simp; omega))); (case d35 => decide)); o_facts WS_cons; o_facts WX_ret; o_facts WE_tuple; w_dflts WL_cons; o_facts WE_str; w_dflts WL_cons; ((with_reducible refine' WE_name ?hx36 ?hd36 ?_); (case hx36 => walk_at "np at"); (case hd36 => first | exact neU rfl | assumption)); w_dflts WL_cons; ((with_reducible refine' WE_name ?hx37 ?hd37 ?_); (case hx37 => walk_at "np at"); (case hd37 => first | exact neU rfl | assumption)); w_dflts WL_cons; ((with_reducible refine' WE_name ?hx38 ?hd38 ?_); (case hx38 => walk_at "np at"); (case hd38 => first | exact neU rfl | assumption)); o_facts WL_nil; ((with_reducible refine' And.intro ?a39 ?_); (case a39 => exact Nat.le_of_ble_eq_true rfl)))
        rw [List.length_map, ← List.map_append, show (1 + k : Int) = k + 1 by omega]
        exact hP
      · unfold lawDel at hP
        rw [h, if_neg Bool.false_ne_true] at hP
        (o_facts WS_nil; o_facts WS_cons; o_facts WX_ret; o_facts WE_none)
        exact hP
  · have hI : P (pre ++ (rg, .list [.int r0, .int (lawU there order r0 r1 x).2.1]) :: (th, .list ((lawU there order r0 r1 x).1.map V.int)) :: base) (dueO (lawU there order r0 r1 x).2.2) := hP
    (o_facts WS_nil; o_facts WS_cons)
    refine WX_asgC [("there", r.L + 1)] [("there", .ref th)] ?_ rfl rfl rfl rfl (by decide) (flOk1 (by walk_at "np at") rfl rfl (fun _ => rfl) rfl) (fun _ => rfl)
    (((with_reducible refine' WE_name ?hx40 ?hd40 ?_); (case hx40 => walk_at "np at"); (case hd40 => first | exact neU rfl | assumption)))
    refine compSC_of order V.int V.int (there.contains ·) (.inl (.ref (by walk_at "np hat"))) (size_ok (by omega)) (fun z _ => ?_) ?_
    · refine elt_nameC rfl rfl (by kernel_rfl) fun C oC => ⟨tests1 ?_, fun _ => ?_⟩
      · (w_dflts WT_cmp; ((with_reducible refine' WE_name ?hx41 ?hd41 ?_); (case hx41 => walk_at "np at"); (case hd41 => first | exact neU rfl | assumption)); ((with_reducible refine' WE_name ?hx42 ?hd42 ?_); (case hx42 => walk_at "np at"); (case hd42 => first | exact neU rfl | assumption)))
        exact tst_int (cmp_in (.ref (by walk_at "np hat"))) (fun h => ⟨rfl, List.contains_iff_mem.mpr h⟩) (fun h => ⟨rfl, by rw [← Bool.not_eq_true]; exact fun q => h (List.contains_iff_mem.mp q)⟩)
      · (((with_reducible refine' WE_name ?hx43 ?hd43 ?_); (case hx43 => walk_at "np at"); (case hd43 => first | exact neU rfl | assumption)))
        exact ⟨rfl, rfl⟩
    · (((with_reducible refine' ⟨_, ?ls44, ?_⟩); (case ls44 => walk_at "np set")); o_facts WS_cons)
      have hL : lawIn there order r0 r1 (y :: ys) = false → lawU there order r0 r1 x = (there, r1, none) := fun q => by
        rcases hN h with ⟨_, p, rfl, _⟩ | ⟨_, p, rfl⟩
        · show (there, r1, if lawIn there order r0 r1 (y :: ys) = true then _ else _) = _
          rw [q]; rfl
        · show (if lawIn there order r0 r1 (y :: ys) = true then _ else _) = _
          rw [q]; rfl
      have hnow : (nowB there order).length ≤ order.length := List.length_filter_le _ _
      rw [show order.filter (fun x => there.contains x) = nowB there order from rfl]
      refine WX_ifD (!((y :: ys).all (there.contains ·))) ?_ (fun h1 => ?_) (fun h1 => ?_)
      · refine WT_cmp ?_ rfl
        refine WE_compC [("there", r.L + 1)] [("there", .ref th)] ?_ rfl rfl (by decide) (flOk1 (by walk_at "np at") rfl rfl (fun _ => rfl) rfl) (fun _ => rfl)
        (((with_reducible refine' WE_name ?hx45 ?hd45 ?_); (case hx45 => walk_at "np at"); (case hd45 => first | exact neU rfl | assumption)))
        refine compSC_of (y :: ys) V.int V.int (fun z => !there.contains z) (.inl .lst) (size_ok (by omega)) (fun z _ => ?_) ?_
        · refine elt_nameC rfl rfl (by kernel_rfl) fun C oC => ⟨tests1 ?_, fun _ => ?_⟩
          · (w_dflts WT_cmp; ((with_reducible refine' WE_name ?hx46 ?hd46 ?_); (case hx46 => walk_at "np at"); (case hd46 => first | exact neU rfl | assumption)); ((with_reducible refine' WE_name ?hx47 ?hd47 ?_); (case hx47 => walk_at "np at"); (case hd47 => first | exact neU rfl | assumption)))
            exact ⟨_, cmp_notIn (.ref (by walk_at "np hat")), fun h => ⟨rfl, by rw [List.contains_eq_mem]; exact h⟩, fun h => ⟨rfl, by rw [List.contains_eq_mem]; exact h⟩⟩
          · (((with_reducible refine' WE_name ?hx48 ?hd48 ?_); (case hx48 => walk_at "np at"); (case hd48 => first | exact neU rfl | assumption)))
            exact ⟨rfl, rfl⟩
        · refine WE_listF ?_
          (o_facts WL_nil; ((with_reducible refine' And.intro ?a49 ?_); (case a49 => exact Nat.le_of_ble_eq_true rfl)))
          have e1 : decide (((y :: ys).filter fun z => !there.contains z).map V.int ≠ []) = !((y :: ys).all (there.contains ·)) := by
            rw [Bool.eq_iff_iff, decide_eq_true_iff, ne_eq, List.map_eq_nil_iff, List.filter_eq_nil_iff, Bool.not_eq_true', ← Bool.not_eq_true, List.all_eq_true]
            simp
          refine ⟨_, cmp_neNil .lst, fun h => ⟨rfl, by rw [← e1]; exact h⟩, fun h => ⟨rfl, by rw [← e1]; exact h⟩⟩
      · (o_facts WS_cons; o_facts WX_ret; o_facts WE_none)
        rw [hL (by unfold lawIn; rw [show (y :: ys).all (there.contains ·) = false from (Bool.not_eq_true' _).mp h1]; rfl)] at hI
        exact hI
      · have hall : (y :: ys).all (there.contains ·) = true := by simpa using h1
        have hyn : y ∈ nowB there order := List.mem_filter.mpr ⟨hy, List.all_eq_true.mp hall y (.head _)⟩
        (o_facts WS_nil; o_facts WS_cons; row_cond WX_assign)
        refine WE_methL PySem.F.slot_list_index rfl ?_ ⟨rfl, rfl⟩ rfl
        (((with_reducible refine' WE_name ?hx50 ?hd50 ?_); (case hx50 => walk_at "np at"); (case hd50 => first | exact neU rfl | assumption)))
        refine ⟨_, .lst, ?_⟩
        (w_dflts WL_cons; ((with_reducible refine WE_item ?_ ?hs51); (case hs51 => (intro _ _; rfl))); ((with_reducible refine' WE_name ?hx52 ?hd52 ?_); (case hx52 => walk_at "np at"); (case hd52 => first | exact neU rfl | assumption)); o_facts WE_int; ((with_reducible refine' ⟨_, item_lst ?b53 ?c53 ?d53, ?_⟩); (case b53 => decide); (case c53 => decide); (case d53 => rfl)); o_facts WL_nil)
        refine call_index (ns := nowB there order) .lst hyn (by omega) ?_
        have hA : lawIn there order r0 r1 (y :: ys) = lawAt (nowB there order) (y :: ys) r0 r1 ((nowB there order).idxOf y) := by unfold lawIn; rw [hall]; rfl
        have hidx : (nowB there order).idxOf y ≤ (nowB there order).length := List.idxOf_le_length
        have hU : (nowB there order).idxOf ((y :: ys).headD 0) = (nowB there order).idxOf y := rfl
        (((with_reducible refine' ⟨_, ?ls54, ?_⟩); (case ls54 => walk_at "np set")); o_facts WS_cons)
        refine WX_ifD (!lawAt (nowB there order) (y :: ys) r0 r1 ((nowB there order).idxOf y)) ?_ (fun h2 => ?_) (fun h2 => ?_)
        · revert hidx hA hU
          generalize (nowB there order).idxOf y = k
          intro hA hU hidx
          (o_facts WT_bool; o_facts WB_or; w_dflts WT_cmp; o_facts WE_slice; ((with_reducible refine' WE_name ?hx55 ?hd55 ?_); (case hx55 => walk_at "np at"); (case hd55 => first | exact neU rfl | assumption)); ((with_reducible refine' WE_name ?hx56 ?hd56 ?_); (case hx56 => walk_at "np at"); (case hd56 => first | exact neU rfl | assumption)); o_facts WE_bin; ((with_reducible refine' WE_name ?hx57 ?hd57 ?_); (case hx57 => walk_at "np at"); (case hd57 => first | exact neU rfl | assumption)); row_room_at WE_len; w_dflts WL_cons; ((with_reducible refine' WE_name ?hx58 ?hd58 ?_); (case hx58 => walk_at "np at"); (case hd58 => first | exact neU rfl | assumption)); o_facts WL_nil; ((with_reducible refine' call_len ?a59 ?b59 ?_); (case a59 => walk_at "np lst"); (case b59 => walk_at "np ar")); (with_reducible refine .add ?_); ((with_reducible refine' ⟨_, _, _, ?a60, rfl, rfl, ?b60, ?_⟩); (case a60 => walk_at "np lst"); (case b60 => exact size_ok (by walk_at "np ar"))); ((with_reducible refine' WE_name ?hx61 ?hd61 ?_); (case hx61 => walk_at "np at"); (case hd61 => first | exact neU rfl | assumption)))
          rw [show (k + (((y :: ys).map V.int).length : Nat) : Int) = ((k + (y :: ys).length : Nat) : Int) by rw [List.length_map]; omega, slc_ft, Nat.add_sub_cancel_left, ← List.map_drop, ← List.map_take]
          unfold lawAt
          refine ⟨_, cmp_neI, fun h3 => ⟨rfl, by rw [(Bool.not_eq_true' _).mp h3]; rfl⟩, fun h3 => ?_⟩
          rw [show decide (((nowB there order).drop k).take (y :: ys).length = y :: ys) = true by simpa using h3]
          (o_facts WB_or; w_dflts WT_cmp; o_facts WE_bin; ((with_reducible refine' WE_name ?hx62 ?hd62 ?_); (case hx62 => walk_at "np at"); (case hd62 => first | exact neU rfl | assumption)); o_facts WE_int; (with_reducible refine .add ?_); ((with_reducible refine WE_item ?_ ?hs63); (case hs63 => (intro _ _; rfl))); ((with_reducible refine' WE_name ?hx64 ?hd64 ?_); (case hx64 => walk_at "np at"); (case hd64 => first | exact neU rfl | assumption)); o_facts WE_int; ((with_reducible refine' ⟨_, item_ref ?a65 ?b65 ?c65 ?d65, ?_⟩); (case a65 => walk_at "np hat"); (case b65 => decide); (case c65 => decide); (case d65 => rfl)))
          refine tst_int cmp_lt (fun h4 => ⟨rfl, by rw [show decide (r0 ≤ (k : Int) + 1) = false from decide_eq_false (by omega)]; rfl⟩) (fun h4 => ?_)
          rw [show decide (r0 ≤ (k : Int) + 1) = true from decide_eq_true (by omega)]
          (o_facts WB_or; w_dflts WT_cmp; o_facts WE_bin; o_facts WE_bin; ((with_reducible refine' WE_name ?hx66 ?hd66 ?_); (case hx66 => walk_at "np at"); (case hd66 => first | exact neU rfl | assumption)); o_facts WE_int; (with_reducible refine .add ?_); row_room_at WE_len; w_dflts WL_cons; ((with_reducible refine' WE_name ?hx67 ?hd67 ?_); (case hx67 => walk_at "np at"); (case hd67 => first | exact neU rfl | assumption)); o_facts WL_nil; ((with_reducible refine' call_len ?a68 ?b68 ?_); (case a68 => walk_at "np lst"); (case b68 => walk_at "np ar")); (with_reducible refine .add ?_); ((with_reducible refine WE_item ?_ ?hs69); (case hs69 => (intro _ _; rfl))); ((with_reducible refine' WE_name ?hx70 ?hd70 ?_); (case hx70 => walk_at "np at"); (case hd70 => first | exact neU rfl | assumption)); o_facts WE_int; ((with_reducible refine' ⟨_, item_ref ?a71 ?b71 ?c71 ?d71, ?_⟩); (case a71 => walk_at "np hat"); (case b71 => decide); (case c71 => decide); (case d71 => rfl)))
          rw [List.length_map]
          refine tst_int cmp_gt (fun h5 => ⟨rfl, by rw [decide_eq_false (by omega)]; rfl⟩) (fun h5 => ?_)
          (o_facts WB_orN)
          exact ⟨rfl, by rw [decide_eq_true (by omega)]; rfl⟩
        · (o_facts WS_cons; o_facts WX_ret; o_facts WE_none)
          rw [hL (by rw [hA]; exact (Bool.not_eq_true' _).mp h2)] at hI
          exact hI
        · (o_facts WS_nil; o_facts WS_cons)
          have hA' : lawIn there order r0 r1 (y :: ys) = true := by rw [hA]; exact (Bool.not_eq_false' _).mp h2
          refine WX_if ?_
          (w_dflts WT_cmp; ((with_reducible refine' WE_name ?hx72 ?hd72 ?_); (case hx72 => walk_at "np at"); (case hd72 => first | exact neU rfl | assumption)); o_facts WE_str)
          refine tst_int cmp_eqS (fun h3 => ?_) (fun h3 => ?_)
          · obtain ⟨p, rfl, rfl⟩ := ((hN h).resolve_right fun q => q.1 h3).2
            change P (pre ++ (rg, .list [.int r0, .int r1]) :: (th, .list (there.map V.int)) :: base) (dueO (if lawIn there order r0 r1 (y :: ys) = true then some (.prop ((nowB there order).idxOf y) (y :: ys).length p) else none)) at hI
            rw [if_pos hA'] at hI
            (o_facts WS_cons; o_facts WX_ret; o_facts WE_tuple; w_dflts WL_cons; o_facts WE_str; w_dflts WL_cons; o_facts WE_bin; ((with_reducible refine' WE_name ?hx73 ?hd73 ?_); (case hx73 => walk_at "np at"); (case hd73 => first | exact neU rfl | assumption)); o_facts WE_int; (with_reducible refine .add ?_); w_dflts WL_cons; o_facts WE_bin; o_facts WE_bin; ((with_reducible refine' WE_name ?hx74 ?hd74 ?_); (case hx74 => walk_at "np at"); (case hd74 => first | exact neU rfl | assumption)); o_facts WE_int; (with_reducible refine .add ?_); row_room_at WE_len; w_dflts WL_cons; ((with_reducible refine' WE_name ?hx75 ?hd75 ?_); (case hx75 => walk_at "np at"); (case hd75 => first | exact neU rfl | assumption)); o_facts WL_nil; ((with_reducible refine' call_len ?a76 ?b76 ?_); (case a76 => walk_at "np lst"); (case b76 => walk_at "np ar")); (with_reducible refine .add ?_); w_dflts WL_cons; o_facts WE_int; w_dflts WL_cons; ((with_reducible refine' WE_name ?hx77 ?hd77 ?_); (case hx77 => walk_at "np at"); (case hd77 => first | exact neU rfl | assumption)); o_facts WL_nil; ((with_reducible refine' And.intro ?a78 ?_); (case a78 => exact Nat.le_of_ble_eq_true rfl)))
            rw [List.length_map]
            exact hI
          · obtain ⟨p, rfl⟩ := ((hN h).resolve_left fun q => h3 q.1).2
            change P (pre ++ (rg, .list [.int r0, .int (if lawIn there order r0 r1 (y :: ys) = true then ((y :: ys).foldl List.erase there, r1 - (y :: ys).length, some (.ins ((nowB there order).idxOf y) (y :: ys).length)) else (there, r1, none) : List Int × Int × Option Rw).2.1]) :: (th, .list ((if lawIn there order r0 r1 (y :: ys) = true then ((y :: ys).foldl List.erase there, r1 - (y :: ys).length, some (.ins ((nowB there order).idxOf y) (y :: ys).length)) else (there, r1, none) : List Int × Int × Option Rw).1.map V.int)) :: base) (dueO (if lawIn there order r0 r1 (y :: ys) = true then ((y :: ys).foldl List.erase there, r1 - (y :: ys).length, some (.ins ((nowB there order).idxOf y) (y :: ys).length)) else (there, r1, none) : List Int × Int × Option Rw).2.2) at hI
            rw [if_pos hA'] at hI
            (o_facts WS_nil; o_facts WS_cons)
            refine WX_for ?_ rfl rfl (fun _ => rfl)
            (((with_reducible refine' WE_name ?hx79 ?hd79 ?_); (case hx79 => walk_at "np at"); (case hd79 => first | exact neU rfl | assumption)))
            refine ⟨_, rfl, ?_⟩
            refine wfor_inv (RemI (fun W => [("change", .tup [.str w, .lst ((y :: ys).map V.int), M]), ("there", .ref th), ("order", .ref o), ("region", .ref rg), ("word", .str w), ("some", .lst ((y :: ys).map V.int)), ("the_more", M), ("place", .undef), ("now", .lst ((nowB there order).map V.int)), ("at", .int ((nowB there order).idxOf y : Nat)), ("one", W)])
              (fun T => pre ++ (rg, .list [.int r0, .int r1]) :: (th, .list (T.map V.int)) :: base) ((y :: ys).foldl List.erase there)) ?_ ?_ (y :: ys) _ _ ⟨.undef, there, rfl, rfl, rfl, fun z hz => List.contains_iff_mem.mp (List.all_eq_true.mp hall z hz), hxn, hl2⟩
            · rintro z zs loc hp ⟨W, T, rfl, rfl, h1, h2, h3, h4⟩
              refine ⟨_, by walk_at "np set", ?_⟩
              (o_facts WS_cons; row_more WX_expr)
              refine WE_methL PySem.F.slot_list_remove rfl ?_ ⟨rfl, rfl⟩ rfl
              (((with_reducible refine' WE_name ?hx80 ?hd80 ?_); (case hx80 => walk_at "np at"); (case hd80 => first | exact neU rfl | assumption)))
              refine ⟨_, .ref (by walk_at "np hat"), ?_⟩
              (w_dflts WL_cons; ((with_reducible refine' WE_name ?hx81 ?hd81 ?_); (case hx81 => walk_at "np at"); (case hd81 => first | exact neU rfl | assumption)); o_facts WL_nil)
              refine call_remove (ns := T) (by walk_at "np mod") (h2 z (.head _)) (by omega) ?_
              (o_facts WS_nil)
              exact ⟨.int z, T.erase z, rfl, rfl, h1, fun u hu => (List.mem_erase_of_ne (a := u) fun e => (List.nodup_cons.mp h3).1 (by rw [← e]; exact hu)).mpr (h2 u (.tail _ hu)), (List.nodup_cons.mp h3).2, Nat.lt_of_le_of_lt (List.length_erase_le) h4⟩
            · rintro loc hp ⟨W, T, rfl, rfl, h1, h2, h3, h4⟩
              obtain rfl : T = _ := h1
              (o_facts WS_cons; w_dflts WX_setItem; o_facts WE_bin; ((with_reducible refine WE_item ?_ ?hs82); (case hs82 => (intro _ _; rfl))); ((with_reducible refine' WE_name ?hx83 ?hd83 ?_); (case hx83 => walk_at "np at"); (case hd83 => first | exact neU rfl | assumption)); o_facts WE_int; ((with_reducible refine' ⟨_, item_ref ?a84 ?b84 ?c84 ?d84, ?_⟩); (case a84 => walk_at "np hat"); (case b84 => decide); (case c84 => decide); (case d84 => rfl)); row_room_at WE_len; w_dflts WL_cons; ((with_reducible refine' WE_name ?hx85 ?hd85 ?_); (case hx85 => walk_at "np at"); (case hd85 => first | exact neU rfl | assumption)); o_facts WL_nil; ((with_reducible refine' call_len ?a86 ?b86 ?_); (case a86 => walk_at "np lst"); (case b86 => walk_at "np ar")); (with_reducible refine .sub ?_); ((with_reducible refine' WE_name ?hx87 ?hd87 ?_); (case hx87 => walk_at "np at"); (case hd87 => first | exact neU rfl | assumption)); o_facts WE_int; ((with_reducible refine' ⟨_, set_at ?a88 ?b88 ?c88 ?d88, ?_⟩); (case a88 => walk_at "np mod"); (case b88 => decide); (case c88 => (first | decide | (simp; done) | (simp; omega))); (case d88 => decide)); o_facts WS_cons; o_facts WX_ret; o_facts WE_tuple; w_dflts WL_cons; o_facts WE_str; w_dflts WL_cons; o_facts WE_bin; ((with_reducible refine' WE_name ?hx89 ?hd89 ?_); (case hx89 => walk_at "np at"); (case hd89 => first | exact neU rfl | assumption)); o_facts WE_int; (with_reducible refine .add ?_); w_dflts WL_cons; o_facts WE_bin; o_facts WE_bin; ((with_reducible refine' WE_name ?hx90 ?hd90 ?_); (case hx90 => walk_at "np at"); (case hd90 => first | exact neU rfl | assumption)); o_facts WE_int; (with_reducible refine .add ?_); row_room_at WE_len; w_dflts WL_cons; ((with_reducible refine' WE_name ?hx91 ?hd91 ?_); (case hx91 => walk_at "np at"); (case hd91 => first | exact neU rfl | assumption)); o_facts WL_nil; ((with_reducible refine' call_len ?a92 ?b92 ?_); (case a92 => walk_at "np lst"); (case b92 => walk_at "np ar")); (with_reducible refine .add ?_); o_facts WL_nil; ((with_reducible refine' And.intro ?a93 ?_); (case a93 => exact Nat.le_of_ble_eq_true rfl)))
              rw [List.length_map]
              exact hI
theorem StB.ownE {c : Ctx} {loc : Loc} {hp : Hp} {A Vs : List V} {ex : List (Addr × Obj)} {h : Heap} {a vs : List Value} {m : Str → Option Value} {mt fz : List (Addr × Obj)} {D : Addr} (S : StB c loc hp (A ++ Vs) ((D, LCg.lst a) :: ex) h (a ++ vs) m mt fz) (hl : a.length = A.length) (hc : ∀ p ∈ c.r.cx, p ∈ ex) :
    StB c loc ((D, .list A) :: hp) (.ref D :: Vs) ex h (.ref D :: vs) m ((D, LCg.lst a) :: mt) fz := by
  obtain ⟨p, q, e, h1, h2⟩ := S.vr.split
  obtain ⟨rfl, rfl⟩ := List.append_inj e (by rw [hl, h1.length])
  have pm : (mt ++ (fz ++ (D, LCg.lst a) :: ex)).Perm ((D, LCg.lst a) :: mt ++ (fz ++ ex)) := by
    rw [← List.append_assoc]
    refine List.perm_middle.trans ?_
    rw [List.append_assoc]
    exact .refl _
  exact ⟨S.ok, S.fr, fun x hx => S.nw x (pm.mem_iff.mpr hx), (pm.map _).nodup_iff.mp S.nd, S.lk, S.lr, hc, S.olr, .cons (.list (n := a.length) h1) S.hr, .cons (.ref D) h2⟩
/-- a comprehension whose list the ledger holds -/
theorem WE_compOwn {c : Ctx} {loc : Loc} {hp : Hp} {elt target iter : PySem.Expr} {ifs : List PySem.Expr} {sc : Scope} {pos : Pos} {P : Hp → V → Prop} (cl : List (Str × Addr)) (fl : Loc)
    (h : WE c loc hp iter fun hp1 V1 => ∃ L : List (V × Bool × V), (LstV hp1 V1 (L.map (·.1)) ∨ ∃ n : Nat, V1 = .rng n ∧ n < 2 ^ 60 ∧ L.map (·.1) = vints n ∧ isNm target = true) ∧ L.length ≤ sizeLine ∧ (∀ q ∈ L, Elt c loc hp1 target elt ifs sc cl fl q.1 q.2.1 q.2.2) ∧ ∀ D : Nat, P ((D, .list (resL L)) :: hp1) (.ref D))
    (hcm : c.fi.cm = none) (hclos : closureFor sc c.env = pure cl) (hsc : scOk sc = true) (hfl : FlOk c loc sc cl fl) (hs : ∀ x, foldedSetIterable iter c.env x = pure x) : WE c loc hp (.ListComp elt [⟨target, iter, ifs, 0⟩] sc pos) P := by
  obtain ⟨a1, a2, a3⟩ := scOk_of hsc
  intro Vs vs ex s Q hst hQ
  rw [eval_ListComp]
  refine comp_core (Vs := Vs) (vs := vs) (ex := ex) cl fl (h _ _ _ _ _ hst fun hp1 V1 v1 s1 h1 hs1 => ?_) hcm hclos a1 a2 a3 hfl hs
  obtain ⟨L, hl, hz, he, hP⟩ := h1
  obtain ⟨K, any, T, i1, i2, i3⟩ := compSC_it (c := c) hl
  refine ⟨hp1, V1, L, K, any, T, hs1, i1, i2, i3, hz, he, fun C D oC m₂ ys hh tk m mt fz S hlen hn hcx => ?_⟩
  refine ⟨m₂, hn.ns S.atE, fun h7 hs7 => ?_⟩
  have S8 := S.loseE (h' := h7) (fun p hp => .tail _ (hcx p hp)) fun b ob hb e => hs7.extBut b ob hb e
  exact hQ _ _ _ _ (hP D) ⟨h7, tk, m, _, fz, rfl, S8.ownE hlen hcx⟩
theorem deck_ok {c : Ctx} {loc : Loc} {hp : Hp} {ns : List Int} {P : Hp → V → Prop} (hcm : c.fi.cm = none) (room : c.Room 1) (hl : ns.length < 1000)
  (hP : ∀ (D D0 : Nat) (cells big : List Int), 0 < cells.length → cells.length < 100 → big.length < 100 → P ((D, .list [.ref D0, .lst (cells.map V.int), .int 0]) :: (D0, .list (big.map V.int)) :: hp) (.ref D)) :
  CallOk c loc hp (.ref 224) [.lst (ns.map V.int)] P := by
  refine callF (names := ["script"]) (rest := ["cells"]) (loc0 := [("script", .lst (ns.map V.int)), ("cells", .undef)]) hcm room (by exact rfl) (by kernel_rfl) (fun ws h => by obtain ⟨a, rfl⟩ := ws1 h; rfl) (by decide) (by decide) (by decide) (by decide) rfl rfl fun r hw room => ?_
  (o_facts WS_cons)
  refine WX_asgC [] [] ?_ rfl rfl rfl rfl (by decide) flOk0 (fun _ => rfl)
  (o_facts WE_sliceTo; ((with_reducible refine' WE_name ?hx1 ?hd1 ?_); (case hx1 => walk_at "np at"); (case hd1 => first | exact neU rfl | assumption)); o_facts WE_int; ((with_reducible refine' ⟨_, _, ?a2, rfl, ?b2, ?_⟩); (case a2 => walk_at "np lst"); (case b2 => exact size_ok (by walk_at "np ar"))))
  rw [show (20 : Int) = ((20 : Nat) : Int) from rfl, slc_to, ← List.map_take]
  refine compSC_of (ns.take 20) V.int (fun x => .int (if x < 0 then -x else x)) (fun _ => true) (.inl .lst) (size_ok (by simp; omega)) (fun z _ => ?_) ?_
  · refine elt_name rfl rfl (by kernel_rfl) fun C oC => ⟨tests0, fun _ => ?_⟩
    (row_room_at WE_abs; w_dflts WL_cons; ((with_reducible refine' WE_name ?hx3 ?hd3 ?_); (case hx3 => walk_at "np at"); (case hd3 => first | exact neU rfl | assumption)); o_facts WL_nil)
    refine call_abs ?_
    exact ⟨rfl, rfl⟩
  · rw [show (ns.take 20).filter (fun _ => true) = ns.take 20 from List.filter_eq_self.mpr fun _ _ => rfl, show (ns.take 20).map (fun x => V.int (if x < 0 then -x else x)) = ((ns.take 20).map fun x => if x < 0 then -x else x).map V.int by rw [List.map_map]; rfl]
    have hlen : ((ns.take 20).map fun x => if x < 0 then -x else x).length ≤ 20 := by simp; omega
    revert hlen
    generalize ((ns.take 20).map fun x => if x < 0 then -x else x) = cells
    intro hlen
    (((with_reducible refine' ⟨_, ?ls4, ?_⟩); (case ls4 => walk_at "np set")); o_facts WS_cons; o_facts WX_ret)
    refine WE_listM (WL_cons (WE_compOwn [] [] ?_ rfl rfl (by decide) flOk0 (fun _ => rfl)) rfl)
    (((with_reducible refine' WE_name ?hx5 ?hd5 ?_); (case hx5 => walk_at "np at"); (case hd5 => first | exact neU rfl | assumption)))
    refine ⟨cells.map fun x => (V.int x, decide ((10 : Int) ^ 18 ≤ x), V.int x), .inl (by rw [List.map_map]; exact .lst), by rw [List.length_map]; exact size_ok (by omega), mapL (p := fun q => Elt _ _ _ _ _ _ _ _ _ q.1 q.2.1 q.2.2) (enc := V.int) (f := V.int) (t := fun x => decide ((10 : Int) ^ 18 ≤ x)) (fun z _ => ?_), fun D0 => ?_⟩
    · refine elt_name rfl rfl (by kernel_rfl) fun C oC => ⟨tests1 ?_, fun _ => ?_⟩
      · (w_dflts WT_cmp; ((with_reducible refine' WE_name ?hx6 ?hd6 ?_); (case hx6 => walk_at "np at"); (case hd6 => first | exact neU rfl | assumption)); o_facts WE_bin; o_facts WE_int; o_facts WE_int)
        refine .pow (by decide) (by decide) ?_
        exact tst_int cmp_ge (fun h => ⟨rfl, decide_eq_true h⟩) (fun h => ⟨rfl, decide_eq_false h⟩)
      · (((with_reducible refine' WE_name ?hx7 ?hd7 ?_); (case hx7 => walk_at "np at"); (case hd7 => first | exact neU rfl | assumption)))
        exact ⟨rfl, rfl⟩
    · rw [resL_map (enc := V.int) (f := V.int) (t := fun x => decide ((10 : Int) ^ 18 ≤ x))]
      refine WL_cons (WE_addL ?_) rfl
      (((with_reducible refine' WE_name ?hx8 ?hd8 ?_); (case hx8 => walk_at "np at"); (case hd8 => first | exact neU rfl | assumption)))
      refine WE_listF ?_
      (w_dflts WL_cons; o_facts WE_bin; o_facts WE_int; row_room_at WE_len; w_dflts WL_cons; ((with_reducible refine' WE_name ?hx9 ?hd9 ?_); (case hx9 => walk_at "np at"); (case hd9 => first | exact neU rfl | assumption)); o_facts WL_nil; ((with_reducible refine' call_len ?a10 ?b10 ?_); (case a10 => walk_at "np lst"); (case b10 => walk_at "np ar")); (with_reducible refine .add ?_); o_facts WL_nil; ((with_reducible refine' And.intro ?a11 ?_); (case a11 => exact Nat.le_of_ble_eq_true rfl)))
      refine ⟨cells.map V.int, [V.int (417 + cells.length)], .lst, by rw [List.length_map]; exact .lst, size_ok (by simp; omega), ?_⟩
      (w_dflts WL_cons; o_facts WE_int; o_facts WL_nil; ((with_reducible refine' And.intro ?a12 ?_); (case a12 => exact Nat.le_of_ble_eq_true rfl)))
      intro D
      have e1 : cells.map V.int ++ [V.int (417 + cells.length)] = (cells ++ [(417 + cells.length : Int)]).map V.int := by rw [List.map_append]; rfl
      rw [e1]
      exact hP D D0 _ _ (by simp) (by simp; omega) (Nat.lt_of_le_of_lt (List.length_filter_le _ _) (by omega))
/-! groups -/
noncomputable def cellG (x : Nat × List Rw) : Nat × O := (x.1, .list (x.2.map dueV))
/-- the groups, the newest ahead -/
noncomputable def stepG (gn : List (List Rw)) (x : Rw) : List (List Rw) := if isBnd x = true then [] :: gn else match gn with
  | [] => []
  | g :: r => (g ++ [x]) :: r
theorem stepG_cons {g : List Rw} {r : List (List Rw)} {x : Rw} (h : isBnd x = false) : stepG (g :: r) x = (g ++ [x]) :: r := by unfold stepG; rw [h]; rfl
theorem stepG_bnd {gn : List (List Rw)} {x : Rw} (h : isBnd x = true) : stepG gn x = [] :: gn := by unfold stepG; rw [if_pos h]
noncomputable def GrpI (Rv : V) (f : Nat) (H : Hp) (fin : List (List Rw)) (xs : List Rw) (loc : Loc) (hp : Hp) : Prop := ∃ (W : V) (G : List (Nat × List Rw)) (z : Nat × List Rw), loc = ([("the_rows", Rv), ("found", .ref f), ("row", W)] : Loc) ∧
  hp = G.map cellG ++ (f, .list ((G ++ [z]).reverse.map fun x => V.ref x.1)) :: cellG z :: H ∧ xs.foldl stepG ((G ++ [z]).map (·.2)) = fin ∧ G.length + xs.length ≤ 1000 ∧ (∀ x ∈ G ++ [z], x.2.length + xs.length ≤ 1000) ∧ ∀ x ∈ xs, delOk x
theorem HpAt.of_mem {G : List (Nat × List Rw)} {H : Hp} {x : Nat × List Rw} (h : x ∈ G) : HpAt (G.map cellG ++ H) x.1 (.list (x.2.map dueV)) := by
  induction G with
  | nil => cases h
  | cons q G ih =>
    rcases List.mem_cons.mp h with rfl | h
    · exact .head
    · exact .tail (ih h)
theorem grp_at {f : Nat} {H : Hp} {G : List (Nat × List Rw)} {z x : Nat × List Rw} {L : List V} (h : x ∈ G ++ [z]) : HpAt (G.map cellG ++ (f, .list L) :: cellG z :: H) x.1 (.list (x.2.map dueV)) := by
  rcases List.mem_append.mp h with h | h
  · exact .of_mem h
  · obtain rfl := List.mem_singleton.mp h
    exact .pre (.tail .head) _
theorem grp_last {f : Nat} {H : Hp} (G : List (Nat × List Rw)) (z : Nat × List Rw) : ∃ q N', G ++ [z] = q :: N' ∧ ∀ r : List Rw, ∃ G2 z2, (q.1, r) :: N' = G2 ++ [z2] ∧ G2.length = G.length ∧
    HpMod q.1 (.list (q.2.map dueV)) (.list (r.map dueV)) (G.map cellG ++ (f, .list ((G ++ [z]).reverse.map fun x => V.ref x.1)) :: cellG z :: H) (G2.map cellG ++ (f, .list ((G2 ++ [z2]).reverse.map fun x => V.ref x.1)) :: cellG z2 :: H) := by
  cases G with
  | nil => exact ⟨z, [], rfl, fun r => ⟨[], (z.1, r), rfl, rfl, .tail .head⟩⟩
  | cons q G =>
    refine ⟨q, G ++ [z], rfl, fun r => ⟨(q.1, r) :: G, z, rfl, rfl, ?_⟩⟩
    rw [List.cons_append, List.reverse_cons, List.map_append, List.cons_append, List.reverse_cons, List.map_append]
    exact .head
theorem grps_ok {c : Ctx} {loc : Loc} {hp : Hp} {rows : List Rw} {P : Hp → V → Prop} (hcm : c.fi.cm = none) (room : c.Room 1) (hl : rows.length < 900) (hd : ∀ x ∈ rows, delOk x)
  (hP : ∀ (hp' : Hp) (rs : List (Nat × List Rw)), rs.map (·.2) = ((rows.foldl stepG [[]]).reverse.filter fun g => !g.isEmpty) → (∀ x ∈ rs, HpAt hp' x.1 (.list (x.2.map dueV))) → (∀ a o, HpAt hp a o → HpAt hp' a o) → P hp' (.lst (rs.map fun x => .ref x.1))) :
  CallOk c loc hp (.ref 246) [.lst (rows.map rwV)] P := by
  refine callF (names := ["the_rows"]) (rest := ["found", "row"]) (loc0 := [("the_rows", .lst (rows.map rwV)), ("found", .undef), ("row", .undef)]) hcm room (by exact rfl) (by kernel_rfl) (fun ws h => by obtain ⟨a, rfl⟩ := ws1 h; rfl) (by decide) (by decide) (by decide) (by decide) rfl rfl fun r hw room => ?_
  (o_facts WS_cons; row_cond WX_assign)
  refine WE_listM (WL_cons (WE_listM ?_) rfl)
  (o_facts WL_nil; ((with_reducible refine' And.intro ?a13 ?_); (case a13 => exact Nat.le_of_ble_eq_true rfl)))
  intro g1
  (o_facts WL_nil; ((with_reducible refine' And.intro ?a14 ?_); (case a14 => exact Nat.le_of_ble_eq_true rfl)))
  intro f
  (((with_reducible refine' ⟨_, ?ls15, ?_⟩); (case ls15 => walk_at "np set")); o_facts WS_cons)
  refine WX_for ?_ rfl rfl (fun _ => rfl)
  (((with_reducible refine' WE_name ?hx16 ?hd16 ?_); (case hx16 => walk_at "np at"); (case hd16 => first | exact neU rfl | assumption)))
  refine ⟨_, rfl, ?_⟩
  refine wfor_inv (GrpI (.lst (rows.map rwV)) f hp (rows.foldl stepG [[]])) ?_ ?_ rows _ _ ⟨.undef, [], (g1, []), rfl, rfl, rfl, by simp; omega, fun x hx => by obtain rfl := List.mem_singleton.mp hx; simp; omega, hd⟩
  · rintro x xs loc hp' ⟨W, G, z, rfl, rfl, h1, h2, h3, h4⟩
    have hu1 : rwV x ≠ .undef := neU (by cases x <;> rfl)
    refine ⟨_, by walk_at "np set", ?_⟩
    (o_facts WS_cons)
    refine WX_if ?_
    (w_dflts WT_cmp; ((with_reducible refine' WE_name ?hx17 ?hd17 ?_); (case hx17 => walk_at "np at"); (case hd17 => first | exact neU rfl | assumption)); w_dflts WE_BOUNDARY)
    refine ⟨_, cmp_bnd, fun h => ?_, fun h => ?_⟩
    · (o_facts WS_cons; row_more WX_expr)
      refine WE_methL PySem.F.slot_list_append rfl ?_ ⟨rfl, rfl⟩ rfl
      (((with_reducible refine' WE_name ?hx18 ?hd18 ?_); (case hx18 => walk_at "np at"); (case hd18 => first | exact neU rfl | assumption)))
      refine ⟨_, .ref (by walk_at "np hat"), ?_⟩
      (w_dflts WL_cons)
      refine WE_listM ?_
      (o_facts WL_nil; ((with_reducible refine' And.intro ?a19 ?_); (case a19 => exact Nat.le_of_ble_eq_true rfl)))
      intro g
      simp only [List.length_cons] at h2
      (o_facts WL_nil)
      refine call_append (l := (G ++ [z]).reverse.map fun x => V.ref x.1) (.tail (.pre .head _)) (size_ok (by simp; omega)) ?_
      (o_facts WS_nil; o_facts WS_nil)
      refine ⟨rwV x, (g, []) :: G, z, rfl, ?_, ?_, ?_, fun y hy => ?_, fun y hy => h4 y (.tail _ hy)⟩
      · rw [List.cons_append, List.reverse_cons, List.map_append]; rfl
      · rw [List.foldl_cons, stepG_bnd h] at h1; exact h1
      · rw [List.length_cons]; omega
      · rcases List.mem_cons.mp hy with rfl | hy
        · rw [List.length_nil]; omega
        · have := h3 y hy; rw [List.length_cons] at this; omega
    · obtain ⟨q, N', hN, hmod⟩ := grp_last (f := f) (H := hp) G z
      have hq : q ∈ G ++ [z] := by rw [hN]; exact .head _
      have hat := grp_at (f := f) (H := hp) (L := (G ++ [z]).reverse.map fun x => V.ref x.1) hq
      obtain ⟨G2, z2, e2, e3, hm⟩ := hmod (q.2 ++ [x])
      rw [List.map_append, List.map_singleton] at hm
      have hlq := h3 q hq
      rw [List.length_cons] at hlq h2
      (o_facts WS_cons; row_more WX_expr)
      refine WE_methL PySem.F.slot_list_append rfl ?_ ⟨rfl, rfl⟩ rfl
      (((with_reducible refine WE_item ?_ ?hs20); (case hs20 => (intro _ _; rfl))); ((with_reducible refine' WE_name ?hx21 ?hd21 ?_); (case hx21 => walk_at "np at"); (case hd21 => first | exact neU rfl | assumption)); o_facts WE_neg)
      refine ⟨_, item_last (X := .ref q.1) (by walk_at "np hat") (by rw [List.getLast?_map, List.getLast?_reverse, hN]; rfl), ?_⟩
      refine ⟨_, .ref hat, ?_⟩
      refine WL_cons (WE_val (Y := dueV x) ?_ ?_) rfl
      · have hdx := h4 x (.head _)
        cases x with
        | bnd => cases h
        | ins q m => (o_facts WE_ifexp; w_dflts WT_cmp; ((with_reducible refine WE_item ?_ ?hs22); (case hs22 => (intro _ _; rfl))); ((with_reducible refine' WE_name ?hx23 ?hd23 ?_); (case hx23 => walk_at "np at"); (case hd23 => first | exact neU rfl | assumption)); o_facts WE_int; ((with_reducible refine' ⟨_, item_tup ?b24 ?c24 ?d24, ?_⟩); (case b24 => decide); (case c24 => decide); (case d24 => rfl)); o_facts WE_str); exact tst_f cmp_eqS (by decide) (WE_name (.tail (.tail .head)) nofun ⟨rfl, rfl⟩)
        | prop q m p => (o_facts WE_ifexp; w_dflts WT_cmp; ((with_reducible refine WE_item ?_ ?hs25); (case hs25 => (intro _ _; rfl))); ((with_reducible refine' WE_name ?hx26 ?hd26 ?_); (case hx26 => walk_at "np at"); (case hd26 => first | exact neU rfl | assumption)); o_facts WE_int; ((with_reducible refine' ⟨_, item_tup ?b27 ?c27 ?d27, ?_⟩); (case b27 => decide); (case c27 => decide); (case d27 => rfl)); o_facts WE_str); exact tst_f cmp_eqS (by decide) (WE_name (.tail (.tail .head)) nofun ⟨rfl, rfl⟩)
        | del q xs b =>
          (o_facts WE_ifexp; w_dflts WT_cmp; ((with_reducible refine WE_item ?_ ?hs28); (case hs28 => (intro _ _; rfl))); ((with_reducible refine' WE_name ?hx29 ?hd29 ?_); (case hx29 => walk_at "np at"); (case hd29 => first | exact neU rfl | assumption)); o_facts WE_int; ((with_reducible refine' ⟨_, item_tup ?b30 ?c30 ?d30, ?_⟩); (case b30 => decide); (case c30 => decide); (case d30 => rfl)); o_facts WE_str)
          refine tst_t cmp_eqS rfl ?_
          refine WE_addT (WE_sliceTup ?_)
          (((with_reducible refine' WE_name ?hx31 ?hd31 ?_); (case hx31 => walk_at "np at"); (case hd31 => first | exact neU rfl | assumption)); o_facts WE_int)
          refine ⟨_, 2, rfl, rfl, Nat.le_of_ble_eq_true rfl, size_ok (Nat.le_of_ble_eq_true rfl), ?_⟩
          (o_facts WE_tuple; w_dflts WL_cons; w_dflts WE_attr; ((with_reducible refine WE_item ?_ ?hs32); (case hs32 => (intro _ _; rfl))); ((with_reducible refine' WE_name ?hx33 ?hd33 ?_); (case hx33 => walk_at "np at"); (case hd33 => first | exact neU rfl | assumption)); o_facts WE_int; ((with_reducible refine' ⟨_, item_tup ?b34 ?c34 ?d34, ?_⟩); (case b34 => decide); (case c34 => decide); (case d34 => rfl)); ((with_reducible refine' ⟨_, AttrV.obj ?c35 ?d35 ?e35, ?_⟩); (case c35 => walk_at "np at"); (case d35 => rfl); (case e35 => with_reducible exact gk_codes _)); w_dflts WL_cons; ((with_reducible refine WE_item ?_ ?hs36); (case hs36 => (intro _ _; rfl))); ((with_reducible refine' WE_name ?hx37 ?hd37 ?_); (case hx37 => walk_at "np at"); (case hd37 => first | exact neU rfl | assumption)); o_facts WE_int; ((with_reducible refine' ⟨_, item_tup ?b38 ?c38 ?d38, ?_⟩); (case b38 => decide); (case c38 => decide); (case d38 => rfl)); o_facts WL_nil; ((with_reducible refine' And.intro ?a39 ?_); (case a39 => exact Nat.le_of_ble_eq_true rfl)))
          exact ⟨_, _, rfl, rfl, nofun, nofun, size_ok (Nat.le_of_ble_eq_true rfl), rfl, rfl⟩
      · (o_facts WL_nil)
        refine call_append hm (size_ok (by rw [List.length_map]; omega)) ?_
        (o_facts WS_nil; o_facts WS_nil)
        refine ⟨rwV x, G2, z2, rfl, rfl, ?_, by omega, fun y hy => ?_, fun y hy => h4 y (.tail _ hy)⟩
        · rw [List.foldl_cons, hN, List.map_cons, stepG_cons h] at h1
          rw [← e2]
          exact h1
        · rw [← e2] at hy
          rcases List.mem_cons.mp hy with rfl | hy
          · rw [List.length_append, List.length_singleton]; omega
          · have := h3 y (by rw [hN]; exact .tail _ hy); rw [List.length_cons] at this; omega
  · rintro loc hp' ⟨W, G, z, rfl, rfl, h1, h2, h3, h4⟩
    have hN2 : ∀ x ∈ (G ++ [z]).reverse, HpAt (G.map cellG ++ (f, .list ((G ++ [z]).reverse.map fun x => V.ref x.1)) :: cellG z :: hp) x.1 (.list (x.2.map dueV)) := fun x hx => grp_at (List.mem_reverse.mp hx)
    have h1 : (G ++ [z]).map (·.2) = rows.foldl stepG [[]] := h1
    simp only [List.length_nil] at h2
    have hlen : (G ++ [z]).reverse.length ≤ 1001 := by simp; omega
    (o_facts WS_cons; o_facts WX_ret; ((with_reducible refine WE_compL ?_ ?a40 ?b40 ?c40 ?d40); (case a40 => rfl); (case b40 => rfl); (case c40 => decide); (case d40 => (intro _; rfl))); ((with_reducible refine' WE_name ?hx41 ?hd41 ?_); (case hx41 => walk_at "np at"); (case hd41 => first | exact neU rfl | assumption)))
    refine compS_of (G ++ [z]).reverse (fun x => V.ref x.1) (fun x => V.ref x.1) (fun x => !x.2.isEmpty) (.ref (by walk_at "np hat")) (size_ok (by omega)) (fun x hx => ?_) ?_
    · have hx' := hN2 x hx
      refine elt_name rfl rfl (by kernel_rfl) fun C oC => ⟨tests1 ?_, fun _ => ?_⟩
      · (w_dflts WT_cmp; ((with_reducible refine' WE_name ?hx42 ?hd42 ?_); (case hx42 => walk_at "np at"); (case hd42 => first | exact neU rfl | assumption)))
        refine WE_listF ?_
        (o_facts WL_nil; ((with_reducible refine' And.intro ?a43 ?_); (case a43 => exact Nat.le_of_ble_eq_true rfl)))
        have e : decide (x.2.map dueV ≠ []) = !x.2.isEmpty := by cases x.2 <;> rfl
        exact ⟨_, cmp_neNil (.ref hx'), fun h => ⟨rfl, by rw [← e]; exact h⟩, fun h => ⟨rfl, by rw [← e]; exact h⟩⟩
      · (((with_reducible refine' WE_name ?hx44 ?hd44 ?_); (case hx44 => walk_at "np at"); (case hd44 => first | exact neU rfl | assumption)))
        exact ⟨rfl, rfl⟩
    · refine hP _ ((G ++ [z]).reverse.filter fun x => !x.2.isEmpty) ?_ (fun x hx => hN2 x (List.mem_filter.mp hx).1) fun a o h => .pre (.tail (.tail h)) _
      rw [← h1, ← List.map_reverse, List.filter_map]
      rfl
noncomputable def insCh (chs : List Ch) (fresh : List Int) (p : Nat) : List Ch := match chs.getLast? with
  | some (.ins xs q) => if q + xs.length = p then chs.set (chs.length - 1) (.ins (xs ++ fresh) q) else chs ++ [.ins fresh p]
  | _ => chs ++ [.ins fresh p]
structure Wd1 where
  text : List Int
  order : List Int
  next : Nat
  chs : List Ch
noncomputable def placeOf (text order : List Int) (at_ : Nat) : Nat := match text[at_]? with
  | some y => order.idxOf y
  | none => order.length
inductive Step (W : Wd1) : Wd1 → Prop
  | ins (k a : Nat) : 0 < k → k ≤ 3 → a ≤ W.text.length → Step W ⟨W.text.take a ++ ((List.range k).map fun i => ((W.next + i : Nat) : Int)) ++ W.text.drop a, W.order.take (placeOf W.text W.order a) ++ ((List.range k).map fun i => ((W.next + i : Nat) : Int)) ++ W.order.drop (placeOf W.text W.order a), W.next + k, insCh W.chs ((List.range k).map fun i => ((W.next + i : Nat) : Int)) a⟩
  | del (m a : Nat) (b : Bool) : 0 < m → m ≤ 3 → a + m ≤ W.text.length → Step W ⟨W.text.take a ++ W.text.drop (a + m), W.order, W.next, W.chs ++ [.del ((W.text.drop a).take m) a b]⟩
  | prop (m a : Nat) : 0 < m → m ≤ 3 → a + m ≤ W.text.length → Step W ⟨W.text, W.order, W.next, W.chs ++ [.prop ((W.text.drop a).take m) a]⟩
structure Ids where
  s : Nat
  ch : Nat
  o : Nat
  t : Nat
  R : Nat
  h : Nat
  hd : Nat
  D : Nat
  D0 : Nat
noncomputable abbrev wldR (w : World) (I : Ids) (W : Wd1) (rows : List Rw) (cells big : List Int) (n : Int) (rest : Hp) : Hp := (I.s, .dct w [("text", .ref I.t), ("order", .ref I.o), ("next", .int W.next), ("changes", .ref I.ch)]) :: (I.ch, .list (W.chs.map chV)) :: (I.o, .list (W.order.map V.int)) :: (I.t, .list (W.text.map V.int)) ::
  (I.R, .list (rows.map rwV)) :: (I.h, .inst 109 I.hd) :: (I.hd, .dict [("rows", .ref I.R), ("dropped", .int 0), ("is_on", .bool true), ("point_before", .none), ("noted_tick", .none)]) :: (I.D, .list [.ref I.D0, .lst (cells.map V.int), .int n]) :: (I.D0, .list (big.map V.int)) :: rest
noncomputable abbrev wld (w : World) (I : Ids) (W : Wd1) (cells big : List Int) (n : Int) (rest : Hp) : Hp := wldR w I W (W.chs.map rwOf) cells big n rest
section
variable {c : Ctx} {w : World} {loc : Loc} {I : Ids} {W : Wd1} {rows : List Rw} {cells big : List Int} {n many : Int} {rest : Hp} {P : Hp → V → Prop}
theorem draw_w (hcm : c.fi.cm = none) (room : c.Room 1) (hc : 0 < cells.length) (hl : cells.length < 100) (hb : big.length < 100) (h0 : 0 ≤ n) (h1 : n < 100000) (hm : 0 < many) (hm2 : many < 100000)
  (hP : ∀ (v : Nat) (n' : Int) (big' : List Int), (v : Int) < many → n ≤ n' → n' ≤ n + 1 → big'.length < 100 → P (wldR w I W rows cells big' n' rest) (.int v)) : CallOk c loc (wldR w I W rows cells big n rest) (.ref 231) [.ref I.D, .int many] P :=
  draw_ok (pre := [_, _, _, _, _, _, _]) hcm room hc hl hb h0 h1 hm hm2 fun v n' big' a b d e f => by
    obtain ⟨v, rfl⟩ := Int.eq_ofNat_of_zero_le a
    exact hP v n' big' b d e (by omega)
theorem nins_w {p k : Nat} {pt : Int} (hcm : c.fi.cm = none) (room : c.Room 2) (hl : rows.length < 1000) (hn : 0 < k) (hP : P (wldR w I W (noteIns rows p k) cells big n rest) .none) :
  CallOk c loc (wldR w I W rows cells big n rest) (.ref 78) [.ref I.h, .int (p + 1), .int k, .int pt, .bool true, .int 0] P := nins_ok (pre := [_, _, _, _]) hcm room hl hn hP
theorem ndel_w {p : Nat} {xs : List Int} {pt : Int} {b : Bool} (hcm : c.fi.cm = none) (room : c.Room 2) (hl : rows.length < 1000) (hx0 : xs ≠ []) (hx : xs.length < 1000) (hb : decide (pt = p + 1 + xs.length) = b) (hP : P (wldR w I W (rows ++ [.del p xs b]) cells big n rest) .none) :
  CallOk c loc (wldR w I W rows cells big n rest) (.ref 85) [.ref I.h, .int (p + 1), pieceV xs, .int pt, .lst [], .bool true, .int 0] P := ndel_ok (pre := [_, _, _, _]) hcm room hl hx0 hx hb hP
theorem nprop_w {p m : Nat} (hcm : c.fi.cm = none) (room : c.Room 2) (hl : rows.length < 1000) (hm : 0 < m) (hP : P (wldR w I W (rows ++ [.prop p m p]) cells big n rest) .none) :
  CallOk c loc (wldR w I W rows cells big n rest) (.ref 92) [.ref I.h, .int (p + 1), .int (p + 1 + m), .int 7, .tup [.int p], .bool true, .int 0] P := nprop_ok (pre := [_, _, _, _]) hcm room hl hm hP
theorem bnd_w (hcm : c.fi.cm = none) (room : c.Room 2) (hl : rows.length < 1000) (hP : P (wldR w I W (if atB rows then rows else rows ++ [.bnd]) cells big n rest) .none) :
  CallOk c loc (wldR w I W rows cells big n rest) (.ref 57) [.ref I.h] P := bnd_ok (pre := [_, _, _, _]) hcm room hl hP
end
theorem WX_join {c : Ctx} {loc : Loc} {hp : Hp} {b : Stmt} {PN : Loc → Hp → Prop} {PR : Hp → V → Prop} (q0 : Hp) (h : WX c loc hp b (fun l q => l = loc ∧ q = q0) PR) (k : PN loc q0) : WX c loc hp b PN PR := fun Vs vs ex s Q hst hN hR =>
  h Vs vs ex s Q hst (fun l q s' e => hN l q s' (by rw [e.1, e.2]; exact k)) hR
noncomputable def lastV (chs : List Ch) : V := match chs.getLast? with
  | some x => chV x
  | none => .none
noncomputable def insChAt (a : Nat) (chs : List Ch) : Bool := match chs.getLast? with
  | some (.ins xs q) => decide (q + xs.length = a)
  | _ => false
theorem two_lastC (chs : List Ch) : chs = [] ∨ ∃ y, chs.getLast? = some y := by
  cases q : chs.getLast? with
  | none => exact .inl (List.getLast?_eq_none_iff.mp q)
  | some y => exact .inr ⟨y, rfl⟩
theorem lastV_u (chs : List Ch) : lastV chs ≠ .undef := neU (by
  unfold lastV
  cases chs.getLast? with
  | none => rfl
  | some y => cases y <;> rfl)
theorem noteIns_map {chs : List Ch} {fr : List Int} {a : Nat} : noteIns (chs.map rwOf) a fr.length = (insCh chs fr a).map rwOf := by
  unfold noteIns insCh
  rw [List.getLast?_map]
  rcases two_lastC chs with rfl | ⟨y, hy⟩
  · rfl
  · rw [hy]
    cases y with
    | ins xs q =>
      show (if decide (q + xs.length = a) = true then (chs.map rwOf).set ((chs.map rwOf).length - 1) (.ins q (xs.length + fr.length)) else chs.map rwOf ++ [.ins a fr.length]) = (if q + xs.length = a then chs.set (chs.length - 1) (.ins (xs ++ fr) q) else chs ++ [.ins fr a]).map rwOf
      by_cases h : q + xs.length = a
      · rw [if_pos (decide_eq_true h), if_pos h, List.map_set, List.length_map]
        show _ = (chs.map rwOf).set _ (.ins q (xs ++ fr).length)
        rw [List.length_append]
      · rw [if_neg (by rw [decide_eq_false h]; exact Bool.false_ne_true), if_neg h, List.map_append]; rfl
    | del xs q b => rw [List.map_append]; rfl
    | prop xs q => rw [List.map_append]; rfl
    | fin => rw [List.map_append]; rfl
theorem chg_ok {c : Ctx} {loc : Loc} {I : Ids} {W : Wd1} {cells big : List Int} {n : Int} {rest : Hp} {P : Hp → V → Prop} (hcm : c.fi.cm = none) (room : c.Room 4) (hc : 0 < cells.length) (hcl : cells.length < 100) (hb : big.length < 100) (h0 : 0 ≤ n) (h1 : n < 90000)
  (ht : W.text.length < 800) (ho : W.order.length < 800) (hch : W.chs.length < 800) (hto : ∀ y ∈ W.text, y ∈ W.order) (hcx : ∀ x ∈ W.chs, (chXs x).length < 900)
  (hP : ∀ (W' : Wd1) (big' : List Int) (n' : Int), Step W W' → 0 ≤ n' → n' ≤ n + 10 → big'.length < 100 → P (wld c.w I W' cells big' n' rest) .none) :
  CallOk c loc (wld c.w I W cells big n rest) (.ref 236) [.ref I.D, .ref I.h, .ref I.s] P := by
  refine callCF (x₀ := "state") (names := ["deck", "history", "state"]) (rest := ["text", "order", "way", "at", "many", "fresh", "place", "last", "gone", "the_point"]) (loc0 := [("deck", .ref I.D), ("history", .ref I.h), ("state", .ref I.s), ("text", .undef), ("order", .undef), ("way", .undef), ("at", .undef), ("many", .undef), ("fresh", .undef), ("place", .undef), ("last", .undef), ("gone", .undef), ("the_point", .undef)]) hcm room (by exact rfl) (by kernel_rfl) (fun ws h => by obtain ⟨a, b, c, rfl⟩ := ws3 h; rfl) (by decide) (by decide) rfl (fun _ => rfl) (by decide) rfl rfl fun r room => ?_
  (o_facts WS_cons)
  refine WX_unpackS (names := ["text", "order"]) ?_ rfl (List.forall_mem_cons.mpr ⟨rfl, List.forall_mem_cons.mpr ⟨rfl, List.forall_mem_nil _⟩⟩) rfl rfl
  (o_facts WE_tuple; w_dflts WL_cons; ((with_reducible refine WE_item ?_ ?hs1); (case hs1 => (intro _ _; rfl))); ((with_reducible refine' WE_name ?hx2 ?hd2 ?_); (case hx2 => walk_at "np at"); (case hd2 => first | exact neU rfl | assumption)); o_facts WE_str; ((with_reducible refine' ⟨_, item_dct ?a3 ?b3 ?c3, ?_⟩); (case a3 => walk_at "np hat"); (case b3 => walk_at "np at"); (case c3 => (dsimp only [List.map]; decide))); w_dflts WL_cons; ((with_reducible refine WE_item ?_ ?hs4); (case hs4 => (intro _ _; rfl))); ((with_reducible refine' WE_name ?hx5 ?hd5 ?_); (case hx5 => walk_at "np at"); (case hd5 => first | exact neU rfl | assumption)); o_facts WE_str; ((with_reducible refine' ⟨_, item_dct ?a6 ?b6 ?c6, ?_⟩); (case a6 => walk_at "np hat"); (case b6 => walk_at "np at"); (case c6 => (dsimp only [List.map]; decide))); o_facts WL_nil; ((with_reducible refine' And.intro ?a7 ?_); (case a7 => exact Nat.le_of_ble_eq_true rfl)))
  refine ⟨_, _, .tup, rfl, .cons (by walk_at "np set") (.cons (by walk_at "np set") .nil), ?_⟩
  (o_facts WS_cons)
  refine WX_unpackS (names := ["way", "at"]) ?_ rfl (List.forall_mem_cons.mpr ⟨rfl, List.forall_mem_cons.mpr ⟨rfl, List.forall_mem_nil _⟩⟩) rfl rfl
  (o_facts WE_tuple; w_dflts WL_cons; ((with_reducible refine' WE_own ?o8 ?_ ?a8 ?b8 ?c8 ?d8); (case o8 => with_reducible exact o_law_draw _); (case a8 => rfl); (case b8 => decide); (case c8 => first | exact ⟨rfl, rfl⟩ | exact trivial); (case d8 => rfl)); w_dflts WL_cons; ((with_reducible refine' WE_name ?hx9 ?hd9 ?_); (case hx9 => walk_at "np at"); (case hd9 => first | exact neU rfl | assumption)); w_dflts WL_cons; o_facts WE_int; o_facts WL_nil)
  refine draw_w rfl (room.le (by decide)) hc hcl hb h0 (by omega) (by decide) (by decide) fun way n1 big1 q1 q2 q3 q4 => ?_
  (w_dflts WL_cons; ((with_reducible refine' WE_own ?o10 ?_ ?a10 ?b10 ?c10 ?d10); (case o10 => with_reducible exact o_law_draw _); (case a10 => rfl); (case b10 => decide); (case c10 => first | exact ⟨rfl, rfl⟩ | exact trivial); (case d10 => rfl)); w_dflts WL_cons; ((with_reducible refine' WE_name ?hx11 ?hd11 ?_); (case hx11 => walk_at "np at"); (case hd11 => first | exact neU rfl | assumption)); w_dflts WL_cons; o_facts WE_bin; row_room_at WE_len; w_dflts WL_cons; ((with_reducible refine' WE_name ?hx12 ?hd12 ?_); (case hx12 => walk_at "np at"); (case hd12 => first | exact neU rfl | assumption)); o_facts WL_nil; ((with_reducible refine' call_len ?a13 ?b13 ?_); (case a13 => walk_at "np lst"); (case b13 => walk_at "np ar")); o_facts WE_int; (with_reducible refine .add ?_); o_facts WL_nil)
  rw [List.length_map]
  refine draw_w rfl (room.le (by decide)) hc hcl q4 (by omega) (by omega) (by omega) (by omega) fun a n2 big2 q5 q6 q7 q8 => ?_
  (o_facts WL_nil; ((with_reducible refine' And.intro ?a14 ?_); (case a14 => exact Nat.le_of_ble_eq_true rfl)))
  refine ⟨_, _, .tup, rfl, .cons (by walk_at "np set") (.cons (by walk_at "np set") .nil), ?_⟩
  (o_facts WS_cons; row_cond WX_assign; row_room_at WE_min; w_dflts WL_cons; o_facts WE_bin; o_facts WE_int; ((with_reducible refine' WE_own ?o15 ?_ ?a15 ?b15 ?c15 ?d15); (case o15 => with_reducible exact o_law_draw _); (case a15 => rfl); (case b15 => decide); (case c15 => first | exact ⟨rfl, rfl⟩ | exact trivial); (case d15 => rfl)); w_dflts WL_cons; ((with_reducible refine' WE_name ?hx16 ?hd16 ?_); (case hx16 => walk_at "np at"); (case hd16 => first | exact neU rfl | assumption)); w_dflts WL_cons; o_facts WE_int; o_facts WL_nil)
  refine draw_w rfl (room.le (by decide)) hc hcl q8 (by omega) (by omega) (by decide) (by decide) fun m1 n3 big3 q9 q10 q11 q12 => ?_
  ((with_reducible refine .add ?_); w_dflts WL_cons; o_facts WE_bin; row_room_at WE_len; w_dflts WL_cons; ((with_reducible refine' WE_name ?hx17 ?hd17 ?_); (case hx17 => walk_at "np at"); (case hd17 => first | exact neU rfl | assumption)); o_facts WL_nil; ((with_reducible refine' call_len ?a18 ?b18 ?_); (case a18 => walk_at "np lst"); (case b18 => walk_at "np ar")); ((with_reducible refine' WE_name ?hx19 ?hd19 ?_); (case hx19 => walk_at "np at"); (case hd19 => first | exact neU rfl | assumption)); (with_reducible refine .sub ?_); o_facts WL_nil)
  rw [List.length_map]
  refine call_min ?_
  rw [show (if (W.text.length - a : Int) < 1 + m1 then (W.text.length - a : Int) else 1 + m1) = ((min (1 + m1) (W.text.length - a) : Nat) : Int) by split <;> omega]
  obtain ⟨m, hm⟩ : ∃ m, min (1 + m1) (W.text.length - a) = m := ⟨_, rfl⟩
  rw [hm]
  (((with_reducible refine' ⟨_, ?ls20, ?_⟩); (case ls20 => walk_at "np set")); o_facts WS_cons)
  refine WX_ifD (decide (way = 0) || decide (m < 1)) ?_ (fun h => ?_) (fun h => ?_)
  · (o_facts WT_bool; o_facts WB_or; w_dflts WT_cmp; ((with_reducible refine' WE_name ?hx21 ?hd21 ?_); (case hx21 => walk_at "np at"); (case hd21 => first | exact neU rfl | assumption)); o_facts WE_int)
    refine tst_int cmp_eq (fun h => ⟨rfl, by rw [decide_eq_true (by omega)]; rfl⟩) (fun h => ?_)
    (o_facts WB_or; w_dflts WT_cmp; ((with_reducible refine' WE_name ?hx22 ?hd22 ?_); (case hx22 => walk_at "np at"); (case hd22 => first | exact neU rfl | assumption)); o_facts WE_int)
    refine tst_int cmp_lt (fun h2 => ⟨rfl, by rw [decide_eq_true (show m < 1 by omega), Bool.or_true]⟩) (fun h2 => ?_)
    (o_facts WB_orN)
    exact ⟨rfl, by rw [decide_eq_false (show ¬ way = 0 by omega), decide_eq_false (show ¬ m < 1 by omega)]; rfl⟩
  · refine WS_cons (WX_asgC [("state", r.L + 1)] [("state", .ref I.s)] ?_ rfl rfl rfl rfl (by decide) (flOk1 (by walk_at "np at") rfl rfl (fun _ => rfl) rfl) (fun _ => rfl))
    (row_room_at WE_range; w_dflts WL_cons; o_facts WE_bin; o_facts WE_int; ((with_reducible refine' WE_own ?o23 ?_ ?a23 ?b23 ?c23 ?d23); (case o23 => with_reducible exact o_law_draw _); (case a23 => rfl); (case b23 => decide); (case c23 => first | exact ⟨rfl, rfl⟩ | exact trivial); (case d23 => rfl)); w_dflts WL_cons; ((with_reducible refine' WE_name ?hx24 ?hd24 ?_); (case hx24 => walk_at "np at"); (case hd24 => first | exact neU rfl | assumption)); w_dflts WL_cons; o_facts WE_int; o_facts WL_nil)
    refine draw_w rfl (room.le (by decide)) hc hcl q12 (by omega) (by omega) (by decide) (by decide) fun v n4 big4 q13 q14 q15 q16 => ?_
    ((with_reducible refine .add ?_); o_facts WL_nil)
    rw [show (1 + v : Int) = ((1 + v : Nat) : Int) by omega]
    refine call_range ?_
    refine compSC_of (List.range (1 + v)) (fun i => V.int (i : Nat)) (fun i => V.int (W.next + i : Nat)) (fun _ => true) (.inr ⟨1 + v, rfl, by omega, rfl, rfl⟩) (size_ok (by rw [List.length_range]; omega)) (fun i _ => ?_) ?_
    · refine elt_nameC rfl rfl (by kernel_rfl) fun C oC => ⟨tests0, fun _ => ?_⟩
      (o_facts WE_bin; ((with_reducible refine WE_item ?_ ?hs25); (case hs25 => (intro _ _; rfl))); ((with_reducible refine' WE_name ?hx26 ?hd26 ?_); (case hx26 => walk_at "np at"); (case hd26 => first | exact neU rfl | assumption)); o_facts WE_str; ((with_reducible refine' ⟨_, item_dct ?a27 ?b27 ?c27, ?_⟩); (case a27 => walk_at "np hat"); (case b27 => walk_at "np at"); (case c27 => (dsimp only [List.map]; decide))); ((with_reducible refine' WE_name ?hx28 ?hd28 ?_); (case hx28 => walk_at "np at"); (case hd28 => first | exact neU rfl | assumption)); (with_reducible refine .add ?_))
      exact ⟨rfl, by rw [Int.natCast_add]⟩
    · rw [show (List.range (1 + v)).filter (fun _ => true) = List.range (1 + v) from List.filter_eq_self.mpr fun _ _ => rfl, show (List.range (1 + v)).map (fun i => V.int (W.next + i : Nat)) = ((List.range (1 + v)).map fun i => ((W.next + i : Nat) : Int)).map V.int by rw [List.map_map]; rfl]
      have hfl : ((List.range (1 + v)).map fun i => ((W.next + i : Nat) : Int)).length = 1 + v := by rw [List.length_map, List.length_range]
      have stp := Step.ins (W := W) (1 + v) a (by omega) (by omega) (by omega)
      revert hfl stp
      generalize ((List.range (1 + v)).map fun i => ((W.next + i : Nat) : Int)) = fr
      intro hfl stp
      (((with_reducible refine' ⟨_, ?ls29, ?_⟩); (case ls29 => walk_at "np set")); o_facts WS_cons; w_dflts WX_setItem; o_facts WE_bin; ((with_reducible refine WE_item ?_ ?hs30); (case hs30 => (intro _ _; rfl))); ((with_reducible refine' WE_name ?hx31 ?hd31 ?_); (case hx31 => walk_at "np at"); (case hd31 => first | exact neU rfl | assumption)); o_facts WE_str; ((with_reducible refine' ⟨_, item_dct ?a32 ?b32 ?c32, ?_⟩); (case a32 => walk_at "np hat"); (case b32 => walk_at "np at"); (case c32 => (dsimp only [List.map]; decide))); row_room_at WE_len; w_dflts WL_cons; ((with_reducible refine' WE_name ?hx33 ?hd33 ?_); (case hx33 => walk_at "np at"); (case hd33 => first | exact neU rfl | assumption)); o_facts WL_nil; ((with_reducible refine' call_len ?a34 ?b34 ?_); (case a34 => walk_at "np lst"); (case b34 => walk_at "np ar")); (with_reducible refine .add ?_); ((with_reducible refine' WE_name ?hx35 ?hd35 ?_); (case hx35 => walk_at "np at"); (case hd35 => first | exact neU rfl | assumption)); o_facts WE_str)
      rw [List.length_map, hfl, show (W.next + (1 + v : Nat) : Int) = ((W.next + (1 + v) : Nat) : Int) by omega]
      refine ⟨_, set_dct .head (by walk_at "np set") (by dsimp only [List.map]; decide) (size_ok (Nat.le_of_ble_eq_true rfl)), ?_⟩
      refine WS_cons (WX_assign (WE_val (Y := .int (placeOf W.text W.order a : Nat)) ?_ ?_) rfl rfl rfl)
      · (o_facts WE_ifexp; w_dflts WT_cmp; ((with_reducible refine' WE_name ?hx36 ?hd36 ?_); (case hx36 => walk_at "np at"); (case hd36 => first | exact neU rfl | assumption)); row_room_at WE_len; w_dflts WL_cons; ((with_reducible refine' WE_name ?hx37 ?hd37 ?_); (case hx37 => walk_at "np at"); (case hd37 => first | exact neU rfl | assumption)); o_facts WL_nil; ((with_reducible refine' call_len ?a38 ?b38 ?_); (case a38 => walk_at "np lst"); (case b38 => walk_at "np ar")))
        rw [List.length_map]
        refine tst_int cmp_lt (fun h2 => ?_) (fun h2 => ?_)
        · obtain ⟨y, hy⟩ : ∃ y, W.text[a]? = some y := ⟨W.text[a]'(by omega), List.getElem?_eq_getElem (by omega)⟩
          skip
          refine WE_methL PySem.F.slot_list_index rfl ?_ ⟨rfl, rfl⟩ rfl
          (((with_reducible refine' WE_name ?hx39 ?hd39 ?_); (case hx39 => walk_at "np at"); (case hd39 => first | exact neU rfl | assumption)))
          refine ⟨_, .ref (by walk_at "np hat"), ?_⟩
          (w_dflts WL_cons; ((with_reducible refine WE_item ?_ ?hs40); (case hs40 => (intro _ _; rfl))); ((with_reducible refine' WE_name ?hx41 ?hd41 ?_); (case hx41 => walk_at "np at"); (case hd41 => first | exact neU rfl | assumption)); ((with_reducible refine' WE_name ?hx42 ?hd42 ?_); (case hx42 => walk_at "np at"); (case hd42 => first | exact neU rfl | assumption)))
          refine ⟨_, item_ref (X := .int y) (by walk_at "np hat") (by omega) (by omega) (by rw [List.getElem?_map, Int.toNat_natCast, hy]; rfl), ?_⟩
          (o_facts WL_nil)
          exact call_index (ns := W.order) (.ref (by walk_at "np hat")) (hto y (List.mem_of_getElem? hy)) (by omega) ⟨rfl, by unfold placeOf; rw [hy]⟩
        · (row_room_at WE_len; w_dflts WL_cons; ((with_reducible refine' WE_name ?hx43 ?hd43 ?_); (case hx43 => walk_at "np at"); (case hd43 => first | exact neU rfl | assumption)); o_facts WL_nil; ((with_reducible refine' call_len ?a44 ?b44 ?_); (case a44 => walk_at "np lst"); (case b44 => walk_at "np ar")))
          rw [List.length_map]
          exact ⟨rfl, by unfold placeOf; rw [List.getElem?_eq_none (by omega)]⟩
      · (((with_reducible refine' ⟨_, ?ls45, ?_⟩); (case ls45 => walk_at "np set")); o_facts WS_cons; row_more WX_expr)
        ((refine WE_methK ?_ (by first | exact trivial | exact ⟨rfl, rfl⟩) rfl); ((with_reducible refine' WE_name ?hx46 ?hd46 ?_); (case hx46 => walk_at "np at"); (case hd46 => first | exact neU rfl | assumption)); ((with_reducible refine' mth_of ?a47 ?b47 ?c47 ?d47 ?_); (case a47 => walk_at "np hat"); (case b47 => walk_at "np hat"); (case d47 => with_reducible exact mk_note_insert _); (case c47 => rfl)); w_dflts WL_cons; o_facts WE_bin; ((with_reducible refine' WE_name ?hx48 ?hd48 ?_); (case hx48 => walk_at "np at"); (case hd48 => first | exact neU rfl | assumption)); o_facts WE_int; (with_reducible refine .add ?_); w_dflts WL_cons; row_room_at WE_len; w_dflts WL_cons; ((with_reducible refine' WE_name ?hx49 ?hd49 ?_); (case hx49 => walk_at "np at"); (case hd49 => first | exact neU rfl | assumption)); o_facts WL_nil; ((with_reducible refine' call_len ?a50 ?b50 ?_); (case a50 => walk_at "np lst"); (case b50 => walk_at "np ar")); w_dflts WL_cons; o_facts WE_int; w_dflts WL_cons; o_facts WE_bool; w_dflts WL_cons; o_facts WE_int; o_facts WL_nil)
        rw [List.length_map, hfl]
        refine nins_w (W := ⟨W.text, W.order, W.next + (1 + v), W.chs⟩) (rows := W.chs.map rwOf) (k := 1 + v) rfl (room.le (by decide)) (by rw [List.length_map]; omega) (by omega) ?_
        rw [← hfl, noteIns_map]
        have hu := lastV_u W.chs
        refine WS_cons (WX_assign (WE_val (Y := lastV W.chs) ?_ ?_) rfl rfl rfl)
        · (o_facts WE_ifexp; w_dflts WT_cmp; ((with_reducible refine WE_item ?_ ?hs51); (case hs51 => (intro _ _; rfl))); ((with_reducible refine' WE_name ?hx52 ?hd52 ?_); (case hx52 => walk_at "np at"); (case hd52 => first | exact neU rfl | assumption)); o_facts WE_str; ((with_reducible refine' ⟨_, item_dct ?a53 ?b53 ?c53, ?_⟩); (case a53 => walk_at "np hat"); (case b53 => walk_at "np at"); (case c53 => (dsimp only [List.map]; decide))))
          refine WE_listF ?_
          (o_facts WL_nil; ((with_reducible refine' And.intro ?a54 ?_); (case a54 => exact Nat.le_of_ble_eq_true rfl)))
          refine ⟨_, cmp_neNil (.ref (by walk_at "np hat")), fun h2 => ?_, fun h2 => ?_⟩
          · obtain ⟨y, hy⟩ := (two_lastC W.chs).resolve_left fun e => by rw [e] at h2; cases h2
            (((with_reducible refine WE_item ?_ ?hs55); (case hs55 => (intro _ _; rfl))); ((with_reducible refine WE_item ?_ ?hs56); (case hs56 => (intro _ _; rfl))); ((with_reducible refine' WE_name ?hx57 ?hd57 ?_); (case hx57 => walk_at "np at"); (case hd57 => first | exact neU rfl | assumption)); o_facts WE_str; ((with_reducible refine' ⟨_, item_dct ?a58 ?b58 ?c58, ?_⟩); (case a58 => walk_at "np hat"); (case b58 => walk_at "np at"); (case c58 => (dsimp only [List.map]; decide))); o_facts WE_neg)
            exact ⟨_, item_last (X := chV y) (by walk_at "np hat") (by rw [List.getLast?_map, hy]; rfl), rfl, by unfold lastV; rw [hy]⟩
          · have e : W.chs = [] := by simpa using h2
            (o_facts WE_none)
            exact ⟨rfl, by rw [e]; rfl⟩
        · (((with_reducible refine' ⟨_, ?ls59, ?_⟩); (case ls59 => walk_at "np set")); o_facts WS_cons)
          refine WX_join (wldR c.w I ⟨W.text, W.order, W.next + fr.length, insCh W.chs fr a⟩ ((insCh W.chs fr a).map rwOf) cells big4 n4 rest) ?_ ?_
          · refine WX_ifD (insChAt a W.chs) ?_ (fun h2 => ?_) (fun h2 => ?_)
            · unfold insChAt lastV
              clear hu
              rcases two_lastC W.chs with e | ⟨y, hy⟩
              · rw [e]
                (o_facts WT_bool; o_facts WB_and; w_dflts WT_cmp; ((with_reducible refine' WE_name ?hx60 ?hd60 ?_); (case hx60 => walk_at "np at"); (case hd60 => first | exact neU rfl | assumption)); o_facts WE_none)
                exact ⟨_, cmp_isNot_none, nofun, fun _ => ⟨rfl, rfl⟩⟩
              · rw [hy]
                cases y with
                | ins xs q =>
                  (o_facts WT_bool; o_facts WB_and; w_dflts WT_cmp; ((with_reducible refine' WE_name ?hx61 ?hd61 ?_); (case hx61 => walk_at "np at"); (case hd61 => first | exact neU rfl | assumption)); o_facts WE_none)
                  refine ⟨_, cmp_isNot_tup, fun _ => ?_, nofun⟩
                  (o_facts WB_and; w_dflts WT_cmp; ((with_reducible refine WE_item ?_ ?hs62); (case hs62 => (intro _ _; rfl))); ((with_reducible refine' WE_name ?hx63 ?hd63 ?_); (case hx63 => walk_at "np at"); (case hd63 => first | exact neU rfl | assumption)); o_facts WE_int; ((with_reducible refine' ⟨_, item_tup ?b64 ?c64 ?d64, ?_⟩); (case b64 => decide); (case c64 => decide); (case d64 => rfl)); o_facts WE_str)
                  refine tst_t cmp_eqS rfl ?_
                  (o_facts WB_and; w_dflts WT_cmp; ((with_reducible refine WE_item ?_ ?hs65); (case hs65 => (intro _ _; rfl))); ((with_reducible refine' WE_name ?hx66 ?hd66 ?_); (case hx66 => walk_at "np at"); (case hd66 => first | exact neU rfl | assumption)); o_facts WE_int; ((with_reducible refine' ⟨_, item_tup ?b67 ?c67 ?d67, ?_⟩); (case b67 => decide); (case c67 => decide); (case d67 => rfl)); ((with_reducible refine' WE_name ?hx68 ?hd68 ?_); (case hx68 => walk_at "np at"); (case hd68 => first | exact neU rfl | assumption)))
                  refine tst_int cmp_eq (fun h => ?_) (fun h => ⟨rfl, decide_eq_false (by omega)⟩)
                  (o_facts WB_andN)
                  exact ⟨rfl, decide_eq_true (by omega)⟩
                | del xs q b =>
                  (o_facts WT_bool; o_facts WB_and; w_dflts WT_cmp; ((with_reducible refine' WE_name ?hx69 ?hd69 ?_); (case hx69 => walk_at "np at"); (case hd69 => first | exact neU rfl | assumption)); o_facts WE_none)
                  refine ⟨_, cmp_isNot_tup, fun _ => ?_, nofun⟩
                  (o_facts WB_and; w_dflts WT_cmp; ((with_reducible refine WE_item ?_ ?hs70); (case hs70 => (intro _ _; rfl))); ((with_reducible refine' WE_name ?hx71 ?hd71 ?_); (case hx71 => walk_at "np at"); (case hd71 => first | exact neU rfl | assumption)); o_facts WE_int; ((with_reducible refine' ⟨_, item_tup ?b72 ?c72 ?d72, ?_⟩); (case b72 => decide); (case c72 => decide); (case d72 => rfl)); o_facts WE_str)
                  exact tst_f cmp_eqS (by decide) ⟨rfl, rfl⟩
                | prop xs q =>
                  (o_facts WT_bool; o_facts WB_and; w_dflts WT_cmp; ((with_reducible refine' WE_name ?hx73 ?hd73 ?_); (case hx73 => walk_at "np at"); (case hd73 => first | exact neU rfl | assumption)); o_facts WE_none)
                  refine ⟨_, cmp_isNot_tup, fun _ => ?_, nofun⟩
                  (o_facts WB_and; w_dflts WT_cmp; ((with_reducible refine WE_item ?_ ?hs74); (case hs74 => (intro _ _; rfl))); ((with_reducible refine' WE_name ?hx75 ?hd75 ?_); (case hx75 => walk_at "np at"); (case hd75 => first | exact neU rfl | assumption)); o_facts WE_int; ((with_reducible refine' ⟨_, item_tup ?b76 ?c76 ?d76, ?_⟩); (case b76 => decide); (case c76 => decide); (case d76 => rfl)); o_facts WE_str)
                  exact tst_f cmp_eqS (by decide) ⟨rfl, rfl⟩
                | fin =>
                  (o_facts WT_bool; o_facts WB_and; w_dflts WT_cmp; ((with_reducible refine' WE_name ?hx77 ?hd77 ?_); (case hx77 => walk_at "np at"); (case hd77 => first | exact neU rfl | assumption)); o_facts WE_none)
                  refine ⟨_, cmp_isNot_tup, fun _ => ?_, nofun⟩
                  (o_facts WB_and; w_dflts WT_cmp; ((with_reducible refine WE_item ?_ ?hs78); (case hs78 => (intro _ _; rfl))); ((with_reducible refine' WE_name ?hx79 ?hd79 ?_); (case hx79 => walk_at "np at"); (case hd79 => first | exact neU rfl | assumption)); o_facts WE_int; ((with_reducible refine' ⟨_, item_tup ?b80 ?c80 ?d80, ?_⟩); (case b80 => decide); (case c80 => decide); (case d80 => rfl)); o_facts WE_str)
                  exact tst_f cmp_eqS (by decide) ⟨rfl, rfl⟩
            · obtain ⟨xs, q, hy, hq⟩ : ∃ xs q, W.chs.getLast? = some (.ins xs q) ∧ q + xs.length = a := by
                unfold insChAt at h2
                rcases two_lastC W.chs with e | ⟨y, hy⟩
                · rw [e] at h2; cases h2
                · rw [hy] at h2
                  cases y with
                  | ins xs q => exact ⟨xs, q, hy, of_decide_eq_true h2⟩
                  | _ => cases h2
              have hlx : xs.length < 900 := hcx _ (List.mem_of_getLast? hy)
              have hpos : 0 < W.chs.length := List.length_pos_iff.mpr fun e => by rw [e] at hy; cases hy
              rw [show lastV W.chs = chV (.ins xs q) by unfold lastV; rw [hy], show insCh W.chs fr a = W.chs.set (W.chs.length - 1) (.ins (xs ++ fr) q) by unfold insCh; rw [hy]; exact if_pos hq]
              refine WS_cons (WX_setItem (WE_tuple (WL_cons (WE_str (WL_cons (WE_addL ?_) rfl)) rfl)) rfl)
              (((with_reducible refine WE_item ?_ ?hs81); (case hs81 => (intro _ _; rfl))); ((with_reducible refine' WE_name ?hx82 ?hd82 ?_); (case hx82 => walk_at "np at"); (case hd82 => first | exact neU rfl | assumption)); o_facts WE_int; ((with_reducible refine' ⟨_, item_tup ?b83 ?c83 ?d83, ?_⟩); (case b83 => decide); (case c83 => decide); (case d83 => rfl)); ((with_reducible refine' WE_name ?hx84 ?hd84 ?_); (case hx84 => walk_at "np at"); (case hd84 => first | exact neU rfl | assumption)))
              refine ⟨xs.map V.int, fr.map V.int, .lst, .lst, size_ok (by rw [List.length_map, List.length_map]; omega), ?_⟩
              (w_dflts WL_cons; o_facts WE_bin; ((with_reducible refine' WE_name ?hx85 ?hd85 ?_); (case hx85 => walk_at "np at"); (case hd85 => first | exact neU rfl | assumption)); row_room_at WE_len; w_dflts WL_cons; ((with_reducible refine' WE_name ?hx86 ?hd86 ?_); (case hx86 => walk_at "np at"); (case hd86 => first | exact neU rfl | assumption)); o_facts WL_nil; ((with_reducible refine' call_len ?a87 ?b87 ?_); (case a87 => walk_at "np lst"); (case b87 => walk_at "np ar")); (with_reducible refine .add ?_); o_facts WL_nil; ((with_reducible refine' And.intro ?a88 ?_); (case a88 => exact Nat.le_of_ble_eq_true rfl)); ((with_reducible refine WE_item ?_ ?hs89); (case hs89 => (intro _ _; rfl))); ((with_reducible refine' WE_name ?hx90 ?hd90 ?_); (case hx90 => walk_at "np at"); (case hd90 => first | exact neU rfl | assumption)); o_facts WE_str; ((with_reducible refine' ⟨_, item_dct ?a91 ?b91 ?c91, ?_⟩); (case a91 => walk_at "np hat"); (case b91 => walk_at "np at"); (case c91 => (dsimp only [List.map]; decide))); o_facts WE_neg)
              rw [show V.tup [.str "insert", .lst (xs.map V.int ++ fr.map V.int), .int (a + (fr.map V.int).length)] = chV (.ins (xs ++ fr) q) by
                show _ = V.tup [.str "insert", .lst ((xs ++ fr).map V.int), .int (q + ((xs ++ fr).length : Nat))]
                rw [List.map_append, List.length_map, List.length_append, show (a + fr.length : Int) = q + (xs.length + fr.length : Nat) by omega]]
              refine ⟨_, set_last (by walk_at "np mod") (by rw [List.length_map]; exact hpos), ?_⟩
              (o_facts WS_nil)
              rw [List.length_map, ← List.map_set]
              exact ⟨rfl, rfl⟩
            · rw [show insCh W.chs fr a = W.chs ++ [.ins fr a] by
                unfold insCh
                unfold insChAt at h2
                rcases two_lastC W.chs with e | ⟨y, hy⟩
                · rw [e]; rfl
                · rw [hy] at h2 ⊢
                  cases y with
                  | ins xs q => exact if_neg (of_decide_eq_false h2)
                  | _ => rfl]
              (o_facts WS_cons; row_more WX_expr)
              refine WE_methL PySem.F.slot_list_append rfl ?_ ⟨rfl, rfl⟩ rfl
              (((with_reducible refine WE_item ?_ ?hs92); (case hs92 => (intro _ _; rfl))); ((with_reducible refine' WE_name ?hx93 ?hd93 ?_); (case hx93 => walk_at "np at"); (case hd93 => first | exact neU rfl | assumption)); o_facts WE_str; ((with_reducible refine' ⟨_, item_dct ?a94 ?b94 ?c94, ?_⟩); (case a94 => walk_at "np hat"); (case b94 => walk_at "np at"); (case c94 => (dsimp only [List.map]; decide))))
              refine ⟨_, .ref (by walk_at "np hat"), ?_⟩
              (w_dflts WL_cons; o_facts WE_tuple; w_dflts WL_cons; o_facts WE_str; w_dflts WL_cons; ((with_reducible refine' WE_name ?hx95 ?hd95 ?_); (case hx95 => walk_at "np at"); (case hd95 => first | exact neU rfl | assumption)); w_dflts WL_cons; o_facts WE_bin; ((with_reducible refine' WE_name ?hx96 ?hd96 ?_); (case hx96 => walk_at "np at"); (case hd96 => first | exact neU rfl | assumption)); row_room_at WE_len; w_dflts WL_cons; ((with_reducible refine' WE_name ?hx97 ?hd97 ?_); (case hx97 => walk_at "np at"); (case hd97 => first | exact neU rfl | assumption)); o_facts WL_nil; ((with_reducible refine' call_len ?a98 ?b98 ?_); (case a98 => walk_at "np lst"); (case b98 => walk_at "np ar")); (with_reducible refine .add ?_); o_facts WL_nil; ((with_reducible refine' And.intro ?a99 ?_); (case a99 => exact Nat.le_of_ble_eq_true rfl)); o_facts WL_nil)
              rw [show V.tup [.str "insert", .lst (fr.map V.int), .int (a + (fr.map V.int).length)] = chV (.ins fr a) by rw [List.length_map]; rfl]
              refine call_append (by walk_at "np mod") (size_ok (by rw [List.length_map]; dsimp only; omega)) ?_
              (o_facts WS_nil)
              rw [show W.chs.map chV ++ [chV (.ins fr a)] = (W.chs ++ [Ch.ins fr a]).map chV by rw [List.map_append]; rfl]
              exact ⟨rfl, rfl⟩
          · (o_facts WS_cons; w_dflts WX_setSlice; ((with_reducible refine' WE_name ?hx100 ?hd100 ?_); (case hx100 => walk_at "np at"); (case hd100 => first | exact neU rfl | assumption)); ((with_reducible refine' WE_name ?hx101 ?hd101 ?_); (case hx101 => walk_at "np at"); (case hd101 => first | exact neU rfl | assumption)); ((with_reducible refine' WE_name ?hx102 ?hd102 ?_); (case hx102 => walk_at "np at"); (case hd102 => first | exact neU rfl | assumption)); ((with_reducible refine' WE_name ?hx103 ?hd103 ?_); (case hx103 => walk_at "np at"); (case hd103 => first | exact neU rfl | assumption)))
            refine ⟨_, _, _, _, _, _, rfl, rfl, rfl, rfl, (by walk_at "np mod"), size_ok (by rw [List.length_map, List.length_map]; dsimp only; omega), ?_⟩
            (o_facts WS_cons; w_dflts WX_setSlice; ((with_reducible refine' WE_name ?hx104 ?hd104 ?_); (case hx104 => walk_at "np at"); (case hd104 => first | exact neU rfl | assumption)); ((with_reducible refine' WE_name ?hx105 ?hd105 ?_); (case hx105 => walk_at "np at"); (case hd105 => first | exact neU rfl | assumption)); ((with_reducible refine' WE_name ?hx106 ?hd106 ?_); (case hx106 => walk_at "np at"); (case hd106 => first | exact neU rfl | assumption)); ((with_reducible refine' WE_name ?hx107 ?hd107 ?_); (case hx107 => walk_at "np at"); (case hd107 => first | exact neU rfl | assumption)))
            refine ⟨_, _, _, _, _, _, rfl, rfl, rfl, rfl, (by walk_at "np mod"), size_ok (by rw [List.length_map, List.length_map]; dsimp only; omega), ?_⟩
            (o_facts WS_nil; o_facts WS_nil)
            rw [cut_nat, cut_nat, Nat.max_self, Nat.max_self, ← List.map_take, ← List.map_drop, ← List.map_take, ← List.map_drop, ← List.map_append, ← List.map_append, ← List.map_append, ← List.map_append]
            rw [← hfl] at stp
            exact hP _ big4 n4 stp (by omega) (by omega) q16
  · obtain ⟨hw0, hm1⟩ : ¬ way = 0 ∧ 0 < m := by
      rw [Bool.or_eq_false_iff] at h
      have h1 := of_decide_eq_false h.1
      have h2 := of_decide_eq_false h.2
      exact ⟨h1, by omega⟩
    have hgl : ((W.text.drop a).take m).length = m := by rw [List.length_take, List.length_drop]; omega
    have hsl : slc (some (a : Int)) (some (a + m : Int)) (W.text.map V.int) = ((W.text.drop a).take m).map V.int := by
      rw [show (a + m : Int) = ((a + m : Nat) : Int) by omega, slc_ft, Nat.add_sub_cancel_left, ← List.map_drop, ← List.map_take]
    refine WS_cons (WX_if ?_)
    (w_dflts WT_cmp; ((with_reducible refine' WE_name ?hx108 ?hd108 ?_); (case hx108 => walk_at "np at"); (case hd108 => first | exact neU rfl | assumption)); o_facts WE_int)
    refine tst_int cmp_eq (fun h => ?_) (fun h => ?_)
    · (o_facts WS_cons)
      refine WX_unpackS (names := ["gone", "the_point"]) ?_ rfl (List.forall_mem_cons.mpr ⟨rfl, List.forall_mem_cons.mpr ⟨rfl, List.forall_mem_nil _⟩⟩) rfl rfl
      (o_facts WE_tuple; w_dflts WL_cons; o_facts WE_slice; ((with_reducible refine' WE_name ?hx109 ?hd109 ?_); (case hx109 => walk_at "np at"); (case hd109 => first | exact neU rfl | assumption)); ((with_reducible refine' WE_name ?hx110 ?hd110 ?_); (case hx110 => walk_at "np at"); (case hd110 => first | exact neU rfl | assumption)); o_facts WE_bin; ((with_reducible refine' WE_name ?hx111 ?hd111 ?_); (case hx111 => walk_at "np at"); (case hd111 => first | exact neU rfl | assumption)); ((with_reducible refine' WE_name ?hx112 ?hd112 ?_); (case hx112 => walk_at "np at"); (case hd112 => first | exact neU rfl | assumption)); (with_reducible refine .add ?_); ((with_reducible refine' ⟨_, _, _, ?a113, rfl, rfl, ?b113, ?_⟩); (case a113 => walk_at "np lst"); (case b113 => exact size_ok (by walk_at "np ar"))); w_dflts WL_cons; o_facts WE_bin; o_facts WE_bin; ((with_reducible refine' WE_name ?hx114 ?hd114 ?_); (case hx114 => walk_at "np at"); (case hd114 => first | exact neU rfl | assumption)); o_facts WE_int; (with_reducible refine .add ?_); o_facts WE_bin; ((with_reducible refine' WE_name ?hx115 ?hd115 ?_); (case hx115 => walk_at "np at"); (case hd115 => first | exact neU rfl | assumption)); ((with_reducible refine' WE_own ?o116 ?_ ?a116 ?b116 ?c116 ?d116); (case o116 => with_reducible exact o_law_draw _); (case a116 => rfl); (case b116 => decide); (case c116 => first | exact ⟨rfl, rfl⟩ | exact trivial); (case d116 => rfl)); w_dflts WL_cons; ((with_reducible refine' WE_name ?hx117 ?hd117 ?_); (case hx117 => walk_at "np at"); (case hd117 => first | exact neU rfl | assumption)); w_dflts WL_cons; o_facts WE_int; o_facts WL_nil)
      rw [hsl]
      refine draw_w rfl (room.le (by decide)) hc hcl q12 (by omega) (by omega) (by decide) (by decide) fun v n4 big4 q13 q14 q15 q16 => ?_
      refine BinK.mul (IntMulOk.of_left (intBits_le_64 (by omega) (by omega))) ?_
      ((with_reducible refine .add ?_); o_facts WL_nil; ((with_reducible refine' And.intro ?a118 ?_); (case a118 => exact Nat.le_of_ble_eq_true rfl)))
      have stp := Step.del (W := W) m a (decide (a + 1 + m * v = (a + 1 + ((W.text.drop a).take m).length : Int))) hm1 (by omega) (by omega)
      refine ⟨_, _, .tup, rfl, .cons (by walk_at "np set") (.cons (by walk_at "np set") .nil), ?_⟩
      revert stp hgl
      generalize (W.text.drop a).take m = gone
      intro hgl stp
      generalize (a + 1 + m * v : Int) = pt at stp ⊢
      subst hgl
      (o_facts WS_cons; row_more WX_expr)
      ((refine WE_methK ?_ (by first | exact trivial | exact ⟨rfl, rfl⟩) rfl); ((with_reducible refine' WE_name ?hx119 ?hd119 ?_); (case hx119 => walk_at "np at"); (case hd119 => first | exact neU rfl | assumption)); ((with_reducible refine' mth_of ?a120 ?b120 ?c120 ?d120 ?_); (case a120 => walk_at "np hat"); (case b120 => walk_at "np hat"); (case d120 => with_reducible exact mk_note_delete _); (case c120 => rfl)); w_dflts WL_cons; o_facts WE_bin; ((with_reducible refine' WE_name ?hx121 ?hd121 ?_); (case hx121 => walk_at "np at"); (case hd121 => first | exact neU rfl | assumption)); o_facts WE_int; (with_reducible refine .add ?_); w_dflts WL_cons; ((with_reducible refine' WE_own ?o122 ?_ ?a122 ?b122 ?c122 ?d122); (case o122 => with_reducible exact o_plain_piece _); (case a122 => rfl); (case b122 => decide); (case c122 => first | exact ⟨rfl, rfl⟩ | exact trivial); (case d122 => rfl)); w_dflts WL_cons; ((with_reducible refine' WE_name ?hx123 ?hd123 ?_); (case hx123 => walk_at "np at"); (case hd123 => first | exact neU rfl | assumption)); o_facts WL_nil)
      refine piece_ok rfl (room.le (by decide)) .lst nofun (by rw [List.length_map]; omega +splitDisjunctions) ?_
      (w_dflts WL_cons; ((with_reducible refine' WE_name ?hx124 ?hd124 ?_); (case hx124 => walk_at "np at"); (case hd124 => first | exact neU rfl | assumption)); w_dflts WL_cons)
      refine WE_listF ?_
      (o_facts WL_nil; ((with_reducible refine' And.intro ?a125 ?_); (case a125 => exact Nat.le_of_ble_eq_true rfl)); w_dflts WL_cons; o_facts WE_bool; w_dflts WL_cons; o_facts WE_int; o_facts WL_nil)
      refine ndel_w rfl (room.le (by decide)) (by rw [List.length_map]; omega +splitDisjunctions) (List.length_pos_iff.mp hm1) (by omega +splitDisjunctions) rfl ?_
      (o_facts WS_cons; row_more WX_expr)
      refine WE_methL PySem.F.slot_list_append rfl ?_ ⟨rfl, rfl⟩ rfl
      (((with_reducible refine WE_item ?_ ?hs126); (case hs126 => (intro _ _; rfl))); ((with_reducible refine' WE_name ?hx127 ?hd127 ?_); (case hx127 => walk_at "np at"); (case hd127 => first | exact neU rfl | assumption)); o_facts WE_str; ((with_reducible refine' ⟨_, item_dct ?a128 ?b128 ?c128, ?_⟩); (case a128 => walk_at "np hat"); (case b128 => walk_at "np at"); (case c128 => (dsimp only [List.map]; decide))))
      refine ⟨_, .ref (by walk_at "np hat"), ?_⟩
      (w_dflts WL_cons; o_facts WE_tuple; w_dflts WL_cons; o_facts WE_str; w_dflts WL_cons; ((with_reducible refine' WE_name ?hx129 ?hd129 ?_); (case hx129 => walk_at "np at"); (case hd129 => first | exact neU rfl | assumption)); w_dflts WL_cons; w_dflts WE_cmp; ((with_reducible refine' WE_name ?hx130 ?hd130 ?_); (case hx130 => walk_at "np at"); (case hd130 => first | exact neU rfl | assumption)); o_facts WE_bin; o_facts WE_bin; ((with_reducible refine' WE_name ?hx131 ?hd131 ?_); (case hx131 => walk_at "np at"); (case hd131 => first | exact neU rfl | assumption)); o_facts WE_int; (with_reducible refine .add ?_); ((with_reducible refine' WE_name ?hx132 ?hd132 ?_); (case hx132 => walk_at "np at"); (case hd132 => first | exact neU rfl | assumption)); (with_reducible refine .add ?_))
      refine ⟨_, cmp_eq, ?_⟩
      (o_facts WL_nil; ((with_reducible refine' And.intro ?a133 ?_); (case a133 => exact Nat.le_of_ble_eq_true rfl)); o_facts WL_nil)
      refine call_append (by walk_at "np mod") (size_ok (by rw [List.length_map]; omega +splitDisjunctions)) ?_
      (o_facts WS_cons; w_dflts WX_setSlice)
      refine WE_listF ?_
      (o_facts WL_nil; ((with_reducible refine' And.intro ?a134 ?_); (case a134 => exact Nat.le_of_ble_eq_true rfl)); ((with_reducible refine' WE_name ?hx135 ?hd135 ?_); (case hx135 => walk_at "np at"); (case hd135 => first | exact neU rfl | assumption)); ((with_reducible refine' WE_name ?hx136 ?hd136 ?_); (case hx136 => walk_at "np at"); (case hd136 => first | exact neU rfl | assumption)); o_facts WE_bin; ((with_reducible refine' WE_name ?hx137 ?hd137 ?_); (case hx137 => walk_at "np at"); (case hd137 => first | exact neU rfl | assumption)); ((with_reducible refine' WE_name ?hx138 ?hd138 ?_); (case hx138 => walk_at "np at"); (case hd138 => first | exact neU rfl | assumption)); (with_reducible refine .add ?_))
      refine ⟨_, _, _, _, _, _, rfl, rfl, rfl, rfl, (by walk_at "np mod"), size_ok (by rw [List.length_map, List.length_nil]; omega +splitDisjunctions), ?_⟩
      (o_facts WS_nil; o_facts WS_nil; o_facts WS_nil)
      rw [show (a + gone.length : Int) = ((a + gone.length : Nat) : Int) by omega +splitDisjunctions, cut_nat, List.append_nil, Nat.max_eq_right (Nat.le_add_right _ _), ← List.map_take, ← List.map_drop, ← List.map_append]
      rw [show W.chs.map chV ++ [V.tup [.str "delete", .lst (gone.map V.int), .bool (decide (pt = (a + 1 + gone.length : Int)))]] = (W.chs ++ [Ch.del gone a (decide (pt = (a + 1 + gone.length : Int)))]).map chV by rw [List.map_append]; rfl,
        show W.chs.map rwOf ++ [Rw.del a gone (decide (pt = (a + 1 + gone.length : Int)))] = (W.chs ++ [Ch.del gone a (decide (pt = (a + 1 + gone.length : Int)))]).map rwOf by rw [List.map_append]; rfl]
      exact hP _ big4 n4 stp (by omega +splitDisjunctions) (by omega +splitDisjunctions) q16
    · (o_facts WS_cons; row_more WX_expr)
      ((refine WE_methK ?_ (by first | exact trivial | exact ⟨rfl, rfl⟩) rfl); ((with_reducible refine' WE_name ?hx139 ?hd139 ?_); (case hx139 => walk_at "np at"); (case hd139 => first | exact neU rfl | assumption)); ((with_reducible refine' mth_of ?a140 ?b140 ?c140 ?d140 ?_); (case a140 => walk_at "np hat"); (case b140 => walk_at "np hat"); (case d140 => with_reducible exact mk_note_property _); (case c140 => rfl)); w_dflts WL_cons; o_facts WE_bin; ((with_reducible refine' WE_name ?hx141 ?hd141 ?_); (case hx141 => walk_at "np at"); (case hd141 => first | exact neU rfl | assumption)); o_facts WE_int; (with_reducible refine .add ?_); w_dflts WL_cons; o_facts WE_bin; o_facts WE_bin; ((with_reducible refine' WE_name ?hx142 ?hd142 ?_); (case hx142 => walk_at "np at"); (case hd142 => first | exact neU rfl | assumption)); o_facts WE_int; (with_reducible refine .add ?_); ((with_reducible refine' WE_name ?hx143 ?hd143 ?_); (case hx143 => walk_at "np at"); (case hd143 => first | exact neU rfl | assumption)); (with_reducible refine .add ?_); w_dflts WL_cons; o_facts WE_int; w_dflts WL_cons; o_facts WE_tuple; w_dflts WL_cons; ((with_reducible refine' WE_name ?hx144 ?hd144 ?_); (case hx144 => walk_at "np at"); (case hd144 => first | exact neU rfl | assumption)); o_facts WL_nil; ((with_reducible refine' And.intro ?a145 ?_); (case a145 => exact Nat.le_of_ble_eq_true rfl)); w_dflts WL_cons; o_facts WE_bool; w_dflts WL_cons; o_facts WE_int; o_facts WL_nil)
      refine nprop_w rfl (room.le (by decide)) (by rw [List.length_map]; omega) hm1 ?_
      (o_facts WS_cons; row_more WX_expr)
      refine WE_methL PySem.F.slot_list_append rfl ?_ ⟨rfl, rfl⟩ rfl
      (((with_reducible refine WE_item ?_ ?hs146); (case hs146 => (intro _ _; rfl))); ((with_reducible refine' WE_name ?hx147 ?hd147 ?_); (case hx147 => walk_at "np at"); (case hd147 => first | exact neU rfl | assumption)); o_facts WE_str; ((with_reducible refine' ⟨_, item_dct ?a148 ?b148 ?c148, ?_⟩); (case a148 => walk_at "np hat"); (case b148 => walk_at "np at"); (case c148 => (dsimp only [List.map]; decide))))
      refine ⟨_, .ref (by walk_at "np hat"), ?_⟩
      (w_dflts WL_cons; o_facts WE_tuple; w_dflts WL_cons; o_facts WE_str; w_dflts WL_cons; o_facts WE_slice; ((with_reducible refine' WE_name ?hx149 ?hd149 ?_); (case hx149 => walk_at "np at"); (case hd149 => first | exact neU rfl | assumption)); ((with_reducible refine' WE_name ?hx150 ?hd150 ?_); (case hx150 => walk_at "np at"); (case hd150 => first | exact neU rfl | assumption)); o_facts WE_bin; ((with_reducible refine' WE_name ?hx151 ?hd151 ?_); (case hx151 => walk_at "np at"); (case hd151 => first | exact neU rfl | assumption)); ((with_reducible refine' WE_name ?hx152 ?hd152 ?_); (case hx152 => walk_at "np at"); (case hd152 => first | exact neU rfl | assumption)); (with_reducible refine .add ?_); ((with_reducible refine' ⟨_, _, _, ?a153, rfl, rfl, ?b153, ?_⟩); (case a153 => walk_at "np lst"); (case b153 => exact size_ok (by walk_at "np ar"))); w_dflts WL_cons; o_facts WE_tuple; w_dflts WL_cons; ((with_reducible refine' WE_name ?hx154 ?hd154 ?_); (case hx154 => walk_at "np at"); (case hd154 => first | exact neU rfl | assumption)); o_facts WL_nil; ((with_reducible refine' And.intro ?a155 ?_); (case a155 => exact Nat.le_of_ble_eq_true rfl)); o_facts WL_nil; ((with_reducible refine' And.intro ?a156 ?_); (case a156 => exact Nat.le_of_ble_eq_true rfl)); o_facts WL_nil)
      rw [hsl]
      have stp := Step.prop (W := W) m a hm1 (by omega) (by omega)
      skip
      refine call_append (by walk_at "np mod") (size_ok (by rw [List.length_map]; omega)) ?_
      (o_facts WS_nil; o_facts WS_nil; o_facts WS_nil)
      revert hgl stp
      generalize (W.text.drop a).take m = gone
      intro hgl stp
      subst hgl
      rw [show W.chs.map chV ++ [V.tup [.str "property", .lst (gone.map V.int), .tup [.int a]]] = (W.chs ++ [Ch.prop gone a]).map chV by rw [List.map_append]; rfl,
        show W.chs.map rwOf ++ [Rw.prop a gone.length a] = (W.chs ++ [Ch.prop gone a]).map rwOf by rw [List.map_append]; rfl]
      exact hP _ big3 n3 stp (by omega +splitDisjunctions) (by omega +splitDisjunctions) q12
noncomputable def isFin : Ch → Bool
  | .fin => true
  | _ => false
noncomputable def pushO : List (List Rw) → Option Rw → List (List Rw)
  | g :: r, some x => (g ++ [x]) :: r
  | gn, _ => gn
theorem pushO_none : ∀ gn : List (List Rw), pushO gn none = gn
  | [] => rfl
  | _ :: _ => rfl
noncomputable abbrev LS := List Int × Int × List (List Rw)
noncomputable def lawS (order : List Int) (r0 : Int) (S : LS) (x : Ch) : LS := if isFin x = true then (S.1, S.2.1, [] :: S.2.2) else ((lawU S.1 order r0 S.2.1 x).1, (lawU S.1 order r0 S.2.1 x).2.1, pushO S.2.2 (lawU S.1 order r0 S.2.1 x).2.2)
/-- the groups that the law finds, the groups that the code finds -/
noncomputable def dueOf (W : Wd1) (st en : Int) : List (List Rw) := (((W.chs.reverse.foldl (lawS W.order st) (W.text, en, [[]])).2.2.reverse.filter fun g => !g.isEmpty).map List.reverse).reverse
noncomputable def foundOf (W : Wd1) (st en : Int) : List Rw := ((W.chs.map rwOf).reverse.foldl (stepR st) ([((true, true), W.text.length)], en, [])).2.2.reverse
structure PureOk (C : Nat → Wd1 → Prop) : Prop where
  init : ∀ m : Nat, 2 ≤ m → m ≤ 7 → C 0 ⟨(List.range m).map (fun i : Nat => (i : Int)), (List.range m).map (fun i : Nat => (i : Int)), m, []⟩
  step : ∀ k W W', C k W → Step W W' → C (k + 1) W'
  fin : ∀ k W, C k W → C (k + 1) ⟨W.text, W.order, W.next, W.chs ++ [.fin]⟩
  bds : ∀ k W, k ≤ 16 → C k W → W.text.length ≤ 60 ∧ W.order.length ≤ 60 ∧ W.chs.length ≤ 16 ∧ (∀ y ∈ W.text, y ∈ W.order) ∧ ∀ x ∈ W.chs, (chXs x).length ≤ 50 ∧ (isFin x = false → chXs x ≠ [] ∧ (∀ y ∈ chXs x, y ∈ W.order) ∧ (chXs x).Nodup)
  eq : ∀ k W (st en : Int), k ≤ 16 → C k W → 1 ≤ st → st ≤ en → en ≤ W.text.length + 1 → (((foundOf W st en).foldl stepG [[]]).reverse.filter fun g => !g.isEmpty) = dueOf W st en
theorem step_last {W W' : Wd1} (h : Step W W') : atB (W'.chs.map rwOf) = false := by
  have key : ∀ (l : List Ch) (x : Ch), isBnd (rwOf x) = false → atB ((l ++ [x]).map rwOf) = false := fun l x h => by
    unfold atB
    rw [List.map_append, List.map_singleton, List.getLast?_concat]
    show (!(!isBnd (rwOf x))) = false
    rw [h]; rfl
  cases h with
  | del m a b h1 h2 h3 => exact key _ _ rfl
  | prop m a h1 h2 h3 => exact key _ _ rfl
  | ins k a h1 h2 h3 =>
    show atB ((insCh _ _ _).map rwOf) = false
    unfold insCh
    split
    · rename_i xs q hq
      split
      · rcases List.eq_nil_or_concat W.chs with e | ⟨l, y, e⟩
        · rw [e] at hq; cases hq
        · rw [e, List.concat_eq_append, List.length_append, List.length_singleton, Nat.add_sub_cancel, List.set_append_right _ _ (Nat.le_refl _), Nat.sub_self]
          exact key l _ rfl
      · exact key _ _ rfl
    · exact key _ _ rfl
/-- the frame's loop that builds -/
noncomputable def BldI (C : Nat → Wd1 → Prop) (l0 : V → Loc) (w : World) (I : Ids) (cells : List Int) (H : Hp) (N : Nat) (xs : List Nat) (loc : Loc) (hp : Hp) : Prop := ∃ (X : V) (W : Wd1) (k : Nat) (big : List Int) (n : Int), loc = l0 X ∧ hp = wld w I W cells big n H ∧ C k W ∧ k + 2 * xs.length ≤ 2 * N ∧ 0 ≤ n ∧ n + 20 * xs.length ≤ 500 ∧ big.length < 100
theorem rwch_tup (x : Ch) : ∃ y r, chV x = .tup (.str y :: r) ∧ ((y = "end" ∧ r = []) ↔ isFin x = true) := by
  cases x with
  | ins xs p => exact ⟨_, _, rfl, ⟨fun h => absurd h.1 (by decide), fun h => by cases h⟩⟩
  | del xs p b => exact ⟨_, _, rfl, ⟨fun h => absurd h.1 (by decide), fun h => by cases h⟩⟩
  | prop xs p => exact ⟨_, _, rfl, ⟨fun h => absurd h.1 (by decide), fun h => by cases h⟩⟩
  | fin => exact ⟨_, _, rfl, ⟨fun _ => rfl, fun _ => ⟨rfl, rfl⟩⟩⟩
theorem cmp_fin {c : Ctx} {hp : Hp} {x : Ch} : CmpOk c hp .Eq (chV x) (.tup [.str "end"]) (isFin x) := by
  obtain ⟨y, r, e, h⟩ := rwch_tup x
  rw [show isFin x = decide (y = "end" ∧ r = []) by
    cases q : isFin x
    · exact (decide_eq_false fun k => by rw [h.mp k] at q; cases q).symm
    · exact (decide_eq_true (h.mpr q)).symm, e]
  exact cmp_eqTup1
theorem dueV_tup (x : Rw) : ∃ r, dueV x = .tup r := by cases x <;> exact ⟨_, rfl⟩
theorem cmp_due {c : Ctx} {hp : Hp} {o : Option Rw} : CmpOk c hp .IsNot (dueO o) .none o.isSome := by
  cases o with
  | none => exact cmp_isNot_none
  | some x => obtain ⟨r, e⟩ := dueV_tup x; unfold dueO; simp only [e]; exact cmp_isNot_tup
theorem lund_g {c : Ctx} {loc : Loc} {base : Hp} {G : List (Nat × List Rw)} {z : Nat × List Rw} {du rg th o : Nat} {L : List V} {there order : List Int} {r0 r1 : Int} {x : Ch} {P : Hp → V → Prop} (hcm : c.fi.cm = none) (room : c.Room 1) (ho : HpAt base o (.list (order.map V.int)))
  (hx0 : chXs x ≠ []) (hxo : ∀ y ∈ chXs x, y ∈ order) (hxl : (chXs x).length < 1000) (hxn : (chXs x).Nodup) (hl : order.length < 1000) (hl2 : there.length < 1000)
  (hP : P (G.map cellG ++ (du, .list L) :: cellG z :: (rg, .list [.int r0, .int (lawU there order r0 r1 x).2.1]) :: (th, .list ((lawU there order r0 r1 x).1.map V.int)) :: base) (dueO (lawU there order r0 r1 x).2.2)) :
  CallOk c loc (G.map cellG ++ (du, .list L) :: cellG z :: (rg, .list [.int r0, .int r1]) :: (th, .list (there.map V.int)) :: base) (.ref 241) [chV x, .ref th, .ref o, .ref rg] P := by
  have e : ∀ X : Hp, G.map cellG ++ (du, .list L) :: cellG z :: X = (G.map cellG ++ [(du, .list L), cellG z]) ++ X := fun X => by rw [List.append_assoc]; rfl
  rw [e] at hP ⊢
  exact lund_ok hcm room ho hx0 hxo hxl hxn hl hl2 hP
noncomputable def UndI (l0 : V → V → Loc) (order : List Int) (st : Int) (du rg th : Nat) (base : Hp) (fin : LS) (xs : List Ch) (loc : Loc) (hp : Hp) : Prop := ∃ (X Y : V) (G : List (Nat × List Rw)) (z : Nat × List Rw) (S : LS), loc = l0 X Y ∧
  hp = G.map cellG ++ (du, .list ((G ++ [z]).reverse.map fun x => V.ref x.1)) :: cellG z :: (rg, .list [.int st, .int S.2.1]) :: (th, .list (S.1.map V.int)) :: base ∧ S.2.2 = (G ++ [z]).map (·.2) ∧ xs.foldl (lawS order st) S = fin ∧ S.1.length + 50 * xs.length ≤ 900 ∧ G.length + xs.length ≤ 100 ∧ (∀ x ∈ G ++ [z], x.2.length + xs.length ≤ 100) ∧
  ∀ x ∈ xs, (chXs x).length ≤ 50 ∧ (isFin x = false → chXs x ≠ [] ∧ (∀ y ∈ chXs x, y ∈ order) ∧ (chXs x).Nodup)
theorem foldl_erase_len : ∀ (xs l : List Int), (xs.foldl List.erase l).length ≤ l.length
  | [], _ => Nat.le_refl _
  | x :: xs, l => Nat.le_trans (foldl_erase_len xs (l.erase x)) (List.length_erase_le)
theorem lawU_len {there order : List Int} {r0 r1 : Int} {x : Ch} : (lawU there order r0 r1 x).1.length ≤ there.length + (chXs x).length := by
  cases x with
  | ins xs p =>
    show (if lawIn there order r0 r1 xs = true then _ else _ : List Int × Int × Option Rw).1.length ≤ _
    split
    · exact Nat.le_trans (foldl_erase_len xs there) (Nat.le_add_right _ _)
    · exact Nat.le_add_right _ _
  | del xs p b =>
    show (lawDel there r0 r1 _ xs b).1.length ≤ _
    unfold lawDel
    split
    · show (there ++ xs).length ≤ _; rw [List.length_append]; exact Nat.le_refl _
    · exact Nat.le_add_right _ _
  | prop xs p => exact Nat.le_add_right _ _
  | fin => exact Nat.le_add_right _ _
/-! the groups as plain data -/
noncomputable def dueD : Rw → PyData
  | .ins q m => .tuple [.str "insert", .int (q + 1), .int (q + 1 + m)]
  | .del q xs b => .tuple [.str "delete", .int (q + 1), .list (xs.map PyData.int), .bool b]
  | .prop q m p => .tuple [.str "property", .int (q + 1), .int (q + 1 + m), .int 7, .tuple [.int p]]
  | .bnd => .tuple [.str "boundary"]
theorem dueD_den {hp : Hp} (x : Rw) : Den hp (dueV x) (dueD x) := by
  cases x with
  | ins q m => exact .tup (.cons (.str _) (.cons (.int _) (.cons (.int _) .nil)))
  | del q xs b => exact .tup (.cons (.str _) (.cons (.int _) (.cons (.lst denL_ints) (.cons (.bool _) .nil))))
  | prop q m p => exact .tup (.cons (.str _) (.cons (.int _) (.cons (.int _) (.cons (.int _) (.cons (.tup (.cons (.int _) .nil)) .nil)))))
  | bnd => exact .tup (.cons (.str _) .nil)
theorem denL_map {α : Type} {hp : Hp} {f : α → V} {g : α → PyData} : ∀ {l : List α}, (∀ x ∈ l, Den hp (f x) (g x)) → DenL hp (l.map f) (l.map g)
  | [], _ => .nil
  | x :: _, h => .cons (h x (.head _)) (denL_map fun y hy => h y (.tail _ hy))
theorem lay_all {α : Type} {k : Nat} {g : α → PyData} {l : List α} (h : ∀ x, (g x).canLay0 = true ∧ (g x).depth ≤ k) : ∀ d ∈ l.map g, d.canLay0 = true ∧ d.depth ≤ k := fun d hd => by
  obtain ⟨x, _, rfl⟩ := List.mem_map.mp hd
  exact h x
theorem lay_up {d : PyData} {k k' : Nat} (h : d.canLay0 = true ∧ d.depth ≤ k) (l : k ≤ k') : d.canLay0 = true ∧ d.depth ≤ k' := ⟨h.1, Nat.le_trans h.2 l⟩
theorem dueD_lay (x : Rw) : (dueD x).canLay0 = true ∧ (dueD x).depth ≤ 3 := by
  have s : ∀ {y : Str}, PyData.strOk y = true → (PyData.str y).canLay0 = true ∧ (PyData.str y).depth ≤ 2 := fun h => lay_up (lay_str h) (by decide)
  have i : ∀ n : Int, (PyData.int n).canLay0 = true ∧ (PyData.int n).depth ≤ 2 := fun n => lay_up (lay_int n) (by decide)
  cases x with
  | ins q m => exact lay_tup (List.forall_mem_cons.mpr ⟨s (by decide +kernel), List.forall_mem_cons.mpr ⟨i _, List.forall_mem_cons.mpr ⟨i _, List.forall_mem_nil _⟩⟩⟩)
  | del q xs b => exact lay_tup (List.forall_mem_cons.mpr ⟨s (by decide +kernel), List.forall_mem_cons.mpr ⟨i _, List.forall_mem_cons.mpr ⟨lay_up (lay_list (lay_all lay_int)) (by decide), List.forall_mem_cons.mpr ⟨lay_up (lay_bool b) (by decide), List.forall_mem_nil _⟩⟩⟩⟩)
  | prop q m p => exact lay_tup (List.forall_mem_cons.mpr ⟨s (by decide +kernel), List.forall_mem_cons.mpr ⟨i _, List.forall_mem_cons.mpr ⟨i _, List.forall_mem_cons.mpr ⟨i _, List.forall_mem_cons.mpr ⟨lay_up (lay_tup (List.forall_mem_cons.mpr ⟨lay_int p, List.forall_mem_nil _⟩)) (by decide), List.forall_mem_nil _⟩⟩⟩⟩⟩)
  | bnd => exact lay_tup (List.forall_mem_cons.mpr ⟨s (by decide +kernel), List.forall_mem_nil _⟩)
noncomputable def grpD (gs : List (List Rw)) : PyData := .list (gs.map fun g => .list (g.map dueD))
theorem grpD_lay (gs : List (List Rw)) : (grpD gs).canLay0 = true ∧ (grpD gs).depth ≤ 5 := lay_list (lay_all fun g => lay_list (lay_all dueD_lay))
theorem cmp_grp {c : Ctx} {hp : Hp} {rs : List (Nat × List Rw)} {gs : List (List Rw)} (e : rs.map (·.2) = gs) (h : ∀ x ∈ rs, HpAt hp x.1 (.list (x.2.map dueV))) : CmpOk c hp .Eq (.lst (rs.map fun x => .ref x.1)) (.lst (gs.map fun g => .lst (g.map dueV))) true := by
  subst e
  have d1 : Den hp (.lst (rs.map fun x => .ref x.1)) (grpD (rs.map (·.2))) := by
    unfold grpD
    rw [List.map_map]
    exact .lst (denL_map fun x hx => .ref (h x hx) (denL_map fun y _ => dueD_den y))
  have d2 : Den hp (.lst ((rs.map (·.2)).map fun g => .lst (g.map dueV))) (grpD (rs.map (·.2))) := .lst (denL_map fun g _ => .lst (denL_map fun y _ => dueD_den y))
  have := cmp_eqD (c := c) d1 d2 (shaped_of (grpD_lay _) (by decide)) (shaped_of (grpD_lay _) (by decide))
  rw [SeqAt.eqv_refl _ (grpD_lay _).1] at this
  exact this
theorem due_eq {N : List (Nat × List Rw)} : ((N.filter fun x => !x.2.isEmpty).map fun x => V.lst (x.2.map dueV).reverse).reverse = ((((N.map (·.2)).filter fun g => !g.isEmpty).map List.reverse).reverse).map fun g => V.lst (g.map dueV) := by
  rw [List.filter_map, List.map_map, ← List.map_reverse, ← List.map_reverse, List.map_map]
  refine List.map_congr_left fun x _ => ?_
  show V.lst (x.2.map dueV).reverse = V.lst (x.2.reverse.map dueV)
  rw [List.map_reverse]
theorem undo_del {l : List Sr} {st en : Int} {x y : Rw} (hx : delOk x) (h : (undo l st en x).2.2 = some y) : delOk y := by
  cases x with
  | ins q m =>
    change (insR _ st en m).2.2 = some y at h
    unfold insR at h
    split at h
    · cases h; trivial
    · cases h
  | del q xs b =>
    change (delR _ st en xs b).2.2 = some y at h
    unfold delR at h
    split at h
    · cases h; exact hx
    · cases h
  | prop q m p =>
    change (propR _ st en m p).2.2 = some y at h
    unfold propR at h
    split at h
    · cases h; trivial
    · cases h
  | bnd => cases h
theorem run_facts {st : Int} : ∀ (xs : List Rw) (S : RS), (∀ x ∈ xs, delOk x) → (∀ x ∈ S.2.2, delOk x) → (xs.foldl (stepR st) S).2.2.length ≤ S.2.2.length + xs.length ∧ ∀ x ∈ (xs.foldl (stepR st) S).2.2, delOk x
  | [], S, _, h => ⟨Nat.le_refl _, h⟩
  | x :: xs, S, h1, h2 => by
    have key : (stepR st S x).2.2.length ≤ S.2.2.length + 1 ∧ ∀ y ∈ (stepR st S x).2.2, delOk y := by
      unfold stepR
      split
      · dsimp only
        split
        · exact ⟨by rw [List.length_append]; exact Nat.le_refl _, fun y hy => (List.mem_append.mp hy).elim (h2 y) fun q => by rw [List.mem_singleton.mp q]; trivial⟩
        · exact ⟨Nat.le_succ _, h2⟩
      · dsimp only
        cases q : (undo S.1 st S.2.1 x).2.2 with
        | none => rw [Option.toList_none, List.append_nil]; exact ⟨Nat.le_succ _, h2⟩
        | some z => rw [Option.toList_some]; exact ⟨by rw [List.length_append]; exact Nat.le_refl _, fun y hy => (List.mem_append.mp hy).elim (h2 y) fun u => by rw [List.mem_singleton.mp u]; exact undo_del (h1 x (.head _)) q⟩
    obtain ⟨a, b⟩ := run_facts xs (stepR st S x) (fun y hy => h1 y (.tail _ hy)) key.2
    exact ⟨by rw [List.foldl_cons, List.length_cons]; omega, b⟩
noncomputable def fdAt (w : World) (f : Nat) : Option FuncData := match (KK w).lookup f with
  | some ⟨_, _, .func fd, _⟩ => some fd
  | _ => none
noncomputable def scopeAt (w : World) (f : Nat) : Scope := match fdAt w f with
  | some fd => fd.scope
  | none => default
noncomputable def bodyAt (w : World) (f : Nat) : List Stmt := match fdAt w f with
  | some fd => (match fd.body with | .stmts b => b | _ => [])
  | none => []
theorem at_fn {P : Scope → List Stmt → Prop} {w : World} {f : Nat} {name qual : Str} {params : Arguments} {body : List Stmt} {scope : Scope} {dV kV doc pm cdv ct oc : Value} {an od : Option Addr} {osl : Array (Option Value)}
    (ho : (KK w).lookup f = some ⟨oc, od, .func (fnOf name qual params body scope dV kV doc pm an cdv ct), osl⟩) (h : P scope body) : P (scopeAt w f) (bodyAt w f) := by
  unfold scopeAt bodyAt fdAt
  rw [ho]
  exact h
theorem law_ws {C : Nat → Wd1 → Prop} (PO : PureOk C) {r : CtxR} {ns : List Int} (hl : ns.length < 1000) (room : (⟨⟨"law", scopeAt r.w 251, none⟩, r⟩ : Ctx).Room 10) :
    WS ⟨⟨"law", scopeAt r.w 251, none⟩, r⟩ [("script", .lst (ns.map V.int)), ("deck", .undef), ("history", .undef), ("many", .undef), ("state", .undef), ("the_turn", .undef), ("size", .undef), ("start", .undef), ("end", .undef), ("there", .undef), ("region", .undef), ("due", .undef), ("change", .undef), ("row", .undef), ("kept", .undef), ("found", .undef)] [] (bodyAt r.w 251)
      (fun _ _ => False) (fun _ X => X = .bool true) := by
  revert room
  refine at_fn (P := fun sc b => (⟨⟨"law", sc, none⟩, r⟩ : Ctx).Room 10 → WS ⟨⟨"law", sc, none⟩, r⟩ _ [] b (fun _ _ => False) (fun _ X => X = .bool true)) (by exact rfl) fun room => ?_
  (o_facts WS_cons)
  refine WX_unpackS (names := ["deck", "history"]) ?_ rfl (List.forall_mem_cons.mpr ⟨rfl, List.forall_mem_cons.mpr ⟨rfl, List.forall_mem_nil _⟩⟩) rfl rfl
  (o_facts WE_tuple; w_dflts WL_cons; ((with_reducible refine' WE_own ?o1 ?_ ?a1 ?b1 ?c1 ?d1); (case o1 => with_reducible exact o_law_deck _); (case a1 => rfl); (case b1 => decide); (case c1 => first | exact ⟨rfl, rfl⟩ | exact trivial); (case d1 => rfl)); w_dflts WL_cons; ((with_reducible refine' WE_name ?hx2 ?hd2 ?_); (case hx2 => walk_at "np at"); (case hd2 => first | exact neU rfl | assumption)); o_facts WL_nil)
  refine deck_ok rfl (room.le (by decide)) hl fun D D0 cells big hc hcl hb => ?_
  (w_dflts WL_cons; ((with_reducible refine' WE_own ?o3 ?_ ?a3 ?b3 ?c3 ?d3); (case o3 => with_reducible exact o_UndoList _); (case a3 => rfl); (case b3 => decide); (case c3 => first | exact ⟨rfl, rfl⟩ | exact trivial); (case d3 => rfl)); o_facts WL_nil)
  refine makeF (f := 36) (k := 1) (names := ["self"]) (rest := []) (fun X => [("self", X)]) rfl (room.le (by decide)) (by kernel_rfl) (by kernel_rfl) (by kernel_rfl) (by exact rfl) (by kernel_rfl) (fun ws h => by obtain ⟨a, rfl⟩ := ws1 h; rfl) (by decide) (by decide) (by decide) (by decide) rfl (fun _ => rfl) fun r2 h hd hw2 room2 => ?_
  (o_facts WS_cons; w_dflts WX_setattr)
  refine WE_listM ?_
  (o_facts WL_nil; ((with_reducible refine' And.intro ?a4 ?_); (case a4 => exact Nat.le_of_ble_eq_true rfl)))
  intro R
  (((with_reducible refine' WE_name ?hx5 ?hd5 ?_); (case hx5 => walk_at "np at"); (case hd5 => first | exact neU rfl | assumption)); ((with_reducible refine' sat_new ?a6 ?b6 ?c6 ?d6 ?e6 ?f6 ?_); (case a6 => walk_at "np hat"); (case b6 => walk_at "np mod"); (case e6 => walk_at "np snoc"); (case c6 => with_reducible exact sk_rows _); (case d6 => rfl); (case f6 => rfl)); o_facts WS_cons; w_dflts WX_setattr; o_facts WE_int; ((with_reducible refine' WE_name ?hx7 ?hd7 ?_); (case hx7 => walk_at "np at"); (case hd7 => first | exact neU rfl | assumption)); ((with_reducible refine' sat_new ?a8 ?b8 ?c8 ?d8 ?e8 ?f8 ?_); (case a8 => walk_at "np hat"); (case b8 => walk_at "np mod"); (case e8 => walk_at "np snoc"); (case c8 => with_reducible exact sk_dropped _); (case d8 => rfl); (case f8 => rfl)); o_facts WS_cons; w_dflts WX_setattr; o_facts WE_bool; ((with_reducible refine' WE_name ?hx9 ?hd9 ?_); (case hx9 => walk_at "np at"); (case hd9 => first | exact neU rfl | assumption)); ((with_reducible refine' sat_new ?a10 ?b10 ?c10 ?d10 ?e10 ?f10 ?_); (case a10 => walk_at "np hat"); (case b10 => walk_at "np mod"); (case e10 => walk_at "np snoc"); (case c10 => with_reducible exact sk_is_on _); (case d10 => rfl); (case f10 => rfl)); o_facts WS_cons; w_dflts WX_setattr; o_facts WE_none; ((with_reducible refine' WE_name ?hx11 ?hd11 ?_); (case hx11 => walk_at "np at"); (case hd11 => first | exact neU rfl | assumption)); ((with_reducible refine' sat_new ?a12 ?b12 ?c12 ?d12 ?e12 ?f12 ?_); (case a12 => walk_at "np hat"); (case b12 => walk_at "np mod"); (case e12 => walk_at "np snoc"); (case c12 => with_reducible exact sk_point_before _); (case d12 => rfl); (case f12 => rfl)); o_facts WS_cons; w_dflts WX_setattr; o_facts WE_none; ((with_reducible refine' WE_name ?hx13 ?hd13 ?_); (case hx13 => walk_at "np at"); (case hd13 => first | exact neU rfl | assumption)); ((with_reducible refine' sat_new ?a14 ?b14 ?c14 ?d14 ?e14 ?f14 ?_); (case a14 => walk_at "np hat"); (case b14 => walk_at "np mod"); (case e14 => walk_at "np snoc"); (case c14 => with_reducible exact sk_noted_tick _); (case d14 => rfl); (case f14 => rfl)); o_facts WS_nil; o_facts WL_nil; ((with_reducible refine' And.intro ?a15 ?_); (case a15 => exact Nat.le_of_ble_eq_true rfl)))
  refine ⟨_, _, .tup, rfl, .cons (by walk_at "np set") (.cons (by walk_at "np set") .nil), ?_⟩
  (o_facts WS_cons; row_cond WX_assign; o_facts WE_bin; o_facts WE_int; ((with_reducible refine' WE_own ?o16 ?_ ?a16 ?b16 ?c16 ?d16); (case o16 => with_reducible exact o_law_draw _); (case a16 => rfl); (case b16 => decide); (case c16 => first | exact ⟨rfl, rfl⟩ | exact trivial); (case d16 => rfl)); w_dflts WL_cons; ((with_reducible refine' WE_name ?hx17 ?hd17 ?_); (case hx17 => walk_at "np at"); (case hd17 => first | exact neU rfl | assumption)); w_dflts WL_cons; o_facts WE_int; o_facts WL_nil)
  refine draw_ok (pre := [_, _, _]) rfl (room.le (by decide)) hc hcl hb (Int.le_refl 0) (by decide) (by decide) (by decide) fun v n1 big1 q1 q2 q3 q4 q5 => ?_
  dsimp only [List.cons_append, List.nil_append]
  obtain ⟨v, rfl⟩ := Int.eq_ofNat_of_zero_le q1
  ((with_reducible refine .add ?_); ((with_reducible refine' ⟨_, ?ls18, ?_⟩); (case ls18 => walk_at "np set")); o_facts WS_cons; row_cond WX_assign)
  rw [show (2 + v : Int) = ((2 + v : Nat) : Int) by omega]
  have hI := PO.init (2 + v) (by omega) (by omega)
  revert hI
  generalize hm : 2 + v = m
  intro hI
  refine WE_dict (WP_cons ?_)
  (row_room_at WE_list; w_dflts WL_cons; row_room_at WE_range; w_dflts WL_cons; ((with_reducible refine' WE_name ?hx19 ?hd19 ?_); (case hx19 => walk_at "np at"); (case hd19 => first | exact neU rfl | assumption)); o_facts WL_nil)
  refine call_range ?_
  (o_facts WL_nil)
  refine call_listR (by omega) fun t => ?_
  refine WP_cons ?_
  (row_room_at WE_list; w_dflts WL_cons; row_room_at WE_range; w_dflts WL_cons; ((with_reducible refine' WE_name ?hx20 ?hd20 ?_); (case hx20 => walk_at "np at"); (case hd20 => first | exact neU rfl | assumption)); o_facts WL_nil)
  refine call_range ?_
  (o_facts WL_nil)
  refine call_listR (by omega) fun o => ?_
  refine WP_cons ?_
  (((with_reducible refine' WE_name ?hx21 ?hd21 ?_); (case hx21 => walk_at "np at"); (case hd21 => first | exact neU rfl | assumption)))
  refine WP_cons ?_
  refine WE_listM ?_
  (o_facts WL_nil; ((with_reducible refine' And.intro ?a22 ?_); (case a22 => exact Nat.le_of_ble_eq_true rfl)))
  intro ch
  refine WP_nil ⟨by dsimp only [List.map]; decide, fun s => ?_⟩
  rw [show vints m = ((List.range m).map (fun i : Nat => (i : Int))).map V.int by rw [List.map_map]; rfl]
  (((with_reducible refine' ⟨_, ?ls23, ?_⟩); (case ls23 => walk_at "np set")); o_facts WS_cons)
  refine WX_forR ?_ rfl rfl (fun _ => rfl)
  (row_room_at WE_range; w_dflts WL_cons; o_facts WE_bin; o_facts WE_int; ((with_reducible refine' WE_own ?o24 ?_ ?a24 ?b24 ?c24 ?d24); (case o24 => with_reducible exact o_law_draw _); (case a24 => rfl); (case b24 => decide); (case c24 => first | exact ⟨rfl, rfl⟩ | exact trivial); (case d24 => rfl)); w_dflts WL_cons; ((with_reducible refine' WE_name ?hx25 ?hd25 ?_); (case hx25 => walk_at "np at"); (case hd25 => first | exact neU rfl | assumption)); w_dflts WL_cons; o_facts WE_int; o_facts WL_nil)
  refine draw_w (I := ⟨s, ch, o, t, R, h, hd, D, D0⟩) (W := ⟨(List.range m).map (fun i : Nat => (i : Int)), (List.range m).map (fun i : Nat => (i : Int)), m, []⟩) (rows := []) rfl (room.le (by decide)) hc hcl (by omega) q3 (by omega) (by decide) (by decide) fun u n2 big2 q6 q7 q8 q9 => ?_
  ((with_reducible refine .add ?_); o_facts WL_nil)
  rw [show (3 + u : Int) = ((3 + u : Nat) : Int) by omega]
  refine call_range ?_
  refine ⟨3 + u, rfl, by omega, ?_⟩
  refine wfor_inv (enc := fun i : Nat => V.int (i : Nat)) (BldI C (fun X => [("script", .lst (ns.map V.int)), ("deck", .ref D), ("history", .ref h), ("many", .int m), ("state", .ref s), ("the_turn", X), ("size", .undef), ("start", .undef), ("end", .undef), ("there", .undef), ("region", .undef), ("due", .undef), ("change", .undef), ("row", .undef), ("kept", .undef), ("found", .undef)]) r.w ⟨s, ch, o, t, R, h, hd, D, D0⟩ cells [] (3 + u)) ?_ ?_ (List.range (3 + u)) _ _
    ⟨.undef, _, 0, big2, n2, rfl, rfl, hI, by rw [List.length_range]; omega, by omega, by rw [List.length_range]; omega, q9⟩
  · rintro i xs loc hp ⟨X, W, k, bg, n, rfl, rfl, hC, hk, hn0, hn, hbg⟩
    rw [List.length_cons] at hk hn
    obtain ⟨b1, b2, b3, b4, b5⟩ := PO.bds k W (by omega) hC
    refine ⟨_, by walk_at "np set", ?_⟩
    (o_facts WS_cons; row_more WX_expr; ((with_reducible refine' WE_own ?o26 ?_ ?a26 ?b26 ?c26 ?d26); (case o26 => with_reducible exact o_law_changed _); (case a26 => rfl); (case b26 => decide); (case c26 => first | exact ⟨rfl, rfl⟩ | exact trivial); (case d26 => rfl)); w_dflts WL_cons; ((with_reducible refine' WE_name ?hx27 ?hd27 ?_); (case hx27 => walk_at "np at"); (case hd27 => first | exact neU rfl | assumption)); w_dflts WL_cons; ((with_reducible refine' WE_name ?hx28 ?hd28 ?_); (case hx28 => walk_at "np at"); (case hd28 => first | exact neU rfl | assumption)); w_dflts WL_cons; ((with_reducible refine' WE_name ?hx29 ?hd29 ?_); (case hx29 => walk_at "np at"); (case hd29 => first | exact neU rfl | assumption)); o_facts WL_nil)
    refine chg_ok rfl (room.le (by decide)) hc hcl hbg hn0 (by omega) (by omega) (by omega) (by omega) b4 (fun x hx => Nat.lt_of_le_of_lt (b5 x hx).1 (by decide)) fun W' bg' n' st p1 p2 p3 => ?_
    have hC' := PO.step k W W' hC st
    obtain ⟨d1, d2, d3, d4, d5⟩ := PO.bds (k + 1) W' (by omega) hC'
    (o_facts WS_cons)
    refine WX_if ?_
    (w_dflts WT_cmp; ((with_reducible refine' WE_own ?o30 ?_ ?a30 ?b30 ?c30 ?d30); (case o30 => with_reducible exact o_law_draw _); (case a30 => rfl); (case b30 => decide); (case c30 => first | exact ⟨rfl, rfl⟩ | exact trivial); (case d30 => rfl)); w_dflts WL_cons; ((with_reducible refine' WE_name ?hx31 ?hd31 ?_); (case hx31 => walk_at "np at"); (case hd31 => first | exact neU rfl | assumption)); w_dflts WL_cons; o_facts WE_int; o_facts WL_nil)
    refine draw_w rfl (room.le (by decide)) hc hcl p3 p1 (by omega) (by decide) (by decide) fun e n3 bg3 p4 p5 p6 p7 => ?_
    (o_facts WE_int)
    refine tst_int cmp_gt (fun hh => ?_) (fun hh => ?_)
    · (o_facts WS_cons; row_more WX_expr)
      ((refine WE_methK ?_ (by first | exact trivial | exact ⟨rfl, rfl⟩) rfl); ((with_reducible refine' WE_name ?hx32 ?hd32 ?_); (case hx32 => walk_at "np at"); (case hd32 => first | exact neU rfl | assumption)); ((with_reducible refine' mth_of ?a33 ?b33 ?c33 ?d33 ?_); (case a33 => walk_at "np hat"); (case b33 => walk_at "np hat"); (case d33 => with_reducible exact mk_boundary _); (case c33 => rfl)); o_facts WL_nil)
      refine bnd_w rfl (room.le (by decide)) (by rw [List.length_map]; omega) ?_
      rw [step_last st, if_neg Bool.false_ne_true]
      (o_facts WS_cons; row_more WX_expr)
      refine WE_methL PySem.F.slot_list_append rfl ?_ ⟨rfl, rfl⟩ rfl
      (((with_reducible refine WE_item ?_ ?hs34); (case hs34 => (intro _ _; rfl))); ((with_reducible refine' WE_name ?hx35 ?hd35 ?_); (case hx35 => walk_at "np at"); (case hd35 => first | exact neU rfl | assumption)); o_facts WE_str; ((with_reducible refine' ⟨_, item_dct ?a36 ?b36 ?c36, ?_⟩); (case a36 => walk_at "np hat"); (case b36 => walk_at "np at"); (case c36 => (dsimp only [List.map]; decide))))
      refine ⟨_, .ref (by walk_at "np hat"), ?_⟩
      (w_dflts WL_cons; o_facts WE_tuple; w_dflts WL_cons; o_facts WE_str; o_facts WL_nil; ((with_reducible refine' And.intro ?a37 ?_); (case a37 => exact Nat.le_of_ble_eq_true rfl)); o_facts WL_nil)
      refine call_append (by walk_at "np mod") (size_ok (by rw [List.length_map]; omega)) ?_
      (o_facts WS_nil; o_facts WS_nil)
      rw [show W'.chs.map chV ++ [V.tup [.str "end"]] = (W'.chs ++ [Ch.fin]).map chV by rw [List.map_append]; rfl, show W'.chs.map rwOf ++ [Rw.bnd] = (W'.chs ++ [Ch.fin]).map rwOf by rw [List.map_append]; rfl]
      exact ⟨.int (i : Nat), ⟨W'.text, W'.order, W'.next, W'.chs ++ [.fin]⟩, k + 2, bg3, n3, rfl, rfl, PO.fin _ _ hC', by omega, by omega, by omega, p7⟩
    · (o_facts WS_nil; o_facts WS_nil)
      exact ⟨.int (i : Nat), W', k + 1, bg3, n3, rfl, rfl, hC', by omega, by omega, by omega, p7⟩
  · rintro loc hp ⟨TT, W, k, bg, n, rfl, rfl, hC, hk, hn0, hn, hbg⟩
    simp only [List.length_nil] at hk hn
    obtain ⟨b1, b2, b3, b4, b5⟩ := PO.bds k W (by omega) hC
    (o_facts WS_cons; row_cond WX_assign; row_room_at WE_len; w_dflts WL_cons; ((with_reducible refine WE_item ?_ ?hs38); (case hs38 => (intro _ _; rfl))); ((with_reducible refine' WE_name ?hx39 ?hd39 ?_); (case hx39 => walk_at "np at"); (case hd39 => first | exact neU rfl | assumption)); o_facts WE_str; ((with_reducible refine' ⟨_, item_dct ?a40 ?b40 ?c40, ?_⟩); (case a40 => walk_at "np hat"); (case b40 => walk_at "np at"); (case c40 => (dsimp only [List.map]; decide))); o_facts WL_nil; ((with_reducible refine' call_len ?a41 ?b41 ?_); (case a41 => walk_at "np lst"); (case b41 => walk_at "np ar")); ((with_reducible refine' ⟨_, ?ls42, ?_⟩); (case ls42 => walk_at "np set")); o_facts WS_cons; row_cond WX_assign; o_facts WE_bin; o_facts WE_int; ((with_reducible refine' WE_own ?o43 ?_ ?a43 ?b43 ?c43 ?d43); (case o43 => with_reducible exact o_law_draw _); (case a43 => rfl); (case b43 => decide); (case c43 => first | exact ⟨rfl, rfl⟩ | exact trivial); (case d43 => rfl)); w_dflts WL_cons; ((with_reducible refine' WE_name ?hx44 ?hd44 ?_); (case hx44 => walk_at "np at"); (case hd44 => first | exact neU rfl | assumption)); w_dflts WL_cons; o_facts WE_bin; ((with_reducible refine' WE_name ?hx45 ?hd45 ?_); (case hx45 => walk_at "np at"); (case hd45 => first | exact neU rfl | assumption)); o_facts WE_int; (with_reducible refine .add ?_); o_facts WL_nil)
    rw [List.length_map]
    refine draw_w rfl (room.le (by decide)) hc hcl hbg hn0 (by omega) (by omega) (by omega) fun a1 n3 bg3 s1 s2 s3 s4 => ?_
    ((with_reducible refine .add ?_); ((with_reducible refine' ⟨_, ?ls46, ?_⟩); (case ls46 => walk_at "np set")); o_facts WS_cons; row_cond WX_assign; o_facts WE_bin; ((with_reducible refine' WE_name ?hx47 ?hd47 ?_); (case hx47 => walk_at "np at"); (case hd47 => first | exact neU rfl | assumption)); ((with_reducible refine' WE_own ?o48 ?_ ?a48 ?b48 ?c48 ?d48); (case o48 => with_reducible exact o_law_draw _); (case a48 => rfl); (case b48 => decide); (case c48 => first | exact ⟨rfl, rfl⟩ | exact trivial); (case d48 => rfl)); w_dflts WL_cons; ((with_reducible refine' WE_name ?hx49 ?hd49 ?_); (case hx49 => walk_at "np at"); (case hd49 => first | exact neU rfl | assumption)); w_dflts WL_cons; o_facts WE_bin; o_facts WE_bin; ((with_reducible refine' WE_name ?hx50 ?hd50 ?_); (case hx50 => walk_at "np at"); (case hd50 => first | exact neU rfl | assumption)); o_facts WE_int; (with_reducible refine .add ?_); ((with_reducible refine' WE_name ?hx51 ?hd51 ?_); (case hx51 => walk_at "np at"); (case hd51 => first | exact neU rfl | assumption)); (with_reducible refine .sub ?_); o_facts WL_nil)
    refine draw_w rfl (room.le (by decide)) hc hcl s4 (by omega) (by omega) (by omega) (by omega) fun a2 n4 bg4 s5 s6 s7 s8 => ?_
    ((with_reducible refine .add ?_); ((with_reducible refine' ⟨_, ?ls52, ?_⟩); (case ls52 => walk_at "np set")); o_facts WS_cons)
    have heq := PO.eq k W (1 + a1) (1 + a1 + a2) (by omega) hC (by omega) (by omega) (by omega)
    revert heq
    generalize hst : (1 + a1 : Int) = st
    generalize hen : (st + a2 : Int) = en
    intro heq
    refine WX_unpackS (names := ["there", "region", "due"]) ?_ rfl (List.forall_mem_cons.mpr ⟨rfl, List.forall_mem_cons.mpr ⟨rfl, List.forall_mem_cons.mpr ⟨rfl, List.forall_mem_nil _⟩⟩⟩) rfl rfl
    (o_facts WE_tuple; w_dflts WL_cons; row_room_at WE_list; w_dflts WL_cons; ((with_reducible refine WE_item ?_ ?hs53); (case hs53 => (intro _ _; rfl))); ((with_reducible refine' WE_name ?hx54 ?hd54 ?_); (case hx54 => walk_at "np at"); (case hd54 => first | exact neU rfl | assumption)); o_facts WE_str; ((with_reducible refine' ⟨_, item_dct ?a55 ?b55 ?c55, ?_⟩); (case a55 => walk_at "np hat"); (case b55 => walk_at "np at"); (case c55 => (dsimp only [List.map]; decide))); o_facts WL_nil)
    refine call_listM (.ref (by walk_at "np hat")) (size_ok (by rw [List.length_map]; omega)) fun th => ?_
    refine WL_cons (WE_listM ?_) rfl
    (w_dflts WL_cons; ((with_reducible refine' WE_name ?hx56 ?hd56 ?_); (case hx56 => walk_at "np at"); (case hd56 => first | exact neU rfl | assumption)); w_dflts WL_cons; ((with_reducible refine' WE_name ?hx57 ?hd57 ?_); (case hx57 => walk_at "np at"); (case hd57 => first | exact neU rfl | assumption)); o_facts WL_nil; ((with_reducible refine' And.intro ?a58 ?_); (case a58 => exact Nat.le_of_ble_eq_true rfl)))
    intro rg
    refine WL_cons (WE_listM (WL_cons (WE_listM ?_) rfl)) rfl
    (o_facts WL_nil; ((with_reducible refine' And.intro ?a59 ?_); (case a59 => exact Nat.le_of_ble_eq_true rfl)))
    intro g1
    (o_facts WL_nil; ((with_reducible refine' And.intro ?a60 ?_); (case a60 => exact Nat.le_of_ble_eq_true rfl)))
    intro du
    (o_facts WL_nil; ((with_reducible refine' And.intro ?a61 ?_); (case a61 => exact Nat.le_of_ble_eq_true rfl)))
    refine ⟨_, _, .tup, rfl, .cons (by walk_at "np set") (.cons (by walk_at "np set") (.cons (by walk_at "np set") .nil)), ?_⟩
    (o_facts WS_cons)
    refine WX_for ?_ rfl rfl (fun _ => rfl)
    (o_facts WE_sliceRev; ((with_reducible refine WE_item ?_ ?hs62); (case hs62 => (intro _ _; rfl))); ((with_reducible refine' WE_name ?hx63 ?hd63 ?_); (case hx63 => walk_at "np at"); (case hd63 => first | exact neU rfl | assumption)); o_facts WE_str; ((with_reducible refine' ⟨_, item_dct ?a64 ?b64 ?c64, ?_⟩); (case a64 => walk_at "np hat"); (case b64 => walk_at "np at"); (case c64 => (dsimp only [List.map]; decide))))
    refine ⟨_, .ref (by walk_at "np hat"), size_ok (by rw [List.length_map]; omega), _, rfl, ?_⟩
    rw [← List.map_reverse]
    refine wfor_inv (enc := chV) (UndI (fun X Y => [("script", .lst (ns.map V.int)), ("deck", .ref D), ("history", .ref h), ("many", .int m), ("state", .ref s), ("the_turn", TT), ("size", .int W.text.length), ("start", .int st), ("end", .int en), ("there", .ref th), ("region", .ref rg), ("due", .ref du), ("change", X), ("row", Y), ("kept", .undef), ("found", .undef)]) W.order st du rg th (wld r.w ⟨s, ch, o, t, R, h, hd, D, D0⟩ W cells bg4 n4 []) (W.chs.reverse.foldl (lawS W.order st) (W.text, en, [[]]))) ?_ ?_ W.chs.reverse _ _
      ⟨.undef, .undef, [], (g1, []), (W.text, en, [[]]), rfl, rfl, rfl, rfl, by rw [List.length_reverse]; dsimp only; omega, by rw [List.length_reverse, List.length_nil]; omega, fun x hx => by obtain rfl := List.mem_singleton.mp hx; rw [List.length_reverse, List.length_nil]; omega, fun x hx => b5 x (List.mem_reverse.mp hx)⟩
    · rintro x xs loc hp ⟨Y, Z, G, z, S, rfl, rfl, hS0, hS, h1, h2, h3, h4⟩
      rw [List.length_cons] at h1 h2
      have hu1 : chV x ≠ .undef := neU (by cases x <;> rfl)
      have hu2 : ∀ o, dueO o ≠ .undef := fun o => neU (by cases o with | none => rfl | some x => cases x <;> rfl)
      obtain ⟨h5, h6⟩ := h4 x (.head _)
      have h4' := fun y (hy : y ∈ xs) => h4 y (.tail _ hy)
      have hS2 : xs.foldl (lawS W.order st) (lawS W.order st S x) = _ := hS
      refine ⟨_, by walk_at "np set", ?_⟩
      (o_facts WS_cons)
      refine WX_if ?_
      (w_dflts WT_cmp; ((with_reducible refine' WE_name ?hx65 ?hd65 ?_); (case hx65 => walk_at "np at"); (case hd65 => first | exact neU rfl | assumption)); o_facts WE_tuple; w_dflts WL_cons; o_facts WE_str; o_facts WL_nil; ((with_reducible refine' And.intro ?a66 ?_); (case a66 => exact Nat.le_of_ble_eq_true rfl)))
      refine ⟨_, cmp_fin, fun hx => ?_, fun hx => ?_⟩
      · (o_facts WS_cons; row_more WX_expr)
        refine WE_methL PySem.F.slot_list_append rfl ?_ ⟨rfl, rfl⟩ rfl
        (((with_reducible refine' WE_name ?hx67 ?hd67 ?_); (case hx67 => walk_at "np at"); (case hd67 => first | exact neU rfl | assumption)))
        refine ⟨_, .ref (.pre .head _), ?_⟩
        (w_dflts WL_cons)
        refine WE_listM ?_
        (o_facts WL_nil; ((with_reducible refine' And.intro ?a68 ?_); (case a68 => exact Nat.le_of_ble_eq_true rfl)))
        intro g
        (o_facts WL_nil)
        refine call_append (l := (G ++ [z]).reverse.map fun x => V.ref x.1) (.tail (.pre .head _)) (size_ok (by simp; omega)) ?_
        (o_facts WS_nil; o_facts WS_nil)
        unfold lawS at hS2
        rw [if_pos hx] at hS2
        refine ⟨chV x, Z, (g, []) :: G, z, (S.1, S.2.1, [] :: S.2.2), rfl, ?_, by rw [hS0]; rfl, hS2, by dsimp only; omega, by rw [List.length_cons]; omega, fun y hy => ?_, h4'⟩
        · rw [List.cons_append, List.reverse_cons, List.map_append]; rfl
        · rcases List.mem_cons.mp hy with rfl | hy
          · rw [List.length_nil]; omega
          · have := h3 y hy; rw [List.length_cons] at this; omega
      · obtain ⟨h7, h8, h9⟩ := h6 hx
        unfold lawS at hS2
        rw [hx, if_neg Bool.false_ne_true] at hS2
        have hul := lawU_len (there := S.1) (order := W.order) (r0 := st) (r1 := S.2.1) (x := x)
        (o_facts WS_cons; row_cond WX_assign; ((with_reducible refine' WE_own ?o69 ?_ ?a69 ?b69 ?c69 ?d69); (case o69 => with_reducible exact o_law_undone _); (case a69 => rfl); (case b69 => decide); (case c69 => first | exact ⟨rfl, rfl⟩ | exact trivial); (case d69 => rfl)); w_dflts WL_cons; ((with_reducible refine' WE_name ?hx70 ?hd70 ?_); (case hx70 => walk_at "np at"); (case hd70 => first | exact neU rfl | assumption)); w_dflts WL_cons; ((with_reducible refine' WE_name ?hx71 ?hd71 ?_); (case hx71 => walk_at "np at"); (case hd71 => first | exact neU rfl | assumption)); w_dflts WL_cons; ((with_reducible refine WE_item ?_ ?hs72); (case hs72 => (intro _ _; rfl))); ((with_reducible refine' WE_name ?hx73 ?hd73 ?_); (case hx73 => walk_at "np at"); (case hd73 => first | exact neU rfl | assumption)); o_facts WE_str; ((with_reducible refine' ⟨_, item_dct ?a74 ?b74 ?c74, ?_⟩); (case a74 => walk_at "np hat"); (case b74 => walk_at "np at"); (case c74 => (dsimp only [List.map]; decide))); w_dflts WL_cons; ((with_reducible refine' WE_name ?hx75 ?hd75 ?_); (case hx75 => walk_at "np at"); (case hd75 => first | exact neU rfl | assumption)); o_facts WL_nil)
        refine lund_g rfl (room.le (by decide)) (.tail (.tail .head)) h7 h8 (by omega) h9 (by omega) (by omega) ?_
        revert hS2 hul
        generalize lawU S.1 W.order st S.2.1 x = U
        intro hS2 hul
        have hu3 := hu2 U.2.2
        (((with_reducible refine' ⟨_, ?ls76, ?_⟩); (case ls76 => walk_at "np set")); o_facts WS_cons)
        refine WX_if ?_
        (w_dflts WT_cmp; ((with_reducible refine' WE_name ?hx77 ?hd77 ?_); (case hx77 => walk_at "np at"); (case hd77 => first | exact neU rfl | assumption)); o_facts WE_none)
        refine ⟨_, cmp_due, fun h10 => ?_, fun h10 => ?_⟩
        · obtain ⟨y, hy⟩ := Option.isSome_iff_exists.mp h10
          rw [hy] at hS2 hu3 ⊢
          obtain ⟨q, N', hN, hmod⟩ := grp_last (f := du) (H := (rg, .list [.int st, .int U.2.1]) :: (th, .list (U.1.map V.int)) :: wld r.w ⟨s, ch, o, t, R, h, hd, D, D0⟩ W cells bg4 n4 []) G z
          have hq : q ∈ G ++ [z] := by rw [hN]; exact .head _
          have hat := grp_at (f := du) (H := (rg, .list [.int st, .int U.2.1]) :: (th, .list (U.1.map V.int)) :: wld r.w ⟨s, ch, o, t, R, h, hd, D, D0⟩ W cells bg4 n4 []) (L := (G ++ [z]).reverse.map fun x => V.ref x.1) hq
          obtain ⟨G2, z2, e2, e3, hmm⟩ := hmod (q.2 ++ [y])
          rw [List.map_append, List.map_singleton] at hmm
          have hlq := h3 q hq
          rw [List.length_cons] at hlq
          (o_facts WS_cons; row_more WX_expr)
          refine WE_methL PySem.F.slot_list_append rfl ?_ ⟨rfl, rfl⟩ rfl
          (((with_reducible refine WE_item ?_ ?hs78); (case hs78 => (intro _ _; rfl))); ((with_reducible refine' WE_name ?hx79 ?hd79 ?_); (case hx79 => walk_at "np at"); (case hd79 => first | exact neU rfl | assumption)); o_facts WE_neg)
          refine ⟨_, item_last (X := .ref q.1) (.pre .head _) (by rw [List.getLast?_map, List.getLast?_reverse, hN]; rfl), ?_⟩
          refine ⟨_, .ref hat, ?_⟩
          (w_dflts WL_cons; ((with_reducible refine' WE_name ?hx80 ?hd80 ?_); (case hx80 => walk_at "np at"); (case hd80 => first | exact neU rfl | assumption)); o_facts WL_nil)
          refine call_append hmm (size_ok (by rw [List.length_map]; omega)) ?_
          (o_facts WS_nil; o_facts WS_nil; o_facts WS_nil)
          refine ⟨chV x, dueO (some y), G2, z2, (U.1, U.2.1, pushO S.2.2 (some y)), rfl, rfl, ?_, hS2, by dsimp only; omega, by omega, fun w hw => ?_, h4'⟩
          · dsimp only
            rw [hS0, hN, ← e2]; rfl
          · rw [← e2] at hw
            rcases List.mem_cons.mp hw with rfl | hw
            · rw [List.length_append, List.length_singleton]; omega
            · have := h3 w (by rw [hN]; exact .tail _ hw); rw [List.length_cons] at this; omega
        · have hz : U.2.2 = none := Option.not_isSome_iff_eq_none.mp (by rw [h10]; exact Bool.false_ne_true)
          rw [hz, pushO_none] at hS2
          (o_facts WS_nil; o_facts WS_nil; o_facts WS_nil)
          exact ⟨chV x, dueO U.2.2, G, z, (U.1, U.2.1, S.2.2), rfl, rfl, hS0, hS2, by dsimp only; omega, by omega, fun w hw => by have := h3 w hw; rw [List.length_cons] at this; omega, h4'⟩
    · rintro loc hp ⟨X, Y, G, z, S, rfl, rfl, hS0, hS, h1, h2, h3, h4⟩
      have hS : S = _ := hS
      simp only [List.length_nil] at h1 h2 h3
      have hN2 : ∀ x ∈ (G ++ [z]).reverse, HpAt (G.map cellG ++ (du, .list ((G ++ [z]).reverse.map fun x => V.ref x.1)) :: cellG z :: (rg, .list [.int st, .int S.2.1]) :: (th, .list (S.1.map V.int)) :: wld r.w ⟨s, ch, o, t, R, h, hd, D, D0⟩ W cells bg4 n4 []) x.1 (.list (x.2.map dueV)) := fun x hx => grp_at (List.mem_reverse.mp hx)
      have hlenG : (G ++ [z]).reverse.length ≤ 200 := by simp; omega
      (o_facts WS_cons; row_cond WX_assign; o_facts WE_sliceRev; ((with_reducible refine WE_compL ?_ ?a81 ?b81 ?c81 ?d81); (case a81 => rfl); (case b81 => rfl); (case c81 => decide); (case d81 => (intro _; rfl))); ((with_reducible refine' WE_name ?hx82 ?hd82 ?_); (case hx82 => walk_at "np at"); (case hd82 => first | exact neU rfl | assumption)))
      refine compS_of (G ++ [z]).reverse (fun x => V.ref x.1) (fun x => V.lst (x.2.map dueV).reverse) (fun x => !x.2.isEmpty) (.ref (.pre .head _)) (size_ok (by omega)) (fun x hx => ?_) ?_
      · have hx' := hN2 x hx
        have hx2 := h3 x (List.mem_reverse.mp hx)
        refine elt_name rfl rfl (by kernel_rfl) fun C oC => ⟨tests1 ?_, fun _ => ?_⟩
        · (w_dflts WT_cmp; ((with_reducible refine' WE_name ?hx83 ?hd83 ?_); (case hx83 => walk_at "np at"); (case hd83 => first | exact neU rfl | assumption)))
          refine WE_listF ?_
          (o_facts WL_nil; ((with_reducible refine' And.intro ?a84 ?_); (case a84 => exact Nat.le_of_ble_eq_true rfl)))
          have e : decide (x.2.map dueV ≠ []) = !x.2.isEmpty := by cases x.2 <;> rfl
          exact ⟨_, cmp_neNil (.ref hx'), fun h => ⟨rfl, by rw [← e]; exact h⟩, fun h => ⟨rfl, by rw [← e]; exact h⟩⟩
        · (o_facts WE_sliceRev; ((with_reducible refine' WE_name ?hx85 ?hd85 ?_); (case hx85 => walk_at "np at"); (case hd85 => first | exact neU rfl | assumption)))
          exact ⟨_, .ref hx', size_ok (by rw [List.length_map]; omega), rfl, rfl⟩
      · have hdue : (((G ++ [z]).reverse.filter fun x => !x.2.isEmpty).map fun x => V.lst (x.2.map dueV).reverse).reverse = (dueOf W st en).map fun g => V.lst (g.map dueV) := by
          unfold dueOf
          rw [← hS, hS0]
          have e := due_eq (N := (G ++ [z]).reverse)
          rw [show ((G ++ [z]).reverse.map (·.2)) = ((G ++ [z]).map (·.2)).reverse from List.map_reverse] at e
          exact e
        refine ⟨_, .lst, size_ok (by rw [List.length_map]; exact Nat.le_trans (List.length_filter_le _ _) (by omega)), ?_⟩
        rw [hdue]
        (((with_reducible refine' ⟨_, ?ls86, ?_⟩); (case ls86 => walk_at "np set")); o_facts WS_cons; row_cond WX_assign; row_room_at WE_list; w_dflts WL_cons; w_dflts WE_attr; ((with_reducible refine' WE_name ?hx87 ?hd87 ?_); (case hx87 => walk_at "np at"); (case hd87 => first | exact neU rfl | assumption)); ((with_reducible refine' ⟨_, AttrV.ref ?a88 ?b88 ?c88 ?d88 ?e88, ?_⟩); (case a88 => walk_at "np hat"); (case b88 => walk_at "np hat"); (case c88 => walk_at "np at"); (case d88 => rfl); (case e88 => with_reducible exact gk_rows _)); o_facts WL_nil)
        refine call_listPin (by walk_at "np hat") (size_ok (by rw [List.length_map, List.length_map]; omega)) fun l' hpin => ⟨_, .pre (.tail (.tail (.tail (.tail (.tail (.tail (.tail (.tail .head)))))))) _, ?_⟩
        (((with_reducible refine' ⟨_, ?ls89, ?_⟩); (case ls89 => walk_at "np set")); o_facts WS_cons; row_cond WX_assign; ((with_reducible refine' WE_own ?o90 ?_ ?a90 ?b90 ?c90 ?d90); (case o90 => with_reducible exact o_rows_in_region _); (case a90 => rfl); (case b90 => decide); (case c90 => first | exact ⟨rfl, rfl⟩ | exact trivial); (case d90 => rfl)); w_dflts WL_cons; w_dflts WE_attr; ((with_reducible refine' WE_name ?hx91 ?hd91 ?_); (case hx91 => walk_at "np at"); (case hd91 => first | exact neU rfl | assumption)); ((with_reducible refine' ⟨_, AttrV.ref ?a92 ?b92 ?c92 ?d92 ?e92, ?_⟩); (case a92 => walk_at "np hat"); (case b92 => walk_at "np hat"); (case c92 => walk_at "np at"); (case d92 => rfl); (case e92 => with_reducible exact gk_rows _)); w_dflts WL_cons; ((with_reducible refine' WE_name ?hx93 ?hd93 ?_); (case hx93 => walk_at "np at"); (case hd93 => first | exact neU rfl | assumption)); w_dflts WL_cons; ((with_reducible refine' WE_name ?hx94 ?hd94 ?_); (case hx94 => walk_at "np at"); (case hd94 => first | exact neU rfl | assumption)); w_dflts WL_cons; ((with_reducible refine' WE_name ?hx95 ?hd95 ?_); (case hx95 => walk_at "np at"); (case hd95 => first | exact neU rfl | assumption)); o_facts WL_nil)
        have hdel : ∀ x ∈ W.chs.map rwOf, delOk x := fun x hx => by
          obtain ⟨y, hy, rfl⟩ := List.mem_map.mp hx
          cases y with
          | del xs p b => exact Nat.lt_of_le_of_lt (b5 _ hy).1 (by decide)
          | _ => trivial
        obtain ⟨f1, f2⟩ := run_facts (st := st) (W.chs.map rwOf).reverse ([((true, true), W.text.length)], en, []) (fun x hx => hdel x (List.mem_reverse.mp hx)) nofun
        rw [List.length_reverse, List.length_map] at f1
        refine rir_ok rfl (room.le (by decide)) (.pre (.tail (.tail (.tail (.tail (.tail (.tail (.tail (.tail .head)))))))) _) hpin (by rw [List.length_map]; omega) hdel fun fo s2 a3 d2 => ?_
        (((with_reducible refine' ⟨_, ?ls96, ?_⟩); (case ls96 => walk_at "np set")); o_facts WS_cons; o_facts WX_ret; o_facts WE_and; w_dflts WE_cmp; ((with_reducible refine' WE_own ?o97 ?_ ?a97 ?b97 ?c97 ?d97); (case o97 => with_reducible exact o_law_groups _); (case a97 => rfl); (case b97 => decide); (case c97 => first | exact ⟨rfl, rfl⟩ | exact trivial); (case d97 => rfl)); w_dflts WL_cons; ((with_reducible refine' WE_name ?hx98 ?hd98 ?_); (case hx98 => walk_at "np at"); (case hd98 => first | exact neU rfl | assumption)); o_facts WL_nil)
        have hfl : (foundOf W st en).length < 900 := by unfold foundOf; rw [List.length_reverse]; exact Nat.lt_of_le_of_lt f1 (by rw [List.length_nil]; omega)
        refine grps_ok (rows := foundOf W st en) rfl (room.le (by decide)) hfl (fun x hx => f2 x (List.mem_reverse.mp hx)) fun hp' rs e1 e2 e3 => ?_
        (((with_reducible refine' WE_name ?hx99 ?hd99 ?_); (case hx99 => walk_at "np at"); (case hd99 => first | exact neU rfl | assumption)))
        refine ⟨_, cmp_grp (e1.trans heq) e2, true, rfl, fun _ => ?_, nofun⟩
        refine WE_cmp ?_ rfl
        (w_dflts WE_attr; ((with_reducible refine' WE_name ?hx100 ?hd100 ?_); (case hx100 => walk_at "np at"); (case hd100 => first | exact neU rfl | assumption)))
        refine ⟨_, AttrV.ref (e3 _ _ (.tail (.tail (.tail (.tail (.pre (.tail (.tail (.tail (.tail (.tail (.tail (.tail (.tail (.tail .head))))))))) _)))))) (e3 _ _ (.tail (.tail (.tail (.tail (.pre (.tail (.tail (.tail (.tail (.tail (.tail (.tail (.tail (.tail (.tail .head)))))))))) _)))))) (by walk_at "np at") rfl (gk_rows _), ?_⟩
        (((with_reducible refine' WE_name ?hx101 ?hd101 ?_); (case hx101 => walk_at "np at"); (case hd101 => first | exact neU rfl | assumption)))
        exact ⟨_, cmp_eqPin (e3 _ _ (.tail (.tail (.tail (.tail (.pre (.tail (.tail (.tail (.tail (.tail (.tail (.tail (.tail .head)))))))) _)))))) hpin, rfl⟩
/-! the pure law: lists -/
theorem sub_split {A B L : List Int} {y : Int} (h : (A ++ y :: B).Sublist L) : ∃ L1 L2, L = L1 ++ y :: L2 ∧ A.Sublist L1 ∧ B.Sublist L2 := by
  obtain ⟨r1, r2, rfl, h1, h2⟩ := List.append_sublist_iff.mp h
  obtain ⟨r3, r4, rfl, h3, h4⟩ := List.cons_sublist_iff.mp h2
  obtain ⟨s1, s2, rfl⟩ := List.append_of_mem h3
  exact ⟨r1 ++ s1, s2 ++ r4, by simp, h1.trans (List.sublist_append_left _ _), h4.trans (List.sublist_append_right _ _)⟩
theorem nd_mid {A B : List Int} {y : Int} (h : (A ++ y :: B).Nodup) : y ∉ A ∧ y ∉ B ∧ ∀ x ∈ A, x ∉ B := by
  rw [List.nodup_append] at h
  obtain ⟨_, h2, h3⟩ := h
  exact ⟨fun k => h3 y k y (.head _) rfl, (List.nodup_cons.mp h2).1, fun x k k' => h3 x k x (.tail _ k') rfl⟩
theorem nd_two {A B : List Int} (h : (A ++ B).Nodup) : ∀ x ∈ A, x ∉ B := fun x k k' => (List.nodup_append.mp h).2.2 x k x k' rfl
theorem nd_uniq {A B A' B' : List Int} {y : Int} (h : (A ++ y :: B).Nodup) (e : A ++ y :: B = A' ++ y :: B') : A = A' ∧ B = B' := by
  induction A generalizing A' with
  | nil =>
    cases A' with
    | nil => exact ⟨rfl, by injection e⟩
    | cons z A' =>
      injection e with e1 e2
      subst e1
      exact absurd (show y ∈ B by rw [e2]; simp) (nd_mid h).2.1
  | cons x A ih =>
    cases A' with
    | nil =>
      injection e with e1 e2
      subst e1
      exact absurd (.head _) (nd_mid h).1
    | cons z A' =>
      injection e with e1 e2
      obtain ⟨a, b⟩ := ih (List.nodup_cons.mp h).2 e2
      exact ⟨by rw [e1, a], b⟩
theorem filter_sub {S L : List Int} (h : S.Sublist L) (hn : L.Nodup) : L.filter (S.contains ·) = S := by
  induction h with
  | slnil => rfl
  | @cons l1 l2 a h ih =>
    obtain ⟨ha, hn⟩ := List.nodup_cons.mp hn
    have : l1.contains a = false := by
      rw [Bool.eq_false_iff]; intro k
      exact ha (h.subset (List.contains_iff_mem.mp k))
    rw [List.filter_cons_of_neg (by rw [this]; exact Bool.false_ne_true)]
    exact ih hn
  | @cons_cons l1 l2 a h ih =>
    obtain ⟨ha, hn⟩ := List.nodup_cons.mp hn
    rw [List.filter_cons_of_pos (by simp)]
    congr 1
    rw [← ih hn]
    refine List.filter_congr fun x hx => ?_
    rw [ih hn]
    have : x ≠ a := fun e => ha (e ▸ hx)
    simp [this]
/-- a list's elements, a part of another without doubles -/
theorem idx_mid {A B : List Int} {y : Int} (h : y ∉ A) : (A ++ y :: B).idxOf y = A.length := by
  rw [List.idxOf_append, if_neg h, List.idxOf_cons_self]; simp
/-- how many of `B` come ahead of `y` -/
theorem cnt_mid {A R O B : List Int} {y : Int} (hs : (A ++ y :: R).Sublist O) (ho : O.Nodup) (hb : ∀ x ∈ B, x ∈ A ++ y :: R) : (O.take (O.idxOf y)).filter (B.contains ·) = A.filter (B.contains ·) := by
  obtain ⟨O1, O2, rfl, h1, h2⟩ := sub_split hs
  obtain ⟨n1, n2, n3⟩ := nd_mid ho
  rw [idx_mid n1, List.take_left']
  · have h1n : O1.Nodup := (List.nodup_append.mp ho).1
    rw [← filter_sub h1 h1n, List.filter_filter]
    refine List.filter_congr fun x hx => ?_
    cases hc : B.contains x with
    | false => simp
    | true =>
      have hm := hb x (List.contains_iff_mem.mp hc)
      have : x ∈ A := by
        rcases List.mem_append.mp hm with k | k
        · exact k
        · rcases List.mem_cons.mp k with k | k
          · exact absurd (k ▸ hx) n1
          · exact absurd (h2.subset k) (n3 x hx)
      simp [this]
  · rfl
theorem filter_in {M O B : List Int} (hs : M.Sublist O) (ho : O.Nodup) (hb : ∀ x ∈ B, x ∈ M) : O.filter (B.contains ·) = M.filter (B.contains ·) := by
  have := filter_sub hs ho
  rw [← this, List.filter_filter]
  refine List.filter_congr fun x hx => ?_
  cases hc : B.contains x with
  | false => simp
  | true => simp [hb x (List.contains_iff_mem.mp hc)]
/-! the chain of the changes, the newest ahead: what is in the text, what was ever in it since -/
inductive Chain (O : List Int) : List Ch → List Int → List Int → Prop
  | nil {T M} (h1 : T.Sublist M) (h2 : M.Sublist O) : Chain O [] T M
  | ins {xs A B M r} (h1 : (A ++ (xs ++ B)).Sublist M) (h2 : M.Sublist O) (h3 : xs ≠ []) (h : Chain O r (A ++ B) M) : Chain O (.ins xs A.length :: r) (A ++ (xs ++ B)) M
  | del {xs A B M1 M2 b r} (h1 : (A ++ B).Sublist (M1 ++ M2)) (h2 : (M1 ++ M2).Sublist O) (h3 : xs ≠ []) (h4 : M1.getLast? = A.getLast?) (h : Chain O r (A ++ (xs ++ B)) (M1 ++ (xs ++ M2))) : Chain O (.del xs A.length b :: r) (A ++ B) (M1 ++ M2)
  | prop {xs A B M r} (h1 : (A ++ (xs ++ B)).Sublist M) (h2 : M.Sublist O) (h3 : xs ≠ []) (h : Chain O r (A ++ (xs ++ B)) M) : Chain O (.prop xs A.length :: r) (A ++ (xs ++ B)) M
  | fin {T M r} (h1 : T.Sublist M) (h2 : M.Sublist O) (h : Chain O r T M) : Chain O (.fin :: r) T M
theorem Chain.sub {O : List Int} {cs : List Ch} {T M : List Int} (h : Chain O cs T M) : T.Sublist M ∧ M.Sublist O := by
  cases h <;> exact ⟨‹_›, ‹_›⟩
/-- fresh ones ahead of `b`, or at the end -/
theorem sub_fresh {M1 M2 O1 O2 f : List Int} (h : (M1 ++ M2).Sublist (O1 ++ O2)) (hn : (O1 ++ O2).Nodup) (he : M2.head? = O2.head?) : (M1 ++ (f ++ M2)).Sublist (O1 ++ (f ++ O2)) := by
  cases M2 with
  | nil =>
    cases O2 with
    | nil => simp only [List.append_nil] at h ⊢; exact h.append (List.Sublist.refl _)
    | cons => cases he
  | cons b M2 =>
    cases O2 with
    | nil => cases he
    | cons b' O2 =>
      injection he with he; subst he
      obtain ⟨L1, L2, e, h1, h2⟩ := sub_split h
      obtain ⟨rfl, rfl⟩ := nd_uniq hn e
      exact h1.append ((List.Sublist.refl _).append (h2.cons_cons _))
theorem Chain.fresh {O1 O2 f : List Int} (hn : (O1 ++ O2).Nodup) {cs : List Ch} {T M : List Int} (h : Chain (O1 ++ O2) cs T M) : ∀ {M1 M2}, M = M1 ++ M2 → M2.head? = O2.head? → Chain (O1 ++ (f ++ O2)) cs T (M1 ++ (f ++ M2)) := by
  induction h with
  | nil h1 h2 =>
    rintro M1 M2 rfl he
    exact .nil (h1.trans ((List.Sublist.refl _).append (List.sublist_append_right _ _))) (sub_fresh h2 hn he)
  | ins h1 h2 h3 h ih =>
    rintro M1 M2 rfl he
    exact .ins (h1.trans ((List.Sublist.refl _).append (List.sublist_append_right _ _))) (sub_fresh h2 hn he) h3 (ih rfl he)
  | prop h1 h2 h3 h ih =>
    rintro M1 M2 rfl he
    exact .prop (h1.trans ((List.Sublist.refl _).append (List.sublist_append_right _ _))) (sub_fresh h2 hn he) h3 (ih rfl he)
  | fin h1 h2 h ih =>
    rintro M1 M2 rfl he
    exact .fin (h1.trans ((List.Sublist.refl _).append (List.sublist_append_right _ _))) (sub_fresh h2 hn he) (ih rfl he)
  | @del xs A B N1 N2 b r h1 h2 h3 h4 h ih =>
    intro M1 M2 e he
    have hT : (A ++ B).Sublist (M1 ++ (f ++ M2)) := (e ▸ h1).trans ((List.Sublist.refl _).append (List.sublist_append_right _ _))
    have hO := sub_fresh (f := f) (e ▸ h2) hn he
    have two : (∃ K, M1 = N1 ++ K ∧ N2 = K ++ M2) ∨ ∃ k K, N1 = M1 ++ k :: K ∧ M2 = k :: K ++ N2 := by
      rcases List.append_eq_append_iff.mp e with ⟨K, e1, e2⟩ | ⟨K, e1, e2⟩
      · exact .inl ⟨K, e1, e2⟩
      · cases K with
        | nil => exact .inl ⟨[], by simpa using e1.symm, by simpa using e2.symm⟩
        | cons k K => exact .inr ⟨k, K, e1, e2⟩
    rcases two with ⟨K, rfl, rfl⟩ | ⟨k, K, rfl, rfl⟩
    · have := ih (M1 := N1 ++ (xs ++ K)) (M2 := M2) (by simp) he
      rw [show N1 ++ K ++ (f ++ M2) = N1 ++ (K ++ (f ++ M2)) by simp] at hT hO ⊢
      exact .del hT hO h3 h4 (by simpa using this)
    · have := ih (M1 := M1) (M2 := k :: K ++ (xs ++ N2)) (by simp) he
      rw [show M1 ++ (f ++ (k :: K ++ N2)) = (M1 ++ (f ++ k :: K)) ++ N2 by simp] at hT hO ⊢
      exact .del hT hO h3 (by rw [← h4]; simp [List.getLast?_append, List.getLast?_cons]) (by simpa using this)
/-! the worlds that the changes make -/
structure Ok (k : Nat) (W : Wd1) : Prop where
  h1 : W.order.length ≤ 7 + 3 * k
  h2 : W.chs.length ≤ k
  h3 : W.order.Nodup
  h4 : ∀ y ∈ W.order, y < W.next
  h5 : ∀ x ∈ W.chs, (chXs x).length ≤ 3 * k ∧ (isFin x = false → chXs x ≠ [] ∧ (∀ y ∈ chXs x, y ∈ W.order) ∧ (chXs x).Nodup)
  h6 : Chain W.order W.chs.reverse W.text W.text
theorem Ok.sub {k : Nat} {W : Wd1} (h : Ok k W) : W.text.Sublist W.order := h.h6.sub.2
theorem Ok.init (m : Nat) (_ : 2 ≤ m) (h7 : m ≤ 7) : Ok 0 ⟨(List.range m).map (fun i : Nat => (i : Int)), (List.range m).map (fun i : Nat => (i : Int)), m, []⟩ where
  h1 := by simp; omega
  h2 := by simp
  h3 := by
    refine List.Pairwise.map _ ?_ List.nodup_range
    intro a b h e
    exact h (Int.ofNat.inj e)
  h4 := fun y hy => by
    obtain ⟨i, hi, rfl⟩ := List.mem_map.mp hy
    have := List.mem_range.mp hi
    dsimp only; omega
  h5 := nofun
  h6 := .nil (List.Sublist.refl _) (List.Sublist.refl _)
theorem Ok.fin {k : Nat} {W : Wd1} (h : Ok k W) : Ok (k + 1) ⟨W.text, W.order, W.next, W.chs ++ [.fin]⟩ where
  h1 := Nat.le_trans h.h1 (by omega)
  h2 := by simpa using h.h2
  h3 := h.h3
  h4 := h.h4
  h5 := fun x hx => by
    rcases List.mem_append.mp hx with hx | hx
    · exact ⟨Nat.le_trans (h.h5 x hx).1 (by omega), (h.h5 x hx).2⟩
    · obtain rfl := List.mem_singleton.mp hx
      exact ⟨Nat.zero_le _, nofun⟩
  h6 := by
    rw [List.reverse_append]
    exact .fin (List.Sublist.refl _) h.sub h.h6
theorem Ok.bds {k : Nat} {W : Wd1} (hk : k ≤ 16) (h : Ok k W) : W.text.length ≤ 60 ∧ W.order.length ≤ 60 ∧ W.chs.length ≤ 16 ∧ (∀ y ∈ W.text, y ∈ W.order) ∧ ∀ x ∈ W.chs, (chXs x).length ≤ 50 ∧ (isFin x = false → chXs x ≠ [] ∧ (∀ y ∈ chXs x, y ∈ W.order) ∧ (chXs x).Nodup) := by
  have a := h.sub.length_le
  have b := h.h1
  have c := h.h2
  exact ⟨by omega, by omega, by omega, fun y hy => h.sub.subset hy, fun x hx => ⟨by have := (h.h5 x hx).1; omega, (h.h5 x hx).2⟩⟩
theorem Chain.inv_ins {O : List Int} {r : List Ch} {T M xs : List Int} {p : Nat} (h : Chain O (.ins xs p :: r) T M) : ∃ A B, T = A ++ (xs ++ B) ∧ A.length = p ∧ xs ≠ [] ∧ Chain O r (A ++ B) M := by
  cases h with
  | ins h1 h2 h3 h => exact ⟨_, _, rfl, rfl, h3, h⟩
theorem cut3 {l : List Int} {a m : Nat} (h : a + m ≤ l.length) : ∃ A xs B, l = A ++ (xs ++ B) ∧ A.length = a ∧ xs.length = m ∧ l.take a = A ∧ (l.drop a).take m = xs ∧ l.drop (a + m) = B :=
  ⟨l.take a, (l.drop a).take m, l.drop (a + m), by rw [← List.drop_drop, List.take_append_drop, List.take_append_drop], by rw [List.length_take]; omega, by rw [List.length_take, List.length_drop]; omega, rfl, rfl, rfl⟩
theorem place_head {text order : List Int} {a : Nat} (ha : a ≤ text.length) (hs : ∀ y ∈ text, y ∈ order) : (text.drop a).head? = (order.drop (placeOf text order a)).head? := by
  rw [List.head?_drop, List.head?_drop]
  unfold placeOf
  cases h : text[a]? with
  | none => simp
  | some y =>
    have hy := hs y (List.mem_of_getElem? h)
    have := List.idxOf_lt_length_of_mem hy
    dsimp only
    rw [List.getElem?_eq_getElem this, List.getElem_idxOf this]
theorem mem_fresh {n k : Nat} {y : Int} (h : y ∈ (List.range k).map fun i => ((n + i : Nat) : Int)) : (n : Int) ≤ y ∧ y < (n + k : Nat) := by
  obtain ⟨i, hi, rfl⟩ := List.mem_map.mp h
  have := List.mem_range.mp hi
  omega
theorem nd_fresh {n k : Nat} : ((List.range k).map fun i => ((n + i : Nat) : Int)).Nodup := by
  refine List.Pairwise.map _ ?_ List.nodup_range
  intro a b h e
  have := Int.ofNat.inj e
  exact h (by omega)
theorem Ok.step {k : Nat} {W W' : Wd1} (h : Ok k W) (st : Step W W') : Ok (k + 1) W' := by
  obtain ⟨text, order, next, chs⟩ := W
  obtain ⟨h1, h2, h3, h4, h5, h6⟩ := h
  dsimp only at h1 h2 h3 h4 h5 h6
  have hs := h6.sub.2
  cases st with
  | del m a b hm hm3 hle =>
    dsimp only at hle ⊢
    obtain ⟨A, xs, B, rfl, rfl, rfl, e1, e2, e3⟩ := cut3 hle
    rw [e1, e2, e3]
    have hx : xs ≠ [] := fun e => by rw [e] at hm; cases hm
    refine ⟨Nat.le_trans h1 (by omega), by simpa using h2, h3, h4, fun x hx' => ?_, ?_⟩
    · rcases List.mem_append.mp hx' with hx' | hx'
      · exact ⟨Nat.le_trans (h5 x hx').1 (by omega), (h5 x hx').2⟩
      · obtain rfl := List.mem_singleton.mp hx'
        exact ⟨by show xs.length ≤ _; omega, fun _ => ⟨hx, fun y hy => hs.subset (List.mem_append_right _ (List.mem_append_left _ hy)), (List.nodup_append.mp (List.nodup_append.mp (h3.sublist hs)).2.1).1⟩⟩
    · dsimp only
      rw [List.reverse_append]
      exact .del (List.Sublist.refl _) (((List.Sublist.refl _).append (List.sublist_append_right _ _)).trans hs) hx rfl h6
  | prop m a hm hm3 hle =>
    dsimp only at hle ⊢
    obtain ⟨A, xs, B, rfl, rfl, rfl, e1, e2, e3⟩ := cut3 hle
    rw [e2]
    have hx : xs ≠ [] := fun e => by rw [e] at hm; cases hm
    refine ⟨Nat.le_trans h1 (by omega), by simpa using h2, h3, h4, fun x hx' => ?_, ?_⟩
    · rcases List.mem_append.mp hx' with hx' | hx'
      · exact ⟨Nat.le_trans (h5 x hx').1 (by omega), (h5 x hx').2⟩
      · obtain rfl := List.mem_singleton.mp hx'
        exact ⟨by show xs.length ≤ _; omega, fun _ => ⟨hx, fun y hy => hs.subset (List.mem_append_right _ (List.mem_append_left _ hy)), (List.nodup_append.mp (List.nodup_append.mp (h3.sublist hs)).2.1).1⟩⟩
    · dsimp only
      rw [List.reverse_append]
      exact .prop (List.Sublist.refl _) hs hx h6
  | ins n a hn hn3 hle =>
    dsimp only at hle ⊢
    have hp := place_head hle fun y hy => hs.subset hy
    have hF := fun y => mem_fresh (n := next) (k := n) (y := y)
    have hFn := nd_fresh (n := next) (k := n)
    have hFl : ((List.range n).map fun i => ((next + i : Nat) : Int)).length = n := by simp
    revert hp hF hFn hFl
    generalize ((List.range n).map fun i => ((next + i : Nat) : Int)) = F
    generalize placeOf text order a = q
    intro hp hF hFn hFl
    have eO : order = order.take q ++ order.drop q := (List.take_append_drop _ _).symm
    have eT : text = text.take a ++ text.drop a := (List.take_append_drop _ _).symm
    have hTa : (text.take a).length = a := by rw [List.length_take]; omega
    revert eO eT hTa hp
    generalize order.take q = O1
    generalize order.drop q = O2
    generalize text.take a = A
    generalize text.drop a = B
    intro hp eO eT hTa
    subst eO eT
    have hFne : F ≠ [] := fun e => by rw [e] at hFl; simp at hFl; omega
    rw [List.append_assoc, List.append_assoc]
    have hsub : ∀ y ∈ O1 ++ O2, y ∈ O1 ++ (F ++ O2) := fun y hy => by
      simp only [List.mem_append] at hy ⊢
      exact hy.elim .inl fun h => .inr (.inr h)
    have hdis : ∀ y ∈ O1 ++ O2, y ∉ F := fun y hy hf => by
      have a := h4 y hy
      have b := hF y hf
      omega
    have hnd : (O1 ++ (F ++ O2)).Nodup := by
      rw [List.nodup_append, List.nodup_append]
      rw [List.nodup_append] at h3
      refine ⟨h3.1, ⟨hFn, h3.2.1, fun x hx y hy e => ?_⟩, fun x hx y hy e => ?_⟩
      · subst e; exact hdis x (List.mem_append_right _ hy) hx
      · subst e
        rcases List.mem_append.mp hy with hy | hy
        · exact hdis x (List.mem_append_left _ hx) hy
        · exact h3.2.2 x hx x hy rfl
    refine ⟨?_, ?_, hnd, fun y hy => ?_, ?_, ?_⟩
    · simp only [List.length_append] at h1 ⊢
      rw [hFl]; omega
    · show (insCh chs F a).length ≤ _
      unfold insCh
      split
      · split
        · rw [List.length_set]; omega
        · rw [List.length_append]; simp; omega
      · rw [List.length_append]; simp; omega
    · dsimp only at hy ⊢
      simp only [List.mem_append] at hy
      rcases hy with hy | hy | hy
      · have := h4 y (List.mem_append_left _ hy); omega
      · have := (hF y hy).2; omega
      · have := h4 y (List.mem_append_right _ hy); omega
    · have hold : ∀ x ∈ chs, (chXs x).length ≤ 3 * (k + 1) ∧ (isFin x = false → chXs x ≠ [] ∧ (∀ y ∈ chXs x, y ∈ O1 ++ (F ++ O2)) ∧ (chXs x).Nodup) := fun x hx =>
        ⟨Nat.le_trans (h5 x hx).1 (by omega), fun hf => ⟨((h5 x hx).2 hf).1, fun y hy => hsub y (((h5 x hx).2 hf).2.1 y hy), ((h5 x hx).2 hf).2.2⟩⟩
      have hnew : ∀ x ∈ chs ++ [Ch.ins F a], (chXs x).length ≤ 3 * (k + 1) ∧ (isFin x = false → chXs x ≠ [] ∧ (∀ y ∈ chXs x, y ∈ O1 ++ (F ++ O2)) ∧ (chXs x).Nodup) := fun x hx => by
        rcases List.mem_append.mp hx with hx | hx
        · exact hold x hx
        · obtain rfl := List.mem_singleton.mp hx
          exact ⟨by show F.length ≤ _; omega, fun _ => ⟨hFne, fun y hy => List.mem_append_right _ (List.mem_append_left _ hy), hFn⟩⟩
      show ∀ x ∈ insCh chs F a, _
      unfold insCh
      split
      · rename_i xs q' hq
        split
        · intro x hx
          rcases List.mem_or_eq_of_mem_set hx with hx | rfl
          · exact hold x hx
          · have hm := List.mem_of_getLast? hq
            obtain ⟨g1, g2⟩ := h5 _ hm
            obtain ⟨g3, g4, g5⟩ := g2 rfl
            change xs.length ≤ _ at g1
            refine ⟨by show (xs ++ F).length ≤ _; rw [List.length_append]; omega, fun _ => ⟨fun e => hFne (List.append_eq_nil_iff.mp e).2, fun y hy => ?_, ?_⟩⟩
            · rcases List.mem_append.mp hy with hy | hy
              · exact hsub y (g4 y hy)
              · exact List.mem_append_right _ (List.mem_append_left _ hy)
            · show (xs ++ F).Nodup
              rw [List.nodup_append]
              exact ⟨g5, hFn, fun x hx y hy e => hdis x (g4 x hx) (e ▸ hy)⟩
        · exact hnew
      · exact hnew
    · have hT : ∀ {r T M} , Chain (O1 ++ O2) r T M → ∀ {M1 M2}, M = M1 ++ M2 → M2.head? = O2.head? → Chain (O1 ++ (F ++ O2)) r T (M1 ++ (F ++ M2)) := fun h => h.fresh h3
      have hg : Chain (O1 ++ (F ++ O2)) (chs ++ [Ch.ins F a]).reverse (A ++ (F ++ B)) (A ++ (F ++ B)) := by
        rw [List.reverse_append, ← hTa]
        exact Chain.ins (List.Sublist.refl _) (sub_fresh hs h3 hp) hFne (hT h6 rfl hp)
      show Chain (O1 ++ (F ++ O2)) (insCh chs F a).reverse (A ++ (F ++ B)) (A ++ (F ++ B))
      unfold insCh
      split
      · rename_i xs q' hq
        split
        · rename_i hqa
          rcases List.eq_nil_or_concat chs with e | ⟨l, z, e⟩
          · rw [e] at hq; cases hq
          · rw [List.concat_eq_append] at e
            subst e
            rw [List.getLast?_concat] at hq
            injection hq with hq; subst hq
            rw [List.length_append, List.length_singleton, Nat.add_sub_cancel, List.set_append_right _ _ (Nat.le_refl _), Nat.sub_self, List.set_cons_zero, List.reverse_append]
            rw [List.reverse_append] at h6
            obtain ⟨A', B', e, rfl, hx, hc⟩ := h6.inv_ins
            have e' : A ++ B = (A' ++ xs) ++ B' := by rw [e]; simp
            obtain ⟨rfl, rfl⟩ := List.append_inj e' (by rw [hTa, ← hqa]; simp)
            have := hT hc rfl hp
            rw [show A' ++ xs ++ (F ++ B) = A' ++ ((xs ++ F) ++ B) by simp] at this ⊢
            exact .ins (List.Sublist.refl _) (by rw [show A' ++ ((xs ++ F) ++ B) = (A' ++ xs) ++ (F ++ B) by simp]; exact sub_fresh hs h3 hp) (fun e => hFne (List.append_eq_nil_iff.mp e).2) this
        · exact hg
      · exact hg
/-! stretches laid flat -/
noncomputable def fl (l : List Sr) : List Wd := l.flatMap fun x => List.replicate x.2 x.1
noncomputable def cn (L : List Wd) : Nat := (L.filter (·.1)).length
noncomputable def Mini (L : List Wd) : Prop := ∀ w, L.getLast? = some w → w.1 = true
noncomputable def Heady (L : List Wd) : Prop := ∀ w, L.head? = some w → w.1 = true
noncomputable def Pos (l : List Sr) : Prop := ∀ x ∈ l, 0 < x.2
noncomputable def Sm (l : List Sr) : Prop := ∀ x ∈ l, x.1 = (true, true)
theorem fl_nil : fl [] = [] := rfl
theorem fl_cons {x : Sr} {l : List Sr} : fl (x :: l) = List.replicate x.2 x.1 ++ fl l := rfl
theorem fl_app {l r : List Sr} : fl (l ++ r) = fl l ++ fl r := List.flatMap_append
theorem cn_app {l r : List Wd} : cn (l ++ r) = cn l + cn r := by unfold cn; rw [List.filter_append, List.length_append]
theorem cn_rep {w : Wd} {n : Nat} : cn (List.replicate n w) = if w.1 = true then n else 0 := by
  unfold cn
  rw [List.filter_replicate]
  split <;> simp
theorem cn_zero {L : List Wd} (h : cn L = 0) : ∀ w ∈ L, w.1 = false := fun w hw => by
  cases e : w.1 with
  | false => rfl
  | true =>
    have : w ∈ L.filter (·.1) := List.mem_filter.mpr ⟨hw, e⟩
    rw [List.eq_nil_of_length_eq_zero h] at this
    cases this
theorem last_app {a b : List Wd} (hn : b ≠ []) : (a ++ b).getLast? = b.getLast? := by rw [List.getLast?_append, List.getLast?_eq_some_getLast hn]; rfl
theorem Mini.app {a b : List Wd} (ha : Mini a) (hb : Mini b) : Mini (a ++ b) := fun w h => by
  rw [List.getLast?_append] at h
  cases e : b.getLast? with
  | none => rw [e] at h; exact ha w h
  | some v => rw [e] at h; injection h with h; exact hb w (h ▸ e)
theorem Mini.app' {a b : List Wd} (hn : b ≠ []) (hb : Mini b) : Mini (a ++ b) := fun w h => by
  rw [last_app hn] at h
  exact hb w h
theorem Mini.right {a b : List Wd} (hn : b ≠ []) (h : Mini (a ++ b)) : Mini b := fun w e => h w (by rw [last_app hn, e])
theorem mini_rep {n : Nat} {w : Wd} (h : w.1 = true) : Mini (List.replicate n w) := fun v e => by
  have := List.mem_of_getLast? e
  rw [(List.mem_replicate.mp this).2, h]
theorem mini_uniq {P Q P' Q' : List Wd} (h : Mini P) (h' : Mini P') (e : P ++ Q = P' ++ Q') (c : cn P = cn P') : P = P' ∧ Q = Q' := by
  have key : ∀ {P K : List Wd}, Mini (P ++ K) → cn (P ++ K) = cn P → K = [] := fun {P K} h c => by
    rw [cn_app] at c
    refine Classical.byContradiction fun hK => ?_
    have hg := List.getLast?_eq_some_getLast hK
    have := Mini.right hK h _ hg
    rw [cn_zero (by omega) _ (List.getLast_mem hK)] at this
    cases this
  rcases List.append_eq_append_iff.mp e with ⟨K, e1, e2⟩ | ⟨K, e1, e2⟩
  · have := key (e1 ▸ h') (by rw [← e1]; exact c.symm)
    subst this
    exact ⟨by simpa using e1.symm, by simpa using e2⟩
  · have := key (e1 ▸ h) (by rw [← e1]; exact c)
    subst this
    exact ⟨by simpa using e1, by simpa using e2.symm⟩
theorem head_uniq {P Q P' Q' : List Wd} (h : Heady Q) (h' : Heady Q') (e : P ++ Q = P' ++ Q') (c : cn P = cn P') : P = P' ∧ Q = Q' := by
  have key : ∀ {P K Q : List Wd}, Heady (K ++ Q) → cn (P ++ K) = cn P → K = [] := fun {P K Q} h c => by
    rw [cn_app] at c
    cases K with
    | nil => rfl
    | cons k K =>
      have := h k rfl
      rw [cn_zero (L := k :: K) (by omega) k (.head _)] at this
      cases this
  rcases List.append_eq_append_iff.mp e with ⟨K, e1, e2⟩ | ⟨K, e1, e2⟩
  · have := key (e2 ▸ h) (by rw [← e1]; exact c.symm)
    subst this
    exact ⟨by simpa using e1.symm, by simpa using e2⟩
  · have := key (e2 ▸ h') (by rw [← e1]; exact c)
    subst this
    exact ⟨by simpa using e1, by simpa using e2.symm⟩
theorem split_zero : ∀ {l : List Sr}, split l 0 = (l, 0)
  | [] => rfl
  | x :: r => by rw [split, if_pos rfl]
theorem split_spec : ∀ {l : List Sr} {off : Nat}, off ≤ cn (fl l) → ∃ X Y, split l off = (X ++ Y, X.length) ∧ fl X ++ fl Y = fl l ∧ cn (fl X) = off ∧ Mini (fl X) ∧ (Pos l → Pos (X ++ Y)) ∧ (Sm l → Sm (X ++ Y))
  | [], off, h => ⟨[], [], by rw [split]; rfl, rfl, by rw [fl_nil] at h; exact (Nat.le_zero.mp h).symm, nofun, id, id⟩
  | x :: r, off, h => by
    rw [fl_cons, cn_app, cn_rep] at h
    rw [split]
    by_cases h0 : off = 0
    · rw [if_pos h0]
      exact ⟨[], x :: r, rfl, rfl, h0.symm, nofun, id, id⟩
    rw [if_neg h0]
    by_cases h1 : x.1.1 = false
    · rw [if_pos h1]
      rw [h1, if_neg Bool.false_ne_true, Nat.zero_add] at h
      obtain ⟨X, Y, e1, e2, e3, e4, e5, e6⟩ := split_spec h
      rw [e1]
      refine ⟨x :: X, Y, rfl, by rw [fl_cons, fl_cons, List.append_assoc, e2], by rw [fl_cons, cn_app, cn_rep, h1, if_neg Bool.false_ne_true, e3]; omega, Mini.app' (fun e => h0 (by rw [← e3, show fl X = [] from e]; rfl)) e4, fun hp => ?_, fun hp => ?_⟩
      · exact List.forall_mem_cons.mpr ⟨hp _ (.head _), e5 fun y hy => hp y (.tail _ hy)⟩
      · exact List.forall_mem_cons.mpr ⟨hp _ (.head _), e6 fun y hy => hp y (.tail _ hy)⟩
    rw [if_neg h1]
    have h1 : x.1.1 = true := by cases e : x.1.1 with | true => rfl | false => exact absurd e h1
    rw [if_pos h1] at h
    by_cases h2 : off < x.2
    · rw [if_pos h2]
      refine ⟨[(x.1, off)], (x.1, x.2 - off) :: r, rfl, ?_, ?_, ?_, fun hp => ?_, fun hp => ?_⟩
      · rw [fl_cons, fl_cons, fl_cons, fl_nil, List.append_nil, ← List.append_assoc, List.replicate_append_replicate, show off + (x.2 - off) = x.2 by omega]
      · rw [fl_cons, fl_nil, List.append_nil, cn_rep, if_pos h1]
      · rw [fl_cons, fl_nil, List.append_nil]; exact mini_rep h1
      · exact List.forall_mem_cons.mpr ⟨by dsimp only; omega, List.forall_mem_cons.mpr ⟨by dsimp only; omega, fun y hy => hp y (.tail _ hy)⟩⟩
      · exact List.forall_mem_cons.mpr ⟨hp x (.head _), List.forall_mem_cons.mpr ⟨hp x (.head _), fun y hy => hp y (.tail _ hy)⟩⟩
    · rw [if_neg h2]
      obtain ⟨X, Y, e1, e2, e3, e4, e5, e6⟩ := split_spec (l := r) (off := off - x.2) (by omega)
      rw [e1]
      refine ⟨x :: X, Y, rfl, by rw [fl_cons, fl_cons, List.append_assoc, e2], by rw [fl_cons, cn_app, cn_rep, if_pos h1, e3]; omega, Mini.app (mini_rep h1) e4, fun hp => ?_, fun hp => ?_⟩
      · exact List.forall_mem_cons.mpr ⟨hp _ (.head _), e5 fun y hy => hp y (.tail _ hy)⟩
      · exact List.forall_mem_cons.mpr ⟨hp _ (.head _), e6 fun y hy => hp y (.tail _ hy)⟩
theorem split_keep : ∀ {X Y : List Sr} {off : Nat}, cn (fl X) ≤ off → (split (X ++ Y) off).1 = X ++ (split Y (off - cn (fl X))).1
  | [], Y, off, _ => rfl
  | x :: X, Y, off, h => by
    rw [fl_cons, cn_app, cn_rep] at h ⊢
    rw [List.cons_append, split]
    by_cases h0 : off = 0
    · rw [if_pos h0, h0, Nat.zero_sub, split_zero]; rfl
    rw [if_neg h0]
    by_cases h1 : x.1.1 = false
    · rw [if_pos h1]
      rw [h1, if_neg Bool.false_ne_true, Nat.zero_add] at h ⊢
      dsimp only
      rw [split_keep h]; rfl
    rw [if_neg h1]
    have h1 : x.1.1 = true := by cases e : x.1.1 with | true => rfl | false => exact absurd e h1
    rw [if_pos h1] at h ⊢
    rw [if_neg (by omega)]
    dsimp only
    rw [split_keep (by omega), show off - x.2 - cn (fl X) = off - (x.2 + cn (fl X)) by omega]; rfl
theorem skip_spec : ∀ {K X Z : List Sr}, 0 < cn (fl K) → ∃ N Y, K = N ++ Y ∧ skipN (X ++ (K ++ Z)) X.length K.length = X.length + N.length ∧ cn (fl N) = 0 ∧ ∃ x Y', Y = x :: Y' ∧ x.1.1 = true
  | [], X, Z, h => by cases h
  | x :: K, X, Z, h => by
    rw [List.length_cons, skipN, List.getElem?_append_right (Nat.le_refl _), Nat.sub_self, List.cons_append, List.getElem?_cons_zero]
    cases e : x.1.1 with
    | true => exact ⟨[], x :: K, rfl, by simp [e], rfl, x, K, rfl, e⟩
    | false =>
      rw [fl_cons, cn_app, cn_rep, e, if_neg Bool.false_ne_true, Nat.zero_add] at h
      obtain ⟨N, Y, e1, e2, e3, e4⟩ := skip_spec (X := X ++ [x]) (Z := Z) h
      refine ⟨x :: N, Y, by rw [e1]; rfl, ?_, by rw [fl_cons, cn_app, cn_rep, e, if_neg Bool.false_ne_true, e3], e4⟩
      rw [if_pos (by simp [e])]
      rw [List.append_assoc, List.length_append, List.length_singleton] at e2
      rw [show x :: (K ++ Z) = [x] ++ (K ++ Z) from rfl, e2, List.length_cons]; omega
theorem rng_spec {l : List Sr} {q m : Nat} (hm : 0 < m) (h : q + m ≤ cn (fl l)) : ∃ X Y Z, rng3 l q (q + m) = (X ++ (Y ++ Z), X.length, X.length + Y.length) ∧ fl X ++ (fl Y ++ fl Z) = fl l ∧ cn (fl X) = q ∧ cn (fl Y) = m ∧ Mini (fl Y) ∧ (∃ x Y', Y = x :: Y' ∧ x.1.1 = true) ∧ (Pos l → Pos (X ++ (Y ++ Z))) ∧ (Sm l → Sm (X ++ (Y ++ Z))) := by
  obtain ⟨X1, Y1, a1, a2, a3, a4, a5, a6⟩ := split_spec (l := l) (off := q) (by omega)
  obtain ⟨X2, Y2, b1, b2, b3, b4, b5, b6⟩ := split_spec (l := X1 ++ Y1) (off := q + m) (by rw [fl_app, a2]; exact h)
  have hk := split_keep (X := X1) (Y := Y1) (off := q + m) (by omega)
  rw [b1] at hk
  obtain ⟨X3, Y3, c1, c2, c3, c4, c5, c6⟩ := split_spec (l := X2 ++ Y2) (off := q) (by rw [fl_app, b2, fl_app, a2]; omega)
  have hk2 : X3 ++ Y3 = X2 ++ Y2 := by
    have := split_keep (X := X1) (Y := (split Y1 (q + m - cn (fl X1))).1) (off := q) (by omega)
    rw [← hk, show q - cn (fl X1) = 0 by omega, split_zero, ← hk, c1] at this
    exact this
  have two : ∃ K, X2 = X3 ++ K ∧ Y3 = K ++ Y2 := by
    rcases List.append_eq_append_iff.mp hk2 with ⟨K, e1, e2⟩ | ⟨K, e1, e2⟩
    · exact ⟨K, e1, e2⟩
    · rw [e1, fl_app, cn_app] at c3; omega
  obtain ⟨K, rfl, rfl⟩ := two
  have hK : cn (fl K) = m := by rw [fl_app, cn_app] at b3; omega
  obtain ⟨N, Y, rfl, d2, d3, d4⟩ := skip_spec (K := K) (X := X3) (Z := Y2) (by omega)
  have hY : cn (fl Y) = m := by rw [fl_app, cn_app] at hK; omega
  refine ⟨X3 ++ N, Y, Y2, ?_, ?_, by rw [fl_app, cn_app]; omega, hY, ?_, d4, fun hp => ?_, fun hp => ?_⟩
  · unfold rng3
    rw [a1]; dsimp only
    rw [b1]; dsimp only
    rw [c1]; dsimp only
    rw [show (X3 ++ (N ++ Y)).length - X3.length = (N ++ Y).length by rw [List.length_append]; omega, d2]
    simp only [List.length_append, List.append_assoc, Nat.add_assoc]
  · rw [← a2, ← fl_app (l := X1), ← b2]
    simp only [fl_app, List.append_assoc]
  · rw [fl_app, fl_app] at b4
    exact Mini.right (fun e => by rw [e] at hY; exact absurd hY (Nat.ne_of_lt hm)) (Mini.right (a := fl X3) (fun e => by have := (List.append_eq_nil_iff.mp e).2; rw [this] at hY; exact absurd hY (Nat.ne_of_lt hm)) b4)
  · have := b5 (a5 hp); simpa [List.append_assoc] using this
  · have := b6 (a6 hp); simpa [List.append_assoc] using this
/-! what is in the text then, what is in the text beside -/
noncomputable def lab (T B : List Int) (x : Int) : Wd := (T.contains x, B.contains x)
noncomputable def vis (T B M : List Int) : List Wd := (M.filter fun x => T.contains x || B.contains x).map (lab T B)
theorem vis_app {T B M N : List Int} : vis T B (M ++ N) = vis T B M ++ vis T B N := by unfold vis; rw [List.filter_append, List.map_append]
theorem vis_congr {T B T' B' M : List Int} (h : ∀ x ∈ M, T.contains x = T'.contains x ∧ B.contains x = B'.contains x) : vis T B M = vis T' B' M := by
  unfold vis
  rw [List.filter_congr (q := fun x => T'.contains x || B'.contains x) fun x hx => by rw [(h x hx).1, (h x hx).2]]
  refine List.map_congr_left fun x hx => ?_
  have := h x (List.mem_filter.mp hx).1
  unfold lab
  rw [this.1, this.2]
theorem cn_vis {T B M : List Int} : cn (vis T B M) = (M.filter (T.contains ·)).length := by
  unfold cn vis
  rw [List.filter_map, List.length_map, List.filter_filter]
  congr 1
  refine List.filter_congr fun x _ => ?_
  show (T.contains x && _) = _
  cases T.contains x <;> rfl
noncomputable def hr (L : List Wd) : Nat := (L.filter fun w => !(w.1 && !w.2)).length
theorem here_fl {l : List Sr} : here l = hr (fl l) := by
  unfold here hr
  induction l with
  | nil => rfl
  | cons x l ih =>
    rw [fl_cons, List.filter_append, List.length_append, ← ih, List.filter_replicate, List.filter_cons]
    split
    · rw [List.map_cons, List.sum_cons, List.length_replicate]
    · rw [List.length_nil, Nat.zero_add]
theorem hr_vis {T B M : List Int} : hr (vis T B M) = (M.filter (B.contains ·)).length := by
  unfold hr vis
  rw [List.filter_map, List.length_map, List.filter_filter]
  congr 1
  refine List.filter_congr fun x _ => ?_
  show (!(T.contains x && !B.contains x) && _) = _
  cases T.contains x <;> cases B.contains x <;> rfl
theorem all_fl {l : List Sr} {p : Wd → Bool} (h : Pos l) : (l.all fun x => p x.1) = (fl l).all p := by
  induction l with
  | nil => rfl
  | cons x l ih =>
    rw [fl_cons, List.all_append, List.all_cons, ih fun y hy => h y (.tail _ hy), List.all_replicate]
    have := h x (.head _)
    rw [if_neg (by omega)]
theorem mid_split {A xs B M : List Int} (h : (A ++ (xs ++ B)).Sublist M) (hx : xs ≠ []) : ∃ M1 M2 M3, M = M1 ++ (M2 ++ M3) ∧ A.Sublist M1 ∧ xs.Sublist M2 ∧ B.Sublist M3 ∧ M2.head? = xs.head? ∧ M2.getLast? = xs.getLast? := by
  cases xs with
  | nil => exact absurd rfl hx
  | cons x xs =>
    obtain ⟨L1, L2, rfl, h1, h2⟩ := sub_split h
    rcases List.eq_nil_or_concat xs with rfl | ⟨ys, y, rfl⟩
    · exact ⟨L1, [x], L2, rfl, h1, List.Sublist.refl _, h2, rfl, rfl⟩
    · rw [List.concat_eq_append] at h2 ⊢
      have h2 : (ys ++ [y] ++ B).Sublist L2 := h2
      rw [List.append_assoc] at h2
      obtain ⟨N1, N2, rfl, h3, h4⟩ := sub_split h2
      refine ⟨L1, x :: (N1 ++ [y]), N2, by simp, h1, (h3.append (List.Sublist.refl _)).cons_cons _, h4, rfl, ?_⟩
      rw [← List.cons_append, ← List.cons_append, List.getLast?_concat, List.getLast?_concat]
theorem mid_filter {A xs B M1 M2 M3 : List Int} (hn : (M1 ++ (M2 ++ M3)).Nodup) (h1 : A.Sublist M1) (h2 : xs.Sublist M2) (h3 : B.Sublist M3) : M1.filter ((A ++ (xs ++ B)).contains ·) = A ∧ M2.filter ((A ++ (xs ++ B)).contains ·) = xs ∧ M3.filter ((A ++ (xs ++ B)).contains ·) = B := by
  have h := filter_sub (h1.append (h2.append h3)) hn
  rw [List.filter_append, List.filter_append] at h
  have hin : ∀ {S N : List Int}, S.Sublist N → (∀ x ∈ S, x ∈ A ++ (xs ++ B)) → S.Sublist (N.filter ((A ++ (xs ++ B)).contains ·)) := fun {S N} hs hi => by
    have := hs.filter ((A ++ (xs ++ B)).contains ·)
    rwa [List.filter_eq_self.mpr fun x hx => List.contains_iff_mem.mpr (hi x hx)] at this
  have k1 := hin h1 fun x hx => List.mem_append_left _ hx
  have k2 := hin h2 fun x hx => List.mem_append_right _ (List.mem_append_left _ hx)
  have k3 := hin h3 fun x hx => List.mem_append_right _ (List.mem_append_right _ hx)
  have hl := congrArg List.length h
  simp only [List.length_append] at hl
  have l1 := k1.length_le
  have l2 := k2.length_le
  have l3 := k3.length_le
  exact ⟨(k1.eq_of_length (by omega)).symm, (k2.eq_of_length (by omega)).symm, (k3.eq_of_length (by omega)).symm⟩
theorem erase_all : ∀ {xs B : List Int}, B.Nodup → (xs.foldl List.erase B).Nodup ∧ ∀ y, y ∈ xs.foldl List.erase B ↔ y ∈ B ∧ y ∉ xs
  | [], B, h => ⟨h, fun y => by simp⟩
  | x :: xs, B, h => by
    obtain ⟨a, b⟩ := erase_all (xs := xs) (h.erase x)
    refine ⟨a, fun y => ?_⟩
    rw [List.foldl_cons, b, h.mem_erase_iff, List.mem_cons]
    constructor
    · rintro ⟨⟨h1, h2⟩, h3⟩; exact ⟨h2, fun h => h.elim h1 h3⟩
    · rintro ⟨h1, h2⟩; exact ⟨⟨fun h => h2 (.inl h), h1⟩, fun h => h2 (.inr h)⟩
theorem erase_len : ∀ {xs B : List Int}, xs.Nodup → (∀ x ∈ xs, x ∈ B) → (xs.foldl List.erase B).length + xs.length = B.length
  | [], B, _, _ => rfl
  | x :: xs, B, h, hs => by
    obtain ⟨h1, h2⟩ := List.nodup_cons.mp h
    have hx := hs x (.head _)
    have := erase_len (xs := xs) (B := B.erase x) h2 fun y hy => (List.mem_erase_of_ne fun e : y = x => h1 (e ▸ hy)).mpr (hs y (.tail _ hy))
    have := List.length_erase_of_mem hx
    have := List.length_pos_of_mem hx
    rw [List.foldl_cons, List.length_cons]; omega
theorem sub_len {B M : List Int} (hb : B.Nodup) (hm : M.Nodup) (h : ∀ x ∈ B, x ∈ M) : (M.filter (B.contains ·)).length = B.length := by
  refine List.Perm.length_eq ?_
  refine (List.perm_ext_iff_of_nodup (hm.filter _) hb).mpr fun x => ?_
  rw [List.mem_filter, List.contains_iff_mem]
  exact ⟨fun h => h.2, fun h' => ⟨h x h', h'⟩⟩
structure Sim (M T B : List Int) (l : List Sr) (st en : Int) : Prop where
  s1 : fl l = vis T B M
  s2 : ∀ x ∈ B, x ∈ M
  s3 : B.Nodup
  s4 : Pos l ∨ (Sm l ∧ st = 1 ∧ en = B.length + 1)
/-- a range found: what the stretches and those ever there are cut into -/
structure Rng (A xs B_ M B : List Int) (l : List Sr) (X Y Z : List Sr) (M1 M2 M3 : List Int) : Prop where
  e : rng3 l A.length (A.length + xs.length) = (X ++ (Y ++ Z), X.length, X.length + Y.length)
  eM : M = M1 ++ (M2 ++ M3)
  fX : fl X = vis (A ++ (xs ++ B_)) B M1
  fY : fl Y = vis (A ++ (xs ++ B_)) B M2
  fZ : fl Z = vis (A ++ (xs ++ B_)) B M3
  f1 : M1.filter ((A ++ (xs ++ B_)).contains ·) = A
  f2 : M2.filter ((A ++ (xs ++ B_)).contains ·) = xs
  f3 : M3.filter ((A ++ (xs ++ B_)).contains ·) = B_
  g1 : M2.head? = xs.head?
  g2 : M2.getLast? = xs.getLast?
  hP : Pos l → Pos (X ++ (Y ++ Z))
  hS : Sm l → Sm (X ++ (Y ++ Z))
  hY : Y ≠ []
theorem lab_heady {T B M : List Int} (h : ∀ w, M.head? = some w → w ∈ T) : Heady (vis T B M) := fun w hw => by
  cases M with
  | nil => cases hw
  | cons x M =>
    have hx := List.contains_iff_mem.mpr (h x rfl)
    unfold vis at hw
    rw [List.filter_cons_of_pos (by rw [hx]; rfl)] at hw
    injection hw with hw
    rw [← hw]; exact hx
theorem lab_mini {T B M : List Int} (h : ∀ w, M.getLast? = some w → w ∈ T) : Mini (vis T B M) := fun w hw => by
  rcases List.eq_nil_or_concat M with rfl | ⟨N, x, rfl⟩
  · cases hw
  · rw [List.concat_eq_append] at h hw
    have hx := List.contains_iff_mem.mpr (h x List.getLast?_concat)
    unfold vis at hw
    rw [List.filter_append, List.filter_cons_of_pos (by rw [hx]; rfl), List.map_append, List.filter_nil, List.map_singleton, List.getLast?_concat] at hw
    injection hw with hw
    rw [← hw]; exact hx
theorem rng_sim {A xs B_ M B : List Int} {l : List Sr} {st en : Int} (hT : (A ++ (xs ++ B_)).Sublist M) (hn : M.Nodup) (hx : xs ≠ []) (S : Sim M (A ++ (xs ++ B_)) B l st en) : ∃ X Y Z M1 M2 M3, Rng A xs B_ M B l X Y Z M1 M2 M3 := by
  obtain ⟨M1, M2, M3, rfl, k1, k2, k3, g1, g2⟩ := mid_split hT hx
  obtain ⟨f1, f2, f3⟩ := mid_filter hn k1 k2 k3
  have hxl : 0 < xs.length := List.length_pos_iff.mpr hx
  have hc : cn (fl l) = A.length + (xs.length + B_.length) := by
    rw [S.s1, cn_vis, List.filter_append, List.filter_append, f1, f2, f3]; simp
  obtain ⟨X, Y, Z, e, e1, e2, e3, e4, ⟨x, Y', e5, e6⟩, e7, e8⟩ := rng_spec (l := l) (q := A.length) (m := xs.length) hxl (by omega)
  have hYn : fl Y ≠ [] := fun k => by rw [k] at e3; exact absurd e3 (Nat.ne_of_lt hxl)
  have hvn : vis (A ++ (xs ++ B_)) B M2 ≠ [] := fun k => by
    have := cn_vis (T := A ++ (xs ++ B_)) (B := B) (M := M2)
    rw [k, f2] at this; exact absurd this (Nat.ne_of_lt hxl)
  have hxT : ∀ w ∈ xs, w ∈ A ++ (xs ++ B_) := fun w hw => List.mem_append_right _ (List.mem_append_left _ hw)
  have hE := e1.trans S.s1
  rw [vis_app, vis_app] at hE
  have hE2 : (fl X ++ fl Y) ++ fl Z = (vis (A ++ (xs ++ B_)) B M1 ++ vis (A ++ (xs ++ B_)) B M2) ++ vis (A ++ (xs ++ B_)) B M3 := by rw [List.append_assoc, List.append_assoc]; exact hE
  obtain ⟨h1, h2⟩ := mini_uniq (Mini.app' hYn e4) (Mini.app' hvn (lab_mini fun w hw => hxT w (List.mem_of_getLast? (g2 ▸ hw)))) hE2 (by rw [cn_app, cn_app, cn_vis, cn_vis, f1, f2, e2, e3])
  have hH : Heady (fl Y) := by
    rcases S.s4 with hp | ⟨hp, _⟩
    · intro w hw
      rw [e5, fl_cons] at hw
      have hx0 := e7 hp x (by rw [e5]; simp)
      obtain ⟨n, hn⟩ : ∃ n, x.2 = n + 1 := ⟨x.2 - 1, by omega⟩
      rw [hn, List.replicate_succ] at hw
      injection hw with hw
      rw [← hw]; exact e6
    · intro w hw
      have := List.mem_of_mem_head? hw
      unfold fl at this
      obtain ⟨y, hy, hy'⟩ := List.mem_flatMap.mp this
      rw [(List.mem_replicate.mp hy').2, e8 hp y (by simp [hy])]
  obtain ⟨h3, h4⟩ := head_uniq hH (lab_heady fun w hw => hxT w (List.mem_of_mem_head? (g1 ▸ hw))) h1 (by rw [cn_vis, f1, e2])
  exact ⟨X, Y, Z, M1, M2, M3, e, rfl, h3, h4, h2, f1, f2, f3, g1, g2, e7, e8, fun k => hYn (by rw [k]; rfl)⟩
theorem take3 {α : Type} {X Y Z : List α} : (X ++ (Y ++ Z)).take X.length = X ∧ ((X ++ (Y ++ Z)).drop X.length).take (X.length + Y.length - X.length) = Y ∧ (X ++ (Y ++ Z)).drop (max X.length (X.length + Y.length)) = Z := by
  refine ⟨List.take_left' rfl, ?_, ?_⟩
  · rw [List.drop_left' rfl, Nat.add_sub_cancel_left, List.take_left' rfl]
  · rw [Nat.max_eq_right (Nat.le_add_right _ _), ← List.drop_drop, List.drop_left' rfl, List.drop_left' rfl]
theorem vis_same {T B M : List Int} {Y : List Sr} (hf : fl Y = vis T B M) (h : Pos Y ∨ Sm Y) : (Y.all fun x => x.1.1 && x.1.2) = true ↔ ∀ x ∈ M, (T.contains x || B.contains x) = true → T.contains x = true ∧ B.contains x = true := by
  have e : ((vis T B M).all fun w => w.1 && w.2) = true ↔ ∀ x ∈ M, (T.contains x || B.contains x) = true → T.contains x = true ∧ B.contains x = true := by
    unfold vis lab
    rw [List.all_eq_true]
    constructor
    · intro h x hx hx'
      have := h _ (List.mem_map.mpr ⟨x, List.mem_filter.mpr ⟨hx, hx'⟩, rfl⟩)
      exact (Bool.and_eq_true _ _).mp this
    · intro h w hw
      obtain ⟨x, hx, rfl⟩ := List.mem_map.mp hw
      obtain ⟨h1, h2⟩ := List.mem_filter.mp hx
      exact (Bool.and_eq_true _ _).mpr (h x h1 h2)
  rcases h with h | h
  · rw [← e, ← hf, ← all_fl (p := fun w => w.1 && w.2) h]
  · rw [← e, ← hf]
    have h1 : (Y.all fun x => x.1.1 && x.1.2) = true := List.all_eq_true.mpr fun x hx => by rw [h x hx]; rfl
    have h2 : ((fl Y).all fun w => w.1 && w.2) = true := List.all_eq_true.mpr fun w hw => by
      unfold fl at hw
      obtain ⟨y, hy, hy'⟩ := List.mem_flatMap.mp hw
      rw [(List.mem_replicate.mp hy').2, h y hy]; rfl
    rw [h1, h2]
theorem nil_of_take {M2 M3 xs : List Int} {B : List Int} (hn : (M2.filter (B.contains ·)).Nodup) (hg : M2.getLast? = xs.getLast?) (hx : xs ≠ []) (hB : ∀ x ∈ xs, x ∈ B) (hs : xs.length ≤ (M2.filter (B.contains ·)).length) (ht : (M2.filter (B.contains ·) ++ M3).take xs.length = xs) : M2.filter (B.contains ·) = xs := by
  rw [List.take_append_of_le_length hs] at ht
  have e : M2.filter (B.contains ·) = xs ++ (M2.filter (B.contains ·)).drop xs.length := by
    conv => lhs; rw [← List.take_append_drop xs.length (M2.filter (B.contains ·))]
    rw [ht]
  revert e
  generalize (M2.filter (B.contains ·)).drop xs.length = K
  intro e
  cases K with
  | nil => rw [e, List.append_nil]
  | cons k K =>
    exfalso
    have hl := List.getLast?_eq_some_getLast hx
    have hy : xs.getLast hx ∈ B := hB _ (List.getLast_mem hx)
    rw [hl] at hg
    rcases List.eq_nil_or_concat M2 with e2 | ⟨N, y, e2⟩
    · rw [e2] at hg; cases hg
    · rw [List.concat_eq_append] at e2
      rw [e2, List.getLast?_concat] at hg
      injection hg with hg
      have hyc : B.contains y = true := List.contains_iff_mem.mpr (hg ▸ hy)
      have e3 : (M2.filter (B.contains ·)).getLast? = some y := by rw [e2, List.filter_append, List.filter_cons_of_pos hyc]; exact List.getLast?_concat
      have e4 : y ∈ k :: K := by
        rw [e, List.getLast?_append, List.getLast?_eq_some_getLast (List.cons_ne_nil k K)] at e3
        injection e3 with e3
        exact e3 ▸ List.getLast_mem _
      rw [e] at hn
      exact nd_two hn y (hg ▸ List.getLast_mem hx) e4
theorem bb : ∀ {a b : Bool}, ((a || b) = true → a = true ∧ b = true) → b = a := by decide
theorem Sim.good {M T B : List Int} {l l' : List Sr} {st en : Int} (S : Sim M T B l st en) (hP : Pos l → Pos l') (hS : Sm l → Sm l') : Pos l' ∨ Sm l' := S.s4.elim (fun h => .inl (hP h)) fun h => .inr (hS h.1)
theorem ok_eq {O A xs B_ M B M1 M2 M3 : List Int} {l X Y Z : List Sr} {st en : Int} (hM : M.Sublist O) (ho : O.Nodup) (hx : xs ≠ []) (S : Sim M (A ++ (xs ++ B_)) B l st en) (R : Rng A xs B_ M B l X Y Z M1 M2 M3) :
    okR (X ++ (Y ++ Z), X.length, X.length + Y.length) st en xs.length = lawIn B O st en xs ∧ (lawIn B O st en xs = true → (nowB B O).idxOf (xs.headD 0) = here X ∧ (∀ x ∈ xs, x ∈ B) ∧ M2.filter (B.contains ·) = xs) ∧ (M1 ++ (M2 ++ M3)).Nodup := by
  have hn := ho.sublist hM
  rw [R.eM] at hn
  have hn2 : M2.Nodup := (List.nodup_append.mp (List.nodup_append.mp hn).2.1).1
  have hnow : nowB B O = M1.filter (B.contains ·) ++ (M2.filter (B.contains ·) ++ M3.filter (B.contains ·)) := by
    unfold nowB
    rw [filter_in hM ho S.s2, R.eM, List.filter_append, List.filter_append]
  have hk : here X = (M1.filter (B.contains ·)).length := by rw [here_fl, R.fX, hr_vis]
  have hg : Pos Y ∨ Sm Y := by
    have h := S.good R.hP R.hS
    exact h.imp (fun h x hx => h x (by simp [hx])) fun h x hx => h x (by simp [hx])
  have hall := vis_same R.fY hg
  have hcut := take3 (X := X) (Y := Y) (Z := Z)
  have hYl : 0 < Y.length := List.length_pos_iff.mpr R.hY
  have hmem : ∀ x ∈ xs, x ∈ M2 ∧ (A ++ (xs ++ B_)).contains x = true := fun x hx => by
    rw [← R.f2] at hx
    exact List.mem_filter.mp hx
  have hidx : (∀ x ∈ xs, x ∈ B) → (nowB B O).idxOf (xs.headD 0) = (M1.filter (B.contains ·)).length := fun hB => by
    cases xs with
    | nil => exact absurd rfl hx
    | cons x xs =>
      have g1 := R.g1
      cases M2 with
      | nil => cases g1
      | cons y M2 =>
        injection g1 with g1; subst g1
        rw [hnow, List.filter_cons_of_pos (List.contains_iff_mem.mpr (hB y (.head _)))]
        show (M1.filter (B.contains ·) ++ y :: _).idxOf y = _
        rw [idx_mid]
        intro h
        exact (nd_mid (B := M2 ++ M3) (by simpa using hn)).1 (List.mem_filter.mp h).1
  have hlaw : ∀ (hl : (∀ x ∈ xs, x ∈ B) ∧ ((nowB B O).drop ((nowB B O).idxOf (xs.headD 0))).take xs.length = xs), M2.filter (B.contains ·) = xs := fun ⟨hB, ht⟩ => by
    rw [hidx hB, hnow, List.drop_left' rfl] at ht
    refine nil_of_take (hn2.filter _) R.g2 hx hB ?_ ht
    have : (xs.filter (B.contains ·)).Sublist (M2.filter (B.contains ·)) := by
      refine List.Sublist.filter _ ?_
      have := List.filter_sublist (p := ((A ++ (xs ++ B_)).contains ·)) (l := M2)
      rwa [R.f2] at this
    rw [List.filter_eq_self.mpr fun x hx => List.contains_iff_mem.mpr (hB x hx)] at this
    exact this.length_le
  have key : (Y.all fun x => x.1.1 && x.1.2) = true ↔ (∀ x ∈ xs, x ∈ B) ∧ ((nowB B O).drop ((nowB B O).idxOf (xs.headD 0))).take xs.length = xs := by
    rw [hall]
    constructor
    · intro h
      have hB : ∀ x ∈ xs, x ∈ B := fun x hx => by
        obtain ⟨h1, h2⟩ := hmem x hx
        exact List.contains_iff_mem.mp (h x h1 (by rw [h2]; rfl)).2
      have e2 : M2.filter (B.contains ·) = xs := by
        refine Eq.trans (List.filter_congr fun x hx => bb (h x hx)) R.f2
      refine ⟨hB, ?_⟩
      rw [hidx hB, hnow, List.drop_left' rfl, e2, List.take_left' rfl]
    · intro h x hx hx'
      have e2 := hlaw h
      rw [Bool.or_eq_true] at hx'
      have : x ∈ xs := by
        rcases hx' with hx' | hx'
        · rw [← R.f2]; exact List.mem_filter.mpr ⟨hx, hx'⟩
        · rw [← e2]; exact List.mem_filter.mpr ⟨hx, hx'⟩
      exact ⟨(hmem x this).2, List.contains_iff_mem.mpr (h.1 x this)⟩
  have hallB : xs.all (B.contains ·) = true ↔ ∀ x ∈ xs, x ∈ B := by
    rw [List.all_eq_true]
    exact ⟨fun h x hx => List.contains_iff_mem.mp (h x hx), fun h x hx => List.contains_iff_mem.mpr (h x hx)⟩
  have hin : lawIn B O st en xs = true → (∀ x ∈ xs, x ∈ B) ∧ ((nowB B O).drop ((nowB B O).idxOf (xs.headD 0))).take xs.length = xs := fun h => by
    unfold lawIn lawAt at h
    rw [Bool.and_eq_true, Bool.and_eq_true, hallB, decide_eq_true_iff] at h
    exact ⟨h.1, h.2.1⟩
  refine ⟨?_, fun h => ⟨by rw [hidx (hin h).1, hk], (hin h).1, hlaw (hin h)⟩, hn⟩
  cases hc : (Y.all fun x => x.1.1 && x.1.2) with
  | false =>
    have : lawIn B O st en xs = false := by
      rw [Bool.eq_false_iff]; intro h
      rw [key.mpr (hin h)] at hc; cases hc
    rw [this]
    unfold okR untouched
    dsimp only
    rw [hcut.2.1, hc, Bool.and_false, Bool.false_and]
  | true =>
    obtain ⟨hB, ht⟩ := key.mp hc
    unfold okR untouched lawIn lawAt
    dsimp only
    rw [hcut.2.1, hc, hallB.mpr hB, ht, hidx hB, hcut.1, hk, decide_eq_true (show X.length < X.length + Y.length by omega)]
    simp only [Bool.true_and, decide_true, Int.add_comm 1]
/-- undoing an insertion: alike in the stretches and in the law -/
theorem sim_ins {O A xs B_ M B : List Int} {l : List Sr} {st en : Int} (hT : (A ++ (xs ++ B_)).Sublist M) (hM : M.Sublist O) (ho : O.Nodup) (hx : xs ≠ []) (hst : 1 ≤ st) (S : Sim M (A ++ (xs ++ B_)) B l st en) :
    (undo l st en (.ins A.length xs.length)).2 = (lawU B O st en (.ins xs A.length)).2 ∧ Sim M (A ++ B_) (lawU B O st en (.ins xs A.length)).1 (undo l st en (.ins A.length xs.length)).1 st (lawU B O st en (.ins xs A.length)).2.1 := by
  obtain ⟨X, Y, Z, M1, M2, M3, R⟩ := rng_sim hT (ho.sublist hM) hx S
  obtain ⟨h1, h2, hn⟩ := ok_eq hM ho hx S R
  obtain ⟨c1, c2, c3⟩ := take3 (X := X) (Y := Y) (Z := Z)
  have hxn : xs.Nodup := (List.nodup_append.mp (List.nodup_append.mp ((ho.sublist hM).sublist hT)).2.1).1
  have hxM : ∀ x ∈ xs, x ∈ M2 := fun x hx => by rw [← R.f2] at hx; exact (List.mem_filter.mp hx).1
  obtain ⟨n1, n2, n3⟩ := List.nodup_append.mp hn
  obtain ⟨n4, n5, n6⟩ := List.nodup_append.mp n2
  have hX1 : ∀ x ∈ M1, x ∉ xs := fun x h k => n3 x h x (List.mem_append_left _ (hxM x k)) rfl
  have hX3 : ∀ x ∈ M3, x ∉ xs := fun x h k => n6 x (hxM x k) x h rfl
  have hTx : ∀ x, x ∉ xs → (A ++ (xs ++ B_)).contains x = (A ++ B_).contains x := fun x h => by
    rw [Bool.eq_iff_iff, List.contains_iff_mem, List.contains_iff_mem]; simp [h]
  have hTn : (A ++ (xs ++ B_)).Nodup := (ho.sublist hM).sublist hT
  have hTy : ∀ x ∈ M2, (A ++ B_).contains x = false := fun x h => by
    rw [Bool.eq_false_iff]; intro k
    have k := List.contains_iff_mem.mp k
    have kx : x ∈ xs := by
      rw [← R.f2]
      refine List.mem_filter.mpr ⟨h, List.contains_iff_mem.mpr ?_⟩
      simp only [List.mem_append] at k ⊢
      exact k.elim .inl fun k => .inr (.inr k)
    rw [List.nodup_append, List.nodup_append] at hTn
    rcases List.mem_append.mp k with k | k
    · exact hTn.2.2 x k x (List.mem_append_left _ kx) rfl
    · exact hTn.2.1.2.2 x kx x k rfl
  show (insR (rng3 l A.length (A.length + xs.length)) st en xs.length).2 = _ ∧ Sim _ _ _ (insR (rng3 l A.length (A.length + xs.length)) st en xs.length).1 _ _
  rw [R.e]
  unfold insR lawU
  dsimp only
  rw [h1]
  by_cases hl : lawIn B O st en xs = true
  · obtain ⟨k1, k2, k3⟩ := h2 hl
    rw [if_pos hl, if_pos hl, c1, c3, k1]
    refine ⟨rfl, ?_⟩
    dsimp only
    obtain ⟨b1, b2⟩ := erase_all (xs := xs) S.s3
    have hBx : ∀ x, x ∉ xs → B.contains x = (xs.foldl List.erase B).contains x := fun x h => by
      rw [Bool.eq_iff_iff, List.contains_iff_mem, List.contains_iff_mem, b2]; simp [h]
    refine ⟨?_, fun x hx => S.s2 x ((b2 x).mp hx).1, b1, ?_⟩
    · rw [fl_app, R.fX, R.fZ, R.eM, vis_app, vis_app, vis_congr (M := M1) fun x hx => ⟨hTx x (hX1 x hx), hBx x (hX1 x hx)⟩, vis_congr (M := M3) fun x hx => ⟨hTx x (hX3 x hx), hBx x (hX3 x hx)⟩]
      congr 1
      have : vis (A ++ B_) (xs.foldl List.erase B) M2 = [] := by
        unfold vis
        rw [List.filter_eq_nil_iff.mpr, List.map_nil]
        intro x hx
        rw [hTy x hx, Bool.false_or]
        intro hk
        obtain ⟨k4, k5⟩ := (b2 x).mp (List.contains_iff_mem.mp hk)
        exact k5 (by rw [← k3]; exact List.mem_filter.mpr ⟨hx, List.contains_iff_mem.mpr k4⟩)
      rw [this, List.nil_append]
    · have hlen := erase_len hxn k2
      refine S.s4.imp (fun h => ?_) fun h => ⟨?_, h.2.1, ?_⟩
      · intro x hx
        exact R.hP h x (by rcases List.mem_append.mp hx with hx | hx <;> simp [hx])
      · intro x hx
        exact R.hS h.1 x (by rcases List.mem_append.mp hx with hx | hx <;> simp [hx])
      · have := h.2.2; omega
  · rw [if_neg hl, if_neg hl, c1, c2, c3]
    refine ⟨rfl, ?_⟩
    dsimp only
    refine ⟨?_, S.s2, S.s3, ?_⟩
    · have hY : fl (newed Y) = vis (A ++ B_) B M2 := by
        have e1 : fl (newed Y) = ((fl Y).filter fun w => !(w.1 && !w.2)).map fun _ => (false, true) := by
          unfold newed
          clear c1 c2 c3 h1 h2 R
          induction Y with
          | nil => rfl
          | cons x Y ih =>
            rw [fl_cons, List.filter_append, List.map_append, ← ih, List.filter_cons, List.filter_replicate]
            split
            · rw [List.map_cons, fl_cons, List.map_replicate]
            · rfl
        rw [e1, R.fY]
        unfold vis
        rw [List.filter_map, List.map_map, List.filter_filter]
        have e2 : (M2.filter fun x => (A ++ B_).contains x || B.contains x) = M2.filter (B.contains ·) := List.filter_congr fun x hx => by rw [hTy x hx, Bool.false_or]
        have e3 : (M2.filter fun x => ((fun w : Wd => !(w.1 && !w.2)) ∘ lab (A ++ (xs ++ B_)) B) x && ((A ++ (xs ++ B_)).contains x || B.contains x)) = M2.filter (B.contains ·) := List.filter_congr fun x _ => by
          show (!((A ++ (xs ++ B_)).contains x && !B.contains x) && _) = _
          cases (A ++ (xs ++ B_)).contains x <;> cases B.contains x <;> rfl
        rw [e2, e3]
        refine List.map_congr_left fun x hx => ?_
        obtain ⟨q1, q2⟩ := List.mem_filter.mp hx
        unfold lab
        rw [hTy x q1, q2]; rfl
      rw [fl_app, fl_app, hY, R.fX, R.fZ, R.eM, vis_app, vis_app, vis_congr (M := M1) fun x hx => ⟨hTx x (hX1 x hx), rfl⟩, vis_congr (M := M3) fun x hx => ⟨hTx x (hX3 x hx), rfl⟩, List.append_assoc]
    · rcases S.s4 with h | ⟨h, e1, e2⟩
      · refine .inl fun x hx => ?_
        have hp := R.hP h
        simp only [List.mem_append] at hx
        rcases hx with (hx | hx) | hx
        · exact hp x (by simp [hx])
        · unfold newed at hx
          obtain ⟨y, hy, rfl⟩ := List.mem_map.mp hx
          exact hp y (by simp [(List.mem_filter.mp hy).1])
        · exact hp x (by simp [hx])
      · exfalso
        apply hl
        rw [← h1]
        have hs := R.hS h
        have hB : (M.filter (B.contains ·)).length = B.length := sub_len S.s3 (ho.sublist hM) S.s2
        have hall : (Y.all fun x => x.1.1 && x.1.2) = true := List.all_eq_true.mpr fun x hx => by rw [hs x (by simp [hx])]; rfl
        have hk : here X = (M1.filter (B.contains ·)).length := by rw [here_fl, R.fX, hr_vis]
        have hM2 : xs.length ≤ (M2.filter (B.contains ·)).length := by
          have hv := (vis_same R.fY (.inr fun x hx => hs x (by simp [hx]))).mp hall
          have : xs = M2.filter (B.contains ·) := by
            conv => lhs; rw [← R.f2]
            exact List.filter_congr fun x hx => (bb (hv x hx)).symm
          rw [← this]; exact Nat.le_refl _
        have hYl : 0 < Y.length := List.length_pos_iff.mpr R.hY
        rw [R.eM, List.filter_append, List.filter_append, List.length_append, List.length_append] at hB
        unfold okR untouched
        dsimp only
        rw [c2, hall, c1, hk, decide_eq_true (show X.length < X.length + Y.length by omega), decide_eq_true (show st ≤ 1 + ((M1.filter (B.contains ·)).length : Int) by omega), decide_eq_true (show (1 + ((M1.filter (B.contains ·)).length : Int) + xs.length) ≤ en by omega)]
        rfl
theorem sim_prop {O A xs B_ M B : List Int} {l : List Sr} {st en : Int} (hT : (A ++ (xs ++ B_)).Sublist M) (hM : M.Sublist O) (ho : O.Nodup) (hx : xs ≠ []) (S : Sim M (A ++ (xs ++ B_)) B l st en) :
    (undo l st en (.prop A.length xs.length A.length)).2 = (lawU B O st en (.prop xs A.length)).2 ∧ Sim M (A ++ (xs ++ B_)) B (undo l st en (.prop A.length xs.length A.length)).1 st en := by
  obtain ⟨X, Y, Z, M1, M2, M3, R⟩ := rng_sim hT (ho.sublist hM) hx S
  obtain ⟨h1, h2, hn⟩ := ok_eq hM ho hx S R
  obtain ⟨c1, c2, c3⟩ := take3 (X := X) (Y := Y) (Z := Z)
  show (propR (rng3 l A.length (A.length + xs.length)) st en xs.length A.length).2 = _ ∧ Sim _ _ _ (propR (rng3 l A.length (A.length + xs.length)) st en xs.length A.length).1 _ _
  rw [R.e]
  unfold propR lawU
  dsimp only
  rw [h1, c1]
  constructor
  · by_cases hl : lawIn B O st en xs = true
    · rw [if_pos hl, if_pos hl, (h2 hl).1]
    · rw [if_neg hl, if_neg hl]
  · exact ⟨by rw [fl_app, fl_app, R.fX, R.fY, R.fZ, R.eM, vis_app, vis_app], S.s2, S.s3, S.s4.imp R.hP fun h => ⟨R.hS h.1, h.2⟩⟩
theorem vis_const {T B : List Int} {b : Bool} : ∀ {xs : List Int}, (∀ x ∈ xs, T.contains x = true ∧ B.contains x = b) → vis T B xs = List.replicate xs.length (true, b)
  | [], _ => rfl
  | x :: xs, h => by
    obtain ⟨h1, h2⟩ := h x (.head _)
    have ih := vis_const (xs := xs) fun y hy => h y (.tail _ hy)
    unfold vis at ih ⊢
    rw [List.filter_cons_of_pos (by rw [h1]; rfl), List.map_cons, ih, List.length_cons, List.replicate_succ]
    unfold lab
    rw [h1, h2]
theorem last_split {A B M1 M2 : List Int} (h : (A ++ B).Sublist (M1 ++ M2)) (hn : (M1 ++ M2).Nodup) (e : M1.getLast? = A.getLast?) : A.Sublist M1 ∧ B.Sublist M2 := by
  rcases List.eq_nil_or_concat A with rfl | ⟨A', a, rfl⟩
  · have : M1 = [] := List.getLast?_eq_none_iff.mp e
    subst this
    exact ⟨List.Sublist.refl _, h⟩
  · rcases List.eq_nil_or_concat M1 with rfl | ⟨N, y, rfl⟩
    · rw [List.concat_eq_append, List.getLast?_concat] at e; cases e
    · rw [List.concat_eq_append, List.concat_eq_append, List.getLast?_concat, List.getLast?_concat] at e
      injection e with e; subst e
      rw [List.concat_eq_append] at h hn ⊢
      rw [List.concat_eq_append] at h ⊢
      rw [List.append_assoc] at h hn
      rw [List.append_assoc] at h
      obtain ⟨L1, L2, e, h1, h2⟩ := sub_split h
      obtain ⟨rfl, rfl⟩ := nd_uniq hn e
      exact ⟨h1.append (List.Sublist.refl _), h2⟩
theorem sim_del {O A xs B_ M1 M2 B : List Int} {l : List Sr} {st en : Int} {b : Bool} (hT : (A ++ B_).Sublist (M1 ++ M2)) (hM : (M1 ++ (xs ++ M2)).Sublist O) (ho : O.Nodup) (hx : xs ≠ []) (hl : M1.getLast? = A.getLast?) (S : Sim (M1 ++ M2) (A ++ B_) B l st en) :
    (undo l st en (.del A.length xs b)).2 = (lawU B O st en (.del xs A.length b)).2 ∧ Sim (M1 ++ (xs ++ M2)) (A ++ (xs ++ B_)) (lawU B O st en (.del xs A.length b)).1 (undo l st en (.del A.length xs b)).1 st (lawU B O st en (.del xs A.length b)).2.1 := by
  have hn := ho.sublist hM
  have hn0 : (M1 ++ M2).Nodup := hn.sublist ((List.Sublist.refl _).append (List.sublist_append_right _ _))
  obtain ⟨k1, k2⟩ := last_split hT hn0 hl
  obtain ⟨f1, _, f3⟩ := mid_filter (xs := []) (M2 := []) hn0 k1 (List.Sublist.refl _) k2
  change M1.filter ((A ++ B_).contains ·) = A at f1
  change M2.filter ((A ++ B_).contains ·) = B_ at f3
  have hc : cn (fl l) = A.length + B_.length := by rw [S.s1, cn_vis, List.filter_append, f1, f3, List.length_append]
  obtain ⟨X, Y, e1, e2, e3, e4, e5, e6⟩ := split_spec (l := l) (off := A.length) (by omega)
  rw [S.s1, vis_app] at e2
  have hAT : ∀ w ∈ A, w ∈ A ++ B_ := fun w hw => List.mem_append_left _ hw
  obtain ⟨g1, g2⟩ := mini_uniq e4 (lab_mini fun w hw => hAT w (List.mem_of_getLast? (hl ▸ hw))) e2 (by rw [cn_vis, f1, e3])
  have hk : here X = (M1.filter (B.contains ·)).length := by rw [here_fl, g1, hr_vis]
  have hB' : ∀ x ∈ B, x ∈ M1 ∨ x ∈ M2 := fun x h => List.mem_append.mp (S.s2 x h)
  have hcnt : cntB B O (xs.headD 0) = here X := by
    rw [hk]
    unfold cntB
    cases xs with
    | nil => exact absurd rfl hx
    | cons x xs =>
      show ((O.take (O.idxOf x)).filter _).length = _
      rw [cnt_mid (A := M1) (R := xs ++ M2) hM ho fun y hy => by rcases hB' y hy with h | h <;> simp [h]]
  have hd := nd_two hn
  have hd2 := nd_two (List.nodup_append.mp hn).2.1
  have hxB : ∀ x ∈ xs, x ∉ B := fun x h k => (hB' x k).elim (fun h1 => hd x h1 (List.mem_append_left _ h)) fun h2 => hd2 x h h2
  have hTx : ∀ x, x ∉ xs → (A ++ B_).contains x = (A ++ (xs ++ B_)).contains x := fun x h => by
    rw [Bool.eq_iff_iff, List.contains_iff_mem, List.contains_iff_mem]; simp [h]
  have hX1 : ∀ x ∈ M1, x ∉ xs := fun x h k => hd x h (List.mem_append_left _ k)
  have hX2 : ∀ x ∈ M2, x ∉ xs := fun x h k => hd2 x k h
  have hT1 : ∀ x ∈ xs, (A ++ (xs ++ B_)).contains x = true := fun x h => List.contains_iff_mem.mpr (by simp [h])
  have t1 : (X ++ Y).take X.length = X := List.take_left' rfl
  have t2 : (X ++ Y).drop X.length = Y := List.drop_left' rfl
  have hxn : xs.Nodup := (List.nodup_append.mp (List.nodup_append.mp hn).2.1).1
  have hxl : 0 < xs.length := List.length_pos_iff.mpr hx
  show (delR (split l A.length) st en xs b).2 = _ ∧ Sim _ _ _ (delR (split l A.length) st en xs b).1 _ _
  rw [e1]
  unfold delR lawU lawDel
  dsimp only
  rw [t1, t2, hcnt]
  by_cases hok : (decide (st ≤ 1 + (here X : Int)) && decide ((1 + here X : Int) ≤ en)) = true
  · rw [if_pos hok, if_pos hok]
    refine ⟨rfl, ?_⟩
    have hBx : ∀ x, x ∉ xs → B.contains x = (B ++ xs).contains x := fun x h => by
      rw [Bool.eq_iff_iff, List.contains_iff_mem, List.contains_iff_mem]; simp [h]
    refine ⟨?_, ?_, ?_, ?_⟩
    · dsimp only
      rw [fl_app, fl_cons, g1, g2, vis_app, vis_app, vis_congr (M := M1) fun x hx => ⟨hTx x (hX1 x hx), hBx x (hX1 x hx)⟩, vis_congr (M := M2) fun x hx => ⟨hTx x (hX2 x hx), hBx x (hX2 x hx)⟩, vis_const (xs := xs) (b := true) fun x h => ⟨hT1 x h, List.contains_iff_mem.mpr (List.mem_append_right _ h)⟩]
    · intro x h
      rcases List.mem_append.mp h with h | h
      · rcases hB' x h with h | h <;> simp [h]
      · simp [h]
    · exact List.nodup_append.mpr ⟨S.s3, hxn, fun x h y k e => hxB x (e ▸ k) h⟩
    · refine S.s4.imp (fun h x hx => ?_) fun h => ⟨fun x hx => ?_, h.2.1, by rw [List.length_append]; have := h.2.2; dsimp only; omega⟩
      · have := e5 h
        simp only [List.mem_append, List.mem_cons] at hx
        rcases hx with hx | rfl | hx
        · exact this x (by simp [hx])
        · exact hxl
        · exact this x (by simp [hx])
      · have := e6 h.1
        simp only [List.mem_append, List.mem_cons] at hx
        rcases hx with hx | rfl | hx
        · exact this x (by simp [hx])
        · rfl
        · exact this x (by simp [hx])
  · rw [if_neg hok, if_neg hok]
    refine ⟨rfl, ?_⟩
    refine ⟨?_, fun x h => by rcases hB' x h with h | h <;> simp [h], S.s3, ?_⟩
    · dsimp only
      rw [fl_app, fl_cons, g1, g2, vis_app, vis_app, vis_congr (M := M1) fun x hx => ⟨hTx x (hX1 x hx), rfl⟩, vis_congr (M := M2) fun x hx => ⟨hTx x (hX2 x hx), rfl⟩, vis_const (xs := xs) (b := false) fun x h => ⟨hT1 x h, by rw [Bool.eq_false_iff]; intro k; exact hxB x h (List.contains_iff_mem.mp k)⟩]
    · rcases S.s4 with h | ⟨h, q1, q2⟩
      · refine .inl fun x hx => ?_
        have := e5 h
        simp only [List.mem_append, List.mem_cons] at hx
        rcases hx with hx | rfl | hx
        · exact this x (by simp [hx])
        · exact hxl
        · exact this x (by simp [hx])
      · exfalso
        apply hok
        have hB : ((M1 ++ M2).filter (B.contains ·)).length = B.length := sub_len S.s3 hn0 S.s2
        rw [List.filter_append, List.length_append] at hB
        rw [hk, decide_eq_true (show st ≤ 1 + ((M1.filter (B.contains ·)).length : Int) by omega), decide_eq_true (show (1 + ((M1.filter (B.contains ·)).length : Int)) ≤ en by omega)]
        rfl
/-! groups -/
noncomputable def HH : List Rw → List (List Rw)
  | [] => [[]]
  | x :: L => if isBnd x = true then [] :: HH L else ((x :: (HH L).headD []) :: (HH L).tail)
theorem stepG_HH : ∀ {L : List Rw} {g : List Rw} {r : List (List Rw)}, (L.foldl stepG (g :: r)).reverse = r.reverse ++ ((g ++ (HH L).headD []) :: (HH L).tail)
  | [], g, r => by simp [HH]
  | x :: L, g, r => by
    rw [List.foldl_cons, HH]
    cases e : isBnd x with
    | true =>
      rw [stepG_bnd e, stepG_HH, if_pos rfl, List.reverse_cons, List.append_assoc]
      have : ∀ L, HH L = (HH L).headD [] :: (HH L).tail := fun L => by
        cases L with
        | nil => rfl
        | cons y L => unfold HH; split <;> rfl
      conv => rhs; rw [this L]
      simp
    | false =>
      rw [stepG_cons e, stepG_HH, if_neg Bool.false_ne_true]
      simp
theorem HH_cons (L : List Rw) : HH L = (HH L).headD [] :: (HH L).tail := by
  cases L with
  | nil => rfl
  | cons y L => unfold HH; split <;> rfl
noncomputable def Grp (F : List Rw) (G : List (List Rw)) : Prop := ∃ g r, G = g :: r ∧ (HH F.reverse).headD [] = g.reverse ∧ ((HH F.reverse).tail.filter fun g => !g.isEmpty) = (r.filter fun g => !g.isEmpty).map List.reverse
theorem Grp.push {F : List Rw} {G : List (List Rw)} {o : Option Rw} (h : Grp F G) (ho : ∀ y, o = some y → isBnd y = false) : Grp (F ++ o.toList) (pushO G o) := by
  cases o with
  | none => rw [pushO_none, show F ++ (none : Option Rw).toList = F by simp]; exact h
  | some y =>
    obtain ⟨g, r, rfl, h1, h2⟩ := h
    refine ⟨g ++ [y], r, rfl, ?_, ?_⟩
    · rw [show (F ++ (some y).toList).reverse = y :: F.reverse by simp, HH, if_neg (by rw [ho y rfl]; exact Bool.false_ne_true), h1]
      simp
    · rw [show (F ++ (some y).toList).reverse = y :: F.reverse by simp, HH, if_neg (by rw [ho y rfl]; exact Bool.false_ne_true)]
      exact h2
theorem Grp.bnd {F : List Rw} {G : List (List Rw)} (h : Grp F G) : Grp (if (F.getLast?).any (fun y => !isBnd y) = true then F ++ [.bnd] else F) ([] :: G) := by
  obtain ⟨g, r, rfl, h1, h2⟩ := h
  split
  · refine ⟨[], g :: r, rfl, ?_, ?_⟩
    · rw [List.reverse_append]; rfl
    · rw [List.reverse_append]
      show ((HH F.reverse).filter _) = _
      rw [HH_cons, h1, List.filter_cons, List.filter_cons, h2]
      cases g with
      | nil => rfl
      | cons x g =>
        rw [if_pos (by simp)]; rfl
  · rename_i hF
    have he : (HH F.reverse).headD [] = [] := by
      rcases List.eq_nil_or_concat F with rfl | ⟨L, y, rfl⟩
      · rfl
      · rw [List.concat_eq_append, List.getLast?_concat] at hF
        have : isBnd y = true := by
          cases e : isBnd y with
          | true => rfl
          | false => exact absurd (by simp [e]) hF
        rw [List.concat_eq_append, List.reverse_append]
        show (HH (y :: L.reverse)).headD [] = []
        rw [HH, if_pos this]; rfl
    have hg : g = [] := by rw [he] at h1; exact List.reverse_eq_nil_iff.mp h1.symm
    subst hg
    exact ⟨[], [] :: r, rfl, he, by rw [h2]; rfl⟩
theorem lawU_nb {B O : List Int} {st en : Int} {x : Ch} : ∀ y, (lawU B O st en x).2.2 = some y → isBnd y = false := fun y h => by
  cases x with
  | ins xs p =>
    simp only [lawU] at h
    split at h
    · injection h with h; rw [← h]; rfl
    · cases h
  | del xs p b =>
    simp only [lawU, lawDel] at h
    split at h
    · injection h with h; rw [← h]; rfl
    · cases h
  | prop xs p =>
    simp only [lawU] at h
    split at h
    · injection h with h; rw [← h]; rfl
    · cases h
  | fin => cases h
theorem sim_fold {O : List Int} {st : Int} (ho : O.Nodup) (hst : 1 ≤ st) {cs : List Ch} {T M : List Int} (h : Chain O cs T M) : ∀ {B l en F G}, Sim M T B l st en → Grp F G → Grp ((cs.map rwOf).foldl (stepR st) (l, en, F)).2.2 (cs.foldl (lawS O st) (B, en, G)).2.2 := by
  induction h with
  | nil _ _ => intro B l en F G S hG; exact hG
  | fin _ _ _ ih =>
    intro B l en F G S hG
    exact ih S hG.bnd
  | @ins xs A B_ M r h1 h2 h3 h ih =>
    intro B l en F G S hG
    obtain ⟨e, S'⟩ := sim_ins h1 h2 ho h3 hst S
    have hp := hG.push (lawU_nb (B := B) (O := O) (st := st) (en := en) (x := .ins xs A.length))
    rw [← e] at S' hp
    have := ih S' hp
    rw [List.map_cons, List.foldl_cons, List.foldl_cons]
    unfold lawS
    rw [if_neg (show ¬ (isFin (.ins xs A.length) = true) from Bool.false_ne_true), ← e]
    exact this
  | @prop xs A B_ M r h1 h2 h3 h ih =>
    intro B l en F G S hG
    obtain ⟨e, S'⟩ := sim_prop h1 h2 ho h3 S
    have hp := hG.push (lawU_nb (B := B) (O := O) (st := st) (en := en) (x := .prop xs A.length))
    rw [← e] at hp
    have := ih S' hp
    rw [List.map_cons, List.foldl_cons, List.foldl_cons]
    unfold lawS
    rw [if_neg (show ¬ (isFin (.prop xs A.length) = true) from Bool.false_ne_true), ← e]
    exact this
  | @del xs A B_ M1 M2 b r h1 h2 h3 h4 h ih =>
    intro B l en F G S hG
    obtain ⟨e, S'⟩ := sim_del (b := b) h1 h.sub.2 ho h3 h4 S
    have hp := hG.push (lawU_nb (B := B) (O := O) (st := st) (en := en) (x := .del xs A.length b))
    rw [← e] at S' hp
    have := ih S' hp
    rw [List.map_cons, List.foldl_cons, List.foldl_cons]
    unfold lawS
    rw [if_neg (show ¬ (isFin (.del xs A.length b) = true) from Bool.false_ne_true), ← e]
    exact this
theorem Ok.eq {k : Nat} {W : Wd1} {st en : Int} (h : Ok k W) (h1 : 1 ≤ st) (h2 : st ≤ en) (h3 : en ≤ W.text.length + 1) : (((foundOf W st en).foldl stepG [[]]).reverse.filter fun g => !g.isEmpty) = dueOf W st en := by
  have S : Sim W.text W.text W.text [((true, true), W.text.length)] st en := by
    refine ⟨?_, fun x h => h, h.h3.sublist h.sub, ?_⟩
    · rw [vis_const (b := true) fun x hx => ⟨List.contains_iff_mem.mpr hx, List.contains_iff_mem.mpr hx⟩, fl_cons, fl_nil, List.append_nil]
    · rcases Nat.eq_zero_or_pos W.text.length with e | e
      · exact .inr ⟨fun x hx => by obtain rfl := List.mem_singleton.mp hx; rfl, by omega, by omega⟩
      · exact .inl fun x hx => by obtain rfl := List.mem_singleton.mp hx; exact e
  have hG := sim_fold h.h3 h1 h.h6 S (F := []) (G := [[]]) ⟨[], [], rfl, rfl, rfl⟩
  unfold foundOf dueOf
  rw [← List.map_reverse]
  revert hG
  generalize (W.chs.reverse.map rwOf).foldl (stepR st) ([((true, true), W.text.length)], en, []) = R
  generalize W.chs.reverse.foldl (lawS W.order st) (W.text, en, [[]]) = L
  rintro ⟨g, r, e, e1, e2⟩
  rw [stepG_HH, e, ← List.map_reverse, ← List.filter_reverse, List.reverse_reverse, List.reverse_nil, List.nil_append, List.nil_append, List.filter_cons, List.filter_cons, e1, e2]
  cases g with
  | nil => rfl
  | cons x g => rw [if_pos (by simp)]; rfl
theorem pure_ok : PureOk Ok where
  init := Ok.init
  step := fun _ _ _ h st => h.step st
  fin := fun _ _ h => h.fin
  bds := fun _ _ hk h => h.bds hk
  eq := fun _ _ _ _ _ h h1 h2 h3 => h.eq h1 h2 h3
theorem ints_rep {P : Params} {h : Heap} {F : Addr → Obj → Prop} : ∀ {ns : List Int} {vs : List Value}, WellAll P h vs (ofPys (ns.map PyData.int)) → RepL F vs (ns.map V.int)
  | [], _, w => by cases w; exact .nil
  | n :: ns, _, w => by
    cases w with
    | cons a b => cases a; exact .cons (.int _ _) (ints_rep b)
theorem script_rep {P : Params} {h : Heap} {F : Addr → Obj → Prop} {v : Value} {ns : List Int} (w : Well P h v (ofPy (.list (ns.map PyData.int)))) (hF : ∀ x o, h.get? x = some o → F x o) : Rep F v (.lst (ns.map V.int)) := by
  change Well P h v (.list (ofPys (ns.map PyData.int))) at w
  cases w with
  | list a b => exact .lst (hF _ _ a) (ints_rep b)
theorem lawkeys : KeysOk ["script", "deck", "history", "many", "state", "the_turn", "size", "start", "end", "there", "region", "due", "change", "row", "kept", "found"] := ⟨by decide, by decide⟩
theorem join_core {w : World} {s₁ : Shared} {h₁ : Heap} {tk : Nat} {mean : ExcName → Option Value} {mg mb : Str → Option Value} {fa L : Addr} {cd va : Value} {ns : List Int} {m : Str → Option Value} {Q : Flow → Shared → Prop} {E : Value → Shared → Prop}
    (B : Below callerA s₁.heap [] s₁.heap) (X : (KK w).In s₁.heap) (T : Top qv (looseW qv []) mean mg mb s₁.heap) (F : Fr s₁.heap L h₁ m) (N : News s₁.heap L h₁ []) (hm : m "script" = some va)
    (w1 : Well w.params s₁.heap va (ofPy (.list (ns.map PyData.int)))) (hl : ns.length < 1000)
    (hQ : ∀ h' tk' m', Fr s₁.heap L h' m' → Q (.ret (.bool true)) ⟨h', s₁.gens, s₁.drawn, tk', s₁.os⟩) :
    wpAny (model prg w) (callerA.deeper (envOf "law" (scopeAt w 251) L fa cd)) (execs (bodyAt w 251) (envOf "law" (scopeAt w 251) L fa cd)) Q E ⟨h₁, s₁.gens, s₁.drawn, tk, s₁.os⟩ := by
  have key := law_ws pure_ok (r := { w := w, mean := mean, mg := mg, mb := mb, base := s₁.heap, h₀ := s₁.heap, A₀ := callerA, outer := [], dp := 302, un := 7, gd := some [], L := L, a := fa, ccd := cd, gens := s₁.gens, drawn := s₁.drawn, os := s₁.os }) hl ⟨(by decide : (302 : Nat) + 10 * 10 < 900), (by decide : (7 : Nat) + 50 * 10 < 9000)⟩
  have hk : (scopeAt w 251).kind = .function ∧ (scopeAt w 251).names.lookup ("script" : Str) = some NameKind.local := at_fn (P := fun sc _ => sc.kind = .function ∧ sc.names.lookup ("script" : Str) = some NameKind.local) (w := w) (f := 251) (by exact rfl) ⟨rfl, rfl⟩
  refine noE (key [] [] [] ⟨h₁, s₁.gens, s₁.drawn, tk, s₁.os⟩ Q ⟨h₁, tk, m, [], [], rfl, ?_⟩ (fun _ _ _ h _ => h.elim) ?_)
  · refine ⟨⟨hk.1, fun _ => rfl, B, X, X, T, hk.1, (by decide : (302 : Nat) < 900), (by decide : (7 : Nat) < 9000)⟩, F, N, List.nodup_nil, lawkeys, ?_, fun _ h => (List.not_mem_nil h).elim, fun _ _ h => (List.not_mem_nil h).elim, .nil, .nil⟩
    intro x Y hY
    rcases List.mem_cons.mp hY with e | hY
    · cases e
      exact .inr ⟨va, .loc rfl hk.2 hm, script_rep w1 fun x o h => .inr h⟩
    · refine .inl ?_
      simp only [List.mem_cons, List.not_mem_nil, or_false, Prod.mk.injEq] at hY
      rcases hY with h | h | h | h | h | h | h | h | h | h | h | h | h | h | h <;> exact h.2
  · rintro hp' Y v loc' s' rfl ⟨h2, tk2, m2, mt2, fz2, rfl, S⟩
    have hv := S.vr
    cases hv with
    | cons r1 r2 =>
      cases r1
      exact hQ _ _ _ S.fr
theorem join_fn {w : World} {s₁ : Shared} {h₁ : Heap} {tk : Nat} {mean : ExcName → Option Value} {mg mb : Str → Option Value} {fa L : Addr} {cd va : Value} {ns : List Int} {m : Str → Option Value} {Q : Flow → Shared → Prop} {E : Value → Shared → Prop}
    {name qual : Str} {params : Arguments} {body : List Stmt} {scope : Scope} {dV kV doc pm cdv ct oc : Value} {an od : Option Addr} {osl : Array (Option Value)}
    (B : Below callerA s₁.heap [] s₁.heap) (X : (KK w).In s₁.heap) (T : Top qv (looseW qv []) mean mg mb s₁.heap) (F : Fr s₁.heap L h₁ m) (N : News s₁.heap L h₁ []) (hm : m "script" = some va)
    (w1 : Well w.params s₁.heap va (ofPy (.list (ns.map PyData.int)))) (hl : ns.length < 1000)
    (hQ : ∀ h' tk' m', Fr s₁.heap L h' m' → Q (.ret (.bool true)) ⟨h', s₁.gens, s₁.drawn, tk', s₁.os⟩) 
    (ho : (KK w).lookup 251 = some ⟨oc, od, .func (fnOf name qual params body scope dV kV doc pm an cdv ct), osl⟩) :
    wpAny (model prg w) (callerA.deeper (envOf "law" scope L fa cd)) (execs body (envOf "law" scope L fa cd)) Q E ⟨h₁, s₁.gens, s₁.drawn, tk, s₁.os⟩ :=
  at_fn (P := fun sc b => wpAny (model prg w) (callerA.deeper (envOf "law" sc L fa cd)) (execs b (envOf "law" sc L fa cd)) Q E ⟨h₁, s₁.gens, s₁.drawn, tk, s₁.os⟩ → wpAny (model prg w) (callerA.deeper (envOf "law" scope L fa cd)) (execs body (envOf "law" scope L fa cd)) Q E ⟨h₁, s₁.gens, s₁.drawn, tk, s₁.os⟩) ho (fun h => h) (join_core B X T F N hm w1 hl hQ)
end Mine
open Mine
local macro_rules | `(tactic| k_qdec) => `(tactic| skip)
theorem PySem.Challenge.cw_np0034_01_holds : PySem.Challenge.rw_np0034_01.Holds := by
  refine Mine.hd ?_
  k_go0
  refine join_fn (by assumption) (by assumption) (by assumption) (by assumption) (by assumption) rfl (by assumption) (by omega) (fun h' tk' m' F' => ?_) (by exact rfl)
  refine goodW_bool F' (by assumption) ?_ ?_
  · exact fun _ => rfl
  · refine' postW_of ?hs1 ?hv1 ?he1
    (case hs1 => o_shape)
    (case hv1 => wtm_val)
    (case he1 => first | rfl | w_fin)
