import PyProof.Rows.All
import Wide.All
import OpenK.AllK
import Wide.FinOn
import PySem.Challenge.RW_pd_cinder_2_01
set_option Elab.async false
section
namespace Mine
open PySem PySem.Calls PyProof.Rows PySem.Spec

/-- a state by its heap and its counter of tokens -/
def st (s : Shared) (h : Heap) (tk : Nat) : Shared := { s with heap := h, toks := tk }

/-! heaps as partial knowledge -/
def cut (h : Heap) (P : Addr → Bool) : Heap := { h with objs := h.objs.mapIdx fun i o => if P i then o else { o with data := .freed } }

theorem cut_get (h : Heap) (P : Addr → Bool) (b : Addr) : (cut h P).get? b = if P b then h.get? b else none := by
  unfold cut Heap.get?
  simp only [Array.getElem?_mapIdx]
  cases e : h.objs[b]? with
  | none => simp
  | some o =>
    obtain ⟨c, d, dt, sl⟩ := o
    cases hp : P b <;> simp

abbrev Sub (B h : Heap) : Prop := ∀ b o, B.get? b = some o → h.get? b = some o

theorem Sub.refl (h : Heap) : Sub h h := fun _ _ e => e
theorem Sub.trans {a b c : Heap} (x : Sub a b) (y : Sub b c) : Sub a c := fun _ _ e => y _ _ (x _ _ e)
theorem Sub.push (h : Heap) (o : Obj) : Sub h (h.push o) := fun _ _ e => Heap.get?_push_of_some o e

theorem get_none_size (h : Heap) : h.get? h.objs.size = none := by
  cases e : h.get? h.objs.size with
  | none => rfl
  | some o => exact absurd (Heap.lt_size e) (Nat.lt_irrefl _)
theorem Sub.none {B h : Heap} (x : Sub B h) {b : Addr} (e : h.get? b = none) : B.get? b = none := by
  cases q : B.get? b with
  | none => rfl
  | some o => rw [x _ _ q] at e; cases e

/-- what is known grows from B (of h) to B' (of h'): all of h stays, and B' holds what B holds and new things -/
structure Ext (B h B' h' : Heap) : Prop where
  sub : Sub B B'
  low : Sub B' h'
  all : Sub h h'
  new : ∀ b, (∃ o, h.get? b = some o) → B.get? b = none → B'.get? b = none

theorem Ext.refl {B h : Heap} (k : Sub B h) : Ext B h B h := ⟨.refl _, k, .refl _, fun _ _ e => e⟩
theorem Ext.trans {B h B' h' B'' h'' : Heap} (x : Ext B h B' h') (y : Ext B' h' B'' h'') : Ext B h B'' h'' :=
  ⟨x.sub.trans y.sub, y.low, x.all.trans y.all, fun b ⟨o, e⟩ q => y.new b ⟨o, x.all _ _ e⟩ (x.new b ⟨o, e⟩ q)⟩
/-- all that is new in h' is taken up -/
def fresh (B h h' : Heap) : Heap := cut h' fun b => (B.get? b).isSome || (h.get? b).isNone
theorem Ext.of {B h h' : Heap} (k : Sub B h) (a : Sub h h') : Ext B h (fresh B h h') h' := by
  refine ⟨fun b o e => ?_, fun b o e => ?_, a, fun b ⟨o, e⟩ q => ?_⟩
  · rw [fresh, cut_get, e]; simp [a _ _ (k _ _ e)]
  · rw [fresh, cut_get] at e; split at e
    · exact e
    · cases e
  · rw [fresh, cut_get, q, e]; simp
theorem fresh_get {B h h' : Heap} {b : Addr} {o : Obj} (n : h.get? b = none) (e : h'.get? b = some o) : (fresh B h h').get? b = some o := by
  rw [fresh, cut_get, n, e]; simp

/-- a def's frame at work: H must stay, B₀ was known at its start, B is known now, own are the lists that it fills -/
structure Cx (H B₀ B : Heap) (L : Addr) (own : List (Addr × Obj)) (h : Heap) (m : Str → Option Value) : Prop where
  ns : h.Ns L m
  ext : Ext B₀ H B h
  offL : B.get? L = none
  newL : H.get? L = none
  own : ∀ p ∈ own, h.get? p.1 = some p.2 ∧ p.1 ≠ L ∧ B.get? p.1 = none ∧ H.get? p.1 = none

section
variable {H B₀ B B' : Heap} {L : Addr} {own : List (Addr × Obj)} {h h' : Heap} {m m' : Str → Option Value}
theorem Cx.low (C : Cx H B₀ B L own h m) : Sub B h := C.ext.low
theorem Cx.thereL (C : Cx H B₀ B L own h m) : ∃ o, h.get? L = some o := let ⟨o, _, _, e, _⟩ := C.ns; ⟨o, e⟩
theorem Cx.store (C : Cx H B₀ B L own h m) (n : h'.Ns L m') (s : Heap.SameBut L h h') : Cx H B₀ B L own h' m' where
  ns := n
  ext := ⟨C.ext.sub, fun b o e => (s.2 b (fun q => by rw [q, C.offL] at e; cases e)).trans (C.ext.low b o e), fun b o e => (s.2 b (fun q => by rw [q, C.newL] at e; cases e)).trans (C.ext.all b o e), C.ext.new⟩
  offL := C.offL
  newL := C.newL
  own := fun p hp => ⟨(s.2 _ (C.own p hp).2.1).trans (C.own p hp).1, (C.own p hp).2⟩
theorem Cx.step (C : Cx H B₀ B L own h m) (x : Ext B h B' h') : Cx H B₀ B' L own h' m where
  ns := C.ns.keeps x.all
  ext := C.ext.trans x
  offL := x.new L C.thereL C.offL
  newL := C.newL
  own := fun p hp => ⟨x.all _ _ (C.own p hp).1, (C.own p hp).2.1, x.new _ ⟨_, (C.own p hp).1⟩ (C.own p hp).2.2.1, (C.own p hp).2.2.2⟩
theorem Cx.grow (C : Cx H B₀ B L own h m) (a : Sub h h') : Cx H B₀ (fresh B h h') L own h' m := C.step (.of C.low a)
/-- heap grows, what is known stays -/
theorem Cx.still (C : Cx H B₀ B L own h m) (a : Sub h h') : Cx H B₀ B L own h' m :=
  C.step ⟨.refl _, C.low.trans a, a, fun _ _ e => e⟩
/-- a new object becomes one that the def owns -/
theorem Cx.adopt (C : Cx H B₀ B L own h m) (o : Obj) (hf : o.isFreed = false := by rfl) : Cx H B₀ B L ((h.objs.size, o) :: own) (h.push o) m := by
  have C' := C.still (Sub.push h o)
  refine ⟨C'.ns, C'.ext, C'.offL, C'.newL, fun p hp => ?_⟩
  rcases List.mem_cons.mp hp with rfl | hp
  · exact ⟨Heap.get?_push_size _ hf, Nat.ne_of_gt C.ns.lt, C.low.none (get_none_size h), C.ext.all.none (get_none_size h)⟩
  · exact C'.own p hp
theorem Cx.adopt' (C : Cx H B₀ B L own h m) {a : Addr} {o : Obj} (k : Sub h h') (n : h.get? a = none) (e : h'.get? a = some o) : Cx H B₀ B L ((a, o) :: own) h' m := by
  have C' := C.still k
  refine ⟨C'.ns, C'.ext, C'.offL, C'.newL, fun p hp => ?_⟩
  rcases List.mem_cons.mp hp with rfl | hp
  · refine ⟨e, fun q => ?_, C.low.none n, C.ext.all.none n⟩
    obtain ⟨o', e'⟩ := C.thereL
    simp only at q
    rw [← q, n] at e'; cases e'
  · exact C'.own p hp
/-- the one owned object is changed -/
theorem Cx.turn {a : Addr} {o o' : Obj} (C : Cx H B₀ B L [(a, o)] h m) (s : Heap.SameBut a h h') (e : h'.get? a = some o') : Cx H B₀ B L [(a, o')] h' m := by
  obtain ⟨q1, q2, q3, q4⟩ := C.own (a, o) (.head _)
  refine ⟨C.ns.sameBut s (Ne.symm q2), ⟨C.ext.sub, fun b o e => (s.2 b (fun q => by rw [q, q3] at e; cases e)).trans (C.ext.low b o e), fun b o e => (s.2 b (fun q => by rw [q, q4] at e; cases e)).trans (C.ext.all b o e), C.ext.new⟩, C.offL, C.newL, fun p hp => ?_⟩
  rw [List.mem_singleton.mp hp]
  exact ⟨e, q2, q3, q4⟩
/-- the owned object is handed over to what is known -/
theorem Cx.release {a : Addr} {o : Obj} (C : Cx H B₀ B L [(a, o)] h m) : ∃ B', Cx H B₀ B' L [] h m ∧ Sub B B' ∧ B'.get? a = some o := by
  obtain ⟨q1, q2, q3, q4⟩ := C.own (a, o) (.head _)
  have hg : ∀ b, (cut h fun b => (B.get? b).isSome || b == a).get? b = if (B.get? b).isSome || b == a then h.get? b else none := cut_get _ _
  have hs : Sub B (cut h fun b => (B.get? b).isSome || b == a) := fun b x e => by rw [hg, e]; simp [C.low _ _ e]
  have ha : (cut h fun b => (B.get? b).isSome || b == a).get? a = some o := by rw [hg]; simpa using q1
  refine ⟨_, ⟨C.ns, ⟨C.ext.sub.trans hs, fun b x e => ?_, C.ext.all, fun b hb e => ?_⟩, ?_, C.newL, fun p hp => nomatch hp⟩, hs, ha⟩
  · rw [hg] at e; split at e
    · exact e
    · cases e
  · rw [hg, C.ext.new b hb e]
    by_cases z : b = a
    · subst z; obtain ⟨x, hx⟩ := hb; simp only at q4; rw [q4] at hx; cases hx
    · simp [z]
  · rw [hg, C.offL]
    have : (L == a) = false := by simpa using Ne.symm q2
    simp [this]
theorem Cx.grown (C : Cx H B₀ B L own h m) (k : Sub h h') :
    ∃ B', Cx H B₀ B' L own h' m ∧ Sub B B' ∧ ∀ b o, h.get? b = none → h'.get? b = some o → B'.get? b = some o :=
  ⟨_, C.grow k, (Ext.of C.low k).sub, fun _ _ n e => fresh_get n e⟩
theorem Cx.push (C : Cx H B₀ B L own h m) (o : Obj) (hf : o.isFreed = false := by rfl) :
    ∃ B', Cx H B₀ B' L own (h.push o) m ∧ Sub B B' ∧ B'.get? h.objs.size = some o :=
  let ⟨B', C', k, g⟩ := C.grown (Sub.push h o); ⟨B', C', k, g _ _ (get_none_size h) (Heap.get?_push_size _ hf)⟩
theorem Cx.forget (C : Cx H B₀ B L own h m) : Cx H B₀ B L [] h m := ⟨C.ns, C.ext, C.offL, C.newL, fun _ hp => nomatch hp⟩
end
end Mine

end
section
namespace Mine
open PySem PySem.Calls PyProof.Rows PySem.Spec

/-! data read off what is known -/
def Rd (B : Heap) (v : Value) (d : PyData) : Prop := ∃ as, Reads B v d as
def RdAll (B : Heap) (vs : List Value) (ds : List PyData) : Prop := ∃ as, ReadsAll B vs ds as
section
variable {B B' : Heap} {v : Value} {d : PyData} {vs ws : List Value} {ds es : List PyData}
theorem Rd.keeps (x : Rd B v d) (k : Sub B B') : Rd B' v d := let ⟨as, r⟩ := x; ⟨as, Reads.keeps k r⟩
theorem RdAll.keeps (x : RdAll B vs ds) (k : Sub B B') : RdAll B' vs ds := let ⟨as, r⟩ := x; ⟨as, ReadsAll.keeps k r⟩
theorem RdAll.nil : RdAll B [] [] := ⟨_, .nil⟩
theorem RdAll.cons (x : Rd B v d) (y : RdAll B vs ds) : RdAll B (v :: vs) (d :: ds) := let ⟨_, r⟩ := x; let ⟨_, t⟩ := y; ⟨_, .cons r t⟩
theorem RdAll.inv (x : RdAll B (v :: vs) ds) : ∃ d es, ds = d :: es ∧ Rd B v d ∧ RdAll B vs es := by
  obtain ⟨as, r⟩ := x
  cases r with
  | cons a b => exact ⟨_, _, rfl, ⟨_, a⟩, ⟨_, b⟩⟩
theorem RdAll.len (x : RdAll B vs ds) : vs.length = ds.length := by
  induction vs generalizing ds with
  | nil => obtain ⟨as, r⟩ := x; cases r; rfl
  | cons v vs ih => obtain ⟨d, ds', rfl, a, b⟩ := x.inv; simp [ih b]
theorem RdAll.append (x : RdAll B vs ds) (y : RdAll B ws es) : RdAll B (vs ++ ws) (ds ++ es) := by
  induction vs generalizing ds with
  | nil => obtain ⟨as, r⟩ := x; cases r; exact y
  | cons v vs ih => obtain ⟨d, ds', rfl, a, b⟩ := x.inv; exact .cons a (ih b)
theorem RdAll.snoc (x : RdAll B vs ds) (y : Rd B v d) : RdAll B (vs ++ [v]) (ds ++ [d]) := x.append (.cons y .nil)
theorem RdAll.get {i : Nat} (x : RdAll B vs ds) (h : ds[i]? = some d) : ∃ v, vs[i]? = some v ∧ Rd B v d := by
  induction vs generalizing ds i with
  | nil => obtain ⟨as, r⟩ := x; cases r; simp at h
  | cons v vs ih =>
    obtain ⟨d', ds', rfl, a, b⟩ := x.inv
    cases i with
    | zero => simp at h; subst h; exact ⟨v, rfl, a⟩
    | succ i => exact ih b (by simpa using h)
theorem RdAll.at {i : Nat} (x : RdAll B vs ds) (h : vs[i]? = some v) : ∃ d, ds[i]? = some d ∧ Rd B v d := by
  have hl := (List.getElem?_eq_some_iff.mp h).1
  have hd : i < ds.length := x.len ▸ hl
  obtain ⟨u, hu, r⟩ := x.get (List.getElem?_eq_getElem hd)
  rw [h] at hu
  cases hu
  exact ⟨_, List.getElem?_eq_getElem hd, r⟩
theorem RdAll.take (x : RdAll B vs ds) (n : Nat) : RdAll B (vs.take n) (ds.take n) := by
  induction vs generalizing ds n with
  | nil => obtain ⟨as, r⟩ := x; cases r; simpa using RdAll.nil
  | cons v vs ih =>
    obtain ⟨d', ds', rfl, a, b⟩ := x.inv
    cases n with
    | zero => exact .nil
    | succ n => exact .cons a (ih b n)
theorem RdAll.drop (x : RdAll B vs ds) (n : Nat) : RdAll B (vs.drop n) (ds.drop n) := by
  induction vs generalizing ds n with
  | nil => obtain ⟨as, r⟩ := x; cases r; simpa using RdAll.nil
  | cons v vs ih =>
    obtain ⟨d', ds', rfl, a, b⟩ := x.inv
    cases n with
    | zero => exact .cons a b
    | succ n => exact ih b n
theorem RdAll.set (x : RdAll B vs ds) (n : Nat) (y : Rd B v d) : RdAll B (vs.set n v) (ds.set n d) := by
  induction vs generalizing ds n with
  | nil => obtain ⟨as, r⟩ := x; cases r; simpa using RdAll.nil
  | cons v vs ih =>
    obtain ⟨d', ds', rfl, a, b⟩ := x.inv
    cases n with
    | zero => exact .cons y b
    | succ n => exact .cons a (ih b n)
theorem Rd.int (i : Int) (t : Tok) : Rd B (.int i t) (.int i) := ⟨_, .int i t⟩
theorem Rd.bool (b : Bool) : Rd B (.bool b) (.bool b) := ⟨_, .bool b⟩
theorem Rd.str (x : Str) (t : Tok) : Rd B (.str x t) (.str x) := ⟨_, .str x t⟩
theorem Rd.intInv {i : Int} (x : Rd B v (.int i)) : ∃ t, v = .int i t := let ⟨_, r⟩ := x; let ⟨t, e, _⟩ := reads_int_inv r; ⟨t, e⟩
theorem Rd.boolInv {b : Bool} (x : Rd B v (.bool b)) : v = .bool b := let ⟨_, r⟩ := x; (reads_bool_inv r).1
theorem Rd.listInv (x : Rd B v (.list ds)) : ∃ a vs, v = .ref a ∧ B.IsList a vs.toArray ∧ RdAll B vs ds := by
  obtain ⟨as, r⟩ := x
  obtain ⟨a, o, vs, n, bs, rfl, h1, h2, h3, h4, _⟩ := reads_list_inv r
  exact ⟨a, vs.toList, rfl, ⟨o, h1, h2, n, by simpa using h3⟩, _, h4⟩
theorem Rd.tupInv (x : Rd B v (.tuple ds)) : ∃ a vs, v = .ref a ∧ IsTup B a vs.toArray ∧ RdAll B vs ds := by
  obtain ⟨as, r⟩ := x
  obtain ⟨a, o, vs, n, rfl, h1, h2, h3, h4⟩ := reads_tuple_inv r
  exact ⟨a, vs.toList, rfl, ⟨o, h1, h2, n, by simpa using h3⟩, _, h4⟩
theorem Rd.list {a : Addr} (h : B.IsList a vs.toArray) (r : RdAll B vs ds) : Rd B (.ref a) (.list ds) := by
  obtain ⟨o, h1, h2, n, h3⟩ := h
  obtain ⟨as, r⟩ := r
  exact ⟨_, reads_list_at h1 h2 h3 (by simpa using r)⟩
theorem Rd.tuple {a : Addr} (h : IsTup B a vs.toArray) (r : RdAll B vs ds) : Rd B (.ref a) (.tuple ds) := by
  obtain ⟨o, h1, h2, n, h3⟩ := h
  obtain ⟨as, r⟩ := r
  exact ⟨_, reads_tuple_at h1 h2 h3 (by simpa using r)⟩
end
theorem isList_keeps {B B' : Heap} {a : Addr} {vs : Array Value} (h : B.IsList a vs) (k : Sub B B') : B'.IsList a vs := let ⟨o, e, r⟩ := h; ⟨o, k _ _ e, r⟩
theorem isTup_keeps {B B' : Heap} {a : Addr} {vs : Array Value} (h : IsTup B a vs) (k : Sub B B') : IsTup B' a vs := let ⟨o, e, r⟩ := h; ⟨o, k _ _ e, r⟩

/-! a turn of a loop is a small frame of its own: what stood at its start stays -/
section
variable {H B₀ B₁ B₂ H₁ : Heap} {L : Addr} {own₁ own₂ : List (Addr × Obj)} {h₁ h₂ : Heap} {m₁ m₂ : Str → Option Value}
def rest (h : Heap) (L : Addr) (own : List (Addr × Obj)) : Heap := cut h fun b => !(b == L || (own.map (·.1)).contains b)
theorem rest_get {h : Heap} {L : Addr} {own : List (Addr × Obj)} {b : Addr} (hb : b ≠ L) (ho : ∀ p ∈ own, p.1 ≠ b) : (rest h L own).get? b = h.get? b := by
  rw [rest, cut_get]
  have h1 : (b == L) = false := by simpa using hb
  have h2 : (own.map (·.1)).contains b = false := by
    rw [Bool.eq_false_iff]
    intro q
    obtain ⟨p, hp, e⟩ := List.mem_map.mp (List.contains_iff_mem.mp q)
    exact ho p hp e
  rw [h1, h2]; rfl
theorem rest_sub {h : Heap} {L : Addr} {own : List (Addr × Obj)} : Sub (rest h L own) h := fun b o e => by
  rw [rest, cut_get] at e
  split at e
  · exact e
  · cases e
theorem rest_L {h : Heap} {L : Addr} {own : List (Addr × Obj)} : (rest h L own).get? L = none := by rw [rest, cut_get]; simp
theorem rest_own {h : Heap} {L : Addr} {own : List (Addr × Obj)} {p : Addr × Obj} (hp : p ∈ own) : (rest h L own).get? p.1 = none := by
  rw [rest, cut_get]
  have : (own.map (·.1)).contains p.1 = true := List.contains_iff_mem.mpr (List.mem_map_of_mem hp)
  rw [this]; simp
theorem Cx.inner (C : Cx H B₀ B₁ L own₁ h₁ m₁) : Cx (rest h₁ L own₁) B₁ B₁ L own₁ h₁ m₁ :=
  ⟨C.ns, ⟨.refl _, C.low, rest_sub, fun _ _ e => e⟩, C.offL, rest_L, fun p hp => ⟨(C.own p hp).1, (C.own p hp).2.1, (C.own p hp).2.2.1, rest_own hp⟩⟩
theorem Cx.outer (C : Cx H B₀ B₁ L own₁ h₁ m₁) (D : Cx (rest h₁ L own₁) B₁ B₂ L own₂ h₂ m₂) : Cx H B₀ B₂ L own₂ h₂ m₂ := by
  have hr : Sub H (rest h₁ L own₁) := fun b o e => by
    rw [rest_get (fun q => by rw [q, C.newL] at e; cases e) (fun p hp q => by rw [← q, (C.own p hp).2.2.2] at e; cases e)]
    exact C.ext.all b o e
  refine ⟨D.ns, ⟨C.ext.sub.trans D.ext.sub, D.ext.low, hr.trans D.ext.all, fun b ⟨o, e⟩ q => D.ext.new b ⟨o, hr _ _ e⟩ (C.ext.new b ⟨o, e⟩ q)⟩, D.offL, C.newL, fun p hp => ⟨(D.own p hp).1, (D.own p hp).2.1, (D.own p hp).2.2.1, hr.none (D.own p hp).2.2.2⟩⟩
end

section
variable {prog : Program} {w : World} {A : Around} {s : Shared} {env : Env} {x : Str} {px : Pos} {body : List Stmt} {H B₀ B : Heap} {own : List (Addr × Obj)} {m : Str → Option Value} {Q : Flow → Shared → Prop}

/-- how a turn ends -/
def TurnEnd (s : Shared) (H₁ B₁ : Heap) (L : Addr) (adr : List Addr) (J : Heap → List (Addr × Obj) → (Str → Option Value) → Prop) (Q : Flow → Shared → Prop) (f : Flow) (s₂ : Shared) : Prop :=
  match f with
  | .ret v => Q (.ret v) s₂
  | .brk => Q .next s₂
  | _ => ∃ B₂ own₂ h₂ tk₂ m₂, s₂ = (st s h₂ tk₂) ∧ Cx H₁ B₁ B₂ L own₂ h₂ m₂ ∧ own₂.map (·.1) = adr ∧ J B₂ own₂ m₂

theorem loop_walk {h : Heap} {tk : Nat} {R : Value → Shared → Prop} {I : Addr} {fp wr : List Addr} {n : Nat} {P : Nat → Value → Prop} {St : Nat → Heap → Prop}
    (W : Walks prog w A I fp wr n P St) (hx : env.kindOf x = some .local)
    (hp : (env.scope.kind == .class || (env.scope.kind == .module && env.locals != env.globals)) = false)
    (J : Nat → Heap → List (Addr × Obj) → (Str → Option Value) → Prop)
    (hob : ∀ i g, St i g → ∀ b ∈ wr, ∃ o, g.get? b = some o)
    (C : Cx H B₀ B env.locals own h m) (hfL : env.locals ∉ fp) (hfo : ∀ p ∈ own, p.1 ∉ fp) (hwB : ∀ b ∈ wr, B.get? b = none) (hwH : ∀ b ∈ wr, H.get? b = none)
    (hst : St 0 h) (h0 : J 0 B own m)
    (turn : ∀ i v B₁ own₁ m₁ H₁ h₁ tk₁, i < n → P i v → J i B₁ own₁ m₁ → Sub B B₁ → own₁.map (·.1) = own.map (·.1) →
      Cx H₁ B₁ B₁ env.locals own₁ h₁ (fun y => if y = x then some v else m₁ y) →
      (∀ B₂ own₂ h₂ m₂, Cx H₁ B₁ B₂ env.locals own₂ h₂ m₂ → Cx H B₀ B₂ env.locals own₂ h₂ m₂) →
      wpAny (model prog w) A (execs body env) (TurnEnd s H₁ B₁ env.locals (own.map (·.1)) (J (i + 1)) Q) (fun _ _ => False) (st s h₁ tk₁))
    (done : ∀ B' own' m' h' tk', J n B' own' m' → Sub B B' → own'.map (·.1) = own.map (·.1) → Cx H B₀ B' env.locals own' h' m' → Q .next (st s h' tk')) :
    codeAny (model prog w) A (.forLoop (.Name x px) (.ref I) body [] env) (fun r s' => match r with | .ok f => Q f s' | .error e => R e s') (st s h tk) := by
  have hLw : env.locals ∉ wr := fun h => hfL (W.sub _ h)
  refine codeAny_forLoop
    (fun k s' => ∃ B' own' h' tk' m' i, s' = (st s h' tk') ∧ St i h' ∧ Cx H B₀ B' env.locals own' h' m' ∧ Sub B B' ∧ own'.map (·.1) = own.map (·.1) ∧ (∀ b ∈ wr, B'.get? b = none) ∧ J i B' own' m' ∧ i ≤ n ∧ k = n + 1 - i) ?_ (n + 1)
    ⟨B, own, h, tk, m, 0, rfl, hst, C, .refl _, rfl, hwB, h0, Nat.zero_le _, rfl⟩
  rintro k s' ⟨B', own', h', tk', m', i, rfl, hst', C', hs', ha', hw', hJ, hi, rfl⟩
  have hadr : ∀ p ∈ own', p.1 ∉ fp := fun p hp q => by
    have : p.1 ∈ own'.map (·.1) := List.mem_map_of_mem hp
    rw [ha'] at this
    obtain ⟨p', hp', e⟩ := List.mem_map.mp this
    exact hfo p' hp' (e ▸ q)
  have next : ∀ h₁ : Heap, (∀ b o, b ∉ wr → h'.get? b = some o → h₁.get? b = some o) → Cx H B₀ B' env.locals own' h₁ m' := fun h₁ hk₁ =>
    ⟨C'.ns.at' fun o e => hk₁ _ o hLw e, ⟨C'.ext.sub, fun b o e => hk₁ b o (fun q => by rw [hw' b q] at e; cases e) (C'.ext.low b o e), fun b o e => hk₁ b o (fun q => by rw [hwH b q] at e; cases e) (C'.ext.all b o e), C'.ext.new⟩, C'.offL, C'.newL,
      fun p hp => ⟨hk₁ _ _ (fun q => hadr p hp (W.sub _ q)) (C'.own p hp).1, (C'.own p hp).2⟩⟩
  by_cases hlt : i < n
  · refine W.item i _ _ _ hlt hst' fun v h₁ tk₁ hP hst₁ hk₁ => ?_
    have C₁ := next h₁ hk₁
    refine wpAny_assign_Name (wpAny_storeName_local hx C₁.ns (fun h₂ hn₂ hs₂ => ?_) hp)
    have C₂ := C₁.store hn₂ hs₂
    have hst₂ : St (i + 1) h₂ := W.frame _ _ _ hst₁ fun b hb o e => (hs₂.2 b fun q => hfL (q ▸ hb)).trans e
    refine wpAny_mono (turn i v B' own' m' (rest h₂ env.locals own') h₂ _ hlt hP hJ hs' ha' C₂.inner fun B₂ own₂ h₃ m₂ D => C₂.outer D) (fun f s₃ h₃ => ?_) fun _ _ e => e.elim
    have fin : TurnEnd s (rest h₂ env.locals own') B' env.locals (own.map (·.1)) (J (i + 1)) Q .next s₃ → ∃ k', k' < n + 1 - i ∧ ∃ B' own' h' tk' m' i, s₃ = (st s h' tk') ∧ St i h' ∧ Cx H B₀ B' env.locals own' h' m' ∧ Sub B B' ∧ own'.map (·.1) = own.map (·.1) ∧ (∀ b ∈ wr, B'.get? b = none) ∧ J i B' own' m' ∧ i ≤ n ∧ k' = n + 1 - i := by
      rintro ⟨B₂, own₂, h₃', tk₃, m₂, rfl, D, had, hJ₂⟩
      have keep : ∀ b ∈ fp, ∀ o, h₂.get? b = some o → h₃'.get? b = some o := fun b hb o e =>
        D.ext.all b o ((rest_get (b := b) (L := env.locals) (fun q => hfL (q ▸ hb)) (fun p hp q => hadr p hp (q ▸ hb))).trans e)
      refine ⟨n + 1 - (i + 1), by omega, B₂, own₂, h₃', tk₃, m₂, i + 1, rfl, W.frame _ _ _ hst₂ keep, C₂.outer D, hs'.trans D.ext.sub, had, fun b hb => ?_, hJ₂, hlt, rfl⟩
      obtain ⟨o, e⟩ := hob _ _ hst₂ b hb
      exact D.ext.new b ⟨o, (rest_get (b := b) (L := env.locals) (fun q => hLw (q ▸ hb)) (fun p hp q => hadr p hp (q ▸ W.sub _ hb))).trans e⟩ (hw' b hb)
    cases f with
    | ret v => exact h₃
    | brk => exact h₃
    | next => exact fin h₃
    | cont => exact fin h₃
  · have hin : i = n := by omega
    subst hin
    refine W.done _ _ _ hst' fun h₁ tk₁ hk₁ => wpAny_execs_nil ?_
    exact done B' own' m' h₁ tk₁ hJ hs' ha' (next h₁ hk₁)

/-- for x in a list that is known -/
theorem loop_list {h : Heap} {tk : Nat} {E : Value → Shared → Prop} {R : Value → Shared → Prop} {l : Addr} {vs : List Value} (hh : A.handled = none) (hx : env.kindOf x = some .local)
    (hp : (env.scope.kind == .class || (env.scope.kind == .module && env.locals != env.globals)) = false)
    (J : Nat → Heap → List (Addr × Obj) → (Str → Option Value) → Prop)
    (C : Cx H B₀ B env.locals own h m) (hl : B.IsList l vs.toArray) (h0 : J 0 B own m)
    (turn : ∀ i v B₁ own₁ m₁ H₁ h₁ tk₁, vs[i]? = some v → J i B₁ own₁ m₁ → Sub B B₁ → own₁.map (·.1) = own.map (·.1) →
      Cx H₁ B₁ B₁ env.locals own₁ h₁ (fun y => if y = x then some v else m₁ y) →
      (∀ B₂ own₂ h₂ m₂, Cx H₁ B₁ B₂ env.locals own₂ h₂ m₂ → Cx H B₀ B₂ env.locals own₂ h₂ m₂) →
      wpAny (model prog w) A (execs body env) (TurnEnd s H₁ B₁ env.locals (own.map (·.1)) (J (i + 1)) Q) (fun _ _ => False) (st s h₁ tk₁))
    (done : ∀ B' own' m' h' tk', J vs.length B' own' m' → Sub B B' → own'.map (·.1) = own.map (·.1) → Cx H B₀ B' env.locals own' h' m' → Q .next (st s h' tk')) :
    wpAny (model prog w) A (pyIter (.ref l)) (fun it s₂ => codeAny (model prog w) A (.forLoop (.Name x px) it body [] env) (fun r s' => match r with | .ok f => Q f s' | .error e => R e s') s₂) E (st s h tk) := by
  refine wpAny_pyIter_list (isList_keeps hl C.low) ?_
  obtain ⟨ol, hol, _⟩ := id hl
  have hlL : l ≠ env.locals := fun q => by rw [q, C.offL] at hol; cases hol
  have hlI : l ≠ h.objs.size := Nat.ne_of_lt (Heap.lt_size (C.low _ _ hol))
  have hg := get_none_size h
  refine loop_walk (s := s) (h := h.push _) (tk := tk) (R := R) (H := H) (B₀ := B₀) (B := B) (own := own) (m := m) (Walks.list (prog := prog) (w := w) hh h.objs.size l hlI vs.toArray) hx hp J (fun i g st b hb => ?_) (C.still (Sub.push _ _)) ?_ ?_ ?_ ?_
    ⟨⟨_, Heap.get?_push_size _ rfl, rfl, rfl⟩, (isList_keeps hl C.low).push _⟩ h0 (fun i v B₁ own₁ m₁ H₁ h₁ tk₁ _ hP hJ => turn i v B₁ own₁ m₁ H₁ h₁ tk₁ (by simpa using hP) hJ) (fun B' own' m' h' tk' hJ => done B' own' m' h' tk' (by simpa using hJ))
  · rw [List.mem_singleton.mp hb]; obtain ⟨o, e, _⟩ := st.1; exact ⟨o, e⟩
  · intro q
    rcases List.mem_cons.mp q with q | q
    · exact absurd C.ns.lt (q ▸ Nat.lt_irrefl _)
    · exact hlL (List.mem_singleton.mp q).symm
  · intro p hp' q
    rcases List.mem_cons.mp q with q | q
    · have := Heap.lt_size (C.own p hp').1; rw [q] at this; exact absurd this (Nat.lt_irrefl _)
    · have := (C.own p hp').2.2.1; rw [List.mem_singleton.mp q, hol] at this; cases this
  · intro b hb; rw [List.mem_singleton.mp hb]; exact C.low.none hg
  · intro b hb; rw [List.mem_singleton.mp hb]; exact C.ext.all.none hg

/-- for x in range(n) -/
theorem loop_range {h : Heap} {tk : Nat} {E : Value → Shared → Prop} {R : Value → Shared → Prop} {r : Addr} {n : Nat} {z : Int} {t u v : Tok} (hh : A.handled = none) (hx : env.kindOf x = some .local)
    (hp : (env.scope.kind == .class || (env.scope.kind == .module && env.locals != env.globals)) = false)
    (J : Nat → Heap → List (Addr × Obj) → (Str → Option Value) → Prop)
    (C : Cx H B₀ B env.locals own h m) (hr : IsRange h r 0 z 1 t u v) (hz : z = (n : Int)) (hn : n < 2 ^ 60) (h0 : J 0 B own m)
    (turn : ∀ i (ti : Tok) B₁ own₁ m₁ H₁ h₁ tk₁, i < n → J i B₁ own₁ m₁ → Sub B B₁ → own₁.map (·.1) = own.map (·.1) →
      Cx H₁ B₁ B₁ env.locals own₁ h₁ (fun y => if y = x then some (.int (i : Int) ti) else m₁ y) →
      (∀ B₂ own₂ h₂ m₂, Cx H₁ B₁ B₂ env.locals own₂ h₂ m₂ → Cx H B₀ B₂ env.locals own₂ h₂ m₂) →
      wpAny (model prog w) A (execs body env) (TurnEnd s H₁ B₁ env.locals (own.map (·.1)) (J (i + 1)) Q) (fun _ _ => False) (st s h₁ tk₁))
    (done : ∀ B' own' m' h' tk', J n B' own' m' → Sub B B' → own'.map (·.1) = own.map (·.1) → Cx H B₀ B' env.locals own' h' m' → Q .next (st s h' tk')) :
    wpAny (model prog w) A (pyIter (.ref r)) (fun it s₂ => codeAny (model prog w) A (.forLoop (.Name x px) it body [] env) (fun r s' => match r with | .ok f => Q f s' | .error e => R e s') s₂) E (st s h tk) := by
  subst hz
  have hsz : Builtin.Range.rangeSize 0 (n : Int) 1 = (n : Int) := by rw [rangeSize_one]; split <;> omega
  refine wpAny_pyIter_range hr (small_one (by decide) (by decide) (by omega) (by omega)) ?_
  have hg := get_none_size h
  refine loop_walk (s := s) (h := h.push _) (tk := tk) (R := R) (H := H) (B₀ := B₀) (B := B) (own := own) (m := m) (Walks.range (prog := prog) (w := w) hh h.objs.size 0 1 n) hx hp J (fun i g st b hb => ?_) (C.still (Sub.push _ _)) ?_ ?_ ?_ ?_
    (by show IsRangeIter _ _ _ _ _; rw [hsz]; simpa using Heap.get?_push_size _ rfl) h0 (fun i v B₁ own₁ m₁ H₁ h₁ tk₁ hi hP hJ hs ha D => ?_) (fun B' own' m' h' tk' hJ => done B' own' m' h' tk' hJ)
  · rw [List.mem_singleton.mp hb]; exact ⟨_, st⟩
  · intro q
    exact absurd C.ns.lt ((List.mem_singleton.mp q) ▸ Nat.lt_irrefl _)
  · intro p hp' q
    have := Heap.lt_size (C.own p hp').1; rw [List.mem_singleton.mp q] at this; exact absurd this (Nat.lt_irrefl _)
  · intro b hb; rw [List.mem_singleton.mp hb]; exact C.low.none hg
  · intro b hb; rw [List.mem_singleton.mp hb]; exact C.ext.all.none hg
  · obtain ⟨ti, rfl⟩ := hP
    have e : (0 : Int) + (i : Int) * 1 = (i : Int) := by omega
    rw [e] at D
    exact turn i ti B₁ own₁ m₁ H₁ h₁ tk₁ hi hJ hs ha D
end
end Mine

end
section
namespace Mine
open PySem PySem.Calls PyProof.Rows PySem.Spec
set_option maxRecDepth 100000

/-! the text's defs -/
abbrev pw : Program := PySem.Challenge.pw_pd_cinder_2_01
def stAt (i : Nat) : Stmt := (pw.main.body[i]?).getD (.Pass ⟨0, 0, 0, 0⟩)
def nameOf : Stmt → Str
  | .FunctionDef n _ _ _ _ _ _ _ _ _ => n
  | _ => ""
def argsOf : Stmt → Arguments
  | .FunctionDef _ a _ _ _ _ _ _ _ _ => a
  | _ => ⟨[], [], none, [], [], none, []⟩
def bodyOf : Stmt → List Stmt
  | .FunctionDef _ _ b _ _ _ _ _ _ _ => b
  | _ => []
def scopeOf : Stmt → Scope
  | .FunctionDef _ _ _ _ _ _ sc _ _ _ => sc
  | _ => ⟨.function, [], false, false, []⟩

/-- the def number i of the text stands at f -/
def IsFn (h : Heap) (i : Nat) (f : Addr) : Prop :=
  ∃ o pm code doc, h.get? f = some o ∧ o.data = .func (docDef (nameOf (stAt i)) (argsOf (stAt i)) (bodyOf (stAt i)) (scopeOf (stAt i)) pm code doc) ∧ h.CodeRec code (nameOf (stAt i))
theorem IsFn.keeps {h h' : Heap} {i : Nat} {f : Addr} (x : IsFn h i f) (k : Sub h h') : IsFn h' i f :=
  let ⟨o, pm, code, doc, b, c, d⟩ := x; ⟨o, pm, code, doc, k _ _ b, c, d.keeps k⟩
/-- .. and under its name -/
def FnAt (mg : Str → Option Value) (h : Heap) (i : Nat) : Prop := ∃ f, mg (nameOf (stAt i)) = some (.ref f) ∧ IsFn h i f
theorem FnAt.keeps {mg : Str → Option Value} {h h' : Heap} {i : Nat} (x : FnAt mg h i) (k : Sub h h') : FnAt mg h' i :=
  let ⟨f, a, b⟩ := x; ⟨f, a, b.keeps k⟩
abbrev defsHere : List Nat := [2, 3, 4, 6, 7, 8, 9, 10, 11, 12, 13, 14]
abbrev builtinsHere : List Str := ["len", "range", "list", "str", "abs", "isinstance", "bool", "ValueError"]

/-- what the top has left -/
structure Wld (mg mb : Str → Option Value) (h : Heap) : Prop where
  g : h.Ns mainGlobals mg
  b : h.Ns builtinsNs mb
  nolimit : h.NoLimit
  bi : ∀ x : Str, x ∈ builtinsHere → mg x = none ∧ mb x = bootBuiltins x
  fn : ∀ i, i ∈ defsHere → FnAt mg h i
theorem Wld.keeps {mg mb : Str → Option Value} {h h' : Heap} (W : Wld mg mb h) (k : Sub h h') : Wld mg mb h' :=
  ⟨W.g.keeps k, W.b.keeps k, W.nolimit.keeps k, W.bi, fun i hi => (W.fn i hi).keeps k⟩

/-- room enough for k calls within one another -/
structure Room (A : Around) (k : Nat) : Prop where
  hh : A.handled = none
  dp : A.depth + k < recursionLimit
  un : A.units + 100 + 8 * k < cLine
theorem Room.less {A : Around} {k j : Nat} (r : Room A k) (h : j ≤ k := by decide) : Room A j := ⟨r.hh, by have := r.dp; omega, by have := r.un; omega⟩
theorem Room.deeper {A : Around} {k : Nat} {env : Env} (r : Room A (k + 1)) : Room (A.deeper env) k :=
  ⟨r.hh, by have := r.dp; show A.depth + 1 + k < _; omega, by have := r.un; show A.units + 3 + 100 + 8 * k < _; omega⟩

abbrev lst (vs : List Value) (n : Nat) : Obj := { cls := .type "list", data := .seq vs.toArray n }
abbrev tup (vs : List Value) : Obj := { cls := .type "tuple", data := .seq vs.toArray }
theorem lst_is {B : Heap} {a : Addr} {vs : List Value} {n : Nat} (h : B.get? a = some (lst vs n)) : B.IsList a vs.toArray := ⟨_, h, rfl, n, rfl⟩
theorem tup_is {B : Heap} {a : Addr} {vs : List Value} (h : B.get? a = some (tup vs)) : IsTup B a vs.toArray := ⟨_, h, rfl, 0, rfl⟩
theorem size_small {n : Nat} (h : n ≤ 8192) : n ≤ sizeLine := Nat.le_trans h (by decide)

/-! rules whose states are written by st -/
section
variable {prog : Program} {w : World} {M : Model} {A : Around} {E : Value → Shared → Prop} {s : Shared} {h : Heap} {tk : Nat} {env : Env} {Q : Value → Shared → Prop} {a b : Int} {t u : Tok} {pos : Pos}
theorem cint {i : Int} {k : Nat} (q : ∀ t tk', Q (.int i t) (st s h tk')) : wpAny M A (eval (.Constant (.int i) k pos) env) Q E (st s h tk) := wpAny_Constant_int (q _ _)
theorem cstr {x : Str} {k : Nat} (q : ∀ t tk', Q (.str x t) (st s h tk')) : wpAny M A (eval (.Constant (.str x) k pos) env) Q E (st s h tk) := Constant_str (q _ _)
theorem iadd (q : ∀ t tk', Q (.int (a + b) t) (st s h tk')) : wpAny (model prog w) A (binaryOp .Add (.int a t) (.int b u)) Q E (st s h tk) := PyProof.Rows.add_int (q _ _)
theorem isub (q : ∀ t tk', Q (.int (a - b) t) (st s h tk')) : wpAny (model prog w) A (binaryOp .Sub (.int a t) (.int b u)) Q E (st s h tk) := PyProof.Rows.sub_int (q _ _)
theorem imul (hm : IntMulOk a b) (q : ∀ t tk', Q (.int (a * b) t) (st s h tk')) : wpAny (model prog w) A (binaryOp .Mult (.int a t) (.int b u)) Q E (st s h tk) := PyProof.Rows.mul_int (q _ _) hm
theorem imod (hb : b ≠ 0) (q : ∀ t tk', Q (.int (a.fmod b) t) (st s h tk')) : wpAny (model prog w) A (binaryOp .Mod (.int a t) (.int b u)) Q E (st s h tk) := PyProof.Rows.mod_int hb (q _ _)
theorem ineg (q : ∀ t tk', Q (.int (-a) t) (st s h tk')) : wpAny (model prog w) A (unaryOp .USub (.int a t)) Q E (st s h tk) := PyProof.Rows.neg_int (q _ _)
theorem iabs (q : ∀ t tk', Q (.int (if a < 0 then -a else a) t) (st s h tk')) : wpAny (model prog w) A (call (.builtin "abs") [.int a t]) Q E (st s h tk) := call_abs_int fun u tk => q u tk
theorem irange (q : ∀ t u tk', Q (.ref h.objs.size) (st s (h.push { cls := .type "range", data := .fields #[.int 0 t, .int a u, .int 1 (t + 1)] }) tk')) :
    wpAny (model prog w) A (call (.type "range") [.int a t]) Q E (st s h tk) := call_range_1 (q _ _ _)
end

section
variable {prog : Program} {w : World} {M : Model} {A : Around} {E : Value → Shared → Prop} {s : Shared} {h : Heap} {tk : Nat} {H B₀ B : Heap} {L : Addr} {own : List (Addr × Obj)} {m mg mb : Str → Option Value} {name : Str} {scope : Scope} {a : Addr} {cd : Value}
/-- a local is read -/
theorem ldx {x : Str} {pos : Pos} {v : Value} {Q : Value → Shared → Prop} (C : Cx H B₀ B L own h m) (hv : m x = some v) (q : Q v (st s h tk))
    (hk : scope.kind = .function := by rfl) (hl : (envOf name scope L a cd).kindOf x = some .local := by rfl) (hd : (x == ("__debug__" : Str)) = false := by decide) :
    wpAny M A (eval (.Name x pos) (envOf name scope L a cd)) Q E (st s h tk) := wpAny_Name (wpAny_loadName_local (s := st s h tk) hk hl C.ns hv q) hd
/-- a local is stored -/
theorem stx {x : Str} {v : Value} {Q : Unit → Shared → Prop} (C : Cx H B₀ B L own h m)
    (q : ∀ h' tk', Cx H B₀ B L own h' (fun y => if y = x then some v else m y) → Q () (st s h' tk'))
    (hk : scope.kind = .function := by rfl) (hl : (envOf name scope L a cd).kindOf x = some .local := by rfl) :
    wpAny M A (storeName (envOf name scope L a cd) x v) Q E (st s h tk) :=
  wpAny_storeName_local (s := st s h tk) hl C.ns (fun h' hn hs => q h' _ (C.store hn hs)) (by show (scope.kind == .class || (scope.kind == .module && L != mainGlobals)) = false; rw [hk]; rfl)
/-- a built-in's name -/
theorem ldb {x : Str} {pos : Pos} {v : Value} {Q : Value → Shared → Prop} (C : Cx H B₀ B L own h m) (W : Wld mg mb B) (hx : x ∈ builtinsHere) (hv : bootBuiltins x = some v) (q : Q v (st s h tk))
    (hk : scope.kind = .function := by rfl) (hl : (envOf name scope L a cd).kindOf x = some .globalImplicit := by rfl) (hd : (x == ("__debug__" : Str)) = false := by decide) :
    wpAny M A (eval (.Name x pos) (envOf name scope L a cd)) Q E (st s h tk) :=
  Name_function_global hk hl (loadGlobal_builtin (s := st s h tk) (env := envOf name scope L a cd) (W.g.keeps C.low) (W.bi x hx).1 (W.b.keeps C.low) ((W.bi x hx).2.trans hv) q) hd
/-- a def's name -/
theorem ldg {x : Str} {pos : Pos} {v : Value} {Q : Value → Shared → Prop} (C : Cx H B₀ B L own h m) (W : Wld mg mb B) (hv : mg x = some v) (q : Q v (st s h tk))
    (hk : scope.kind = .function := by rfl) (hl : (envOf name scope L a cd).kindOf x = some .globalImplicit := by rfl) (hd : (x == ("__debug__" : Str)) = false := by decide) :
    wpAny M A (eval (.Name x pos) (envOf name scope L a cd)) Q E (st s h tk) :=
  Name_function_global hk hl (loadGlobal_global (s := st s h tk) (env := envOf name scope L a cd) (W.g.keeps C.low) hv q) hd
end

section
variable {prog : Program} {w : World} {A : Around} {E : Value → Shared → Prop} {s : Shared} {h : Heap} {tk : Nat} {B : Heap} {mg mb : Str → Option Value}
/-- a def is called that does not raise: its frame -/
theorem call_fn {i : Nat} {f : Addr} {args : List Value} (binds : List (Str × Value)) {Q : Value → Shared → Prop} (hf : IsFn B i f)
    (hroom : A.depth < recursionLimit) (kB : Sub B h) (hlim : B.NoLimit)
    (hbind : ∀ pm code doc, bindArgs (docDef (nameOf (stAt i)) (argsOf (stAt i)) (bodyOf (stAt i)) (scopeOf (stAt i)) pm code doc) ⟨args, []⟩ = pure binds)
    (hloc : ∀ x ∈ binds, (scopeOf (stAt i)).names.lookup x.1 = some .local)
    (q : ∀ L h₁ tk₁ code, Cx h B B L [] h₁ (fun x => binds.reverse.lookup x) →
      wpAny (model prog w) (A.deeper (envOf (nameOf (stAt i)) (scopeOf (stAt i)) L f code)) (execs (bodyOf (stAt i)) (envOf (nameOf (stAt i)) (scopeOf (stAt i)) L f code))
        (fun fl s' => Q (match fl with | .ret v => v | _ => .none) s') (fun _ _ => False) (st s h₁ tk₁))
    (hco : (scopeOf (stAt i)).isCoroutine = false := by rfl) (hgen : (scopeOf (stAt i)).isGenerator = false := by rfl) (hk : (scopeOf (stAt i)).kind = .function := by rfl)
    (hcell : ∀ x ∈ (scopeOf (stAt i)).names, x.2 ≠ .cell := by decide) :
    wpAny (model prog w) A (call (.ref f) args) Q E (st s h tk) := by
  obtain ⟨o, pm, code, doc, ho, hdat, hcd⟩ := hf
  refine wpAny_call (call_plain_ret (s := st s h tk) hroom (kB _ _ ho) hdat (hlim.keeps kB) (hcd.keeps kB) (hbind pm code doc) hloc (fun h₁ F => ?_) hco hgen hk hcell)
  exact q _ h₁ _ _ ⟨F.ns, ⟨.refl _, fun b o e => F.keep b o (kB b o e), F.keep, fun _ _ e => e⟩, kB.none (get_none_size _), get_none_size _, fun _ hp => nomatch hp⟩
end

section
variable {prog : Program} {w : World} {A : Around} {E : Value → Shared → Prop} {s : Shared} {h : Heap} {tk : Nat} {H B₀ B : Heap} {L : Addr} {own : List (Addr × Obj)} {m mg mb : Str → Option Value} {name : Str} {scope : Scope} {a : Addr} {cd : Value}
/-- a def of the text is called, with one argument or more -/
theorem ecall (i : Nat) {p pos : Pos} {e : Expr} {rest : List Expr} {Q : Value → Shared → Prop} (C : Cx H B₀ B L own h m) (W : Wld mg mb B) (hi : i ∈ defsHere)
    (q : ∀ f, IsFn B i f → wpAny (model prog w) A (spliced (backTo pos (starEach (e :: rest) (envOf name scope L a cd)))) (fun vs s₁ => Sub B s₁.heap ∧ wpAny (model prog w) A (call (.ref f) vs) Q E s₁) E (st s h tk))
    (hk : scope.kind = .function := by rfl) (hl : (envOf name scope L a cd).kindOf (nameOf (stAt i)) = some .globalImplicit := by rfl) (hd : (nameOf (stAt i) == ("__debug__" : Str)) = false := by decide)
    (he : starEach (e :: rest) (envOf name scope L a cd) = (false, eval e (envOf name scope L a cd)) :: starEach rest (envOf name scope L a cd) := by rfl)
    (hc : eval (.Call (.Name (nameOf (stAt i)) p) (e :: rest) [] pos) (envOf name scope L a cd) = (do callWith pos (← eval (.Name (nameOf (stAt i)) p) (envOf name scope L a cd)) [] (backTo pos (starEach (e :: rest) (envOf name scope L a cd))) (backToKw pos (keywordEach [] (envOf name scope L a cd)))) := by rfl) :
    wpAny (model prog w) A (eval (.Call (.Name (nameOf (stAt i)) p) (e :: rest) [] pos) (envOf name scope L a cd)) Q E (st s h tk) := by
  obtain ⟨f, hm, hf⟩ := W.fn i hi
  refine Call_ (ldg C W hm ?_ hk hl hd) hc
  obtain ⟨o, pm, code, doc, ho, hdat, hcd⟩ := id hf
  exact callWith_def hdat (wpAny_mono (q f hf) (fun vs s₁ x => ⟨x.1 _ _ ho, x.2⟩) fun _ _ x => x) he
/-- len(x) of a list that is known -/
theorem elen {p q pos : Pos} {x : Str} {l : Addr} {vs : List Value} {Q : Value → Shared → Prop} (C : Cx H B₀ B L own h m) (W : Wld mg mb B) (hx : m x = some (.ref l)) (hl : B.IsList l vs.toArray) (hn : vs.length ≤ 8192)
    (k : ∀ t tk', Q (.int vs.length t) (st s h tk'))
    (hk : scope.kind = .function := by rfl) (hl1 : (envOf name scope L a cd).kindOf "len" = some .globalImplicit := by rfl) (hl2 : (envOf name scope L a cd).kindOf x = some .local := by rfl) (hd : (x == ("__debug__" : Str)) = false := by decide) :
    wpAny (model prog w) A (eval (.Call (.Name "len" p) [.Name x q] [] pos) (envOf name scope L a cd)) Q E (st s h tk) := by
  refine Call_ (ldb C W (by decide) (v := .builtin "len") PyProof.Rows.Boot.«len» ?_ hk hl1) rfl
  refine PyProof.Rows.callWith_builtin1 (args_cons (ldx C hx (args_nil ?_) hk hl2 hd) rfl) rfl rfl
  exact call_len_list (s := st s h tk) (isList_keeps hl C.low) (by rw [List.size_toArray]; omega) (by rw [List.size_toArray]; exact k _ _)
/-- an item of a list that is known -/
theorem eitem {value slice : Expr} {l : Addr} {vs : List Value} {v : Value} {k : Int} {t : Tok} {Q : Value → Shared → Prop} (C : Cx H B₀ B L own h m) (hl : B.IsList l vs.toArray) (h0 : 0 ≤ k) (hx : vs[k.toNat]? = some v) (hn : vs.length ≤ 8192) (q : Q v (st s h tk))
    (hs : subscripted slice false (.ref l) (.int k t) = operate [.ref l, .int k t] (getItem (.ref l) (.int k t)) := by with_unfolding_all rfl) :
    wpAny (model prog w) A (subscriptTail value slice (.ref l) (.int k t)) Q E (st s h tk) := by
  have := (List.getElem?_eq_some_iff.mp hx).1
  exact tail_any (s := st s h tk) (isList_keeps hl C.low).typeIs slot_list_getitem.lookup (wpAny_getItem_list (s := st s h tk) (isList_keeps hl C.low) h0 (by omega) (by simpa using hx) q) hs
/-- an item of a tuple that is known -/
theorem etup {value slice : Expr} {l : Addr} {vs : List Value} {v : Value} {k : Nat} {z : Int} {t : Tok} {Q : Value → Shared → Prop} (C : Cx H B₀ B L own h m) (hl : IsTup B l vs.toArray) (hz : z = (k : Int)) (hx : vs[k]? = some v) (hn : vs.length ≤ 8192) (q : Q v (st s h tk))
    (hs : subscripted slice false (.ref l) (.int z t) = operate [.ref l, .int z t] (getItem (.ref l) (.int z t)) := by with_unfolding_all rfl) :
    wpAny (model prog w) A (subscriptTail value slice (.ref l) (.int z t)) Q E (st s h tk) := by
  subst hz
  have hk := (List.getElem?_eq_some_iff.mp hx).1
  refine item_tupleT (s := st s h tk) (isTup_keeps hl C.low) (by omega) (by omega) (j := k) ?_ hx q hs
  unfold seqIndex?
  simp
  omega
/-- a new list, known from now on -/
theorem newl {M : Model} {vs : List Value} {Q : Value → Shared → Prop} (C : Cx H B₀ B L own h m) (hn : vs.length ≤ 8192)
    (q : ∀ D B' h', Cx H B₀ B' L own h' m → Sub B B' → B'.get? D = some (lst vs 0) → Q (.ref D) (st s h' tk)) : wpAny M A (newList vs) Q E (st s h tk) :=
  let ⟨B', C', k, g⟩ := C.push (lst vs 0)
  wpAny_newObj_type (s := st s h tk) (q _ B' _ C' k g) (by show vs.toArray.size ≤ sizeLine; rw [List.size_toArray]; exact size_small hn)
/-- a new list, owned from now on -/
theorem newo {M : Model} {vs : List Value} {Q : Value → Shared → Prop} (C : Cx H B₀ B L own h m) (hn : vs.length ≤ 8192)
    (q : ∀ D h', Cx H B₀ B L ((D, lst vs 0) :: own) h' m → Q (.ref D) (st s h' tk)) : wpAny M A (newList vs) Q E (st s h tk) :=
  wpAny_newObj_type (s := st s h tk) (q _ _ (C.adopt (lst vs 0))) (by show vs.toArray.size ≤ sizeLine; rw [List.size_toArray]; exact size_small hn)
/-- a new tuple -/
theorem newt {M : Model} {vs : List Value} {Q : Value → Shared → Prop} (C : Cx H B₀ B L own h m) (hn : vs.length ≤ 8192)
    (q : ∀ D B' h', Cx H B₀ B' L own h' m → Sub B B' → B'.get? D = some (tup vs) → Q (.ref D) (st s h' tk)) : wpAny M A (newTuple vs) Q E (st s h tk) :=
  let ⟨B', C', k, g⟩ := C.push (tup vs)
  wpAny_newObj_type (s := st s h tk) (q _ B' _ C' k g) (by show vs.toArray.size ≤ sizeLine; rw [List.size_toArray]; exact size_small hn)
/-- range(n) -/
theorem erange {z : Int} {u : Tok} {Q : Value → Shared → Prop} (C : Cx H B₀ B L own h m)
    (q : ∀ r t u v h' tk', Cx H B₀ B L own h' m → IsRange h' r 0 z 1 t u v → Q (.ref r) (st s h' tk')) : wpAny (model prog w) A (call (.type "range") [.int z u]) Q E (st s h tk) :=
  call_range_1 (s := st s h tk) (q _ _ _ _ _ _ (C.still (Sub.push _ _)) (IsRange.new _ _ _ _ _ _ _))
/-- x.append(e), x the one list that the frame owns -/
theorem eappend {x : Str} {q apos pos pos' : Pos} {e : Expr} {D : Addr} {vs : List Value} {n : Nat} {Q : Flow → Shared → Prop} (C : Cx H B₀ B L [(D, lst vs n)] h m) (hx : m x = some (.ref D))
    (k : wpAny (model prog w) A (eval e (envOf name scope L a cd)) (fun v s₁ => ∃ B₁ h₁ tk₁, s₁ = st s h₁ tk₁ ∧ Cx H B₀ B₁ L [(D, lst vs n)] h₁ m ∧ vs.length ≤ 8000 ∧ ∀ h' n', Cx H B₀ B₁ L [(D, lst (vs ++ [v]) n')] h' m → Q .next (st s h' tk₁)) E (st s h tk))
    (hk : scope.kind = .function := by rfl) (hl2 : (envOf name scope L a cd).kindOf x = some .local := by rfl) (hd : (x == ("__debug__" : Str)) = false := by decide)
    {pl : Sem Bool} (he : eval (.Call (.Attribute (.Name x q) "append" apos) [e] [] pos) (envOf name scope L a cd) = (do
      let ov ← eval (.Name x q) (envOf name scope L a cd)
      standAt apos.atName
      let (f, first) ← holding [ov] (getMethod ov "append" pl)
      callWith pos f first (backTo pos (starEach [e] (envOf name scope L a cd))) []) := by rfl)
    (hi : interactive (envOf name scope L a cd) = false := by rfl) (hsw : swapsWith (.Call (.Attribute (.Name x q) "append" apos) [e] [] pos) none pos'.line (envOf name scope L a cd) = pure false := by rfl)
    (hst : starEach [e] (envOf name scope L a cd) = (false, eval e (envOf name scope L a cd)) :: starEach [] (envOf name scope L a cd) := by rfl) :
    wpAny (model prog w) A (exec (.Expr (.Call (.Attribute (.Name x q) "append" apos) [e] [] pos) pos') (envOf name scope L a cd)) Q E (st s h tk) := by
  refine wpAny_Expr (MethodCall_ (ldx C hx ?_ hk hl2 hd) he) hi hsw
  refine getMethod_list_append (s := st s h tk) (C.own _ (.head _)).1 rfl rfl ?_
  refine callWith_method1 (args_cons (wpAny_mono k (fun v s₁ x => ?_) fun _ _ x => x) hst) hst rfl
  obtain ⟨B₁, h₁, tk₁, rfl, C₁, hn, k⟩ := x
  refine args_nil (wpAny_list_append_plain (s := st s h₁ tk₁) ⟨n, (C₁.own _ (.head _)).1⟩ (fun h' hp hs => ?_) (by rw [List.size_toArray]; exact size_small (by omega)))
  obtain ⟨n', e'⟩ := hp
  have e1 : vs.toArray.push v = (vs ++ [v]).toArray := by simp
  rw [e1] at e'
  exact k h' _ (C₁.turn hs e')
/-- xs + ys -/
theorem eadd {l b : Addr} {vs ws : List Value} {Q : Value → Shared → Prop} (C : Cx H B₀ B L own h m) (hl : B.IsList l vs.toArray) (hb : B.IsList b ws.toArray) (hn : vs.length + ws.length ≤ 8192)
    (q : ∀ D B' h', Cx H B₀ B' L own h' m → Sub B B' → B'.get? D = some (lst (vs ++ ws) 0) → Q (.ref D) (st s h' tk)) : wpAny (model prog w) A (binaryOp .Add (.ref l) (.ref b)) Q E (st s h tk) := by
  obtain ⟨B', C', k, g⟩ := C.push (lst (vs ++ ws) 0)
  have q' := q _ B' _ C' k g
  obtain ⟨⟨c1, d1, t1, s1⟩, o1, k1, n1, e1⟩ := isList_keeps hl C.low
  obtain ⟨⟨c2, d2, t2, s2⟩, o2, k2, n2, e2⟩ := isList_keeps hb C.low
  simp only at k1 e1 k2 e2
  subst k1 e1 k2 e2
  have e : vs.toArray ++ ws.toArray = (vs ++ ws).toArray := by simp
  refine concat_meets (s := st s h tk) ⟨_, o1, rfl⟩ ⟨_, o2, rfl⟩ noFill_list_add seq_list_add PySem.F.slot_list_add PySem.F.entry_list_add (PySem.F.args_list_add_2 _ _) (list_addW l b vs.toArray ws.toArray n1 n2 d1 d2 s1 s2 (by simpa using size_small hn)) ⟨o1, o2, ?_⟩
  rw [e]
  exact q'
/-- the same, the new list owned from now on -/
theorem eaddo {l b : Addr} {vs ws : List Value} {Q : Value → Shared → Prop} (C : Cx H B₀ B L own h m) (hl : B.IsList l vs.toArray) (hb : B.IsList b ws.toArray) (hn : vs.length + ws.length ≤ 8192)
    (q : ∀ D h', Cx H B₀ B L ((D, lst (vs ++ ws) 0) :: own) h' m → Q (.ref D) (st s h' tk)) : wpAny (model prog w) A (binaryOp .Add (.ref l) (.ref b)) Q E (st s h tk) := by
  have q' := q _ _ (C.adopt (lst (vs ++ ws) 0))
  obtain ⟨⟨c1, d1, t1, s1⟩, o1, k1, n1, e1⟩ := isList_keeps hl C.low
  obtain ⟨⟨c2, d2, t2, s2⟩, o2, k2, n2, e2⟩ := isList_keeps hb C.low
  simp only at k1 e1 k2 e2
  subst k1 e1 k2 e2
  have e : vs.toArray ++ ws.toArray = (vs ++ ws).toArray := by simp
  refine concat_meets (s := st s h tk) ⟨_, o1, rfl⟩ ⟨_, o2, rfl⟩ noFill_list_add seq_list_add PySem.F.slot_list_add PySem.F.entry_list_add (PySem.F.args_list_add_2 _ _) (list_addW l b vs.toArray ws.toArray n1 n2 d1 d2 s1 s2 (by simpa using size_small hn)) ⟨o1, o2, ?_⟩
  rw [e]
  exact q'
theorem rep_one (v : Value) (k : Nat) : List.foldl (fun x1 x2 => x1 ++ x2) #[] (List.replicate k #[v]) = (List.replicate k v).toArray := by
  have : ∀ (k : Nat) (acc : Array Value), List.foldl (fun x1 x2 => x1 ++ x2) acc (List.replicate k #[v]) = acc ++ (List.replicate k v).toArray := by
    intro k
    induction k with
    | zero => intro acc; simp
    | succ k ih =>
      intro acc
      rw [List.replicate_succ, List.foldl_cons, ih, List.replicate_succ]
      apply Array.toList_inj.mp
      simp
  simpa using this k #[]
theorem emulG {s : Shared} {l : Addr} {items : Array Value} {n : Nat} {x : Int} {u : Tok} {Q : Value → Shared → Prop} (hl : s.heap.get? l = some { cls := .type "list", dict := none, data := .seq items n, slots := #[] })
    (hlo : 0 ≤ x) (hhi : x < 2 ^ 62) (hsz : items.size * x.toNat ≤ 2 ^ 23)
    (q : Q (.ref s.heap.objs.size) { s with heap := s.heap.push { cls := .type "list", data := .seq (List.foldl (fun x1 x2 => x1 ++ x2) #[] (List.replicate (if items.isEmpty = true then 0 else x.toNat) items)) } }) :
    wpAny (model prog w) A (binaryOp .Mult (.ref l) (.int x u)) Q E s := by
  refine wpAny_binaryOp_repeat_ref (T := "list") (U := "int") (by decide) ⟨_, hl, rfl⟩ (fun s' => typeIs_int s' x u) noFill_list_mul PySem.F.fills_int_mul PySem.F.slot_int_rmul repeat_list PySem.F.slot_int_index.lookup ?_
  refine call_meets PySem.F.slot_int_rmul (typeIs_int s x u) PySem.F.entry_int_rmul (PySem.F.args_int_rmul_2 _ _) (int___rmul___int_list x u l items n) ⟨hl, rfl, ⟨_, hl, rfl⟩, ?_⟩
  have z1 : ¬(!Builtin.List.listFitsIndex x) = true := by simp [Builtin.List.listFitsIndex]; omega
  have z2 : ¬items.size * x.toNat > (2 ^ 63 - 1) / 8 := by omega
  have z3 : ¬Builtin.List.listTooLong (items.size * x.toNat) = true := by simp [Builtin.List.listTooLong, sizeLine]; omega
  exact call_meets PySem.F.slot_list_mul ⟨_, hl, rfl⟩ PySem.F.entry_list_mul (PySem.F.args_list_mul_2 _ _) (AutoListH.list___mul___list_int_3 l items n x u z1 z2 z3) ⟨hl, q⟩
/-- [v] * k -/
theorem emul {l : Addr} {v : Value} {n : Nat} {k : Nat} {z : Int} {u : Tok} {Q : Value → Shared → Prop} (C : Cx H B₀ B L own h m) (hl : B.get? l = some (lst [v] n)) (hz : z = (k : Int)) (hk : k ≤ 8192)
    (q : ∀ D B' h', Cx H B₀ B' L own h' m → Sub B B' → B'.get? D = some (lst (List.replicate k v) 0) → Q (.ref D) (st s h' tk)) : wpAny (model prog w) A (binaryOp .Mult (.ref l) (.int z u)) Q E (st s h tk) := by
  subst hz
  obtain ⟨B', C', k', g⟩ := C.push (lst (List.replicate k v) 0)
  have q' := q _ B' _ C' k' g
  refine emulG (s := st s h tk) (C.low _ _ hl) (by omega) (by omega) (by simp; omega) ?_
  have e : List.foldl (fun x1 x2 => x1 ++ x2) #[] (List.replicate (if ([v].toArray).isEmpty = true then 0 else ((k : Int)).toNat) [v].toArray) = (List.replicate k v).toArray := by
    rw [if_neg (by simp)]; exact rep_one v k
  rw [e]
  exact q'
/-- new[k] = v, new the one list that the frame owns -/
theorem eset {D : Addr} {vs : List Value} {o : Obj} {k : Int} {t : Tok} {v : Value} {Q : Unit → Shared → Prop} (C : Cx H B₀ B L [(D, o)] h m) (hc : o.cls = .type "list") (hd : ∃ n, o.data = .seq vs.toArray n) (h0 : 0 ≤ k) (h1 : k < vs.length) (hn : vs.length ≤ 8192)
    (q : ∀ o' h', Cx H B₀ B L [(D, o')] h' m → o'.cls = .type "list" → (∃ n, o'.data = .seq (vs.set k.toNat v).toArray n) → Q () (st s h' tk)) : wpAny (model prog w) A (setItem (.ref D) (.int k t) v) Q E (st s h tk) := by
  refine wpAny_setItem_list (s := st s h tk) ⟨o, (C.own _ (.head _)).1, hc, hd⟩ h0 (by omega) (by simpa using h1) fun h' hl hs => ?_
  obtain ⟨o', e1, e2, n, e3⟩ := hl
  have e : vs.toArray.setIfInBounds k.toNat v = (vs.set k.toNat v).toArray := by apply Array.toList_inj.mp; simp
  rw [e] at e3
  exact q o' h' (C.turn hs e1) e2 ⟨n, e3⟩
/-- list(xs) -/
theorem ecopy {l : Addr} {vs : List Value} {Q : Value → Shared → Prop} (C : Cx H B₀ B L own h m) (hl : B.IsList l vs.toArray) (hn : vs.length ≤ 8192)
    (q : ∀ D n h', Sub h h' → h.get? D = none → h'.get? D = some (lst vs n) → Q (.ref D) (st s h' tk)) : wpAny (model prog w) A (call (.type "list") [.ref l]) Q E (st s h tk) := by
  obtain ⟨o, ho, hc, n, hd⟩ := isList_keeps hl C.low
  exact call_list_seq (s := st s h tk) (hsz := by rw [List.size_toArray]; exact size_small hn) l (.inl rfl) ho hc hd fun h' c' hk hD => q _ c' h' hk (get_none_size h) hD
/-- xs[:b] -/
theorem eupto {value : Expr} {x : Str} {p q pos : Pos} {l : Addr} {vs : List Value} {b : Nat} {z : Int} {t : Tok} {Q : Value → Shared → Prop} (C : Cx H B₀ B L own h m) (hx : m x = some (.int z t)) (hl : B.IsList l vs.toArray) (hz : z = (b : Int)) (hb : b ≤ vs.length) (hn : vs.length ≤ 8192)
    (k : ∀ D B' h', Cx H B₀ B' L own h' m → Sub B B' → B'.get? D = some (lst (vs.take b) 0) → Q (.ref D) (st s h' tk))
    (hv : wpAny (model prog w) A (eval value (envOf name scope L a cd)) (fun v s₁ => v = .ref l ∧ s₁ = st s h tk) E (st s h tk))
    (hk : scope.kind = .function := by rfl) (hl2 : (envOf name scope L a cd).kindOf x = some .local := by rfl) (hd : (x == ("__debug__" : Str)) = false := by decide)
    (hs : ∀ r, subscripted (.Slice none (some (.Name x q)) none p) false (.ref l) (.ref r) = operate [.ref r, .ref l] (getItem (.ref l) (.ref r)) := by intro _; with_unfolding_all rfl)
    (ht : ∀ r, letTemporaryGo value (.ref l) r = pure () := by intro _; with_unfolding_all rfl) :
    wpAny (model prog w) A (eval (.Subscript value (.Slice none (some (.Name x q)) none p) pos) (envOf name scope L a cd)) Q E (st s h tk) := by
  subst hz
  refine Subscript_ (wpAny_mono hv (fun v s₁ y => ?_) fun _ _ y => y)
  obtain ⟨rfl, rfl⟩ := y
  refine wpAny_Slice (wpAny_pure (ldx C hx (wpAny_pure ?_) hk hl2 hd))
  obtain ⟨B', C', k', g⟩ := C.grown ((Sub.push h { cls := .type "slice", data := .fields #[.none, .int (b : Int) t, .none] }).trans (Sub.push _ (lst (vs.take b) 0)))
  have e : h.objs.size + 1 = (h.push { cls := .type "slice", data := .fields #[.none, .int (b : Int) t, .none] }).objs.size := by rw [Heap.size_push]
  have g' : B'.get? (h.objs.size + 1) = some (lst (vs.take b) 0) := g _ _ (by
    cases q : h.get? (h.objs.size + 1) with
    | none => rfl
    | some o => exact absurd (Heap.lt_size q) (Nat.not_lt.mpr (Nat.le_succ _))) (by rw [e]; exact Heap.get?_push_size _ rfl)
  have q' := k _ B' _ C' k' g'
  refine slice_listK (s := st s h tk) (isList_keeps hl C.low) .none (.int _ _) ?_ (hs _) ht (by rw [List.size_toArray]; exact size_small hn)
  rw [slicePick_upto _ _ (by simpa using hb)]
  exact q'
/-- xs[y + 1:] -/
theorem efrom {value lo : Expr} {p pos : Pos} {l : Addr} {vs : List Value} {b : Nat} {Q : Value → Shared → Prop} (C : Cx H B₀ B L own h m) (hl : B.IsList l vs.toArray) (hb : b ≤ vs.length) (hn : vs.length ≤ 8192)
    (k : ∀ D B' h' tk', Cx H B₀ B' L own h' m → Sub B B' → B'.get? D = some (lst (vs.drop b) 0) → Q (.ref D) (st s h' tk'))
    (hv : wpAny (model prog w) A (eval value (envOf name scope L a cd)) (fun v s₁ => v = .ref l ∧ s₁ = st s h tk) E (st s h tk))
    (hlo : wpAny (model prog w) A (eval lo (envOf name scope L a cd)) (fun v s₁ => ∃ t tk', v = .int (b : Int) t ∧ s₁ = st s h tk') E (st s h tk))
    (hs : ∀ r, subscripted (.Slice (some lo) none none p) false (.ref l) (.ref r) = operate [.ref r, .ref l] (getItem (.ref l) (.ref r)) := by intro _; with_unfolding_all rfl)
    (ht : ∀ r, letTemporaryGo value (.ref l) r = pure () := by intro _; with_unfolding_all rfl) :
    wpAny (model prog w) A (eval (.Subscript value (.Slice (some lo) none none p) pos) (envOf name scope L a cd)) Q E (st s h tk) := by
  refine Subscript_ (wpAny_mono hv (fun v s₁ y => ?_) fun _ _ y => y)
  obtain ⟨rfl, rfl⟩ := y
  refine wpAny_Slice (wpAny_mono hlo (fun v s₁ y => ?_) fun _ _ y => y)
  obtain ⟨t, tk', rfl, rfl⟩ := y
  refine wpAny_pure (wpAny_pure ?_)
  obtain ⟨B', C', k', g⟩ := C.grown ((Sub.push h { cls := .type "slice", data := .fields #[.int (b : Int) t, .none, .none] }).trans (Sub.push _ (lst (vs.drop b) 0)))
  have e : h.objs.size + 1 = (h.push { cls := .type "slice", data := .fields #[.int (b : Int) t, .none, .none] }).objs.size := by rw [Heap.size_push]
  have g' : B'.get? (h.objs.size + 1) = some (lst (vs.drop b) 0) := g _ _ (by
    cases q : h.get? (h.objs.size + 1) with
    | none => rfl
    | some o => exact absurd (Heap.lt_size q) (Nat.not_lt.mpr (Nat.le_succ _))) (by rw [e]; exact Heap.get?_push_size _ rfl)
  have q' := k _ B' _ tk' C' k' g'
  refine slice_listK (s := st s h tk') (isList_keeps hl C.low) (.int _ _) .none ?_ (hs _) ht (by rw [List.size_toArray]; exact size_small hn)
  rw [slicePick_from _ _ (by simpa using hb)]
  exact q'
/-- two data are compared -/
theorem ene {v v' : Value} {d d' : PyData} {Q : Value → Shared → Prop} (C : Cx H B₀ B L own h m) (hv : Rd B v d) (hv' : Rd B v' d') (hd : SeqAt.shaped d = true) (hd' : SeqAt.shaped d' = true) (hu : A.units + 64 < cLine)
    (q : Q (.bool (!PyData.eqv d d')) (st s h tk)) : wpAny (model prog w) A (compareOp .NotEq v v') Q E (st s h tk) := by
  obtain ⟨as, r⟩ := hv
  obtain ⟨as', r'⟩ := hv'
  exact ne_dataH (s := st s h tk) (Reads.keeps C.low r) (Reads.keeps C.low r') hd hd' hu q
end

/-! _law_cell -/
def intsD (ns : List Int) : PyData := .list (ns.map .int)
def cell (sc : List Int) (i : Nat) : Int := if i < sc.length then sc.getD i 0 else i
theorem cell_spec {prog : Program} {w : World} {A : Around} {E : Value → Shared → Prop} {s : Shared} {h : Heap} {tk : Nat} {B : Heap} {mg mb : Str → Option Value} {f : Addr} {v : Value} {sc : List Int} {i : Nat} {k : Int} {t : Tok} {Q : Value → Shared → Prop}
    (hf : IsFn B 6 f) (rm : Room A 1) (kB : Sub B h) (W : Wld mg mb B)
    (hv : Rd B v (intsD sc)) (hn : sc.length ≤ 4096) (hk : k = (i : Int))
    (q : ∀ t' B' h' tk', Ext B h B' h' → Q (.int (cell sc i) t') (st s h' tk')) :
    wpAny (model prog w) A (call (.ref f) [v, .int k t]) Q E (st s h tk) := by
  subst hk
  obtain ⟨l, vs, rfl, hl, hr⟩ := hv.listInv
  have hlen : vs.length = sc.length := by simpa using hr.len
  refine call_fn [("script", .ref l), ("i", .int i t)] hf (by have := rm.dp; omega) kB W.nolimit (fun _ _ _ => rfl) (locs rfl) (fun L h₁ tk₁ code C => ?_)
  refine wpAny_execs_cons (wpAny_If (wpAny_isTrue_Compare1 (ldx C rfl (elen C W rfl hl (by omega) fun _ _ => ?_))))
  refine PyProof.Rows.lt_int (wpAny_truthy_bool ?_)
  split
  next hb =>
    refine wpAny_execs_cons (wpAny_Return_some (Subscript_ (ldx C rfl (ldx C rfl ?_))))
    have hlt : i < sc.length := by simp only [decide_eq_true_eq] at hb; omega
    obtain ⟨v, hv, hvr⟩ := hr.get (i := i) (d := .int (sc[i])) (by simp [hlt])
    obtain ⟨t', rfl⟩ := hvr.intInv
    refine eitem C hl (by omega) (by simpa using hv) (by omega) ?_
    have e : cell sc i = sc[i] := by simp [cell, hlt]
    rw [← e]
    exact q t' B h₁ _ C.ext
  next hb =>
    refine wpAny_execs_nil (wpAny_execs_cons (wpAny_Return_some (ldx C rfl ?_)))
    have hge : ¬ i < sc.length := by simp only [decide_eq_true_eq] at hb; omega
    have e : cell sc i = i := by simp [cell, hge]
    rw [← e]
    exact q t B h₁ _ C.ext
end Mine

end
section
namespace Mine
open PySem PySem.Calls PyProof.Rows PySem.Spec
set_option maxRecDepth 100000
set_option maxHeartbeats 1000000

def wcell (sc : List Int) (k : Nat) : Int := if cell sc k < 0 then -cell sc k else cell sc k
def words (sc : List Int) (start count : Nat) : List Int := (List.range count).map fun i => wcell sc (start + i)
theorem words_succ (sc : List Int) (start i : Nat) : words sc start (i + 1) = words sc start i ++ [wcell sc (start + i)] := by simp [words, List.range_succ]
theorem words_len (sc : List Int) (start i : Nat) : (words sc start i).length = i := by simp [words]
theorem ints_snoc (ns : List Int) (n : Int) : (ns ++ [n]).map PyData.int = ns.map PyData.int ++ [.int n] := by simp

section
variable {prog : Program} {w : World} {A : Around} {E : Value → Shared → Prop} {s : Shared} {h : Heap} {tk : Nat} {B : Heap} {mg mb : Str → Option Value} {f : Addr} {Q : Value → Shared → Prop}

theorem words_spec {v : Value} {sc : List Int} {start count : Nat} {z z' : Int} {t t' : Tok}
    (hf : IsFn B 7 f) (rm : Room A 2) (kB : Sub B h) (W : Wld mg mb B)
    (hv : Rd B v (intsD sc)) (hn : sc.length ≤ 4096) (hc : count ≤ 4096) (hz : z = (start : Int)) (hz' : z' = (count : Int))
    (q : ∀ v' B' h' tk', Ext B h B' h' → Rd B' v' (intsD (words sc start count)) → Q v' (st s h' tk')) :
    wpAny (model prog w) A (call (.ref f) [v, .int z t, .int z' t']) Q E (st s h tk) := by
  subst hz hz'
  refine call_fn [("script", v), ("start", .int start t), ("count", .int count t')] hf (by have := rm.dp; omega) kB W.nolimit (fun _ _ _ => rfl) (locs rfl) (fun L h₁ tk₁ code C => ?_)
  refine wpAny_execs_cons (wpAny_Assign_Name (List_ (args_nil (newo C (by decide) fun D h₂ C2 => stx C2 fun h₃ tk₃ C3 => ?_))))
  refine wpAny_execs_cons (wpAny_For (Call_ (ldb C3 W (by decide) (v := .type "range") PyProof.Rows.Boot.«range» ?_)))
  refine PyProof.Rows.callWith_type1 (args_cons (ldx C3 rfl (args_nil (erange C3 fun r t1 t2 t3 h₄ tk₄ C4 hr4 => ?_))))
  refine loop_range (n := count) (env := envOf _ _ L f code) rm.hh rfl rfl
    (fun i B₁ own₁ m₁ => (∃ vs n, own₁ = [(D, lst vs n)] ∧ RdAll B₁ vs ((words sc start i).map .int)) ∧ m₁ "script" = some v ∧ m₁ "start" = some (.int start t) ∧ m₁ "out" = some (.ref D))
    C4 hr4 rfl (by omega) ⟨⟨[], 0, rfl, .nil⟩, rfl, rfl, rfl⟩ ?_ ?_
  · rintro i ti B₁ own₁ m₁ H₁ h₅ tk₅ hi ⟨⟨vs, n, rfl, hr⟩, e1, e2, e3⟩ hs ha C5 _
    have hlen : vs.length = i := by simpa [words_len] using hr.len
    have W5 := W.keeps hs
    refine wpAny_execs_cons (eappend C5 e3 ?_)
    refine Call_ (ldb C5 W5 (by decide) (v := .builtin "abs") PyProof.Rows.Boot.«abs» ?_)
    refine PyProof.Rows.callWith_builtin1 (args_cons (ecall 6 C5 W5 (by decide) fun f' hf' => ?_))
    refine args_cons (ldx C5 e1 (args_cons (wpAny_BinOp (ldx C5 e2 (ldx C5 rfl (iadd fun _ _ => args_nil ⟨C5.low, ?_⟩))))))
    refine cell_spec (i := start + i) hf' (rm.deeper (env := envOf _ _ L f code)) C5.low W5 (hv.keeps hs) hn (by omega) fun t9 B₂ h₆ tk₆ x => ?_
    refine args_nil (iabs fun u tk₇ => ?_)
    refine ⟨_, _, _, rfl, C5.step x, by omega, fun h₇ n' C7 => wpAny_execs_nil ?_⟩
    refine ⟨_, _, _, _, _, rfl, C7, rfl, ⟨_, _, rfl, ?_⟩, e1, e2, e3⟩
    rw [words_succ, ints_snoc]
    exact (hr.keeps x.sub).snoc (.int _ _)
  · rintro B₁ own₁ m₁ h₅ tk₅ ⟨⟨vs, n, rfl, hr⟩, e1, e2, e3⟩ hs ha C5
    refine wpAny_execs_cons (wpAny_Return_some (ldx C5 e3 ?_))
    obtain ⟨B₂, C6, hs2, hg⟩ := C5.release
    exact q _ B₂ _ _ C6.ext (.list (lst_is hg) (hr.keeps hs2))

def blks (bs : List (List Int)) : PyData := .list (bs.map intsD)
theorem flatten_take_le (bs : List (List Int)) (i : Nat) : (bs.take i).flatten.length ≤ bs.flatten.length := by
  conv => rhs; rw [← List.take_append_drop i bs]
  rw [List.flatten_append, List.length_append]; omega

theorem flat_spec {v : Value} {bs : List (List Int)}
    (hf : IsFn B 9 f) (rm : Room A 1) (kB : Sub B h) (W : Wld mg mb B)
    (hv : Rd B v (blks bs)) (hn : bs.flatten.length ≤ 4096)
    (q : ∀ v' B' h' tk', Ext B h B' h' → Rd B' v' (intsD bs.flatten) → Q v' (st s h' tk')) :
    wpAny (model prog w) A (call (.ref f) [v]) Q E (st s h tk) := by
  obtain ⟨l, vs, rfl, hl, hr⟩ := hv.listInv
  refine call_fn [("blocks", .ref l)] hf (by have := rm.dp; omega) kB W.nolimit (fun _ _ _ => rfl) (locs rfl) (fun L h₁ tk₁ code C => ?_)
  refine wpAny_execs_cons (wpAny_Assign_Name (List_ (args_nil (newl C (by decide) fun D B1 h₂ C1 k1 g1 => stx C1 fun h₃ tk₃ C3 => ?_))))
  refine wpAny_execs_cons (wpAny_For (ldx C3 rfl ?_))
  have hlen : vs.length = bs.length := by simpa using hr.len
  refine loop_list (env := envOf _ _ L f code) rm.hh rfl rfl
    (fun i B₁ own₁ m₁ => own₁ = [] ∧ ∃ a, m₁ "words" = some (.ref a) ∧ Rd B₁ (.ref a) (intsD (bs.take i).flatten))
    C3 (isList_keeps hl k1) ⟨rfl, _, rfl, .list (lst_is g1) .nil⟩ ?_ ?_
  · rintro i v B₁ own₁ m₁ H₁ h₄ tk₄ hi ⟨rfl, a, e1, hw⟩ hs ha C4 _
    obtain ⟨d, hd, hvr⟩ := hr.at hi
    rw [List.getElem?_map] at hd
    obtain ⟨b, hb, rfl⟩ := Option.map_eq_some_iff.mp hd
    obtain ⟨a', ws, e2, hl2, hr2⟩ := hw.listInv
    cases e2
    obtain ⟨l3, us, rfl, hl3, hr3⟩ := ((hvr.keeps k1).keeps hs).listInv
    have ht : bs.take (i + 1) = bs.take i ++ [b] := by rw [List.take_add_one, hb]; rfl
    have hle := flatten_take_le bs (i + 1)
    rw [ht, List.flatten_append, List.length_append] at hle
    have hz : ws.length + us.length ≤ 4096 := by
      have h2 := hr2.len
      have h3 := hr3.len
      simp only [List.length_map, List.flatten_cons, List.flatten_nil, List.append_nil] at h2 h3 hle
      omega
    refine wpAny_execs_cons (wpAny_Assign_Name (wpAny_BinOp (ldx C4 e1 (ldx C4 rfl (eadd C4 hl2 hl3 (by omega) fun D5 B5 h₅ C5 k5 g5 => ?_)))))
    refine stx C5 fun h₆ tk₆ C6 => wpAny_execs_nil ?_
    refine ⟨_, _, _, _, _, rfl, C6, rfl, rfl, _, rfl, ?_⟩
    rw [ht, List.flatten_append]
    refine .list (lst_is g5) ?_
    have := (hr2.append hr3).keeps k5
    simpa using this
  · rintro B₁ own₁ m₁ h₄ tk₄ ⟨rfl, a, e1, hw⟩ hs ha C4
    refine wpAny_execs_cons (wpAny_Return_some (ldx C4 e1 ?_))
    rw [hlen, List.take_length] at hw
    exact q _ _ _ _ C4.ext hw

def kindN (sc : List Int) (b : Nat) : Nat := (cell sc (1 + b) % 8).toNat
def blk (sc : List Int) (b : Nat) : List Int :=
  if kindN sc b < 4 then (-((kindN sc b : Int) + 1)) :: List.replicate (kindN sc b) 0 else ((kindN sc b : Int) - 4) :: words sc (6 + 2 * b) (kindN sc b - 4)
def nb (sc : List Int) : Nat := 1 + (cell sc 0 % 5).toNat
def layout (sc : List Int) : List (List Int) := (List.range (nb sc)).map (blk sc)
theorem fmod_nat (a : Int) (b : Nat) (hb : 0 < b) : a.fmod (b : Int) = (((a % (b : Int)).toNat : Nat) : Int) := by
  rw [Int.fmod_eq_emod_of_nonneg _ (by omega)]
  have := Int.emod_nonneg a (b := (b : Int)) (by omega)
  omega
theorem kindN_lt (sc : List Int) (i : Nat) : kindN sc i < 8 := by
  have := Int.emod_lt_of_pos (cell sc (1 + i)) (b := 8) (by decide)
  have := Int.emod_nonneg (cell sc (1 + i)) (b := 8) (by decide)
  unfold kindN; omega
theorem nb_le (sc : List Int) : nb sc ≤ 5 := by
  have := Int.emod_lt_of_pos (cell sc 0) (b := 5) (by decide)
  have := Int.emod_nonneg (cell sc 0) (b := 5) (by decide)
  unfold nb; omega
theorem layout_succ (sc : List Int) (i : Nat) : (List.range (i + 1)).map (blk sc) = (List.range i).map (blk sc) ++ [blk sc i] := by simp [List.range_succ]
theorem rd_zeros (B : Heap) (t : Tok) (k : Nat) : RdAll B (List.replicate k (Value.int 0 t)) ((List.replicate k (0 : Int)).map PyData.int) := by
  induction k with
  | zero => exact .nil
  | succ k ih => rw [List.replicate_succ, List.replicate_succ]; exact .cons (.int _ _) ih

theorem layout_spec {v : Value} {sc : List Int}
    (hf : IsFn B 8 f) (rm : Room A 3) (kB : Sub B h) (W : Wld mg mb B)
    (hv : Rd B v (intsD sc)) (hn : sc.length ≤ 4096)
    (q : ∀ v' B' h' tk', Ext B h B' h' → Rd B' v' (blks (layout sc)) → Q v' (st s h' tk')) :
    wpAny (model prog w) A (call (.ref f) [v]) Q E (st s h tk) := by
  refine call_fn [("script", v)] hf (by have := rm.dp; omega) kB W.nolimit (fun _ _ _ => rfl) (locs rfl) (fun L h₁ tk₁ code C => ?_)
  have rm' := rm.deeper (env := envOf (nameOf (stAt 8)) (scopeOf (stAt 8)) L f code)
  refine wpAny_execs_cons (wpAny_Assign_Name (List_ (args_nil (newo C (by decide) fun D h₂ C2 => stx C2 fun h₃ tk₃ C3 => ?_))))
  refine wpAny_execs_cons (wpAny_For (Call_ (ldb C3 W (by decide) (v := .type "range") PyProof.Rows.Boot.«range» ?_)))
  refine PyProof.Rows.callWith_type1 (args_cons (wpAny_BinOp (cint fun _ _ => wpAny_BinOp (ecall 6 C3 W (by decide) fun f' hf' => ?_))))
  refine args_cons (ldx C3 rfl (args_cons (cint fun _ _ => args_nil ⟨C3.low, ?_⟩)))
  refine cell_spec (i := 0) hf' rm'.less C3.low W hv hn rfl fun t9 B₂ h₄ tk₄ x => ?_
  have C4 := C3.step x
  refine cint fun _ _ => imod (by decide) fun _ _ => iadd fun _ _ => args_nil (erange C4 fun r t1 t2 t3 h₅ tk₅ C5 hr5 => ?_)
  have e0 : (1 : Int) + (cell sc 0).fmod 5 = ((nb sc : Nat) : Int) := by
    have := fmod_nat (cell sc 0) 5 (by decide)
    have h5 : ((5 : Nat) : Int) = 5 := rfl
    rw [h5] at this
    rw [this, nb]; omega
  have hnb := nb_le sc
  refine loop_range (n := nb sc) (env := envOf _ _ L f code) rm.hh rfl rfl
    (fun i B₁ own₁ m₁ => (∃ vs n, own₁ = [(D, lst vs n)] ∧ RdAll B₁ vs (((List.range i).map (blk sc)).map intsD)) ∧ m₁ "script" = some v ∧ m₁ "blocks" = some (.ref D))
    C5 hr5 e0 (by omega) ⟨⟨[], 0, rfl, .nil⟩, rfl, rfl⟩ ?_ ?_
  · rintro i ti B₁ own₁ m₁ H₁ h₆ tk₆ hi ⟨⟨vs, n, rfl, hr⟩, e1, e3⟩ hs ha C6 _
    have hlen : vs.length = i := by simpa using hr.len
    have W6 := W.keeps (x.sub.trans hs)
    have hv6 := hv.keeps (x.sub.trans hs)
    refine wpAny_execs_cons (wpAny_Assign_Name (wpAny_BinOp (ecall 6 C6 W6 (by decide) fun f' hf' => ?_)))
    refine args_cons (ldx C6 e1 (args_cons (wpAny_BinOp (cint fun _ _ => ldx C6 rfl (iadd fun _ _ => args_nil ⟨C6.low, ?_⟩)))))
    refine cell_spec (i := 1 + i) hf' rm'.less C6.low W6 hv6 hn (by omega) fun t10 B₃ h₇ tk₇ x7 => ?_
    have C7 := C6.step x7
    have ek : (cell sc (1 + i)).fmod 8 = ((kindN sc i : Nat) : Int) := fmod_nat (cell sc (1 + i)) 8 (by decide)
    have hk8 := kindN_lt sc i
    refine cint fun _ _ => imod (by decide) fun _ _ => ?_
    generalize (cell sc (1 + i)).fmod 8 = z at ek
    refine stx C7 fun h₈ tk₈ C8 => ?_
    have W8 := W6.keeps x7.sub
    have hv8 := hv6.keeps x7.sub
    have hr8 := hr.keeps x7.sub
    refine wpAny_execs_cons (wpAny_If (wpAny_isTrue_Compare1 (ldx C8 rfl (cint fun _ _ => PyProof.Rows.lt_int (wpAny_truthy_bool ?_)))))
    split
    next hb =>
      have hk4 : kindN sc i < 4 := by simp only [decide_eq_true_eq] at hb; omega
      refine wpAny_execs_cons (eappend C8 e3 ?_)
      refine wpAny_BinOp (List_ (args_cons (wpAny_UnaryOp (wpAny_BinOp (ldx C8 rfl (cint fun _ _ => iadd fun _ _ => ineg fun _ _ => args_nil (newl C8 (by simp) fun D9 B9 h₉ C9 k9 g9 => ?_)))))))
      refine wpAny_BinOp (List_ (args_cons (cint fun t0 _ => args_nil (newl C9 (by simp) fun D10 B10 h₁₀ C10 k10 g10 => ?_))))
      refine ldx C10 rfl (emul C10 g10 ek (by omega) fun D11 B11 h₁₁ C11 k11 g11 => ?_)
      refine eadd C11 (lst_is (k11 _ _ (k10 _ _ g9))) (lst_is g11) (by simp; omega) fun D12 B12 h₁₂ C12 k12 g12 => ?_
      refine ⟨_, _, _, rfl, C12, by omega, fun h₁₃ n' C13 => wpAny_execs_nil (wpAny_execs_nil ?_)⟩
      refine ⟨_, _, _, _, _, rfl, C13, rfl, ⟨_, _, rfl, ?_⟩, e1, e3⟩
      rw [layout_succ, List.map_append]
      refine (hr8.keeps (k9.trans (k10.trans (k11.trans k12)))).snoc (.list (lst_is g12) ?_)
      have hb4 : blk sc i = (-((kindN sc i : Int) + 1)) :: List.replicate (kindN sc i) 0 := by rw [blk, if_pos hk4]
      rw [hb4, ← ek]
      exact .cons (.int _ _) (rd_zeros _ _ _)
    next hb =>
      have hk4 : ¬ kindN sc i < 4 := by simp only [decide_eq_true_eq] at hb; omega
      refine wpAny_execs_cons (eappend C8 e3 ?_)
      refine wpAny_BinOp (List_ (args_cons (wpAny_BinOp (ldx C8 rfl (cint fun _ _ => isub fun _ _ => args_nil (newl C8 (by simp) fun D9 B9 h₉ C9 k9 g9 => ?_))))))
      have W9 := W8.keeps k9
      refine ecall 7 C9 W9 (by decide) fun f' hf' => ?_
      refine args_cons (ldx C9 e1 (args_cons (wpAny_BinOp (cint fun _ _ => wpAny_BinOp (cint fun _ _ => ldx C9 rfl (imul (.of_left (by decide)) fun _ _ => iadd fun _ _ => ?_))))))
      refine args_cons (wpAny_BinOp (ldx C9 rfl (cint fun _ _ => isub fun _ _ => args_nil ⟨C9.low, ?_⟩)))
      refine words_spec (start := 6 + 2 * i) (count := kindN sc i - 4) hf' rm'.less C9.low W9 (hv8.keeps k9) hn (by omega) (by omega) (by omega) fun v10 B10 h₁₀ tk₁₀ x10 hr10 => ?_
      have C10 := C9.step x10
      obtain ⟨a10, ws, rfl, hl10, hw10⟩ := hr10.listInv
      have hw10l : ws.length = kindN sc i - 4 := by simpa [words_len] using hw10.len
      refine eadd C10 (lst_is (x10.sub _ _ g9)) hl10 (by simp; omega) fun D12 B12 h₁₂ C12 k12 g12 => ?_
      refine ⟨_, _, _, rfl, C12, by omega, fun h₁₃ n' C13 => wpAny_execs_nil (wpAny_execs_nil ?_)⟩
      refine ⟨_, _, _, _, _, rfl, C13, rfl, ⟨_, _, rfl, ?_⟩, e1, e3⟩
      rw [layout_succ, List.map_append]
      refine (hr8.keeps (k9.trans (x10.sub.trans k12))).snoc (.list (lst_is g12) ?_)
      have hb4 : blk sc i = ((kindN sc i : Int) - 4) :: words sc (6 + 2 * i) (kindN sc i - 4) := by rw [blk, if_neg hk4]
      rw [hb4, ← ek]
      exact .cons (.int _ _) (hw10.keeps k12)
  · rintro B₁ own₁ m₁ h₆ tk₆ ⟨⟨vs, n, rfl, hr⟩, e1, e3⟩ hs ha C6
    refine wpAny_execs_cons (wpAny_Return_some (ldx C6 e3 ?_))
    obtain ⟨B7, C7, k7, g7⟩ := C6.release
    exact q _ B7 _ _ C7.ext (.list (lst_is g7) (hr.keeps k7))
end
end Mine

end
section
namespace Mine
open PySem PySem.Calls PyProof.Rows PySem.Spec
set_option maxRecDepth 100000
set_option maxHeartbeats 1000000

abbrev Trip := Int × Int × Bool
def trip (t : Trip) : PyData := .tuple [.int t.1, .int t.2.1, .bool t.2.2]
def trips (ts : List Trip) : PyData := .list (ts.map trip)
def bsz (h : Int) : Int := if 0 ≤ h then h + 1 else -h
/-- what blocks_of reckons, k words before the end -/
def bo (ns : List Int) : Nat → Int → List Trip → Option (List Trip)
  | 0, _, acc => some acc
  | k + 1, pt, acc =>
    if ((ns.length - (k + 1) : Nat) : Int) = pt then
      if (ns.length : Int) < ((ns.length - (k + 1) : Nat) : Int) + bsz (ns.getD (ns.length - (k + 1)) 0) then none
      else bo ns k (((ns.length - (k + 1) : Nat) : Int) + bsz (ns.getD (ns.length - (k + 1)) 0)) (acc ++ [(((ns.length - (k + 1) : Nat) : Int), bsz (ns.getD (ns.length - (k + 1)) 0), decide (ns.getD (ns.length - (k + 1)) 0 < 0))])
    else bo ns k pt acc
def boAll (ns : List Int) : Option (List Trip) := bo ns ns.length 0 []
theorem bo_at {ns : List Int} {i : Nat} (hi : i < ns.length) (pt : Int) (acc : List Trip) : bo ns (ns.length - i) pt acc =
    if (i : Int) = pt then
      if (ns.length : Int) < (i : Int) + bsz (ns.getD i 0) then none
      else bo ns (ns.length - (i + 1)) ((i : Int) + bsz (ns.getD i 0)) (acc ++ [((i : Int), bsz (ns.getD i 0), decide (ns.getD i 0 < 0))])
    else bo ns (ns.length - (i + 1)) pt acc := by
  have e : ns.length - i = (ns.length - (i + 1)) + 1 := by omega
  rw [e, bo]
  have e2 : ns.length - (ns.length - (i + 1) + 1) = i := by omega
  rw [e2]
def BlocksR (B : Heap) (v : Value) : Option (List Trip) → Prop
  | none => v = .none
  | some ts => Rd B v (trips ts)

section
variable {prog : Program} {w : World} {A : Around} {E : Value → Shared → Prop} {s : Shared} {h : Heap} {tk : Nat} {B : Heap} {mg mb : Str → Option Value} {f : Addr} {Q : Value → Shared → Prop}
theorem ifexp_int {M : Model} {env : Env} {test body orelse : Expr} {pos : Pos} {z : Int}
    (hb : wpAny M A (isTrue test env (eval test env)) (fun b s₁ => ∃ tk₁, s₁ = st s h tk₁ ∧ wpAny M A (eval (if b then body else orelse) env) (fun v s₂ => ∃ t tk₂, v = .int z t ∧ s₂ = st s h tk₂) E (st s h tk₁)) E (st s h tk))
    (q : ∀ t tk', Q (.int z t) (st s h tk')) : wpAny M A (eval (.IfExp test body orelse pos) env) Q E (st s h tk) := by
  refine wpAny_IfExp (wpAny_mono hb (fun b s₁ x => ?_) fun _ _ x => x)
  obtain ⟨tk₁, rfl, x⟩ := x
  have k : ∀ v s₂, (∃ t tk₂, v = Value.int z t ∧ s₂ = st s h tk₂) → Q v s₂ := by
    rintro v s₂ ⟨t, tk₂, rfl, rfl⟩; exact q t tk₂
  cases b with
  | true => exact wpAny_mono x k fun _ _ x => x
  | false => exact wpAny_mono x k fun _ _ x => x

theorem blocks_spec {v : Value} {ns : List Int}
    (hf : IsFn B 2 f) (rm : Room A 1) (kB : Sub B h) (W : Wld mg mb B)
    (hv : Rd B v (intsD ns)) (hn : ns.length ≤ 4096)
    (q : ∀ v' B' h' tk', Ext B h B' h' → BlocksR B' v' (boAll ns) → Q v' (st s h' tk')) :
    wpAny (model prog w) A (call (.ref f) [v]) Q E (st s h tk) := by
  obtain ⟨l, vs, rfl, hl, hr⟩ := hv.listInv
  have hlen : vs.length = ns.length := by simpa using hr.len
  refine call_fn [("mem", .ref l)] hf (by have := rm.dp; omega) kB W.nolimit (fun _ _ _ => rfl) (locs rfl) (fun L h₁ tk₁ code C => ?_)
  refine wpAny_execs_cons (wpAny_Assign_Name (List_ (args_nil (newo C (by decide) fun D h₂ C2 => stx C2 fun h₃ tk₃ C3 => ?_))))
  refine wpAny_execs_cons (wpAny_Assign_Name (cint fun t0 _ => stx C3 fun h₄ tk₄ C4 => ?_))
  refine wpAny_execs_cons (wpAny_For (Call_ (ldb C4 W (by decide) (v := .type "range") PyProof.Rows.Boot.«range» ?_)))
  refine PyProof.Rows.callWith_type1 (args_cons (elen C4 W rfl hl (by omega) fun _ _ => args_nil (erange C4 fun r t1 t2 t3 h₅ tk₅ C5 hr5 => ?_)))
  refine loop_range (n := ns.length) (env := envOf _ _ L f code) rm.hh rfl rfl
    (fun i B₁ own₁ m₁ => ∃ pt t acc vs' n, own₁ = [(D, lst vs' n)] ∧ RdAll B₁ vs' (acc.map trip) ∧ m₁ "mem" = some (.ref l) ∧ m₁ "blocks" = some (.ref D) ∧ m₁ "at" = some (.int pt t) ∧ acc.length ≤ i ∧ bo ns (ns.length - i) pt acc = boAll ns)
    C5 hr5 (by omega) (by omega) ⟨0, t0, [], [], 0, rfl, .nil, rfl, rfl, rfl, Nat.le_refl _, rfl⟩ ?_ ?_
  · rintro i ti B₁ own₁ m₁ H₁ h₆ tk₆ hi ⟨pt, tp, acc, vs', n, rfl, hr6, e1, e2, e3, hacc, hbo⟩ hs ha C6 conv
    have hl6 := hr6.len
    rw [List.length_map] at hl6
    rw [bo_at hi] at hbo
    have W6 := W.keeps hs
    refine wpAny_execs_cons (wpAny_If (wpAny_isTrue_Compare1 (ldx C6 rfl (ldx C6 e3 (PyProof.Rows.eq_int (wpAny_truthy_bool ?_))))))
    split
    next hb =>
      have hpt : (i : Int) = pt := by simpa using hb
      rw [if_pos hpt] at hbo
      obtain ⟨z, hz⟩ : ∃ z, ns.getD i 0 = z := ⟨_, rfl⟩
      rw [hz] at hbo
      obtain ⟨v7, hv7, hvr7⟩ := hr.get (i := i) (d := .int z) (by rw [← hz]; simp [hi])
      obtain ⟨t7, rfl⟩ := hvr7.intInv
      refine wpAny_execs_cons (wpAny_Assign_Name (Subscript_ (ldx C6 e1 (ldx C6 rfl (eitem C6 (isList_keeps hl hs) (by omega) (by simpa using hv7) (by omega) (stx C6 fun h₇ tk₇ C7 => ?_))))))
      refine wpAny_execs_cons (wpAny_Assign_Name (ifexp_int (z := bsz z) (wpAny_isTrue_Compare1 (ldx C7 rfl (cint fun _ _ => PyProof.Rows.ge_int (wpAny_truthy_bool ⟨_, rfl, ?_⟩)))) fun t8 tk₈ => stx C7 fun h₉ tk₉ C9 => ?_))
      · by_cases hz0 : 0 ≤ z
        · rw [if_pos (by simpa using hz0)]
          refine wpAny_BinOp (ldx C7 rfl (cint fun _ _ => iadd fun t _ => ⟨t, _, ?_, rfl⟩))
          rw [bsz, if_pos hz0]
        · rw [if_neg (by simpa using hz0)]
          refine wpAny_UnaryOp (ldx C7 rfl (ineg fun t _ => ⟨t, _, ?_, rfl⟩))
          rw [bsz, if_neg hz0]
      · refine wpAny_execs_cons (wpAny_If (wpAny_isTrue_Compare1 (wpAny_BinOp (ldx C9 rfl (ldx C9 rfl (iadd fun _ _ => elen C9 W6 e1 (isList_keeps hl hs) (by omega) fun _ _ => PyProof.Rows.gt_int (wpAny_truthy_bool ?_)))))))
        split
        next hb2 =>
          have hgt : (ns.length : Int) < (i : Int) + bsz z := by simp only [decide_eq_true_eq] at hb2; omega
          rw [if_pos hgt] at hbo
          refine wpAny_execs_cons (wpAny_Return_some (wpAny_Constant_none ?_))
          refine q _ _ _ _ (conv _ _ _ _ C9).ext ?_
          rw [← hbo]; rfl
        next hb2 =>
          have hgt : ¬ (ns.length : Int) < (i : Int) + bsz z := by simp only [decide_eq_true_eq] at hb2; omega
          rw [if_neg hgt] at hbo
          refine wpAny_execs_nil (wpAny_execs_cons (eappend C9 e2 ?_))
          refine Tuple_ (args_cons (ldx C9 rfl (args_cons (ldx C9 rfl (args_cons (wpAny_Compare1 (ldx C9 rfl (cint fun _ _ => PyProof.Rows.lt_int (args_nil (newt C9 (by simp) fun D10 B10 h₁₀ C10 k10 g10 => ?_))))))))))
          refine ⟨_, _, _, rfl, C10, by omega, fun h₁₁ n' C11 => ?_⟩
          refine wpAny_execs_cons (wpAny_Assign_Name (wpAny_BinOp (ldx C11 rfl (ldx C11 rfl (iadd fun _ _ => stx C11 fun h₁₂ tk₁₂ C12 => wpAny_execs_nil (wpAny_execs_nil ?_))))))
          refine ⟨_, _, _, _, _, rfl, C12, rfl, _, _, acc ++ [((i : Int), bsz z, decide (z < 0))], _, _, rfl, ?_, e1, e2, rfl, by simpa using hacc, hbo⟩
          rw [List.map_append]
          exact (hr6.keeps k10).snoc (.tuple (tup_is g10) (.cons (.int _ _) (.cons (.int _ _) (.cons (.bool _) .nil))))
    next hb =>
      have hpt : ¬ (i : Int) = pt := by simpa using hb
      rw [if_neg hpt] at hbo
      refine wpAny_execs_nil (wpAny_execs_nil ?_)
      exact ⟨_, _, _, _, _, rfl, C6, rfl, _, _, acc, _, _, rfl, hr6, e1, e2, e3, by omega, hbo⟩
  · rintro B₁ own₁ m₁ h₆ tk₆ ⟨pt, tp, acc, vs', n, rfl, hr6, e1, e2, e3, hacc, hbo⟩ hs ha C6
    refine wpAny_execs_cons (wpAny_Return_some (ldx C6 e2 ?_))
    obtain ⟨B7, C7, k7, g7⟩ := C6.release
    refine q _ _ _ _ C7.ext ?_
    rw [Nat.sub_self] at hbo
    rw [← hbo]
    exact .list (lst_is g7) (hr6.keeps k7)
end
end Mine

end
section
namespace Mine
open PySem PySem.Calls PyProof.Rows PySem.Spec
set_option maxRecDepth 100000
set_option maxHeartbeats 1000000

def freeSum (ts : List Trip) : Int := ts.foldl (fun a t => if t.2.2 then a + t.2.1 else a) 0
theorem freeSum_snoc (ts : List Trip) (t : Trip) : freeSum (ts ++ [t]) = if t.2.2 then freeSum ts + t.2.1 else freeSum ts := by simp [freeSum]
def hd (b : List Int) : Int := b.headD 0
def ents (a : Int) : List (List Int) → List Trip
  | [] => []
  | b :: r => (a, (b.length : Int), decide (hd b < 0)) :: ents (a + b.length) r
theorem ents_append (a : Int) (l r : List (List Int)) : ents a (l ++ r) = ents a l ++ ents (a + l.flatten.length) r := by
  induction l generalizing a with
  | nil => simp [ents]
  | cons b l ih => simp [ents, ih, Int.add_assoc]
theorem ents_len (a : Int) (l : List (List Int)) : (ents a l).length = l.length := by
  induction l generalizing a with
  | nil => rfl
  | cons b l ih => simp [ents, ih]

/-! the shapes of what is compared -/
theorem ints_shaped (ns : List Int) : SeqAt.shaped (intsD ns) = true := by
  have h1 : ∀ ns : List Int, PyData.canLayAll0 (ns.map .int) = true := by
    intro ns; induction ns with
    | nil => rfl
    | cons n ns ih => simp [PyData.canLayAll0, PyData.canLay0, ih]
  have h2 : ∀ ns : List Int, PyData.depthAll (ns.map .int) = 0 := by
    intro ns; induction ns with
    | nil => rfl
    | cons n ns ih => simp [PyData.depthAll, PyData.depth, ih]
  simp [SeqAt.shaped, intsD, PyData.canLay0, PyData.depth, h1, h2]
theorem trips_shaped (ts : List Trip) : SeqAt.shaped (trips ts) = true := by
  have h1 : ∀ ts : List Trip, PyData.canLayAll0 (ts.map trip) = true := by
    intro ts; induction ts with
    | nil => rfl
    | cons t ts ih => simp [PyData.canLayAll0, PyData.canLay0, trip, ih]
  have h2 : ∀ ts : List Trip, PyData.depthAll (ts.map trip) ≤ 1 := by
    intro ts; induction ts with
    | nil => simp [PyData.depthAll]
    | cons t ts ih => simp only [List.map_cons, PyData.depthAll, PyData.depth, trip]; omega
  have := h2 ts
  simp only [SeqAt.shaped, trips, PyData.canLay0, PyData.depth, h1, Bool.true_and, decide_eq_true_eq]
  omega
theorem pair_shaped (ns : List Int) (n : Int) : SeqAt.shaped (.tuple [intsD ns, .int n]) = true := by
  have h1 : ∀ ns : List Int, PyData.canLayAll0 (ns.map .int) = true := by
    intro ns; induction ns with
    | nil => rfl
    | cons n ns ih => simp [PyData.canLayAll0, PyData.canLay0, ih]
  have h2 : ∀ ns : List Int, PyData.depthAll (ns.map .int) = 0 := by
    intro ns; induction ns with
    | nil => rfl
    | cons n ns ih => simp [PyData.depthAll, PyData.depth, ih]
  simp [SeqAt.shaped, intsD, PyData.canLay0, PyData.canLayAll0, PyData.depth, PyData.depthAll, h1, h2]

section
variable {prog : Program} {w : World} {A : Around} {E : Value → Shared → Prop} {s : Shared} {h : Heap} {tk : Nat} {B : Heap} {mg mb : Str → Option Value} {f : Addr} {Q : Value → Shared → Prop}
/-- like data are compared -/
theorem ene_same {H B₀ : Heap} {L : Addr} {own : List (Addr × Obj)} {m : Str → Option Value} {v v' : Value} {d : PyData} {k : Nat} (C : Cx H B₀ B L own h m) (hv : Rd B v d) (hv' : Rd B v' d) (hd : SeqAt.shaped d = true) (rm : Room A k)
    (q : Q (.bool false) (st s h tk)) : wpAny (model prog w) A (compareOp .NotEq v v') Q E (st s h tk) := by
  refine ene C hv hv' hd hd (by have := rm.un; omega) ?_
  rw [SeqAt.eqv_refl d (SeqAt.canLay_of_shaped hd)]
  exact q

theorem free_spec {v : Value} {ns : List Int} {ts : List Trip}
    (hf : IsFn B 3 f) (rm : Room A 2) (kB : Sub B h) (W : Wld mg mb B)
    (hv : Rd B v (intsD ns)) (hn : ns.length ≤ 4096) (hts : boAll ns = some ts)
    (q : ∀ t' B' h' tk', Ext B h B' h' → Q (.int (freeSum ts) t') (st s h' tk')) :
    wpAny (model prog w) A (call (.ref f) [v]) Q E (st s h tk) := by
  refine call_fn [("mem", v)] hf (by have := rm.dp; omega) kB W.nolimit (fun _ _ _ => rfl) (locs rfl) (fun L h₁ tk₁ code C => ?_)
  have rm' := rm.deeper (env := envOf (nameOf (stAt 3)) (scopeOf (stAt 3)) L f code)
  refine wpAny_execs_cons (wpAny_Assign_Name (cint fun t0 _ => stx C fun h₂ tk₂ C2 => ?_))
  refine wpAny_execs_cons (wpAny_For (ecall 2 C2 W (by decide) fun f' hf' => args_cons (ldx C2 rfl (args_nil ⟨C2.low, ?_⟩))))
  refine blocks_spec hf' rm' C2.low W hv hn fun v3 B3 h₃ tk₃ x3 hb3 => ?_
  have C3 := C2.step x3
  rw [hts] at hb3
  obtain ⟨l, vs, rfl, hl, hr⟩ := Rd.listInv hb3
  have hlen : vs.length = ts.length := by simpa using hr.len
  refine loop_list (env := envOf _ _ L f code) rm.hh rfl rfl
    (fun i B₁ own₁ m₁ => own₁ = [] ∧ ∃ t, m₁ "total" = some (.int (freeSum (ts.take i)) t))
    C3 hl ⟨rfl, _, rfl⟩ ?_ ?_
  · rintro i v B₁ own₁ m₁ H₁ h₄ tk₄ hi ⟨rfl, t, e1⟩ hs ha C4 _
    obtain ⟨d, hd, hvr⟩ := hr.at hi
    rw [List.getElem?_map] at hd
    obtain ⟨b, hb, rfl⟩ := Option.map_eq_some_iff.mp hd
    have ht : ts.take (i + 1) = ts.take i ++ [b] := by rw [List.take_add_one, hb]; rfl
    obtain ⟨a5, us, rfl, hu5, hr5⟩ := Rd.tupInv (hvr.keeps hs)
    have hl5 : us.length = 3 := by simpa using hr5.len
    obtain ⟨v2, hv2, hx2⟩ := hr5.get (i := 2) (d := .bool b.2.2) rfl
    obtain ⟨v1, hv1, hx1⟩ := hr5.get (i := 1) (d := .int b.2.1) rfl
    have e2 := hx2.boolInv
    subst e2
    obtain ⟨t1, rfl⟩ := hx1.intInv
    refine wpAny_execs_cons (wpAny_If (isTrue_plain (Subscript_ (ldx C4 rfl (cint fun _ _ => etup C4 hu5 (k := 2) rfl hv2 (by omega) (wpAny_truthy_bool ?_))))))
    rw [ht, freeSum_snoc]
    split
    next hb2 =>
      refine wpAny_execs_cons (wpAny_Assign_Name (wpAny_BinOp (ldx C4 e1 (Subscript_ (ldx C4 rfl (cint fun _ _ => etup C4 hu5 (k := 1) rfl hv1 (by omega) (iadd fun _ _ => stx C4 fun h₅ tk₅ C5 => wpAny_execs_nil (wpAny_execs_nil ?_))))))))
      exact ⟨_, _, _, _, _, rfl, C5, rfl, rfl, _, rfl⟩
    next hb2 =>
      refine wpAny_execs_nil (wpAny_execs_nil ?_)
      exact ⟨_, _, _, _, _, rfl, C4, rfl, rfl, _, e1⟩
  · rintro B₁ own₁ m₁ h₄ tk₄ ⟨rfl, t, e1⟩ hs ha C4
    refine wpAny_execs_cons (wpAny_Return_some (ldx C4 e1 ?_))
    rw [hlen, List.take_length] at e1 ⊢
    exact q _ _ _ _ C4.ext

theorem sound_spec {v v' : Value} {ns : List Int} {bs : List (List Int)}
    (hf : IsFn B 10 f) (rm : Room A 3) (kB : Sub B h) (W : Wld mg mb B)
    (hv : Rd B v (intsD ns)) (hv' : Rd B v' (blks bs)) (hn : ns.length ≤ 4096) (hnb : bs.length ≤ 4096) (hne : ∀ b ∈ bs, b ≠ []) (hfl : ns = bs.flatten) (hts : boAll ns = some (ents 0 bs))
    (q : ∀ B' h' tk', Ext B h B' h' → Q (.bool true) (st s h' tk')) :
    wpAny (model prog w) A (call (.ref f) [v, v']) Q E (st s h tk) := by
  obtain ⟨l, vs, rfl, hl, hr⟩ := hv'.listInv
  have hlen : vs.length = bs.length := by simpa using hr.len
  refine call_fn [("mem", v), ("blocks", .ref l)] hf (by have := rm.dp; omega) kB W.nolimit (fun _ _ _ => rfl) (locs rfl) (fun L h₁ tk₁ code C => ?_)
  have rm' := rm.deeper (env := envOf (nameOf (stAt 10)) (scopeOf (stAt 10)) L f code)
  refine wpAny_execs_cons (wpAny_Assign_Name (List_ (args_nil (newo C (by decide) fun D h₂ C2 => stx C2 fun h₃ tk₃ C3 => ?_))))
  refine wpAny_execs_cons (wpAny_Assign_Name (cint fun t0 _ => stx C3 fun h₄ tk₄ C4 => ?_))
  refine wpAny_execs_cons (wpAny_Assign_Name (cint fun t0' _ => stx C4 fun h₅ tk₅ C5 => ?_))
  refine wpAny_execs_cons (wpAny_For (ldx C5 rfl ?_))
  refine loop_list (env := envOf _ _ L f code) rm.hh rfl rfl
    (fun i B₁ own₁ m₁ => ∃ t t' vs' n, own₁ = [(D, lst vs' n)] ∧ RdAll B₁ vs' ((ents 0 (bs.take i)).map trip) ∧ m₁ "mem" = some v ∧ m₁ "blocks" = some (.ref l) ∧ m₁ "want" = some (.ref D) ∧ m₁ "at" = some (.int ((bs.take i).flatten.length : Int) t) ∧ m₁ "free" = some (.int (freeSum (ents 0 (bs.take i))) t'))
    C5 hl ⟨t0, t0', [], 0, rfl, .nil, rfl, rfl, rfl, rfl, rfl⟩ ?_ ?_
  · rintro i vb B₁ own₁ m₁ H₁ h₆ tk₆ hi ⟨ta, tf, vs', n, rfl, hr6, e1, e2, e3, e4, e5⟩ hs ha C6 _
    obtain ⟨d, hd', hvr⟩ := hr.at hi
    rw [List.getElem?_map] at hd'
    obtain ⟨b, hb, rfl⟩ := Option.map_eq_some_iff.mp hd'
    have hil : i < bs.length := (List.getElem?_eq_some_iff.mp hb).1
    have ht : bs.take (i + 1) = bs.take i ++ [b] := by rw [List.take_add_one, hb]; rfl
    have hl6 : vs'.length = i := by
      have := hr6.len
      rw [List.length_map, ents_len, List.length_take] at this
      omega
    obtain ⟨lb, us, rfl, hlb, hrb⟩ := Rd.listInv (hvr.keeps hs)
    have hbl : us.length = b.length := by simpa using hrb.len
    have hbn : b ≠ [] := hne b (List.mem_of_getElem? hb)
    have hble : b.length ≤ 4096 := by
      have := flatten_take_le bs (i + 1)
      rw [ht, List.flatten_append, List.length_append] at this
      simp only [List.flatten_cons, List.flatten_nil, List.append_nil] at this
      rw [← hfl] at this
      omega
    obtain ⟨v0, hv0, hx0⟩ := hrb.get (i := 0) (d := .int (hd b)) (by cases b with | nil => exact absurd rfl hbn | cons x r => rfl)
    obtain ⟨t00, rfl⟩ := hx0.intInv
    have W6 := W.keeps hs
    have hent : ents 0 (bs.take (i + 1)) = ents 0 (bs.take i) ++ [(((bs.take i).flatten.length : Int), (b.length : Int), decide (hd b < 0))] := by
      rw [ht, ents_append]; simp [ents]
    have hat : (((bs.take (i + 1)).flatten.length : Nat) : Int) = ((bs.take i).flatten.length : Int) + (us.length : Int) := by
      rw [ht, List.flatten_append, List.length_append, hbl]; simp
    refine wpAny_execs_cons (wpAny_If (wpAny_isTrue_Compare1 (Subscript_ (ldx C6 rfl (cint fun _ _ => eitem C6 hlb (by decide) hv0 (by omega) (cint fun _ _ => PyProof.Rows.lt_int (wpAny_truthy_bool ?_)))))))
    split
    next hb2 =>
      refine wpAny_execs_cons (eappend C6 e3 ?_)
      refine Tuple_ (args_cons (ldx C6 e4 (args_cons (elen C6 W6 rfl hlb (by omega) fun _ _ => args_cons (wpAny_Constant_bool (args_nil (newt C6 (by simp) fun D7 B7 h₇ C7 k7 g7 => ?_)))))))
      refine ⟨_, _, _, rfl, C7, by omega, fun h₈ n' C8 => ?_⟩
      have W7 := W6.keeps k7
      refine wpAny_execs_cons (wpAny_Assign_Name (wpAny_BinOp (ldx C8 e5 (elen C8 W7 rfl (isList_keeps hlb k7) (by omega) fun _ _ => iadd fun t9 _ => stx C8 fun h₉ tk₉ C9 => wpAny_execs_nil ?_))))
      refine wpAny_execs_cons (wpAny_Assign_Name (wpAny_BinOp (ldx C9 e4 (elen C9 W7 rfl (isList_keeps hlb k7) (by omega) fun _ _ => iadd fun t10 _ => stx C9 fun h₁₀ tk₁₀ C10 => wpAny_execs_nil ?_))))
      refine ⟨_, _, _, _, _, rfl, C10, rfl, t10, t9, _, _, rfl, ?_, e1, e2, e3, ?_, ?_⟩
      · rw [hent, List.map_append]
        have hneg : decide (hd b < 0) = true := hb2
        rw [hneg, ← hbl]
        exact (hr6.keeps k7).snoc (.tuple (tup_is g7) (.cons (.int _ _) (.cons (.int _ _) (.cons (.bool _) .nil))))
      · rw [hat]; rfl
      · rw [hent, freeSum_snoc, if_pos hb2]
        show some (Value.int (_ + (us.length : Int)) _) = some (Value.int (_ + (b.length : Int)) _)
        rw [hbl]
    next hb2 =>
      refine wpAny_execs_cons (eappend C6 e3 ?_)
      refine Tuple_ (args_cons (ldx C6 e4 (args_cons (elen C6 W6 rfl hlb (by omega) fun _ _ => args_cons (wpAny_Constant_bool (args_nil (newt C6 (by simp) fun D7 B7 h₇ C7 k7 g7 => ?_)))))))
      refine ⟨_, _, _, rfl, C7, by omega, fun h₈ n' C8 => wpAny_execs_nil ?_⟩
      have W7 := W6.keeps k7
      refine wpAny_execs_cons (wpAny_Assign_Name (wpAny_BinOp (ldx C8 e4 (elen C8 W7 rfl (isList_keeps hlb k7) (by omega) fun _ _ => iadd fun t10 _ => stx C8 fun h₁₀ tk₁₀ C10 => wpAny_execs_nil ?_))))
      refine ⟨_, _, _, _, _, rfl, C10, rfl, t10, tf, _, _, rfl, ?_, e1, e2, e3, ?_, ?_⟩
      · rw [hent, List.map_append]
        have hneg : decide (hd b < 0) = false := by simpa using hb2
        rw [hneg, ← hbl]
        exact (hr6.keeps k7).snoc (.tuple (tup_is g7) (.cons (.int _ _) (.cons (.int _ _) (.cons (.bool _) .nil))))
      · rw [hat]; rfl
      · rw [hent, freeSum_snoc, if_neg hb2]; exact e5
  · rintro B₁ own₁ m₁ h₆ tk₆ ⟨ta, tf, vs', n, rfl, hr6, e1, e2, e3, e4, e5⟩ hs ha C6
    rw [hlen, List.take_length] at hr6 e4 e5
    obtain ⟨B7, C7, k7, g7⟩ := C6.release
    have W7 := W.keeps (hs.trans k7)
    have hv7 := hv.keeps (hs.trans k7)
    have hv7' := hv'.keeps (hs.trans k7)
    have hw7 : Rd B7 (.ref D) (trips (ents 0 bs)) := .list (lst_is g7) (hr6.keeps k7)
    refine wpAny_execs_cons (wpAny_Assign_Name (ecall 2 C7 W7 (by decide) fun f' hf' => args_cons (ldx C7 e1 (args_nil ⟨C7.low, ?_⟩))))
    refine blocks_spec hf' rm'.less C7.low W7 hv7 hn fun v8 B8 h₈ tk₈ x8 hb8 => ?_
    have C8 := C7.step x8
    have W8 := W7.keeps x8.sub
    rw [hts] at hb8
    have hb8' : Rd B8 v8 (trips (ents 0 bs)) := hb8
    refine stx C8 fun h₉ tk₉ C9 => ?_
    refine wpAny_execs_cons (wpAny_If (wpAny_isTrue_Compare1 (ldx C9 rfl (ldx C9 e3 (ene_same C9 hb8' (hw7.keeps x8.sub) (trips_shaped _) rm' (wpAny_truthy_bool ?_))))))
    rw [if_neg (by decide)]
    refine wpAny_execs_nil (wpAny_execs_cons (wpAny_For (ldx C9 rfl ?_)))
    obtain ⟨l9, us, rfl, hl9, hr9⟩ := Rd.listInv hb8'
    refine loop_list (env := envOf _ _ L f code) rm.hh rfl rfl
      (fun i B₁ own₁ m₁ => own₁ = [] ∧ m₁ "mem" = some v ∧ m₁ "blocks" = some (.ref l) ∧ m₁ "free" = some (.int (freeSum (ents 0 bs)) tf))
      C9 hl9 ⟨rfl, e1, e2, e5⟩ ?_ ?_
    · rintro i vt B₁ own₁ m₁ H₁ h₁₀ tk₁₀ hi ⟨rfl, f1, f2, f3⟩ hs2 ha2 C10 _
      obtain ⟨d, hd', hvr⟩ := hr9.at hi
      rw [List.getElem?_map] at hd'
      obtain ⟨b, hb, rfl⟩ := Option.map_eq_some_iff.mp hd'
      obtain ⟨a5, us5, rfl, hu5, hr5⟩ := Rd.tupInv (hvr.keeps hs2)
      have hl5 : us5.length = 3 := by simpa using hr5.len
      obtain ⟨v2, hv2, hx2⟩ := hr5.get (i := 2) (d := .bool b.2.2) rfl
      have e2 := hx2.boolInv
      subst e2
      have W10 := W8.keeps hs2
      refine wpAny_execs_cons (wpAny_If (isTrue_not (isTrue_plain (Call_ (ldb C10 W10 (by decide) (v := .builtin "isinstance") PyProof.Rows.Boot.«isinstance» (PyProof.Rows.callWith_builtin1 (args_cons ?_)))))))
      refine Subscript_ (ldx C10 rfl (cint fun _ _ => etup C10 hu5 (k := 2) rfl hv2 (by omega) (args_cons ?_)))
      refine ldb C10 W10 (by decide) (v := .type "bool") PyProof.Rows.Boot.«bool» (args_nil (IsiPair.bool_bool (wpAny_truthy_bool ?_)))
      rw [if_neg (by decide)]
      refine wpAny_execs_nil (wpAny_execs_nil ?_)
      exact ⟨_, _, _, _, _, rfl, C10, rfl, rfl, f1, f2, f3⟩
    · rintro B₁ own₁ m₁ h₁₀ tk₁₀ ⟨rfl, f1, f2, f3⟩ hs2 ha2 C10
      have W10 := W8.keeps hs2
      have hv10 := (hv7.keeps x8.sub).keeps hs2
      have hv10' := (hv7'.keeps x8.sub).keeps hs2
      refine wpAny_execs_cons (wpAny_If (wpAny_isTrue_Compare1 (ecall 3 C10 W10 (by decide) fun f' hf' => args_cons (ldx C10 f1 (args_nil ⟨C10.low, ?_⟩)))))
      refine free_spec hf' rm' C10.low W10 hv10 hn hts fun t11 B11 h₁₁ tk₁₁ x11 => ?_
      have C11 := C10.step x11
      refine ldx C11 f3 (PyProof.Rows.ne_int (wpAny_truthy_bool ?_))
      rw [if_neg (by simp)]
      have W11 := W10.keeps x11.sub
      refine wpAny_execs_nil (wpAny_execs_cons (wpAny_If (wpAny_isTrue_Compare1 (ldx C11 f1 (ecall 9 C11 W11 (by decide) fun f' hf' => args_cons (ldx C11 f2 (args_nil ⟨C11.low, ?_⟩)))))))
      refine flat_spec hf' rm'.less C11.low W11 (hv10'.keeps x11.sub) (by rw [← hfl]; exact hn) fun v12 B12 h₁₂ tk₁₂ x12 hr12 => ?_
      have C12 := C11.step x12
      rw [← hfl] at hr12
      refine ene_same C12 ((hv10.keeps x11.sub).keeps x12.sub) hr12 (ints_shaped _) rm' (wpAny_truthy_bool ?_)
      rw [if_neg (by decide)]
      refine wpAny_execs_nil (wpAny_execs_cons (wpAny_Return_some (wpAny_Constant_bool ?_)))
      exact q _ _ _ C12.ext
end
end Mine

end
section
namespace Mine
open PySem PySem.Calls PyProof.Rows PySem.Spec
set_option maxRecDepth 100000
set_option maxHeartbeats 1000000

def fits (need : Int) (b : List Int) : Bool := decide (hd b < 0) && decide (need ≤ (b.length : Int))
def fitIdx (bs : List (List Int)) (need : Int) : Int := match bs.findIdx? (fits need) with | some i => i | none => -1
theorem findIdx_none {p : List Int → Bool} : ∀ {l : List (List Int)}, (∀ j (h : j < l.length), p l[j] = false) → l.findIdx? p = none
  | [], _ => rfl
  | b :: r, h => by
    have h0 : p b = false := h 0 (by simp)
    rw [List.findIdx?_cons, h0, findIdx_none fun j hj => h (j + 1) (by simpa using hj)]
    rfl
theorem findIdx_some {p : List Int → Bool} : ∀ {l : List (List Int)} {i : Nat} (hi : i < l.length), p l[i] = true → (∀ j (h : j < l.length), j < i → p l[j] = false) → l.findIdx? p = some i
  | b :: r, 0, _, h, _ => by rw [List.findIdx?_cons, show p b = true from h]; rfl
  | b :: r, i + 1, hi, h, hb => by
    have h0 : p b = false := hb 0 (by simp) (by omega)
    have ih := findIdx_some (l := r) (i := i) (by simpa using hi) h fun j hj hji => hb (j + 1) (by simpa using hj) (by omega)
    rw [List.findIdx?_cons, h0, ih]
    rfl

section
variable {prog : Program} {w : World} {A : Around} {E : Value → Shared → Prop} {s : Shared} {h : Heap} {tk : Nat} {B : Heap} {mg mb : Str → Option Value} {f : Addr} {Q : Value → Shared → Prop}
theorem clen {H B₀ : Heap} {L : Addr} {own : List (Addr × Obj)} {m : Str → Option Value} {l : Addr} {vs : List Value} (C : Cx H B₀ B L own h m) (hl : B.IsList l vs.toArray) (hn : vs.length ≤ 8192)
    (k : ∀ t tk', Q (.int vs.length t) (st s h tk')) : wpAny (model prog w) A (call (.builtin "len") [.ref l]) Q E (st s h tk) :=
  call_len_list (s := st s h tk) (isList_keeps hl C.low) (by rw [List.size_toArray]; omega) (by rw [List.size_toArray]; exact k _ _)

theorem fit_spec {v : Value} {bs : List (List Int)} {need : Int} {t : Tok}
    (hf : IsFn B 11 f) (rm : Room A 1) (kB : Sub B h) (W : Wld mg mb B)
    (hv : Rd B v (blks bs)) (hnb : bs.length ≤ 4096) (hne : ∀ b ∈ bs, b ≠ [] ∧ b.length ≤ 4096)
    (q : ∀ t' B' h' tk', Ext B h B' h' → Q (.int (fitIdx bs need) t') (st s h' tk')) :
    wpAny (model prog w) A (call (.ref f) [v, .int need t]) Q E (st s h tk) := by
  obtain ⟨l, vs, rfl, hl, hr⟩ := hv.listInv
  have hlen : vs.length = bs.length := by simpa using hr.len
  refine call_fn [("blocks", .ref l), ("need", .int need t)] hf (by have := rm.dp; omega) kB W.nolimit (fun _ _ _ => rfl) (locs rfl) (fun L h₁ tk₁ code C => ?_)
  refine wpAny_execs_cons (wpAny_For (Call_ (ldb C W (by decide) (v := .type "range") PyProof.Rows.Boot.«range» ?_)))
  refine PyProof.Rows.callWith_type1 (args_cons (elen C W rfl hl (by omega) fun _ _ => args_nil (erange C fun r t1 t2 t3 h₂ tk₂ C2 hr2 => ?_)))
  refine loop_range (n := bs.length) (env := envOf _ _ L f code) rm.hh rfl rfl
    (fun i B₁ own₁ m₁ => own₁ = [] ∧ m₁ "blocks" = some (.ref l) ∧ m₁ "need" = some (.int need t) ∧ ∀ j (hj : j < bs.length), j < i → fits need bs[j] = false)
    C2 hr2 (by omega) (by omega) ⟨rfl, rfl, rfl, fun j _ hj => by omega⟩ ?_ ?_
  · rintro i ti B₁ own₁ m₁ H₁ h₃ tk₃ hi ⟨rfl, e1, e2, e3⟩ hs ha C3 conv
    obtain ⟨vb, hvb, hxb⟩ := hr.get (i := i) (d := intsD bs[i]) (by simp [hi])
    obtain ⟨lb, us, rfl, hlb, hrb⟩ := Rd.listInv (hxb.keeps hs)
    have hbl : us.length = bs[i].length := by simpa using hrb.len
    obtain ⟨hbn, hble⟩ := hne bs[i] (List.getElem_mem _)
    obtain ⟨v0, hv0, hx0⟩ := hrb.get (i := 0) (d := .int (hd bs[i])) (by revert hbn; cases bs[i] with | nil => exact fun k => absurd rfl k | cons x r => exact fun _ => rfl)
    obtain ⟨t00, rfl⟩ := hx0.intInv
    have W3 := W.keeps hs
    have hl3 := isList_keeps hl hs
    refine wpAny_execs_cons (wpAny_If (isTrue_and (wpAny_isTrue_Compare1 (Subscript_ (Subscript_ (ldx C3 e1 (ldx C3 rfl (eitem C3 hl3 (by omega) (by simpa using hvb) (by omega) ?_))))))))
    refine cint fun _ _ => eitem C3 hlb (by decide) hv0 (by omega) (cint fun _ _ => PyProof.Rows.lt_int (wpAny_truthy_bool ?_))
    split
    next hb1 =>
      refine isTrue_and (wpAny_isTrue_Compare1 (Call_ (ldb C3 W3 (by decide) (v := .builtin "len") PyProof.Rows.Boot.«len» (PyProof.Rows.callWith_builtin1 (args_cons (Subscript_ (ldx C3 e1 (ldx C3 rfl (eitem C3 hl3 (by omega) (by simpa using hvb) (by omega) (args_nil (clen C3 hlb (by omega) fun _ _ => ?_))))))))))) 
      refine ldx C3 e2 (PyProof.Rows.ge_int (wpAny_truthy_bool ?_))
      split
      next hb2 =>
        refine isTrue_and_nil ?_
        rw [if_pos rfl]
        refine wpAny_execs_cons (wpAny_Return_some (ldx C3 rfl ?_))
        have hfit : fits need bs[i] = true := by
          rw [fits, Bool.and_eq_true]
          refine ⟨hb1, ?_⟩
          rw [hbl] at hb2
          exact hb2
        have e : fitIdx bs need = (i : Int) := by rw [fitIdx, findIdx_some hi hfit e3]
        rw [← e]
        exact q _ _ _ _ (conv _ _ _ _ C3).ext
      next hb2 =>
        rw [if_neg (by decide)]
        refine wpAny_execs_nil (wpAny_execs_nil ?_)
        refine ⟨_, _, _, _, _, rfl, C3, rfl, rfl, e1, e2, fun j hj hji => ?_⟩
        by_cases z : j = i
        · subst z
          rw [fits, Bool.and_eq_false_iff]
          right
          rw [hbl] at hb2
          simpa using hb2
        · exact e3 j hj (by omega)
    next hb1 =>
      rw [if_neg (by decide)]
      refine wpAny_execs_nil (wpAny_execs_nil ?_)
      refine ⟨_, _, _, _, _, rfl, C3, rfl, rfl, e1, e2, fun j hj hji => ?_⟩
      by_cases z : j = i
      · subst z
        rw [fits, Bool.and_eq_false_iff]
        left
        simpa using hb1
      · exact e3 j hj (by omega)
  · rintro B₁ own₁ m₁ h₃ tk₃ ⟨rfl, e1, e2, e3⟩ hs ha C3
    refine wpAny_execs_cons (wpAny_Return_some (wpAny_UnaryOp (cint fun _ _ => ineg fun _ _ => ?_)))
    have e : fitIdx bs need = -1 := by rw [fitIdx, findIdx_none fun j hj => e3 j hj hj]
    rw [← e]
    exact q _ _ _ _ C3.ext

def laid (bs : List (List Int)) (p : Nat) (fs : List Int) : List (List Int) :=
  bs.take p ++ [(fs.length : Int) :: fs] ++ (if 0 < (bs.getD p []).length - fs.length - 1 then [(-(((bs.getD p []).length - fs.length - 1 : Nat) : Int)) :: List.replicate ((bs.getD p []).length - fs.length - 1 - 1) 0] else []) ++ bs.drop (p + 1)

theorem laid_spec {v v' : Value} {bs : List (List Int)} {fs : List Int} {p : Nat} {z : Int} {t : Tok}
    (hf : IsFn B 12 f) (rm : Room A 1) (kB : Sub B h) (W : Wld mg mb B)
    (hv : Rd B v (blks bs)) (hv' : Rd B v' (intsD fs)) (hnb : bs.length ≤ 2048) (hnf : fs.length ≤ 2048) (hz : z = (p : Int)) (hp : p < bs.length) (hpl : (bs.getD p []).length ≤ 2048) (hfit : fs.length + 1 ≤ (bs.getD p []).length)
    (q : ∀ v'' B' h' tk', Ext B h B' h' → Rd B' v'' (blks (laid bs p fs)) → Q v'' (st s h' tk')) :
    wpAny (model prog w) A (call (.ref f) [v, .int z t, v']) Q E (st s h tk) := by
  subst hz
  obtain ⟨l, vs, rfl, hl, hr⟩ := hv.listInv
  obtain ⟨lf, fv, rfl, hlf, hrf⟩ := hv'.listInv
  have hlen : vs.length = bs.length := by simpa using hr.len
  have hlfn : fv.length = fs.length := by simpa using hrf.len
  refine call_fn [("blocks", .ref l), ("place", .int p t), ("fields", .ref lf)] hf (by have := rm.dp; omega) kB W.nolimit (fun _ _ _ => rfl) (locs rfl) (fun L h₁ tk₁ code C => ?_)
  obtain ⟨vb, hvb, hxb⟩ := hr.get (i := p) (d := intsD (bs.getD p [])) (by simp [hp])
  obtain ⟨lb, us, rfl, hlb, hrb⟩ := Rd.listInv hxb
  have hbl : us.length = (bs.getD p []).length := by simpa using hrb.len
  refine wpAny_execs_cons (wpAny_Assign_Name (wpAny_BinOp (wpAny_BinOp (Call_ (ldb C W (by decide) (v := .builtin "len") PyProof.Rows.Boot.«len» ?_)))))
  refine PyProof.Rows.callWith_builtin1 (args_cons (Subscript_ (ldx C rfl (ldx C rfl (eitem C hl (by omega) (by simpa using hvb) (by omega) (args_nil (clen C hlb (by omega) fun _ _ => ?_)))))))
  refine elen C W rfl hlf (by omega) fun _ _ => isub fun _ _ => cint fun _ _ => isub fun tr _ => stx C fun h₂ tk₂ C2 => ?_
  obtain ⟨rest, hrest⟩ : ∃ r, (bs.getD p []).length - fs.length - 1 = r := ⟨_, rfl⟩
  obtain ⟨z, hz⟩ : ∃ z, (us.length : Int) - (fv.length : Int) - 1 = z := ⟨_, rfl⟩
  rw [hz] at C2
  have hzr : z = (rest : Int) := by omega
  refine wpAny_execs_cons (wpAny_Assign_Name (wpAny_BinOp (eupto (b := p) C2 rfl hl rfl (by omega) (by omega) (fun D3 B3 h₃ C3 k3 g3 => ?_) (ldx C2 rfl ⟨rfl, rfl⟩))))
  have W3 := W.keeps k3
  refine List_ (args_cons (wpAny_BinOp (List_ (args_cons (elen C3 W3 rfl (isList_keeps hlf k3) (by omega) fun _ _ => args_nil (newl C3 (by simp) fun D4 B4 h₄ C4 k4 g4 => ?_))))))
  refine ldx C4 rfl (eadd C4 (lst_is g4) (isList_keeps hlf (k3.trans k4)) (by simp; omega) fun D5 B5 h₅ C5 k5 g5 => args_nil (newl C5 (by simp) fun D6 B6 h₆ C6 k6 g6 => ?_))
  refine eaddo C6 (lst_is (k6 _ _ (k5 _ _ (k4 _ _ g3)))) (lst_is g6) (by simp; omega) fun D7 h₇ C7 => ?_
  refine stx C7 fun h₈ tk₈ C8 => ?_
  have kk : Sub B B6 := k3.trans (k4.trans (k5.trans k6))
  have hr6 : RdAll B6 (vs.take p ++ [.ref D5]) (((bs.take p) ++ [(fs.length : Int) :: fs]).map intsD) := by
    rw [List.map_append]
    refine RdAll.append ?_ (.cons (.list (lst_is (k6 _ _ g5)) ?_) .nil)
    · rw [List.map_take]; exact (hr.keeps kk).take p
    · rw [hlfn]; exact .cons (.int _ _) (hrf.keeps kk)
  have W6 := W.keeps kk
  refine wpAny_execs_cons (wpAny_If (wpAny_isTrue_Compare1 (ldx C8 rfl (cint fun _ _ => PyProof.Rows.gt_int (wpAny_truthy_bool ?_)))))
  have fin : ∀ (ws : List Value) (xs : List (List Int)) (n : Nat) (B9 h₉ : Heap) (tk₉ : Nat) (C9 : Cx h B B9 L [(D7, lst ws n)] h₉ (fun y => if y = "out" then some (.ref D7) else if y = "rest" then some (.int z tr) else List.lookup y ([("blocks", Value.ref l), ("place", .int p t), ("fields", .ref lf)] : List (Str × Value)).reverse)),
      Sub B6 B9 → RdAll B9 ws (xs.map intsD) → ws.length ≤ 2050 → xs ++ bs.drop (p + 1) = laid bs p fs →
      wpAny (model prog w) (A.deeper (envOf (nameOf (stAt 12)) (scopeOf (stAt 12)) L f code)) (execs ((bodyOf (stAt 12)).drop 3) (envOf (nameOf (stAt 12)) (scopeOf (stAt 12)) L f code)) (fun fl s' => Q (match fl with | .ret v => v | _ => .none) s') (fun _ _ => False) (st s h₉ tk₉) := by
    intro ws xs n B9 h₉ tk₉ C9 k9 hr9 hws hxs
    obtain ⟨B10, C10, k10, g10⟩ := C9.release
    have kkk : Sub B B10 := kk.trans (k9.trans k10)
    refine wpAny_execs_cons (wpAny_Return_some (wpAny_BinOp (ldx C10 rfl (efrom (b := p + 1) C10 (isList_keeps hl kkk) (by omega) (by omega) (fun D11 B11 h₁₁ tk₁₁ C11 k11 g11 => ?_) (ldx C10 rfl ⟨rfl, rfl⟩) (wpAny_BinOp (ldx C10 rfl (cint fun _ _ => iadd fun t _ => ⟨t, _, by rw [Int.natCast_add]; rfl, rfl⟩)))))))
    refine eadd C11 (lst_is (k11 _ _ g10)) (lst_is g11) (by simp; omega) fun D12 B12 h₁₂ C12 k12 g12 => ?_
    refine q _ _ _ _ C12.ext (.list (lst_is g12) ?_)
    rw [← hxs, List.map_append, List.map_drop]
    exact RdAll.append ((hr9.keeps k10).keeps (k11.trans k12)) (((hr.keeps kkk).keeps (k11.trans k12)).drop _)
  split
  next hb =>
    have hpos : 0 < rest := by simp only [decide_eq_true_eq] at hb; omega
    refine wpAny_execs_cons (eappend C8 rfl ?_)
    refine wpAny_BinOp (List_ (args_cons (wpAny_UnaryOp (ldx C8 rfl (ineg fun _ _ => args_nil (newl C8 (by simp) fun D9 B9 h₉ C9 k9 g9 => ?_))))))
    refine wpAny_BinOp (List_ (args_cons (cint fun t0 _ => args_nil (newl C9 (by simp) fun D10 B10 h₁₀ C10 k10 g10 => ?_))))
    refine wpAny_BinOp (ldx C10 rfl (cint fun _ _ => isub fun _ _ => emul (k := rest - 1) C10 g10 (by omega) (by omega) fun D11 B11 h₁₁ C11 k11 g11 => ?_))
    refine eadd C11 (lst_is (k11 _ _ (k10 _ _ g9))) (lst_is g11) (by simp; omega) fun D12 B12 h₁₂ C12 k12 g12 => ?_
    refine ⟨_, _, _, rfl, C12, by rw [List.length_append, List.length_take]; simp; omega, fun h₁₃ n' C13 => wpAny_execs_nil ?_⟩
    have k6' : Sub B6 B12 := k9.trans (k10.trans (k11.trans k12))
    refine fin _ (bs.take p ++ [(fs.length : Int) :: fs] ++ [(-(rest : Int)) :: List.replicate (rest - 1) 0]) _ _ _ _ C13 k6' ?_ (by simp; omega) ?_
    · rw [List.map_append]
      refine (hr6.keeps k6').snoc (.list (lst_is g12) ?_)
      rw [← hzr]
      exact .cons (.int _ _) (rd_zeros _ _ _)
    · rw [laid, hrest, if_pos hpos]
  next hb =>
    have hpos : ¬ 0 < rest := by simp only [decide_eq_true_eq] at hb; omega
    refine wpAny_execs_nil ?_
    refine fin _ (bs.take p ++ [(fs.length : Int) :: fs]) _ _ _ _ C8 (.refl _) hr6 (by simp; omega) ?_
    rw [laid, hrest, if_neg hpos, List.append_nil]
end
end Mine

end
section
namespace Mine
open PySem PySem.Calls PyProof.Rows PySem.Spec
set_option maxRecDepth 100000
set_option maxHeartbeats 1000000

def tfits (need : Int) (t : Trip) : Bool := t.2.2 && decide (need ≤ t.2.1)
def setN (ns : List Int) (k : Nat) (fs : List Int) (i : Nat) : List Int := (List.range i).foldl (fun m j => m.set (k + j) (fs.getD j 0)) ns
theorem setN_succ (ns : List Int) (k : Nat) (fs : List Int) (i : Nat) : setN ns k fs (i + 1) = (setN ns k fs i).set (k + i) (fs.getD i 0) := by simp [setN, List.range_succ]
theorem setN_len (ns : List Int) (k : Nat) (fs : List Int) (i : Nat) : (setN ns k fs i).length = ns.length := by
  induction i with
  | zero => rfl
  | succ i ih => rw [setN_succ, List.length_set, ih]
/-- what allocate makes of the memory -/
def putIn (ns : List Int) (a : Nat) (fs : List Int) (n : Int) : List Int :=
  if (fs.length : Int) + 1 < n then (setN (ns.set a (fs.length : Int)) (a + 1) fs fs.length).set (a + (fs.length + 1)) ((fs.length : Int) + 1 - n)
  else setN (ns.set a (fs.length : Int)) (a + 1) fs fs.length
theorem bsz_pos (h : Int) : 1 ≤ bsz h := by unfold bsz; split <;> omega
theorem bo_bounds {ns : List Int} : ∀ {k : Nat} {pt : Int} {acc ts : List Trip}, (∀ t ∈ acc, 0 ≤ t.1 ∧ 1 ≤ t.2.1 ∧ t.1 + t.2.1 ≤ ns.length) → bo ns k pt acc = some ts → ∀ t ∈ ts, 0 ≤ t.1 ∧ 1 ≤ t.2.1 ∧ t.1 + t.2.1 ≤ ns.length
  | 0, _, _, _, ha, e => by rw [bo] at e; cases e; exact ha
  | k + 1, pt, acc, ts, ha, e => by
    rw [bo] at e
    split at e
    · split at e
      · cases e
      · rename_i hn
        refine bo_bounds (fun t ht => ?_) e
        rcases List.mem_append.mp ht with ht | ht
        · exact ha t ht
        · rw [List.mem_singleton.mp ht]
          have := bsz_pos (ns.getD (ns.length - (k + 1)) 0)
          exact ⟨by simp only; omega, this, by simp only; omega⟩
    · exact bo_bounds ha e

abbrev bmE : List Value := [.type "Exception", .type "BaseException", .type "object"]
abbrev Oom (mg : Str → Option Value) (C : Addr) (h : Heap) : Prop := OwnCls "OutOfMemory" C bmE "Exception.__new__" mg h

section
variable {prog : Program} {w : World} {A : Around} {E : Value → Shared → Prop} {s : Shared} {h : Heap} {tk : Nat} {B : Heap} {mg mb : Str → Option Value} {f : Addr} {Q : Value → Shared → Prop}
theorem sint {a : Int} {t : Tok} (ha : a.natAbs.log2 < 1920) (q : ∀ t' tk', Q (.str (toString a) t') (st s h tk')) : wpAny (model prog w) A (call (.type "str") [.int a t]) Q E (st s h tk) := PySem.P.str_of_int (s := st s h tk) ha (q _ _)
theorem sadd {x y : Str} {t u : Tok} (hn : x.length + y.length ≤ sizeLine) (q : ∀ t' tk', Q (.str (x ++ y) t') (st s h tk')) : wpAny (model prog w) A (binaryOp .Add (.str x t) (.str y u)) Q E (st s h tk) := PyProof.Rows.add_str (s := st s h tk) (fun t' tk' => q t' tk') hn
/-- a def is called that may raise -/
theorem call_fnE {i : Nat} {f : Addr} {args : List Value} (binds : List (Str × Value)) {Q : Value → Shared → Prop} (hf : IsFn B i f)
    (hroom : A.depth < recursionLimit) (kB : Sub B h) (hlim : B.NoLimit)
    (hbind : ∀ pm code doc, bindArgs (docDef (nameOf (stAt i)) (argsOf (stAt i)) (bodyOf (stAt i)) (scopeOf (stAt i)) pm code doc) ⟨args, []⟩ = pure binds)
    (hloc : ∀ x ∈ binds, (scopeOf (stAt i)).names.lookup x.1 = some .local)
    (q : ∀ L h₁ tk₁ code, h.objs.size ≤ L → Cx h B B L [] h₁ (fun x => binds.reverse.lookup x) →
      wpAny (model prog w) (A.deeper (envOf (nameOf (stAt i)) (scopeOf (stAt i)) L f code)) (execs (bodyOf (stAt i)) (envOf (nameOf (stAt i)) (scopeOf (stAt i)) L f code))
        (fun fl s' => Q (match fl with | .ret v => v | _ => .none) s')
        (fun e s' => wpAny (model prog w) (A.deeper (envOf (nameOf (stAt i)) (scopeOf (stAt i)) L f code)) (leaving (envOf (nameOf (stAt i)) (scopeOf (stAt i)) L f code) e) (fun _ s'' => E e s'') (fun e' s'' => E e' s'') s') (st s h₁ tk₁))
    (hco : (scopeOf (stAt i)).isCoroutine = false := by rfl) (hgen : (scopeOf (stAt i)).isGenerator = false := by rfl) (hk : (scopeOf (stAt i)).kind = .function := by rfl)
    (hcell : ∀ x ∈ (scopeOf (stAt i)).names, x.2 ≠ .cell := by decide) :
    wpAny (model prog w) A (call (.ref f) args) Q E (st s h tk) := by
  obtain ⟨o, pm, code, doc, ho, hdat, hcd⟩ := hf
  refine wpAny_call (call_plain (s := st s h tk) hroom (kB _ _ ho) hdat (hlim.keeps kB) (hcd.keeps kB) (hbind pm code doc) hloc (fun h₁ F => ?_) hco hgen hk hcell)
  exact q _ h₁ _ _ (Nat.le_refl _) ⟨F.ns, ⟨.refl _, fun b o e => F.keep b o (kB b o e), F.keep, fun _ _ e => e⟩, kB.none (get_none_size _), get_none_size _, fun _ hp => nomatch hp⟩
/-- the new exception leaves the frame in which it was raised -/
theorem leaves {M : Model} {E' : Value → Shared → Prop} {G B₀ B' : Heap} {L : Addr} {own : List (Addr × Obj)} {m : Str → Option Value} {h₁ h₂ : Heap} {fr : List Env} {name : Str} {scope : Scope} {a e : Addr} {cd cls : Value} {vs : List Value} {Q : Unit → Shared → Prop}
    (hfr : A.frames = some fr) (hF : h.FunFrames G fr) (kG : Sub G h) (C : Cx h B₀ B' L own h₁ m) (hx : Heap.MadeExcOf h₁ h₂ e cls vs) (hk : scope.kind = .function)
    (q : ∀ a0 h', Heap.FlyingW G fr e cls a0 h' → h.UpToSlots h' → Q () (st s h' tk)) :
    wpAny M (A.deeper (envOf name scope L a cd)) (leaving (envOf name scope L a cd) (.ref e)) Q E' (st s h₂ tk) := by
  have hFF : h₁.FunFrames G (envOf name scope L a cd :: fr) :=
    .cons (by show scope.kind ≠ .module; rw [hk]; decide) rfl C.ns (kG.none C.newL) (hF.of_keeps fun b o e _ => ⟨o, C.ext.all b o e, rfl⟩)
  refine wpAny_leaves_madeW (s := st s h₂ tk) (Around.frames_deeper hfr) rfl (fun b o e => C.ext.all b o (kG b o e)) hFF hx fun h' t x1 x2 x3 x4 => ?_
  exact q _ h' x1 (((Heap.UpToSlots.of_keeps C.ext.all).trans (Heap.UpToSlots.of_keeps hx.keeps)).trans x4)

theorem alloc_spec {G : Heap} {v v' : Value} {ns fs : List Int} {C : Addr} {fr : List Env}
    (hf : IsFn B 4 f) (rm : Room A 2) (kB : Sub B h) (W : Wld mg mb B) (O : Oom mg C B) (hfr : A.frames = some fr) (hF : h.FunFrames G fr) (kG : Sub G h)
    (hv : Rd B v (intsD ns)) (hv' : Rd B v' (intsD fs)) (hn : ns.length ≤ 2048) (hnf : fs.length ≤ 2048)
    (qok : ∀ ts t, boAll ns = some ts → ts.find? (tfits ((fs.length : Int) + 1)) = some t → ∀ v'' B' h' tk', Ext B h B' h' → Rd B' v'' (.tuple [intsD (putIn ns t.1.toNat fs t.2.1), .int t.1]) → Q v'' (st s h' tk'))
    (qoom : ∀ ts, boAll ns = some ts → ts.find? (tfits ((fs.length : Int) + 1)) = none → ∀ e a0 h' tk', Heap.FlyingW G fr e (.ref C) a0 h' → h.UpToSlots h' → E (.ref e) (st s h' tk'))
    (qval : boAll ns = none → ∀ e a0 h' tk', Heap.FlyingW G fr e (.type "ValueError") a0 h' → h.UpToSlots h' → E (.ref e) (st s h' tk')) :
    wpAny (model prog w) A (call (.ref f) [v, v']) Q E (st s h tk) := by
  obtain ⟨l, vs, rfl, hl, hr⟩ := hv.listInv
  obtain ⟨lf, fv, rfl, hlf, hrf⟩ := hv'.listInv
  have hlen : vs.length = ns.length := by simpa using hr.len
  have hlfn : fv.length = fs.length := by simpa using hrf.len
  refine call_fnE [("mem", .ref l), ("fields", .ref lf)] hf (by have := rm.dp; omega) kB W.nolimit (fun _ _ _ => rfl) (locs rfl) (fun L h₁ tk₁ code hL C1 => ?_)
  have rm' := rm.deeper (env := envOf (nameOf (stAt 4)) (scopeOf (stAt 4)) L f code)
  refine wpAny_execs_cons (wpAny_Assign_Name (ecall 2 C1 W (by decide) fun f' hf' => args_cons (ldx C1 rfl (args_nil ⟨C1.low, ?_⟩))))
  refine blocks_spec hf' rm'.less C1.low W hv (by omega) fun v2 B2 h₂ tk₂ x2 hb2 => ?_
  have C2 := C1.step x2
  have W2 := W.keeps x2.sub
  refine stx C2 fun h₃ tk₃ C3 => ?_
  refine wpAny_execs_cons (wpAny_If (wpAny_isTrue_Compare1 (ldx C3 rfl (wpAny_Constant_none ?_))))
  cases hbo : boAll ns with
  | none =>
    rw [hbo] at hb2
    have e2 : v2 = .none := hb2
    subst e2
    refine wpAny_is_self rfl (wpAny_truthy_bool ?_)
    rw [if_pos rfl]
    refine wpAny_execs_cons (Raise_madeB PySem.F.excCall_ValueError PySem.F.excRaise_ValueError rm.hh (ldb C3 W2 (by decide) (v := .type "ValueError") PyProof.Rows.Boot.«ValueError» ⟨rfl, args_cons (cstr fun t tk₄ => args_nil ⟨size_small (by simp), fun h₄ e hx => ?_⟩)⟩))
    exact leaves (s := s) hfr hF kG C3 (Heap.MadeExc.of hx) rfl fun a0 h' y1 y2 => qval hbo e a0 h' _ y1 y2
  | some ts =>
    rw [hbo] at hb2
    obtain ⟨lt, us, rfl, hlt, hrt⟩ := Rd.listInv hb2
    have hltn : us.length = ts.length := by simpa using hrt.len
    have hbd := bo_bounds (acc := []) (by simp) hbo
    refine is_ref_none (wpAny_truthy_bool ?_)
    rw [if_neg (by decide)]
    refine wpAny_execs_nil (wpAny_execs_cons (wpAny_Assign_Name (wpAny_BinOp (elen C3 W2 rfl (isList_keeps hlf x2.sub) (by omega) fun _ _ => cint fun _ _ => iadd fun tn _ => stx C3 fun h₄ tk₄ C4 => ?_))))
    rw [hlfn] at C4
    have hl2 := isList_keeps hl x2.sub
    have hlf2 := isList_keeps hlf x2.sub
    have hr2 := hr.keeps x2.sub
    have hrf2 := hrf.keeps x2.sub
    refine wpAny_execs_cons (wpAny_mono (E := fun _ _ => False) (wpAny_For (ldx C4 rfl ?_)) (fun _ _ y => y) fun _ _ y => y.elim)
    refine loop_list (env := envOf _ _ L f code) rm.hh rfl rfl
      (fun i B₁ own₁ m₁ => own₁ = [] ∧ m₁ "mem" = some (.ref l) ∧ m₁ "fields" = some (.ref lf) ∧ m₁ "need" = some (.int ((fs.length : Int) + 1) tn) ∧ ∀ j (hj : j < ts.length), j < i → tfits ((fs.length : Int) + 1) ts[j] = false)
      C4 hlt ⟨rfl, rfl, rfl, rfl, fun j _ hj => by omega⟩ ?_ ?_
    · rintro i vt B₁ own₁ m₁ H₁ h₅ tk₅ hi ⟨rfl, e1, e2, e3, e4⟩ hs ha C5 conv
      obtain ⟨d, hd', hvr⟩ := hrt.at hi
      rw [List.getElem?_map] at hd'
      obtain ⟨b, hb, rfl⟩ := Option.map_eq_some_iff.mp hd'
      obtain ⟨hil, hbi⟩ := List.getElem?_eq_some_iff.mp hb
      obtain ⟨b0, b1, b2⟩ := hbd b (List.mem_of_getElem? hb)
      obtain ⟨a5, us5, rfl, hu5, hr5⟩ := Rd.tupInv (hvr.keeps hs)
      have hl5 : us5.length = 3 := by simpa using hr5.len
      obtain ⟨w2, hw2, hx2⟩ := hr5.get (i := 2) (d := .bool b.2.2) rfl
      obtain ⟨w1, hw1, hx1⟩ := hr5.get (i := 1) (d := .int b.2.1) rfl
      obtain ⟨w0, hw0, hx0⟩ := hr5.get (i := 0) (d := .int b.1) rfl
      have ee := hx2.boolInv
      subst ee
      obtain ⟨t1, rfl⟩ := hx1.intInv
      obtain ⟨t0, rfl⟩ := hx0.intInv
      have W5 := W2.keeps hs
      have next : tfits ((fs.length : Int) + 1) b = false → ∀ j (hj : j < ts.length), j < i + 1 → tfits ((fs.length : Int) + 1) ts[j] = false := fun hfb j hj hji => by
        by_cases z : j = i
        · subst z; rw [hbi]; exact hfb
        · exact e4 j hj (by omega)
      refine wpAny_execs_cons (wpAny_If (isTrue_and (isTrue_plain (Subscript_ (ldx C5 rfl (cint fun _ _ => etup C5 hu5 (k := 2) rfl hw2 (by omega) (wpAny_truthy_bool ?_)))))))
      split
      next hb1 =>
        refine isTrue_and (wpAny_isTrue_Compare1 (Subscript_ (ldx C5 rfl (cint fun _ _ => etup C5 hu5 (k := 1) rfl hw1 (by omega) (ldx C5 e3 (PyProof.Rows.ge_int (wpAny_truthy_bool ?_)))))))
        split
        next hb3 =>
          have hge : (fs.length : Int) + 1 ≤ b.2.1 := by simpa using hb3
          have hfind : ts.find? (tfits ((fs.length : Int) + 1)) = some b := by
            rw [List.find?_eq_some_iff_getElem]
            refine ⟨by rw [tfits, hb1, Bool.true_and]; simpa using hge, i, hil, hbi, fun j hj => ?_⟩
            rw [e4 j (by omega) hj]; rfl
          have e0 : b.1 = ((b.1.toNat : Nat) : Int) := by omega
          refine isTrue_and_nil ?_
          rw [if_pos rfl]
          refine wpAny_execs_cons (wpAny_Assign_Name (Subscript_ (ldx C5 rfl (cint fun _ _ => etup C5 hu5 (k := 0) rfl hw0 (by omega) (stx C5 fun h₆ tk₆ C6 => ?_)))))
          refine wpAny_execs_cons (wpAny_Assign_Name (Call_ (ldb C6 W5 (by decide) (v := .type "list") PyProof.Rows.Boot.«list» (PyProof.Rows.callWith_type1 (args_cons (ldx C6 e1 (args_nil (ecopy C6 (isList_keeps hl2 hs) (by omega) fun D n7 h₇ k7 g7 g7' => ?_))))))))
          have C7 := C6.adopt' k7 g7 g7'
          refine stx C7 fun h₈ tk₈ C8 => ?_
          refine wpAny_execs_cons (wpAny_Assign_Subscript (elen C8 W5 e2 (isList_keeps hlf2 hs) (by omega) fun tl tk₉ => ldx C8 rfl (ldx C8 rfl (eset C8 rfl ⟨_, rfl⟩ b0 (by omega) (by omega) fun o9 h₉ C9 c9 d9 => ?_))))
          refine wpAny_execs_cons (wpAny_For (Call_ (ldb C9 W5 (by decide) (v := .type "range") PyProof.Rows.Boot.«range» ?_)))
          refine PyProof.Rows.callWith_type1 (args_cons (elen C9 W5 e2 (isList_keeps hlf2 hs) (by omega) fun _ _ => args_nil (erange C9 fun r t10 t11 t12 h₁₀ tk₁₀ C10 hr10 => ?_)))
          refine loop_range (n := fs.length) (env := envOf _ _ L f code) rm.hh rfl rfl
            (fun k B₂ own₂ m₂ => (∃ o ws, own₂ = [(D, o)] ∧ o.cls = .type "list" ∧ (∃ n, o.data = .seq ws.toArray n) ∧ RdAll B₂ ws ((setN (ns.set b.1.toNat (fs.length : Int)) (b.1.toNat + 1) fs k).map .int)) ∧ m₂ "fields" = some (.ref lf) ∧ m₂ "need" = some (.int ((fs.length : Int) + 1) tn) ∧ m₂ "b" = some (.ref a5) ∧ m₂ "a" = some (.int b.1 t0) ∧ m₂ "new" = some (.ref D))
            C10 hr10 (by omega) (by omega) ⟨⟨o9, _, rfl, c9, d9, ?_⟩, e2, e3, rfl, rfl, rfl⟩ ?_ ?_
          · show RdAll B₁ _ ((ns.set b.1.toNat (fs.length : Int)).map .int)
            rw [List.map_set, hlfn]
            exact (hr2.keeps hs).set _ (.int _ _)
          · rintro k tk0 B₂ own₂ m₂ H₂ h₁₁ tk₁₁ hk ⟨⟨o, ws, rfl, oc, od, hrw⟩, f1, f2, f3, f4, f5⟩ hs2 ha2 C11 conv2
            have hwl : ws.length = ns.length := by
              have := hrw.len
              rw [List.length_map, setN_len, List.length_set] at this
              exact this
            obtain ⟨vk, hvk, hxk⟩ := hrf2.get (i := k) (d := .int (fs.getD k 0)) (by simp [hk])
            obtain ⟨tk9, rfl⟩ := hxk.intInv
            refine wpAny_execs_cons (wpAny_Assign_Subscript (Subscript_ (ldx C11 f1 (ldx C11 rfl (eitem C11 (isList_keeps (isList_keeps hlf2 hs) hs2) (by omega) (by simpa using hvk) (by omega) ?_)))))
            refine ldx C11 f5 (wpAny_BinOp (wpAny_BinOp (ldx C11 f4 (cint fun _ _ => iadd fun _ _ => ldx C11 rfl (iadd fun _ _ => eset C11 oc od (by omega) (by omega) (by omega) fun o12 h₁₂ C12 c12 d12 => wpAny_execs_nil ?_)))))
            refine ⟨_, _, _, _, _, rfl, C12, rfl, ⟨o12, _, rfl, c12, d12, ?_⟩, f1, f2, f3, f4, f5⟩
            have ek : (b.1 + 1 + (k : Int)).toNat = b.1.toNat + 1 + k := by omega
            rw [setN_succ, List.map_set, ek]
            exact hrw.set _ (.int _ _)
          · rintro B₂ own₂ m₂ h₁₁ tk₁₁ ⟨⟨o, ws, rfl, oc, od, hrw⟩, f1, f2, f3, f4, f5⟩ hs2 ha2 C11
            have hwl : ws.length = ns.length := by
              have := hrw.len
              rw [List.length_map, setN_len, List.length_set] at this
              exact this
            have hu11 := isTup_keeps hu5 hs2
            have fin : ∀ (o' : Obj) (ws' : List Value) (h₁₃ : Heap) (tk₁₃ : Nat) (p1 p2 p3 : Pos), Cx H₁ B₁ B₂ L [(D, o')] h₁₃ m₂ → o'.cls = .type "list" → (∃ n, o'.data = .seq ws'.toArray n) → RdAll B₂ ws' ((putIn ns b.1.toNat fs b.2.1).map .int) →
                wpAny (model prog w) (A.deeper (envOf (nameOf (stAt 4)) (scopeOf (stAt 4)) L f code)) (eval (.Tuple [.Name "new" p1, .Name "a" p2] 0 p3) (envOf (nameOf (stAt 4)) (scopeOf (stAt 4)) L f code)) (fun v s' => Q v s') (fun _ _ => False) (st s h₁₃ tk₁₃) := by
              intro o' ws' h₁₃ tk₁₃ p1 p2 p3 C13 c13 d13 hr13
              obtain ⟨B14, C14, k14, g14⟩ := C13.release
              refine Tuple_ (args_cons (ldx C14 f5 (args_cons (ldx C14 f4 (args_nil (newt C14 (by simp) fun D15 B15 h₁₅ C15 k15 g15 => ?_))))))
              refine qok ts b hbo hfind _ _ _ _ (conv _ _ _ _ C15).ext ?_
              exact .tuple (tup_is g15) (.cons (.list ⟨o', k15 _ _ g14, c13, d13⟩ (hr13.keeps (k14.trans k15))) (.cons (.int _ _) .nil))
            refine wpAny_execs_cons (wpAny_If (wpAny_isTrue_Compare1 (Subscript_ (ldx C11 f3 (cint fun _ _ => etup C11 hu11 (k := 1) rfl hw1 (by omega) (ldx C11 f2 (PyProof.Rows.gt_int (wpAny_truthy_bool ?_))))))))
            split
            next hb4 =>
              have hgt : (fs.length : Int) + 1 < b.2.1 := by simpa using hb4
              refine wpAny_execs_cons (wpAny_Assign_Subscript (wpAny_BinOp (ldx C11 f2 (Subscript_ (ldx C11 f3 (cint fun _ _ => etup C11 hu11 (k := 1) rfl hw1 (by omega) (isub fun _ _ => ldx C11 f5 (wpAny_BinOp (ldx C11 f4 (ldx C11 f2 (iadd fun _ _ => eset C11 oc od (by omega) (by omega) (by omega) fun o12 h₁₂ C12 c12 d12 => wpAny_execs_nil ?_)))))))))))
              refine wpAny_execs_cons (wpAny_Return_some (fin o12 _ h₁₂ _ _ _ _ C12 c12 d12 ?_))
              have ek : (b.1 + ((fs.length : Int) + 1)).toNat = b.1.toNat + (fs.length + 1) := by omega
              rw [putIn, if_pos hgt, List.map_set, ek]
              exact hrw.set _ (.int _ _)
            next hb4 =>
              have hgt : ¬ (fs.length : Int) + 1 < b.2.1 := by simpa using hb4
              refine wpAny_execs_nil (wpAny_execs_cons (wpAny_Return_some (fin o ws h₁₁ _ _ _ _ C11 oc od ?_)))
              rw [putIn, if_neg hgt]
              exact hrw
        next hb3 =>
          rw [if_neg (by decide)]
          refine wpAny_execs_nil (wpAny_execs_nil ?_)
          refine ⟨_, _, _, _, _, rfl, C5, rfl, rfl, e1, e2, e3, next ?_⟩
          rw [tfits, hb1, Bool.true_and]; simpa using hb3
      next hb1 =>
        rw [if_neg (by decide)]
        refine wpAny_execs_nil (wpAny_execs_nil ?_)
        refine ⟨_, _, _, _, _, rfl, C5, rfl, rfl, e1, e2, e3, next ?_⟩
        have : b.2.2 = false := by simpa using hb1
        rw [tfits, this, Bool.false_and]
    · rintro B₁ own₁ m₁ h₅ tk₅ ⟨rfl, e1, e2, e3, e4⟩ hs ha C5
      have W5 := W2.keeps hs
      have hfind : ts.find? (tfits ((fs.length : Int) + 1)) = none := by
        rw [List.find?_eq_none]
        intro t ht
        obtain ⟨j, hj, rfl⟩ := List.getElem_of_mem ht
        rw [e4 j hj (by rw [hltn]; exact hj)]
        decide
      have Fh : Fr h L h₅ m₁ := ⟨C5.ns, C5.ext.all, hL⟩
      refine wpAny_execs_cons (Raise_own (s := st s h₅ tk₅) (bm := bmE) (C := C) Fh (W.g.keeps kB) (O.keeps kB) PySem.F.excBase_Exception rm.hh ?_)
      refine args_cons (wpAny_BinOp (wpAny_BinOp (cstr fun _ _ => Call_ (ldb C5 W5 (by decide) (v := .type "str") PyProof.Rows.Boot.«str» (PyProof.Rows.callWith_type1 (args_cons (ldx C5 e3 (args_nil ?_))))))))
      have hsm : ((fs.length : Int) + 1).natAbs < 10 ^ 5 := by omega
      have hlt5 := int_text_length_le10 (k := 5) (by decide) hsm
      have hlo : ((fs.length : Int) + 1).natAbs.log2 < 1920 := by
        refine Nat.lt_of_lt_of_le ((Nat.log2_lt (by omega)).mpr (show _ < 2 ^ 20 by omega)) (by decide)
      have h17 : ("no free block of " : String).length = 17 := by decide
      have h6 : (" words" : String).length = 6 := by decide
      have hs1 : (Str.ofString "no free block of ").length + (Str.ofString (toString ((fs.length : Int) + 1))).length ≤ sizeLine := by
        rw [PySem.ofString_length, PySem.ofString_length]; exact size_small (by omega)
      have hs2 : (Str.ofString "no free block of " ++ Str.ofString (toString ((fs.length : Int) + 1))).length + (Str.ofString " words").length ≤ sizeLine := by
        rw [Str.length_append, PySem.ofString_length, PySem.ofString_length, PySem.ofString_length]; exact size_small (by omega)
      refine sint hlo fun ts5 _ => sadd hs1 fun _ _ => cstr fun _ _ => sadd hs2 fun _ tk₉ => args_nil ⟨size_small (by simp), C5.ext.all, fun h₆ e hx => ?_⟩
      exact leaves (s := s) hfr hF kG C5 hx rfl fun a0 h' y1 y2 => qoom ts hbo hfind e a0 h' _ y1 y2
end
end Mine

end
section
namespace Mine
open PySem PySem.Calls PyProof.Rows PySem.Spec
set_option maxRecDepth 100000
set_option maxHeartbeats 1000000

section
variable {prog : Program} {w : World} {A : Around} {E : Value → Shared → Prop} {s : Shared} {h : Heap} {tk : Nat} {B : Heap} {mg mb : Str → Option Value} {f : Addr} {Q : Value → Shared → Prop}
theorem frames_in {B₀ B' : Heap} {L : Addr} {own : List (Addr × Obj)} {m : Str → Option Value} {h₁ : Heap} {fr : List Env} {name : Str} {scope : Scope} {a : Addr} {cd : Value}
    {G : Heap} (hF : h.FunFrames G fr) (C : Cx h B₀ B' L own h₁ m) (kG : Sub G h) (hk : scope.kind = .function) : h₁.FunFrames G (envOf name scope L a cd :: fr) :=
  .cons (by show scope.kind ≠ .module; rw [hk]; decide) rfl C.ns (kG.none C.newL) (hF.of_keeps fun b o e _ => ⟨o, C.ext.all b o e, rfl⟩)

theorem got_spec {G : Heap} {v v' : Value} {ns fs : List Int} {C : Addr} {fr : List Env} {ts : List Trip}
    (hf : IsFn B 13 f) (rm : Room A 3) (kB : Sub B h) (W : Wld mg mb B) (O : Oom mg C B) (hfr : A.frames = some fr) (hF : h.FunFrames G fr) (kG : Sub G h) (kBG : Sub B G)
    (hv : Rd B v (intsD ns)) (hv' : Rd B v' (intsD fs)) (hn : ns.length ≤ 2048) (hnf : fs.length ≤ 2048) (hbo : boAll ns = some ts)
    (qok : ∀ t, ts.find? (tfits ((fs.length : Int) + 1)) = some t → ∀ v'' B' h' tk', Ext B h B' h' → Rd B' v'' (.tuple [intsD (putIn ns t.1.toNat fs t.2.1), .int t.1]) → Q v'' (st s h' tk'))
    (qoom : ts.find? (tfits ((fs.length : Int) + 1)) = none → ∀ t h' tk', Sub G h' → h.UpToSlots h' → Q (.str "oom" t) (st s h' tk')) :
    wpAny (model prog w) A (call (.ref f) [v, v']) Q E (st s h tk) := by
  refine call_fnE [("mem", v), ("fields", v')] hf (by have := rm.dp; omega) kB W.nolimit (fun _ _ _ => rfl) (locs rfl) (fun L h₁ tk₁ code hL C1 => ?_)
  have rm' := rm.deeper (env := envOf (nameOf (stAt 13)) (scopeOf (stAt 13)) L f code)
  refine wpAny_execs_cons (wpAny_Try_except (wpAny_execs_cons (wpAny_Assign_Name (ecall 4 C1 W (by decide) fun f' hf' => args_cons (ldx C1 rfl (args_cons (ldx C1 rfl (args_nil ⟨C1.low, ?_⟩))))))))
  refine alloc_spec hf' rm' C1.low W O (Around.frames_deeper hfr) (frames_in hF C1 kG rfl) (fun b o e => C1.ext.all b o (kG b o e)) hv hv' hn hnf ?_ ?_ ?_
  · intro ts' t e1 e2 v2 B2 h₂ tk₂ x2 hr2
    rw [hbo] at e1
    cases e1
    have C2 := C1.step x2
    refine stx C2 fun h₃ tk₃ C3 => wpAny_execs_nil (wpAny_execs_nil ?_)
    refine wpAny_execs_cons (wpAny_Return_some (ldx C3 rfl ?_))
    exact qok t e2 _ _ _ _ C3.ext hr2
  · intro ts' e1 e2 e a0 h₂ tk₂ hfl hsm
    rw [hbo] at e1
    cases e1
    refine wpAny_looks_onW (s := st s h₂ tk₂) (Around.frames_deeper hfr) rfl hfl fun h₄ hheld hsm₄ => ?_
    refine wpAny_landsW hheld fun h₅ hfl₅ hsm₅ => ?_
    obtain ⟨ob, hob, hobc⟩ := hfl₅.there
    have k5 : Sub B h₅ := fun b o e => hfl₅.1 b o (kBG b o e)
    refine wpAny_handleBy_cons (codeAny_handlers_test (Name_function_global rfl rfl (loadGlobal_global (W.g.keeps k5) O.bound ?_) (by decide))) (by intro q; cases q)
    obtain ⟨bm, N, nm, q, bs, hdct, sn, sub, ab, col, dd, k0, k1, k2, k3, k5', mN, hC, hN, hni, TL⟩ := (O.keeps k5).obj
    refine wpAny_excMatches_sub_self hC hob hobc (TL.hasType (by decide)) (codeAny_handlers_suite ?_)
    refine lands_againW hfl₅ fun h₆ hfl₆ hsm₆ => ?_
    refine wpAny_noRaise ?_
    show wpAny _ _ _ _ _ (st s h₆ tk₂)
    refine wpAny_execs_cons (wpAny_Return_some (cstr fun t tk₆ => ?_))
    exact qoom e2 t h₆ tk₆ hfl₆.1 (((((Heap.UpToSlots.of_keeps C1.ext.all).trans hsm).trans hsm₄).trans hsm₅).trans hsm₆)
  · intro e1
    rw [hbo] at e1
    cases e1

theorem refused_spec {G : Heap} {v v' : Value} {ns fs : List Int} {C : Addr} {fr : List Env}
    (hf : IsFn B 14 f) (rm : Room A 3) (kB : Sub B h) (W : Wld mg mb B) (O : Oom mg C B) (hfr : A.frames = some fr) (hF : h.FunFrames G fr) (kG : Sub G h) (kBG : Sub B G)
    (hv : Rd B v (intsD ns)) (hv' : Rd B v' (intsD fs)) (hn : ns.length ≤ 2048) (hnf : fs.length ≤ 2048) (hbo : boAll ns = none)
    (q : ∀ h' tk', Sub G h' → h.UpToSlots h' → Q (.bool true) (st s h' tk')) :
    wpAny (model prog w) A (call (.ref f) [v, v']) Q E (st s h tk) := by
  refine call_fnE [("mem", v), ("fields", v')] hf (by have := rm.dp; omega) kB W.nolimit (fun _ _ _ => rfl) (locs rfl) (fun L h₁ tk₁ code hL C1 => ?_)
  have rm' := rm.deeper (env := envOf (nameOf (stAt 14)) (scopeOf (stAt 14)) L f code)
  refine wpAny_execs_cons (wpAny_Try_except (wpAny_execs_cons (wpAny_Expr (ecall 4 C1 W (by decide) fun f' hf' => args_cons (ldx C1 rfl (args_cons (ldx C1 rfl (args_nil ⟨C1.low, ?_⟩))))))))
  refine alloc_spec hf' rm' C1.low W O (Around.frames_deeper hfr) (frames_in hF C1 kG rfl) (fun b o e => C1.ext.all b o (kG b o e)) hv hv' hn hnf ?_ ?_ ?_
  · intro ts t e1
    rw [hbo] at e1
    cases e1
  · intro ts e1
    rw [hbo] at e1
    cases e1
  · intro _ e a0 h₂ tk₂ hfl hsm
    refine wpAny_looks_onW (s := st s h₂ tk₂) (Around.frames_deeper hfr) rfl hfl fun h₄ hheld hsm₄ => ?_
    refine wpAny_landsW hheld fun h₅ hfl₅ hsm₅ => ?_
    obtain ⟨ob, hob, hobc⟩ := hfl₅.there
    have k5 : Sub B h₅ := fun b o e => hfl₅.1 b o (kBG b o e)
    have hbi := W.bi "ValueError" (by decide)
    refine wpAny_handleBy_builtin (X := "ValueError") (T := "ValueError") (b := true) PySem.F.isExc_ValueError PySem.F.notTuple_ValueError (by rw [isSubtype_type]; kernel_rfl)
      (Name_function_global rfl rfl (loadGlobal_builtin (W.g.keeps k5) hbi.1 (W.b.keeps k5) (hbi.2.trans PyProof.Rows.Boot.«ValueError») ⟨rfl, ⟨ob, hob, hobc⟩, ?_⟩) (by decide))
    rw [if_pos rfl]
    refine lands_againW hfl₅ fun h₆ hfl₆ hsm₆ => ?_
    refine wpAny_noRaise ?_
    show wpAny _ _ _ _ _ (st s h₆ tk₂)
    refine wpAny_execs_cons (wpAny_Return_some (wpAny_Constant_bool ?_))
    exact q h₆ tk₂ hfl₆.1 (((((Heap.UpToSlots.of_keeps C1.ext.all).trans hsm).trans hsm₄).trans hsm₅).trans hsm₆)
end
end Mine

end
section
namespace Mine
open PySem
set_option maxRecDepth 100000

/-! the plain law: lists alone -/
/-- a block: its head says its length -/
def Blk (b : List Int) : Prop := b ≠ [] ∧ bsz (hd b) = (b.length : Int)
/-- a block as the law lays it: free (zeros behind its head) or an object -/
def Wf (b : List Int) : Prop := (∃ k : Nat, b = (-((k : Int) + 1)) :: List.replicate k 0) ∨ ∃ fs : List Int, b = (fs.length : Int) :: fs
theorem Wf.blk {b : List Int} (h : Wf b) : Blk b := by
  rcases h with ⟨k, rfl⟩ | ⟨fs, rfl⟩
  · refine ⟨by simp, ?_⟩
    show bsz (-((k : Int) + 1)) = _
    rw [bsz, if_neg (by omega), List.length_cons, List.length_replicate]; omega
  · refine ⟨by simp, ?_⟩
    show bsz (fs.length : Int) = _
    rw [bsz, if_pos (by omega), List.length_cons]; omega

theorem bo_skip {ns : List Int} {acc : List Trip} : ∀ (d j : Nat), j + d ≤ ns.length → bo ns (ns.length - j) ((j + d : Nat) : Int) acc = bo ns (ns.length - (j + d)) ((j + d : Nat) : Int) acc
  | 0, j, _ => rfl
  | d + 1, j, h => by
    rw [bo_at (by omega), if_neg (by omega)]
    have e : j + (d + 1) = (j + 1) + d := by omega
    rw [e]
    exact bo_skip d (j + 1) (by omega)
theorem getD_hd (pre b post : List Int) (hb : b ≠ []) : (pre ++ (b ++ post)).getD pre.length 0 = hd b := by
  cases b with
  | nil => exact absurd rfl hb
  | cons x r => simp [hd, List.getD]
theorem bo_block {pre b post : List Int} {acc : List Trip} (hb : Blk b) :
    bo (pre ++ (b ++ post)) ((pre ++ (b ++ post)).length - pre.length) (pre.length : Int) acc =
    bo (pre ++ (b ++ post)) ((pre ++ (b ++ post)).length - (pre.length + b.length)) ((pre.length + b.length : Nat) : Int) (acc ++ [((pre.length : Int), (b.length : Int), decide (hd b < 0))]) := by
  have hpos : 0 < b.length := List.length_pos_iff.mpr hb.1
  have hlen : (pre ++ (b ++ post)).length = pre.length + (b.length + post.length) := by simp
  rw [bo_at (by omega), if_pos rfl, getD_hd pre b post hb.1, hb.2, if_neg (by omega)]
  have h := bo_skip (ns := pre ++ (b ++ post)) (acc := acc ++ [((pre.length : Int), (b.length : Int), decide (hd b < 0))]) (b.length - 1) (pre.length + 1) (by omega)
  have e : pre.length + 1 + (b.length - 1) = pre.length + b.length := by omega
  rw [e] at h
  have e2 : (pre.length : Int) + (b.length : Int) = ((pre.length + b.length : Nat) : Int) := by omega
  rw [e2]
  exact h
theorem bo_blocks : ∀ (rest : List (List Int)) (pre tl : List Int) (acc : List Trip), (∀ b ∈ rest, Blk b) →
    bo (pre ++ (rest.flatten ++ tl)) ((pre ++ (rest.flatten ++ tl)).length - pre.length) (pre.length : Int) acc =
    bo (pre ++ (rest.flatten ++ tl)) tl.length ((pre.length + rest.flatten.length : Nat) : Int) (acc ++ ents (pre.length : Int) rest)
  | [], pre, tl, acc, _ => by
    have e : (pre ++ (([] : List (List Int)).flatten ++ tl)).length - pre.length = tl.length := by simp
    rw [e]; simp [ents]
  | b :: r, pre, tl, acc, h => by
    have hb := h b (.head _)
    have ih := bo_blocks r (pre ++ b) tl (acc ++ [((pre.length : Int), (b.length : Int), decide (hd b < 0))]) fun x hx => h x (.tail _ hx)
    have e1 : pre ++ ((b :: r).flatten ++ tl) = pre ++ (b ++ (r.flatten ++ tl)) := by simp
    have e2 : (pre ++ b) ++ (r.flatten ++ tl) = pre ++ (b ++ (r.flatten ++ tl)) := by simp
    rw [e2, List.length_append (as := pre) (bs := b)] at ih
    rw [e1, bo_block hb, ih]
    have e3 : pre.length + b.length + r.flatten.length = pre.length + (b :: r).flatten.length := by simp; omega
    rw [e3, ents, List.append_assoc, List.singleton_append]
    have e4 : ((pre.length + b.length : Nat) : Int) = (pre.length : Int) + (b.length : Int) := by omega
    rw [e4]
theorem boAll_flat {bs : List (List Int)} (h : ∀ b ∈ bs, Blk b) : boAll bs.flatten = some (ents 0 bs) := by
  have := bo_blocks bs [] [] [] h
  simp only [List.nil_append, List.append_nil, List.length_nil, Nat.sub_zero, Int.ofNat_zero] at this
  exact this
theorem boAll_broken {bs : List (List Int)} (h : ∀ b ∈ bs, Blk b) : boAll (bs.flatten ++ [1]) = none := by
  have := bo_blocks bs [] [1] [] h
  simp only [List.nil_append, List.length_nil, Nat.sub_zero, Int.ofNat_zero, Nat.zero_add] at this
  rw [boAll]
  refine this.trans ?_
  show bo _ 1 _ _ = none
  have e : (bs.flatten ++ [1]).length - 1 = bs.flatten.length := by simp
  have hb := bo_at (ns := bs.flatten ++ [1]) (i := bs.flatten.length) (by simp) (bs.flatten.length : Int) (ents 0 bs)
  have e2 : (bs.flatten ++ [1]).length - bs.flatten.length = 1 := by simp
  rw [e2] at hb
  refine hb.trans ?_
  have e3 : (bs.flatten ++ [1]).getD bs.flatten.length 0 = 1 := by simp [List.getD]
  rw [if_pos rfl, e3, if_pos]
  simp [bsz]

theorem tfits_fits (need a : Int) (b : List Int) : tfits need (a, (b.length : Int), decide (hd b < 0)) = fits need b := rfl
theorem find_ents (need : Int) : ∀ (bs : List (List Int)) (a : Int), (ents a bs).find? (tfits need) =
    (bs.findIdx? (fits need)).map fun i => (a + ((bs.take i).flatten.length : Int), ((bs.getD i []).length : Int), decide (hd (bs.getD i []) < 0))
  | [], a => rfl
  | b :: r, a => by
    rw [ents, List.find?_cons, tfits_fits, List.findIdx?_cons]
    cases hb : fits need b with
    | true => simp
    | false =>
      simp only [Bool.false_eq_true, if_false]
      rw [find_ents need r]
      cases r.findIdx? (fits need) with
      | none => rfl
      | some i => simp [Int.add_assoc]

theorem setN_app (pre zs fs : List Int) : ∀ (i : Nat) (ys : List Int), ys.length = fs.length → i ≤ fs.length → setN (pre ++ (ys ++ zs)) pre.length fs i = pre ++ (fs.take i ++ (ys.drop i ++ zs))
  | 0, ys, _, _ => by simp [setN]
  | i + 1, ys, hy, hi => by
    rw [setN_succ, setN_app pre zs fs i ys hy (by omega)]
    have h1 : (fs.take i).length = i := by simp; omega
    have hd1 : ys.drop i = ys[i]'(by omega) :: ys.drop (i + 1) := by rw [List.drop_eq_getElem_cons]
    have ht : fs.take (i + 1) = fs.take i ++ [fs.getD i 0] := by
      rw [List.take_add_one, List.getElem?_eq_getElem (show i < fs.length by omega)]
      simp [List.getD, show i < fs.length by omega]
    rw [List.set_append_right _ _ (by omega), Nat.add_sub_cancel_left, List.set_append_right _ _ (by omega), h1, Nat.sub_self, hd1, ht, List.cons_append, List.set_cons_zero, List.append_assoc]
    rfl

theorem put_laid {bs : List (List Int)} {p : Nat} {fs : List Int} (hp : p < bs.length) (hw : Wf (bs.getD p [])) (hneg : hd (bs.getD p []) < 0) (hfit : fs.length + 1 ≤ (bs.getD p []).length) :
    putIn bs.flatten (bs.take p).flatten.length fs ((bs.getD p []).length : Int) = (laid bs p fs).flatten := by
  have hsplit : bs = bs.take p ++ (bs.getD p [] :: bs.drop (p + 1)) := by
    conv => lhs; rw [← List.take_append_drop p bs]
    congr 1
    rw [List.drop_eq_getElem_cons hp]
    simp [List.getD, hp]
  rcases hw with ⟨k, hk⟩ | ⟨gs, hg⟩
  · have hlen : (bs.getD p []).length = k + 1 := by rw [hk]; simp
    have hfl : bs.flatten = (bs.take p).flatten ++ ((-((k : Int) + 1)) :: (List.replicate k 0 ++ (bs.drop (p + 1)).flatten)) := by
      conv => lhs; rw [hsplit]
      rw [List.flatten_append, List.flatten_cons, hk]; rfl
    have hrep : List.replicate k (0 : Int) = List.replicate fs.length 0 ++ List.replicate (k - fs.length) 0 := by
      rw [List.replicate_append_replicate]; congr 1; omega
    have hset : setN (bs.flatten.set (bs.take p).flatten.length (fs.length : Int)) ((bs.take p).flatten.length + 1) fs fs.length = ((bs.take p).flatten ++ [(fs.length : Int)]) ++ (fs ++ (List.replicate (k - fs.length) 0 ++ (bs.drop (p + 1)).flatten)) := by
      rw [hfl, List.set_append_right _ _ (Nat.le_refl _), Nat.sub_self, List.set_cons_zero, hrep]
      have e : (bs.take p).flatten ++ (fs.length : Int) :: (List.replicate fs.length 0 ++ List.replicate (k - fs.length) 0 ++ (bs.drop (p + 1)).flatten) = ((bs.take p).flatten ++ [(fs.length : Int)]) ++ (List.replicate fs.length 0 ++ (List.replicate (k - fs.length) 0 ++ (bs.drop (p + 1)).flatten)) := by
        rw [List.append_assoc, List.append_assoc]; rfl
      rw [e]
      have e2 : (bs.take p).flatten.length + 1 = ((bs.take p).flatten ++ [(fs.length : Int)]).length := by simp
      rw [e2, setN_app _ _ _ _ _ (by simp) (Nat.le_refl _)]
      simp
    have hr : (bs.getD p []).length - fs.length - 1 = k - fs.length := by omega
    rw [putIn, hset, laid, hr, hlen]
    by_cases hpos : 0 < k - fs.length
    · rw [if_pos (by omega), if_pos hpos]
      have e3 : List.replicate (k - fs.length) (0 : Int) = 0 :: List.replicate (k - fs.length - 1) 0 := by
        rw [← List.replicate_succ]; congr 1; omega
      have e4 : (bs.take p).flatten.length + (fs.length + 1) = (((bs.take p).flatten ++ [(fs.length : Int)]) ++ fs).length := by simp only [List.length_append, List.length_singleton]; omega
      rw [← List.append_assoc, e4, List.set_append_right _ _ (Nat.le_refl _), Nat.sub_self, e3]
      have e5 : (fs.length : Int) + 1 - ((k + 1 : Nat) : Int) = -((k - fs.length : Nat) : Int) := by omega
      rw [e5]
      simp
    · have e0 : k - fs.length = 0 := by omega
      rw [if_neg (by omega), if_neg hpos, e0]
      simp
  · rw [hg] at hneg
    simp only [hd, List.headD_cons] at hneg
    omega

theorem wf_layout (sc : List Int) : ∀ b ∈ layout sc, Wf b := by
  intro b hb
  obtain ⟨i, _, rfl⟩ := List.mem_map.mp hb
  unfold blk
  split
  · exact .inl ⟨_, rfl⟩
  · refine .inr ⟨words sc (6 + 2 * i) (kindN sc i - 4), ?_⟩
    rw [words_len]
    congr 1
    omega
theorem blk_len (sc : List Int) (i : Nat) : (blk sc i).length ≤ 4 := by
  have := kindN_lt sc i
  unfold blk
  split
  · simp; omega
  · simp [words_len]; omega
theorem flatten_le (bs : List (List Int)) (k : Nat) (h : ∀ b ∈ bs, b.length ≤ k) : bs.flatten.length ≤ bs.length * k := by
  induction bs with
  | nil => simp
  | cons b r ih =>
    have h1 := h b (.head _)
    have h2 := ih fun x hx => h x (.tail _ hx)
    simp only [List.flatten_cons, List.length_append, List.length_cons]
    rw [Nat.add_mul]; omega
theorem layout_len (sc : List Int) : (layout sc).length ≤ 5 := by simpa [layout] using nb_le sc
theorem layout_flat (sc : List Int) : (layout sc).flatten.length ≤ 20 := by
  have h1 := flatten_le (layout sc) 4 (fun b hb => by obtain ⟨i, _, rfl⟩ := List.mem_map.mp hb; exact blk_len sc i)
  have h2 := layout_len sc
  omega
theorem wf_laid {bs : List (List Int)} {p : Nat} {fs : List Int} (h : ∀ b ∈ bs, Wf b) : ∀ b ∈ laid bs p fs, Wf b := by
  intro b hb
  unfold laid at hb
  rcases List.mem_append.mp hb with hb | hb
  · rcases List.mem_append.mp hb with hb | hb
    · rcases List.mem_append.mp hb with hb | hb
      · exact h b (List.mem_of_mem_take hb)
      · rw [List.mem_singleton.mp hb]; exact .inr ⟨fs, rfl⟩
    · split at hb
      · rename_i hpos
        rw [List.mem_singleton.mp hb]
        refine .inl ⟨(bs.getD p []).length - fs.length - 1 - 1, ?_⟩
        congr 1
        omega
      · cases hb
  · exact h b (List.mem_of_mem_drop hb)
theorem laid_len {bs : List (List Int)} {p : Nat} {fs : List Int} : (laid bs p fs).length ≤ bs.length + 2 := by
  unfold laid
  simp only [List.length_append, List.length_take, List.length_drop, List.length_singleton]
  split
  · simp only [List.length_singleton]; omega
  · simp only [List.length_nil]; omega
theorem putIn_len (ns : List Int) (a : Nat) (fs : List Int) (n : Int) : (putIn ns a fs n).length = ns.length := by
  unfold putIn
  split
  · rw [List.length_set, setN_len, List.length_set]
  · rw [setN_len, List.length_set]
theorem mem_flat_le {bs : List (List Int)} {b : List Int} (h : b ∈ bs) : b.length ≤ bs.flatten.length := by
  induction bs with
  | nil => cases h
  | cons x r ih =>
    rw [List.flatten_cons, List.length_append]
    rcases List.mem_cons.mp h with rfl | h
    · omega
    · have := ih h; omega
end Mine

end
section
namespace Mine
open PySem PySem.Calls PyProof.Rows PySem.Spec
set_option maxRecDepth 100000
set_option maxHeartbeats 2000000

def forBody : Stmt → List Stmt
  | .For _ _ b _ _ => b
  | _ => []
/-- the body of the law's loop -/
def turnBody : List Stmt := forBody ((bodyOf (stAt 15)).getD 9 (.Pass ⟨0, 0, 0, 0⟩))

section
variable {prog : Program} {w : World} {A : Around} {E : Value → Shared → Prop} {s : Shared} {h : Heap} {tk : Nat} {H B₀ B : Heap} {L : Addr} {m mg mb : Str → Option Value} {name : Str} {scope : Scope} {a : Addr} {cd : Value}
theorem sub_rest (C : Cx H B₀ B L [] h m) : Sub B (rest h L []) := fun b o e => by
  rw [rest_get (own := []) (fun q => by rw [q, C.offL] at e; cases e) (by intro p hp; cases hp)]; exact C.low b o e
/-- behind a call that has caught an exception -/
theorem Cx.after {h' : Heap} (C : Cx H B₀ B L [] h m) (k : Sub (rest h L []) h') (sm : h.UpToSlots h') : Cx H B₀ B L [] h' m where
  ns := sm.ns C.ns
  ext := ⟨C.ext.sub, (sub_rest C).trans k, fun b o e => k b o (by rw [rest_get (own := []) (fun q => by rw [q, C.newL] at e; cases e) (by intro p hp; cases hp)]; exact C.ext.all b o e), C.ext.new⟩
  offL := C.offL
  newL := C.newL
  own := fun _ hp => nomatch hp
theorem frames_one (C : Cx H B₀ B L [] h m) (hk : scope.kind = .function) : h.FunFrames (rest h L []) [envOf name scope L a cd] :=
  .cons (by show scope.kind ≠ .module; rw [hk]; decide) rfl C.ns rest_L trivial
/-- a != b or c != d, of like data -/
theorem kept_ok {x1 x2 x3 x4 : Str} {p1 p2 p3 p4 p5 p6 pos : Pos} {v1 v2 v3 v4 : Value} {d1 d2 : PyData} {k : Nat} {whole : Sem Value} {Q : Bool → Shared → Prop} (C : Cx H B₀ B L [] h m) (e1 : m x1 = some v1) (e2 : m x2 = some v2) (e3 : m x3 = some v3) (e4 : m x4 = some v4)
    (r1 : Rd B v1 d1) (r2 : Rd B v2 d1) (r3 : Rd B v3 d2) (r4 : Rd B v4 d2) (s1 : SeqAt.shaped d1 = true) (s2 : SeqAt.shaped d2 = true) (rm : Room A k) (q : Q false (st s h tk))
    (hk : scope.kind = .function := by rfl) (l1 : (envOf name scope L a cd).kindOf x1 = some .local := by rfl) (l2 : (envOf name scope L a cd).kindOf x2 = some .local := by rfl) (l3 : (envOf name scope L a cd).kindOf x3 = some .local := by rfl) (l4 : (envOf name scope L a cd).kindOf x4 = some .local := by rfl)
    (g1 : (x1 == ("__debug__" : Str)) = false := by decide) (g2 : (x2 == ("__debug__" : Str)) = false := by decide) (g3 : (x3 == ("__debug__" : Str)) = false := by decide) (g4 : (x4 == ("__debug__" : Str)) = false := by decide)
    (b2 : behindInMarks .NotEq (.Name x2 p2) = false := by with_unfolding_all rfl) (b4 : behindInMarks .NotEq (.Name x4 p5) = false := by with_unfolding_all rfl) :
    wpAny (model prog w) A (isTrue (.BoolOp .Or [.Compare (.Name x1 p1) [.NotEq] [.Name x2 p2] p3, .Compare (.Name x3 p4) [.NotEq] [.Name x4 p5] p6] pos) (envOf name scope L a cd) whole) Q E (st s h tk) := by
  refine isTrue_or (wpAny_isTrue_Compare1 (ldx C e1 (ldx C e2 (ene_same C r1 r2 s1 rm (wpAny_truthy_bool ?_)) hk l2 g2) hk l1 g1) b2)
  rw [if_neg (by decide)]
  refine isTrue_or (wpAny_isTrue_Compare1 (ldx C e3 (ldx C e4 (ene_same C r3 r4 s2 rm (wpAny_truthy_bool ?_)) hk l4 g4) hk l3 g3) b4)
  rw [if_neg (by decide)]
  exact isTrue_or_nil q
end

theorem fit_cases {bs : List (List Int)} {need : Int} (hw : ∀ b ∈ bs, Wf b) :
    (fitIdx bs need = -1 ∧ (ents 0 bs).find? (tfits need) = none) ∨
    ∃ p, p < bs.length ∧ fitIdx bs need = (p : Int) ∧ (ents 0 bs).find? (tfits need) = some (((bs.take p).flatten.length : Int), ((bs.getD p []).length : Int), decide (hd (bs.getD p []) < 0)) ∧ hd (bs.getD p []) < 0 ∧ need ≤ ((bs.getD p []).length : Int) ∧ Wf (bs.getD p []) := by
  rw [find_ents]
  unfold fitIdx
  cases hi : bs.findIdx? (fits need) with
  | none => exact .inl ⟨rfl, rfl⟩
  | some p =>
    right
    obtain ⟨hp, hf, _⟩ := List.findIdx?_eq_some_iff_getElem.mp hi
    have e : bs.getD p [] = bs[p] := by simp [List.getD, hp]
    rw [fits, Bool.and_eq_true] at hf
    refine ⟨p, hp, rfl, by simp, ?_, ?_, ?_⟩
    · rw [e]; simpa using hf.1
    · rw [e]; simpa using hf.2
    · rw [e]; exact hw _ (List.getElem_mem _)

section
variable {prog : Program} {w : World} {A : Around} {s : Shared} {h : Heap} {tk : Nat} {B : Heap} {mg mb : Str → Option Value} {f : Addr} {Q : Value → Shared → Prop}

/-- what holds between two allocations -/
def Now (vb vm v1 v2 u1 u2 : Value) (i : Nat) (B : Heap) (own : List (Addr × Obj)) (m : Str → Option Value) : Prop :=
  own = [] ∧ m "blocks" = some vb ∧ m "mem" = some vm ∧ m "one" = some v1 ∧ m "two" = some v2 ∧ m "kept_one" = some u1 ∧ m "kept_two" = some u2 ∧
  ∃ vn vt bs', m "now" = some vn ∧ m "told" = some vt ∧ Rd B vn (intsD bs'.flatten) ∧ Rd B vt (blks bs') ∧ (∀ b ∈ bs', Wf b) ∧ bs'.length ≤ 5 + 2 * i ∧ bs'.flatten.length ≤ 20

theorem turn_spec {H₁ B₁ h₁ : Heap} {tk₁ : Nat} {L : Addr} {m₁ : Str → Option Value} {vb vm v1 v2 u1 u2 vf code : Value} {one two fs : List Int} {i : Nat} {C : Addr} {f : Addr} {R : Flow → Shared → Prop}
    (rm : Room A 5) (W : Wld mg mb B₁) (O : Oom mg C B₁) (hfr : A.frames = some [envOf (nameOf (stAt 15)) (scopeOf (stAt 15)) L f code])
    (r1 : Rd B₁ v1 (intsD one)) (r1' : Rd B₁ u1 (intsD one)) (r2 : Rd B₁ v2 (intsD two)) (r2' : Rd B₁ u2 (intsD two)) (rf : Rd B₁ vf (intsD fs)) (hfs : fs.length ≤ 3) (hi : i < 2)
    (J : Now vb vm v1 v2 u1 u2 i B₁ [] m₁) (C1 : Cx H₁ B₁ B₁ L [] h₁ (fun y => if y = "fields" then some vf else m₁ y)) :
    wpAny (model prog w) A (execs turnBody (envOf (nameOf (stAt 15)) (scopeOf (stAt 15)) L f code)) (TurnEnd s H₁ B₁ L [] (Now vb vm v1 v2 u1 u2 (i + 1)) R) (fun _ _ => False) (st s h₁ tk₁) := by
  obtain ⟨_, e1, e2, e3, e4, e5, e6, vn, vt, bs', e7, e8, rn, rt, hwf, hbl, hfl⟩ := J
  have hblk : ∀ b ∈ bs', Blk b := fun b hb => (hwf b hb).blk
  have hbo := boAll_flat hblk
  have hne : ∀ b ∈ bs', b ≠ [] ∧ b.length ≤ 4096 := fun b hb => ⟨(hblk b hb).1, by have := mem_flat_le hb; omega⟩
  obtain ⟨lf, fv, rfl, hlf, hrf⟩ := Rd.listInv rf
  have hfv : fv.length = fs.length := by simpa using hrf.len
  refine wpAny_execs_cons (wpAny_Assign_Name (ecall 11 C1 W (by decide) fun f' hf' => args_cons (ldx C1 e8 (args_cons (wpAny_BinOp (elen C1 W rfl hlf (by omega) fun _ _ => cint fun _ _ => iadd fun _ _ => args_nil ⟨C1.low, ?_⟩))))))
  rw [hfv]
  refine fit_spec hf' rm.less C1.low W rt (by omega) hne fun tp B2 h₂ tk₂ x2 => ?_
  have C2 := C1.step x2
  refine stx C2 fun h₃ tk₃ C3 => ?_
  have W3 := W.keeps x2.sub
  have O3 := O.keeps x2.sub
  have rn3 := rn.keeps x2.sub
  have rt3 := rt.keeps x2.sub
  have rf3 := rf.keeps x2.sub
  -- the tail: the last test of the turn
  have tail : ∀ (vn' vt' : Value) (bs2 : List (List Int)) (m' : Str → Option Value) (B' h' : Heap) (tk' : Nat), Cx H₁ B₁ B' L [] h' m' → Sub B₁ B' →
      m' "blocks" = some vb → m' "mem" = some vm → m' "one" = some v1 → m' "two" = some v2 → m' "kept_one" = some u1 → m' "kept_two" = some u2 → m' "now" = some vn' → m' "told" = some vt' →
      Rd B' vn' (intsD bs2.flatten) → Rd B' vt' (blks bs2) → (∀ b ∈ bs2, Wf b) → bs2.length ≤ 5 + 2 * (i + 1) → bs2.flatten.length ≤ 20 →
      wpAny (model prog w) A (execs (turnBody.drop 5) (envOf (nameOf (stAt 15)) (scopeOf (stAt 15)) L f code)) (TurnEnd s H₁ B₁ L [] (Now vb vm v1 v2 u1 u2 (i + 1)) R) (fun _ _ => False) (st s h' tk') := by
    intro vn' vt' bs2 m' B' h' tk' C' k' a1 a2 a3 a4 a5 a6 a7 a8 an at' aw al af
    have W' := W.keeps k'
    refine wpAny_execs_cons (wpAny_If (isTrue_not (isTrue_plain (ecall 10 C' W' (by decide) fun f' hf' => args_cons (ldx C' a7 (args_cons (ldx C' a8 (args_nil ⟨C'.low, ?_⟩))))))))
    refine sound_spec hf' rm.less C'.low W' an at' (by omega) (by omega) (fun b hb => (aw b hb).blk.1) rfl (boAll_flat fun b hb => (aw b hb).blk) fun B9 h₉ tk₉ x9 => wpAny_truthy_bool ?_
    rw [if_neg (by decide)]
    refine wpAny_execs_nil (wpAny_execs_nil ?_)
    exact ⟨_, _, _, _, _, rfl, C'.step x9, rfl, rfl, a1, a2, a3, a4, a5, a6, vn', vt', bs2, a7, a8, an.keeps x9.sub, at'.keeps x9.sub, aw, al, af⟩
  -- from the second test on, whatever was got
  have cont : ∀ (vg : Value) (m' : Str → Option Value) (B' h' : Heap) (tk' : Nat), Cx H₁ B₁ B' L [] h' m' → Sub B2 B' →
      m' "blocks" = some vb → m' "mem" = some vm → m' "one" = some v1 → m' "two" = some v2 → m' "kept_one" = some u1 → m' "kept_two" = some u2 → m' "now" = some vn → m' "told" = some vt → m' "got" = some vg → m' "fields" = some (.ref lf) → m' "place" = some (.int (fitIdx bs' ((fs.length : Int) + 1)) tp) →
      ((fitIdx bs' ((fs.length : Int) + 1) = -1 ∧ ∃ t, vg = .str "oom" t) ∨
        ∃ p, p < bs'.length ∧ fitIdx bs' ((fs.length : Int) + 1) = (p : Int) ∧ fs.length + 1 ≤ (bs'.getD p []).length ∧ Wf (bs'.getD p []) ∧ hd (bs'.getD p []) < 0 ∧ Rd B' vg (.tuple [intsD (laid bs' p fs).flatten, .int ((bs'.take p).flatten.length : Int)])) →
      wpAny (model prog w) A (execs (turnBody.drop 2) (envOf (nameOf (stAt 15)) (scopeOf (stAt 15)) L f code)) (TurnEnd s H₁ B₁ L [] (Now vb vm v1 v2 u1 u2 (i + 1)) R) (fun _ _ => False) (st s h' tk') := by
    intro vg m' B' h' tk' C' k' a1 a2 a3 a4 a5 a6 a7 a8 a9 a10 a11 hc
    have W' := W3.keeps k'
    have k1' : Sub B₁ B' := x2.sub.trans k'
    refine wpAny_execs_cons (wpAny_If (wpAny_isTrue_Compare1 (ldx C' a7 (ecall 9 C' W' (by decide) fun f' hf' => args_cons (ldx C' a8 (args_nil ⟨C'.low, ?_⟩))))))
    refine flat_spec hf' rm.less C'.low W' (rt3.keeps k') (by omega) fun v4 B4 h₄ tk₄ x4 hr4 => ?_
    have C4 := C'.step x4
    refine ene_same C4 ((rn3.keeps k').keeps x4.sub) hr4 (ints_shaped _) rm (wpAny_truthy_bool ?_)
    rw [if_neg (by decide)]
    have k4 : Sub B₁ B4 := k1'.trans x4.sub
    have W4 := W'.keeps x4.sub
    refine wpAny_execs_nil (wpAny_execs_cons (wpAny_If (kept_ok C4 a3 a5 a4 a6 (r1.keeps k4) (r1'.keeps k4) (r2.keeps k4) (r2'.keeps k4) (ints_shaped _) (ints_shaped _) rm ?_)))
    rw [if_neg (by decide)]
    refine wpAny_execs_nil (wpAny_execs_cons (wpAny_If (wpAny_isTrue_Compare1 (ldx C4 a11 (cint fun _ _ => PyProof.Rows.lt_int (wpAny_truthy_bool ?_))))))
    rcases hc with ⟨hm1, t, rfl⟩ | ⟨p, hp, hpe, hfit, hwp, hneg, hg⟩
    · rw [hm1, if_pos (by decide)]
      refine wpAny_execs_cons (wpAny_If (wpAny_isTrue_Compare1 (ldx C4 a9 (cstr fun _ _ => ene_same C4 (.str _ _) (.str _ _) (by decide +kernel) rm (wpAny_truthy_bool ?_)))))
      rw [if_neg (by decide)]
      refine wpAny_execs_nil (wpAny_execs_nil ?_)
      exact tail vn vt bs' m' B4 h₄ _ C4 k4 a1 a2 a3 a4 a5 a6 a7 a8 ((rn3.keeps k').keeps x4.sub) ((rt3.keeps k').keeps x4.sub) hwf (by omega) hfl
    · rw [hpe, if_neg (by simp)]
      have hpl : (bs'.getD p []).length ≤ 20 := by
        have : bs'.getD p [] ∈ bs' := by rw [show bs'.getD p [] = bs'[p] by simp [List.getD, hp]]; exact List.getElem_mem _
        have := mem_flat_le this
        omega
      refine wpAny_execs_cons (wpAny_Assign_Name (ecall 12 C4 W4 (by decide) fun f' hf' => args_cons (ldx C4 a8 (args_cons (ldx C4 a11 (args_cons (ldx C4 a10 (args_nil ⟨C4.low, ?_⟩))))))))
      refine laid_spec (p := p) hf' rm.less C4.low W4 ((rt3.keeps k').keeps x4.sub) ((rf3.keeps k').keeps x4.sub) (by omega) (by omega) hpe hp (by omega) hfit fun v5 B5 h₅ tk₅ x5 hr5 => ?_
      have C5 := C4.step x5
      refine stx C5 fun h₆ tk₆ C6 => ?_
      have W6 := W4.keeps x5.sub
      have hlaid : (laid bs' p fs).flatten.length ≤ 20 := by
        rw [← put_laid hp hwp hneg hfit, putIn_len]; exact hfl
      refine wpAny_execs_cons (wpAny_If (wpAny_isTrue_Compare1 (ldx C6 a9 (Tuple_ (args_cons (ecall 9 C6 W6 (by decide) fun f' hf' => args_cons (ldx C6 rfl (args_nil ⟨C6.low, ?_⟩))))))))
      refine flat_spec hf' rm.less C6.low W6 hr5 (by omega) fun v7 B7 h₇ tk₇ x7 hr7 => ?_
      have C7 := C6.step x7
      have W7 := W6.keeps x7.sub
      obtain ⟨lt7, vs7, e9, hlt7, hrt7⟩ := Rd.listInv ((((rt3.keeps k').keeps x4.sub).keeps x5.sub).keeps x7.sub)
      subst e9
      have hvs7 : vs7.length = bs'.length := by simpa using hrt7.len
      refine args_cons (Call_ (ldb C7 W7 (by decide) (v := .builtin "len") PyProof.Rows.Boot.«len» (PyProof.Rows.callWith_builtin1 (args_cons ?_))))
      refine ecall 9 C7 W7 (by decide) fun f' hf' => args_cons (eupto (b := p) C7 a11 hlt7 hpe (by omega) (by omega) (fun D8 B8 h₈ C8 k8 g8 => args_nil ⟨k8.trans C8.low, ?_⟩) (ldx C7 a8 ⟨rfl, rfl⟩))
      have hr8 : Rd B8 (.ref D8) (blks (bs'.take p)) := .list (lst_is g8) (by rw [List.map_take]; exact (hrt7.keeps k8).take p)
      refine flat_spec (hf'.keeps k8) rm.less C8.low (W7.keeps k8) hr8 (by have := flatten_take_le bs' p; omega) fun v9 B9 h₉ tk₉ x9 hr9 => ?_
      have C9 := C8.step x9
      obtain ⟨l9, vs9, rfl, hl9, hrr9⟩ := hr9.listInv
      have hvs9 : vs9.length = (bs'.take p).flatten.length := by have := hrr9.len; rwa [List.length_map] at this
      have hle9 := flatten_take_le bs' p
      refine args_nil (clen C9 hl9 (by omega) fun t10 tk₁₀ => args_nil (newt C9 (by simp) fun D10 B10 h₁₀ C10 k10 g10 => ?_))
      have k79 : Sub B7 B10 := k8.trans (x9.sub.trans k10)
      have hpair : Rd B10 (.ref D10) (.tuple [intsD (laid bs' p fs).flatten, .int ((bs'.take p).flatten.length : Int)]) := by
        rw [← hvs9]
        exact .tuple (tup_is g10) (.cons (hr7.keeps k79) (.cons (.int _ _) .nil))
      have hg10 := (((hg.keeps x4.sub).keeps x5.sub).keeps x7.sub).keeps k79
      refine ene_same C10 hg10 hpair (pair_shaped _ _) rm (wpAny_truthy_bool ?_)
      rw [if_neg (by decide)]
      obtain ⟨lg, vsg, rfl, hlg, hrg⟩ := Rd.tupInv hg10
      obtain ⟨w0, hw0, hx0⟩ := hrg.get (i := 0) (d := intsD (laid bs' p fs).flatten) rfl
      have hvg : vsg.length = 2 := by simpa using hrg.len
      refine wpAny_execs_nil (wpAny_execs_cons (wpAny_Assign_Name (Subscript_ (ldx C10 a9 (cint fun _ _ => etup C10 hlg (k := 0) rfl hw0 (by omega) (stx C10 fun h₁₁ tk₁₁ C11 => ?_))))))
      refine wpAny_execs_cons (wpAny_Assign_Name (ldx C11 rfl (stx C11 fun h₁₂ tk₁₂ C12 => wpAny_execs_nil ?_)))
      refine tail w0 v5 (laid bs' p fs) _ B10 h₁₂ _ C12 (k4.trans (x5.sub.trans (x7.sub.trans k79))) a1 a2 a3 a4 a5 a6 rfl rfl hx0 (hr5.keeps (x7.sub.trans k79)) (wf_laid hwf) ?_ hlaid
      have := laid_len (bs := bs') (p := p) (fs := fs)
      omega
  -- the call that allocates
  have kG := sub_rest C3
  refine wpAny_execs_cons (wpAny_Assign_Name (ecall 13 C3 W3 (by decide) fun f' hf' => args_cons (ldx C3 e7 (args_cons (ldx C3 rfl (args_nil ⟨C3.low, ?_⟩))))))
  have hcases := fit_cases (need := (fs.length : Int) + 1) hwf
  refine got_spec hf' rm.less C3.low W3 O3 hfr (frames_one C3 rfl) rest_sub kG rn3 rf3 (by omega) (by omega) hbo ?_ ?_
  · intro t ht v4 B4 h₄ tk₄ x4 hr4
    rcases hcases with ⟨_, hnone⟩ | ⟨p, hp, hpe, hsome, hneg, hneed, hwp⟩
    · rw [hnone] at ht; cases ht
    · rw [hsome] at ht
      cases ht
      have hfit : fs.length + 1 ≤ (bs'.getD p []).length := by omega
      have hr4' : Rd B4 v4 (.tuple [intsD (laid bs' p fs).flatten, .int ((bs'.take p).flatten.length : Int)]) := by
        rw [← put_laid hp hwp hneg hfit]
        exact hr4
      have C4 := C3.step x4
      refine stx C4 fun h₅ tk₅ C5 => ?_
      exact cont v4 _ B4 h₅ tk₅ C5 x4.sub e1 e2 e3 e4 e5 e6 e7 e8 rfl rfl rfl (.inr ⟨p, hp, hpe, hfit, hwp, hneg, hr4'⟩)
  · intro hnone t h₄ tk₄ k4 sm4
    rcases hcases with ⟨hm1, _⟩ | ⟨p, hp, hpe, hsome, hneg, hneed, hwp⟩
    · have C4 := C3.after k4 sm4
      refine stx C4 fun h₅ tk₅ C5 => ?_
      exact cont (.str "oom" t) _ B2 h₅ tk₅ C5 (.refl _) e1 e2 e3 e4 e5 e6 e7 e8 rfl rfl rfl (.inl ⟨hm1, t, rfl⟩)
    · rw [hsome] at hnone; cases hnone
end
end Mine

end
section
namespace Mine
open PySem PySem.Calls PyProof.Rows PySem.Spec
set_option maxRecDepth 100000
set_option maxHeartbeats 2000000

section
variable {prog : Program} {w : World} {A : Around} {E : Value → Shared → Prop} {s : Shared} {h : Heap} {tk : Nat} {B : Heap} {mg mb : Str → Option Value} {f : Addr} {Q : Value → Shared → Prop}

theorem law_spec {v : Value} {sc : List Int} {C : Addr}
    (hf : IsFn B 15 f) (rm : Room A 6) (hA : A.frames = some []) (kB : Sub B h) (W : Wld mg mb B) (O : Oom mg C B)
    (hv : Rd B v (intsD sc)) (hn : sc.length ≤ 4096)
    (q : ∀ B' h' tk', Ext B h B' h' → Q (.bool true) (st s h' tk')) :
    wpAny (model prog w) A (call (.ref f) [v]) Q E (st s h tk) := by
  refine call_fn [("script", v)] hf (by have := rm.dp; omega) kB W.nolimit (fun _ _ _ => rfl) (locs rfl) (fun L h₁ tk₁ code C1 => ?_)
  have rm' := rm.deeper (env := envOf (nameOf (stAt 15)) (scopeOf (stAt 15)) L f code)
  have hfr : (A.deeper (envOf (nameOf (stAt 15)) (scopeOf (stAt 15)) L f code)).frames = some [envOf (nameOf (stAt 15)) (scopeOf (stAt 15)) L f code] := Around.frames_deeper hA
  have hwf := wf_layout sc
  have hblk : ∀ b ∈ layout sc, Blk b := fun b hb => (hwf b hb).blk
  have hbo := boAll_flat hblk
  have hbr := boAll_broken hblk
  have hl5 := layout_len sc
  have hl20 := layout_flat sc
  -- blocks, mem
  refine wpAny_execs_cons (wpAny_Assign_Name (ecall 8 C1 W (by decide) fun f' hf' => args_cons (ldx C1 rfl (args_nil ⟨C1.low, ?_⟩))))
  refine layout_spec hf' rm'.less C1.low W hv hn fun vb B2 h₂ tk₂ x2 rb2 => stx (C1.step x2) fun h₃ tk₃ C3 => ?_
  have W3 := W.keeps x2.sub
  have hv3 := hv.keeps x2.sub
  refine wpAny_execs_cons (wpAny_Assign_Name (ecall 9 C3 W3 (by decide) fun f' hf' => args_cons (ldx C3 rfl (args_nil ⟨C3.low, ?_⟩))))
  refine flat_spec hf' rm'.less C3.low W3 rb2 (by omega) fun vm B4 h₄ tk₄ x4 rm4 => stx (C3.step x4) fun h₅ tk₅ C5 => ?_
  have W5 := W3.keeps x4.sub
  have hv5 := hv3.keeps x4.sub
  -- one
  obtain ⟨n1, hn1⟩ : ∃ n1, (cell sc 17 % 4).toNat = n1 := ⟨_, rfl⟩
  obtain ⟨n2, hn2⟩ : ∃ n2, (cell sc 18 % 4).toNat = n2 := ⟨_, rfl⟩
  have q1 : (cell sc 17).fmod 4 = (n1 : Int) := by rw [← hn1]; exact fmod_nat (cell sc 17) 4 (by decide)
  have q2 : (cell sc 18).fmod 4 = (n2 : Int) := by rw [← hn2]; exact fmod_nat (cell sc 18) 4 (by decide)
  have l1 : n1 ≤ 3 := by
    have := Int.emod_lt_of_pos (cell sc 17) (b := 4) (by decide)
    have := Int.emod_nonneg (cell sc 17) (b := 4) (by decide)
    omega
  have l2 : n2 ≤ 3 := by
    have := Int.emod_lt_of_pos (cell sc 18) (b := 4) (by decide)
    have := Int.emod_nonneg (cell sc 18) (b := 4) (by decide)
    omega
  refine wpAny_execs_cons (wpAny_Assign_Name (ecall 7 C5 W5 (by decide) fun f' hf' => args_cons (ldx C5 rfl (args_cons (cint fun _ _ => args_cons (wpAny_BinOp (ecall 6 C5 W5 (by decide) fun f'' hf'' => args_cons (ldx C5 rfl (args_cons (cint fun _ _ => args_nil ⟨C5.low, ?_⟩))))))))))
  refine cell_spec (i := 17) hf'' rm'.less C5.low W5 hv5 hn rfl fun t6 B6 h₆ tk₆ x6 => cint fun _ _ => imod (by decide) fun _ _ => args_nil ⟨(C5.step x6).ext.low |> fun k => x6.sub.trans k, ?_⟩
  have C6 := C5.step x6
  have W6 := W5.keeps x6.sub
  refine words_spec (start := 19) (count := n1) (hf'.keeps x6.sub) rm'.less C6.low W6 (hv5.keeps x6.sub) hn (by omega) rfl q1 fun v1 B7 h₇ tk₇ x7 r7 => stx (C6.step x7) fun h₈ tk₈ C8 => ?_
  have W8 := W6.keeps x7.sub
  have hv8 := (hv5.keeps x6.sub).keeps x7.sub
  -- two
  refine wpAny_execs_cons (wpAny_Assign_Name (ecall 7 C8 W8 (by decide) fun f' hf' => args_cons (ldx C8 rfl (args_cons (cint fun _ _ => args_cons (wpAny_BinOp (ecall 6 C8 W8 (by decide) fun f'' hf'' => args_cons (ldx C8 rfl (args_cons (cint fun _ _ => args_nil ⟨C8.low, ?_⟩))))))))))
  refine cell_spec (i := 18) hf'' rm'.less C8.low W8 hv8 hn rfl fun t9 B9 h₉ tk₉ x9 => cint fun _ _ => imod (by decide) fun _ _ => args_nil ⟨x9.sub.trans (C8.step x9).low, ?_⟩
  have C9 := C8.step x9
  have W9 := W8.keeps x9.sub
  refine words_spec (start := 22) (count := n2) (hf'.keeps x9.sub) rm'.less C9.low W9 (hv8.keeps x9.sub) hn (by omega) rfl q2 fun v2 B10 h₁₀ tk₁₀ x10 r10 => stx (C9.step x10) fun h₁₁ tk₁₁ C11 => ?_
  have W11 := W9.keeps x10.sub
  obtain ⟨one, hone⟩ : ∃ one, words sc 19 n1 = one := ⟨_, rfl⟩
  obtain ⟨two, htwo⟩ : ∃ two, words sc 22 n2 = two := ⟨_, rfl⟩
  rw [hone] at r7
  rw [htwo] at r10
  have o3 : one.length ≤ 3 := by rw [← hone, words_len]; exact l1
  have t3 : two.length ≤ 3 := by rw [← htwo, words_len]; exact l2
  have k611 : Sub B7 B10 := x9.sub.trans x10.sub
  have r1 := r7.keeps k611
  -- kept_one, kept_two
  obtain ⟨a1, vs1, e1, hl1, hr1⟩ := r1.listInv
  have hn1' : vs1.length = one.length := by simpa using hr1.len
  obtain ⟨a2, vs2, e2, hl2, hr2⟩ := r10.listInv
  have hn2' : vs2.length = two.length := by simpa using hr2.len
  subst e1 e2
  refine wpAny_execs_cons (wpAny_Assign_Name (Call_ (ldb C11 W11 (by decide) (v := .type "list") PyProof.Rows.Boot.«list» (PyProof.Rows.callWith_type1 (args_cons (ldx C11 rfl (args_nil (ecopy C11 hl1 (by omega) fun D12 n12 h₁₂ k12 g12 g12' => ?_))))))))
  obtain ⟨B12, C12, kk12, gg12⟩ := C11.grown k12
  have gD12 := gg12 _ _ g12 g12'
  refine stx C12 fun h₁₃ tk₁₃ C13 => ?_
  refine wpAny_execs_cons (wpAny_Assign_Name (Call_ (ldb C13 (W11.keeps kk12) (by decide) (v := .type "list") PyProof.Rows.Boot.«list» (PyProof.Rows.callWith_type1 (args_cons (ldx C13 rfl (args_nil (ecopy C13 (isList_keeps hl2 kk12) (by omega) fun D14 n14 h₁₄ k14 g14 g14' => ?_))))))))
  obtain ⟨B14, C14, kk14, gg14⟩ := C13.grown k14
  have gD14 := gg14 _ _ g14 g14'
  refine stx C14 fun h₁₅ tk₁₅ C15 => ?_
  have kk : Sub B10 B14 := kk12.trans kk14
  have W15 := W11.keeps kk
  have hu1 : Rd B14 (.ref D12) (intsD one) := .list (lst_is (kk14 _ _ gD12)) (hr1.keeps kk)
  have hu2 : Rd B14 (.ref D14) (intsD two) := .list (lst_is gD14) (hr2.keeps kk)
  have r1' := r1.keeps kk
  have r2' := r10.keeps kk
  have k214 : Sub B2 B14 := x4.sub.trans (x6.sub.trans (x7.sub.trans (k611.trans kk)))
  have k414 : Sub B4 B14 := x6.sub.trans (x7.sub.trans (k611.trans kk))
  have rb := rb2.keeps k214
  have rmm := rm4.keeps k414
  have O15 := O.keeps (x2.sub.trans k214)
  -- the first look
  refine wpAny_execs_cons (wpAny_If (isTrue_not (isTrue_plain (ecall 10 C15 W15 (by decide) fun f' hf' => args_cons (ldx C15 rfl (args_cons (ldx C15 rfl (args_nil ⟨C15.low, ?_⟩))))))))
  refine sound_spec hf' rm'.less C15.low W15 rmm rb (by omega) (by omega) (fun b hb => (hblk b hb).1) rfl hbo fun B16 h₁₆ tk₁₆ x16 => wpAny_truthy_bool ?_
  rw [if_neg (by decide)]
  have C16 := C15.step x16
  have W16 := W15.keeps x16.sub
  refine wpAny_execs_nil (wpAny_execs_cons (wpAny_Assign_Name (ldx C16 rfl (stx C16 fun h₁₇ tk₁₇ C17 => ?_))))
  refine wpAny_execs_cons (wpAny_Assign_Name (ldx C17 rfl (stx C17 fun h₁₈ tk₁₈ C18 => ?_)))
  -- the loop
  refine wpAny_execs_cons (wpAny_For (List_ (args_cons (ldx C18 rfl (args_cons (ldx C18 rfl (args_nil (newl C18 (by simp) fun D19 B19 h₁₉ C19 k19 g19 => ?_))))))))
  have kA : Sub B14 B19 := x16.sub.trans k19
  refine loop_list (vs := [.ref a1, .ref a2]) (env := envOf _ _ L f code) rm.hh rfl rfl
    (fun i B₁ own₁ m₁ => Now vb vm (.ref a1) (.ref a2) (.ref D12) (.ref D14) i B₁ own₁ m₁)
    C19 (lst_is g19) ⟨rfl, rfl, rfl, rfl, rfl, rfl, rfl, vm, vb, layout sc, rfl, rfl, rmm.keeps kA, rb.keeps kA, hwf, by omega, hl20⟩ ?_ ?_
  · rintro i vf B₁ own₁ m₁ H₁ h₂₀ tk₂₀ hi J hs ha C20 _
    have own0 : own₁ = [] := J.1
    subst own0
    have k1 : Sub B14 B₁ := kA.trans hs
    have hvf : ∃ fs, Rd B₁ vf (intsD fs) ∧ fs.length ≤ 3 ∧ i < 2 := by
      match i, hi with
      | 0, hi => cases hi; exact ⟨one, r1'.keeps k1, o3, by decide⟩
      | 1, hi => cases hi; exact ⟨two, r2'.keeps k1, t3, by decide⟩
      | _ + 2, hi => cases hi
    obtain ⟨fs, hfs, hfl, hi2⟩ := hvf
    exact turn_spec rm'.less (W15.keeps k1) (O15.keeps k1) hfr (r1'.keeps k1) (hu1.keeps k1) (r2'.keeps k1) (hu2.keeps k1) hfs hfl hi2 J C20
  · rintro B₁ own₁ m₁ h₂₀ tk₂₀ ⟨rfl, f1, f2, f3, f4, f5, f6, _⟩ hs ha C20
    have k1 : Sub B14 B₁ := kA.trans hs
    have W20 := W15.keeps k1
    obtain ⟨am, vsm, em, hlm, hrm⟩ := (rmm.keeps k1).listInv
    have hlm' : vsm.length = (layout sc).flatten.length := by have := hrm.len; rwa [List.length_map] at this
    subst em
    -- broken
    refine wpAny_execs_cons (wpAny_Assign_Name (wpAny_BinOp (ldx C20 f2 (List_ (args_cons (cint fun t21 _ => args_nil (newl C20 (by simp) fun D21 B21 h₂₁ C21 k21 g21 => ?_)))))))
    refine eadd C21 (isList_keeps hlm k21) (lst_is g21) (by simp; omega) fun D22 B22 h₂₂ C22 k22 g22 => stx C22 fun h₂₃ tk₂₃ C23 => ?_
    have k2 : Sub B14 B22 := k1.trans (k21.trans k22)
    have W23 := W15.keeps k2
    have O23 := O15.keeps k2
    have rbr : Rd B22 (.ref D22) (intsD ((layout sc).flatten ++ [1])) := .list (lst_is g22) (by
      rw [List.map_append]
      exact (hrm.keeps (k21.trans k22)).append (.cons (.int _ _) .nil))
    have hbl : ((layout sc).flatten ++ [1]).length ≤ 21 := by rw [List.length_append]; simp only [List.length_singleton]; omega
    refine wpAny_execs_cons (wpAny_If (wpAny_isTrue_Compare1 (ecall 2 C23 W23 (by decide) fun f' hf' => args_cons (ldx C23 rfl (args_nil ⟨C23.low, ?_⟩)))))
    refine blocks_spec hf' rm'.less C23.low W23 rbr (by omega) fun v24 B24 h₂₄ tk₂₄ x24 hb24 => ?_
    rw [hbr] at hb24
    have e24 : v24 = .none := hb24
    subst e24
    refine wpAny_Constant_none (wpAny_isNot_self rfl (wpAny_truthy_bool ?_))
    rw [if_neg (by decide)]
    have C24 := C23.step x24
    have W24 := W23.keeps x24.sub
    have O24 := O23.keeps x24.sub
    have rbr24 := rbr.keeps x24.sub
    have k3 : Sub B14 B24 := k2.trans x24.sub
    -- refused, twice
    refine wpAny_execs_nil (wpAny_execs_cons (wpAny_If (isTrue_not (isTrue_plain (ecall 14 C24 W24 (by decide) fun f' hf' => args_cons (ldx C24 rfl (args_cons (ldx C24 f3 (args_nil ⟨C24.low, ?_⟩)))))))))
    refine refused_spec hf' rm'.less C24.low W24 O24 hfr (frames_one C24 rfl) rest_sub (sub_rest C24) rbr24 (r1'.keeps k3) (by omega) (by omega) hbr fun h₂₅ tk₂₅ k25 sm25 => wpAny_truthy_bool ?_
    rw [if_neg (by decide)]
    have C25 := C24.after k25 sm25
    refine wpAny_execs_nil (wpAny_execs_cons (wpAny_If (isTrue_not (isTrue_plain (ecall 14 C25 W24 (by decide) fun f' hf' => args_cons (ldx C25 rfl (args_cons (ldx C25 f4 (args_nil ⟨C25.low, ?_⟩)))))))))
    refine refused_spec hf' rm'.less C25.low W24 O24 hfr (frames_one C25 rfl) rest_sub (sub_rest C25) rbr24 (r2'.keeps k3) (by omega) (by omega) hbr fun h₂₆ tk₂₆ k26 sm26 => wpAny_truthy_bool ?_
    rw [if_neg (by decide)]
    have C26 := C25.after k26 sm26
    -- broken and mem as they were
    refine wpAny_execs_nil (wpAny_execs_cons (wpAny_If (isTrue_or (wpAny_isTrue_Compare1 (ldx C26 rfl (wpAny_BinOp (ecall 9 C26 W24 (by decide) fun f' hf' => args_cons (ldx C26 f1 (args_nil ⟨C26.low, ?_⟩)))))))))
    refine flat_spec hf' rm'.less C26.low W24 (rb.keeps k3) (by omega) fun v27 B27 h₂₇ tk₂₇ x27 hr27 => ?_
    obtain ⟨l27, vs27, rfl, hl27, hrr27⟩ := hr27.listInv
    have hl27' : vs27.length = (layout sc).flatten.length := by have := hrr27.len; rwa [List.length_map] at this
    refine List_ (args_cons (cint fun _ _ => args_nil (newl (C26.step x27) (by simp) fun D28 B28 h₂₈ C28 k28 g28 => ?_)))
    refine eadd C28 (isList_keeps hl27 k28) (lst_is g28) (by simp; omega) fun D29 B29 h₂₉ C29 k29 g29 => ?_
    have k4 : Sub B24 B29 := x27.sub.trans (k28.trans k29)
    have rbr29 : Rd B29 (.ref D29) (intsD ((layout sc).flatten ++ [1])) := .list (lst_is g29) (by
      rw [List.map_append]
      exact (hrr27.keeps (k28.trans k29)).append (.cons (.int _ _) .nil))
    refine ene_same C29 (rbr24.keeps k4) rbr29 (ints_shaped _) rm' (wpAny_truthy_bool ?_)
    rw [if_neg (by decide)]
    have W29 := W24.keeps k4
    refine isTrue_or (wpAny_isTrue_Compare1 (ldx C29 f2 (ecall 9 C29 W29 (by decide) fun f' hf' => args_cons (ldx C29 f1 (args_nil ⟨C29.low, ?_⟩)))))
    refine flat_spec hf' rm'.less C29.low W29 ((rb.keeps k3).keeps k4) (by omega) fun v30 B30 h₃₀ tk₃₀ x30 hr30 => ?_
    have C30 := C29.step x30
    refine ene_same C30 (((rmm.keeps k3).keeps k4).keeps x30.sub) hr30 (ints_shaped _) rm' (wpAny_truthy_bool ?_)
    rw [if_neg (by decide)]
    refine isTrue_or_nil ?_
    rw [if_neg (by decide)]
    have k5 : Sub B14 B30 := k3.trans (k4.trans x30.sub)
    refine wpAny_execs_nil (wpAny_execs_cons (wpAny_If (kept_ok C30 f3 f5 f4 f6 (r1'.keeps k5) (hu1.keeps k5) (r2'.keeps k5) (hu2.keeps k5) (ints_shaped _) (ints_shaped _) rm' ?_)))
    rw [if_neg (by decide)]
    refine wpAny_execs_nil (wpAny_execs_cons (wpAny_Return_some (wpAny_Constant_bool ?_)))
    exact q _ _ _ C30.ext
end
end Mine

end
section
open PySem PySem.W PyProof.Rows
set_option maxRecDepth 100000
namespace Mine
def posOf : Stmt → Pos
  | .FunctionDef _ _ _ _ _ _ _ _ _ p => p
  | _ => ⟨0, 0, 0, 0⟩
def recAt (i : Nat) : DefRec := ⟨nameOf (stAt i), argsOf (stAt i), bodyOf (stAt i), scopeOf (stAt i), posOf (stAt i)⟩
abbrev defsAll : List Nat := [2, 3, 4, 6, 7, 8, 9, 10, 11, 12, 13, 14, 15]

section
variable {p : Program} {loose : List Str} {mean : ExcName → Option Value} {mg mb : Str → Option Value} {h : Heap}
theorem fn_of_top (T : Top p loose mean mg mb h) (hr : recsOf p = defsAll.map recAt) {i : Nat} (hi : i ∈ defsAll) : FnAt mg h i := by
  have hm : recAt i ∈ recsOf p := by rw [hr]; exact List.mem_map_of_mem hi
  obtain ⟨a, o, pm, code, doc, h1, h2, h3, h4⟩ := T.fn _ hm
  exact ⟨a, h1, o, pm, code, doc, h2, h3, h4⟩
def freeOk (p : Program) (loose : List Str) (x : Str) : Bool :=
  !startupNames.contains x && !loose.contains x && !((recsOf p).map (·.name)).contains x && !((litsOf p).map (·.1)).contains x && !((clssOf p loose).map (·.name)).contains x && x != "__name__"
theorem wld_of_top (T : Top p loose mean mg mb h) (hr : recsOf p = defsAll.map recAt) (hf : builtinsHere.all (freeOk p loose) = true) : Wld mg mb h := by
  refine ⟨T.g, T.b, T.nolimit, fun x hx => ?_, fun i hi => fn_of_top T hr ?_⟩
  · have := List.all_eq_true.mp hf x hx
    simp only [freeOk, Bool.and_eq_true, Bool.not_eq_true', bne_iff_ne, ne_eq, List.contains_eq_mem, decide_eq_false_iff_not] at this
    obtain ⟨⟨⟨⟨⟨h1, h2⟩, h3⟩, h4⟩, h5⟩, h6⟩ := this
    exact ⟨T.free x h1 h2 h3 h4 h5, T.builtins x h6⟩
  · revert hi
    simp only [defsHere, defsAll, List.mem_cons, List.not_mem_nil, or_false]
    omega
theorem oom_of_top (T : Top p loose mean mg mb h) (ho : (ownsOf p).map (fun o => (o.name, o.bm, o.newId)) = ([("OutOfMemory", bmE, "Exception.__new__")] : List (Str × List Value × String))) : ∃ C, Oom mg C h := by
  have hm : (("OutOfMemory", bmE, "Exception.__new__") : Str × List Value × String) ∈ (ownsOf p).map (fun o => (o.name, o.bm, o.newId)) := by rw [ho]; exact .head _
  obtain ⟨o, hom, he⟩ := List.mem_map.mp hm
  obtain ⟨C, hC, _⟩ := T.own o hom
  obtain ⟨e1, e2⟩ := Prod.mk.inj he
  obtain ⟨e2, e3⟩ := Prod.mk.inj e2
  refine ⟨C, ?_⟩
  have := hC.own
  rw [e1, e2, e3] at this
  exact this
end
theorem room_caller : Room callerA 6 := ⟨rfl, by decide, by decide⟩


end Mine
end
open PySem PySem.W PyProof.Rows Mine
set_option maxRecDepth 100000 in
set_option maxHeartbeats 8000000 in
theorem PySem.Challenge.cw_pd_cinder_2_01_holds : PySem.Challenge.rw_pd_cinder_2_01.Holds := by
  w_on; o_law; k_head; (case hw => w_witness2)
  intro w s₀ s₁ mg mb G Y fa o pm cd doc dV kV ho hdd hcd hD hmg hg args vals as hpre hlay hrd hwl hlo
  refine Ground.open G ?_
  intro T TB D TE TW
  have W := wld_of_top T (by kernel_rfl) (by kernel_rfl)
  obtain ⟨C, O⟩ := oom_of_top T (by kernel_rfl)
  obtain ⟨f', hm, hf⟩ := fn_of_top T (by kernel_rfl) (i := 15) (by decide)
  have e : some (Value.ref f') = some (Value.ref fa) := hm.symm.trans hmg
  cases e
  clear hdd hcd hD hmg ho D TE TW TB Y G
  wrow_args hpre hlay hrd hwl hlo
  rename_i sc _ _ _ _ _ _ _ l _ _ _ _ _ r0 _ _ hlen _
  refine law_spec (s := s₁) (h := s₁.heap) (tk := s₁.toks) (B := s₁.heap) hf room_caller rfl (.refl _) W O ⟨_, r0⟩ (by omega) fun B' h' tk' x => ?_
  exact GoodW.toG ⟨.inl ⟨.bool true, .bool true, [], rfl, raisesW_false (by intro ct hct; cases hct), .bool true, postW_of rfl (w_eq_bool (w_res rfl) w_lit) rfl, fun _ => ⟨.nil, by intro a ha; cases ha⟩⟩, x.all, rfl, hg⟩
