import PyProof.Rows.All
import Wide.All
import OpenK.AllK
import Wide.FinOn
import HandS.ForMost
import HandS.Walk
import HandS.TupAny
import HandS.Defaults
import HandS.WordsList
import HandS.IsInst
import HandS.HeadEnd
import KE.GoesEnum
import KE.GoesMore
import HandS.HeadHook2
import HandS.Head2
import PySem.Challenge.RW_upwords_k54_ways_down_told
set_option Elab.async false
set_option linter.all false
set_option maxRecDepth 100000
set_option maxHeartbeats 4000000
namespace U
open PySem PySem.Spec L2

/-! ### heaps: F the part that never changes any more, H all that is tracked -/
def Sub (F H : Hp) : Prop := ∀ a o, F a = some o → H a = some o
theorem Sub.refl (F : Hp) : Sub F F := fun _ _ h => h
theorem Sub.trans {F G H : Hp} (a : Sub F G) (b : Sub G H) : Sub F H := fun x o h => b x o (a x o h)
theorem Sub.nn {F H : Hp} {p : Addr} (s : Sub F H) (h : H p = none) : F p = none := by
  cases e : F p with
  | none => rfl
  | some o => rw [s p o e] at h; cases h
theorem Sub.up1 {F : Hp} {p : Addr} {o : HO} (h : F p = none) : Sub F (upd F p o) := fun a u e => by
  rw [upd_ne (ne_of_none e h)]; exact e
theorem Sub.upd2 {F H : Hp} {p : Addr} {o : HO} (s : Sub F H) : Sub (L2.upd F p o) (L2.upd H p o) := fun a u e => by
  by_cases ha : a = p
  · subst ha; rw [upd_same] at e ⊢; exact e
  · rw [upd_ne ha] at e ⊢; exact s a u e
theorem Sub.rd {F H : Hp} {a : Addr} {u : HO} (s : Sub F H) (h : Rd F a u) : Rd H a u := by
  rcases h with h | ⟨o, h⟩
  · exact .inl (s a _ h)
  · exact .inr ⟨o, s a _ h⟩
theorem Sub.l {K : PySem.W.Frag} {F H : Hp} {a : Addr} {xs : List V} (s : Sub F H) (h : SqL K F a xs) : SqL K H a xs := by
  rcases h with h | h
  · exact .inl (s.rd h)
  · exact .inr h
theorem Sub.t {K : PySem.W.Frag} {F H : Hp} {a : Addr} {xs : List V} (s : Sub F H) (h : SqT K F a xs) : SqT K H a xs := by
  rcases h with h | h
  · exact .inl (s.rd h)
  · exact .inr h

/-- what may change between two points: W the addresses that may be written -/
structure Gr (W : List Addr) (F0 H0 F H : Hp) : Prop where
  ff : Sub F0 F
  fh : Sub F H
  hh : ∀ a o, a ∉ W → H0 a = some o → H a = some o
  lv : ∀ a, H0 a ≠ none → H a ≠ none
  out : ∀ a, H0 a ≠ none → F0 a = none → F a = none
section
variable {W W' : List Addr} {F0 H0 F H F1 H1 F2 H2 : Hp} {p q : Addr} {o u : HO}
theorem Gr.refl (h : Sub F H) : Gr W F H F H := ⟨Sub.refl F, h, fun _ _ _ e => e, fun _ e => e, fun _ _ e => e⟩
theorem Gr.trans (g : Gr W F0 H0 F1 H1) (g' : Gr W' F1 H1 F2 H2) (hW : ∀ a ∈ W', H0 a = none ∨ a ∈ W) : Gr W F0 H0 F2 H2 where
  ff := g.ff.trans g'.ff
  fh := g'.fh
  hh := fun a o hn e => g'.hh a o (fun z => (hW a z).elim (fun n => by rw [n] at e; cases e) hn) (g.hh a o hn e)
  lv := fun a e => g'.lv a (g.lv a e)
  out := fun a e n => g'.out a (g.lv a e) (g.out a e n)
theorem Gr.trans0 (g : Gr W F0 H0 F1 H1) (g' : Gr [] F1 H1 F2 H2) : Gr W F0 H0 F2 H2 := g.trans g' fun a z => absurd z (by simp)
theorem Gr.newF (g : Gr W F0 H0 F H) (hp : H p = none) : Gr W F0 H0 (upd F p o) (upd H p o) where
  ff := g.ff.trans (Sub.up1 (g.fh.nn hp))
  fh := g.fh.upd2
  hh := fun a u hn e => by
    have e1 := g.hh a u hn e
    rw [upd_ne (ne_of_none e1 hp)]; exact e1
  lv := fun a e => by
    have e1 := g.lv a e
    rw [upd_ne (fun z => by rw [z] at e1; exact e1 hp)]; exact e1
  out := fun a e n => by
    have e1 := g.lv a e
    rw [upd_ne (fun z => by rw [z] at e1; exact e1 hp)]; exact g.out a e n
theorem Gr.newM (g : Gr W F0 H0 F H) (hp : H p = none) : Gr W F0 H0 F (upd H p o) where
  ff := g.ff
  fh := g.fh.trans (Sub.up1 hp)
  hh := fun a u hn e => by
    have e1 := g.hh a u hn e
    rw [upd_ne (ne_of_none e1 hp)]; exact e1
  lv := fun a e => by
    have e1 := g.lv a e
    rw [upd_ne (fun z => by rw [z] at e1; exact e1 hp)]; exact e1
  out := g.out
theorem Gr.mut (g : Gr W F0 H0 F H) (hf : F p = none) (hw : H0 p = none ∨ p ∈ W) : Gr W F0 H0 F (upd H p o) where
  ff := g.ff
  fh := fun a u e => by rw [upd_ne (ne_of_none e hf)]; exact g.fh a u e
  hh := fun a u hn e => by
    have hne : a ≠ p := fun z => by
      subst z
      rcases hw with w | w
      · rw [w] at e; cases e
      · exact hn w
    rw [upd_ne hne]; exact g.hh a u hn e
  lv := fun a e => by
    by_cases z : a = p
    · subst z; rw [upd_same]; intro h; cases h
    · rw [upd_ne z]; exact g.lv a e
  out := g.out
theorem Gr.frz (g : Gr W F0 H0 F H) (hf : F p = none) (hh : H p = some o) (h0 : H0 p = none) : Gr W F0 H0 (upd F p o) H where
  ff := g.ff.trans (Sub.up1 hf)
  fh := fun a u e => by
    by_cases z : a = p
    · subst z; rw [upd_same] at e; cases e; exact hh
    · rw [upd_ne z] at e; exact g.fh a u e
  hh := g.hh
  lv := g.lv
  out := fun a e n => by
    rw [upd_ne (fun z => by rw [z] at e; exact e h0)]; exact g.out a e n
/-- an object of the def's own that may still change -/
structure Mu (W : List Addr) (H0 F H : Hp) (p : Addr) (o : HO) : Prop where
  fr : F p = none
  hp : H p = some o
  own : H0 p = none ∨ p ∈ W
theorem Mu.newF (m : Mu W H0 F H q u) (hp : H p = none) : Mu W H0 (upd F p o) (upd H p o) q u := by
  have ne := ne_of_none m.hp hp
  exact ⟨by rw [upd_ne ne]; exact m.fr, by rw [upd_ne ne]; exact m.hp, m.own⟩
theorem Mu.newM (m : Mu W H0 F H q u) (hp : H p = none) : Mu W H0 F (upd H p o) q u := by
  have ne := ne_of_none m.hp hp
  exact ⟨m.fr, by rw [upd_ne ne]; exact m.hp, m.own⟩
theorem Mu.mut (m : Mu W H0 F H q u) (ne : q ≠ p) : Mu W H0 F (upd H p o) q u := ⟨m.fr, by rw [upd_ne ne]; exact m.hp, m.own⟩
theorem Mu.self (m : Mu W H0 F H p u) : Mu W H0 F (upd H p o) p o := ⟨m.fr, upd_same, m.own⟩
theorem Mu.frz (m : Mu W H0 F H q u) (ne : q ≠ p) : Mu W H0 (upd F p o) H q u := ⟨by rw [upd_ne ne]; exact m.fr, m.hp, m.own⟩
theorem Mu.call (m : Mu W H0 F H q u) (g : Gr W' F H F1 H1) (hq : q ∉ W') : Mu W H0 F1 H1 q u :=
  ⟨g.out q (by rw [m.hp]; exact fun z => nomatch z) m.fr, g.hh q u hq m.hp, m.own⟩
theorem Mu.call0 (m : Mu W H0 F H q u) (g : Gr [] F H F1 H1) : Mu W H0 F1 H1 q u := m.call g (by simp)
theorem Mu.back (m : Mu W H0 F H q u) (g : Gr W' F H F1 H1) (h : H1 q = some o) : Mu W H0 F1 H1 q o :=
  ⟨g.out q (by rw [m.hp]; exact fun z => nomatch z) m.fr, h, m.own⟩
/-- a new one -/
theorem Mu.new (g : Gr W F0 H0 F H) (hp : H p = none) : Mu W H0 F (upd H p o) p o := by
  refine ⟨g.fh.nn hp, upd_same, .inl ?_⟩
  cases e : H0 p with
  | none => rfl
  | some x => exact absurd hp (g.lv p (by rw [e]; exact fun z => nomatch z))
theorem Gr.old (g : Gr W F0 H0 F H) (hp : H p = none) : H0 p = none := by
  cases e : H0 p with
  | none => rfl
  | some x => exact absurd hp (g.lv p (by rw [e]; exact fun z => nomatch z))
theorem Mu.gr (m : Mu W H0 F H p u) (g : Gr W F0 H0 F H) : Gr W F0 H0 F (upd H p o) := g.mut m.fr m.own
theorem Mu.ne (m : Mu W H0 F H p u) (hq : H q = none) : p ≠ q := ne_of_none m.hp hq
theorem Mu.l {K : PySem.W.Frag} {vs : List V} (m : Mu W H0 F H p (.lst vs)) : SqL K H p vs := .inl (.inl m.hp)
end

/-! ### what a value stands for -/
structure Rp (α : Type) where
  r : Hp → V → α → Prop
  mono : ∀ {F F' : Hp} {v : V} {x : α}, Sub F F' → r F v x → r F' v x
abbrev Sg := List Nat
abbrev S (l : Sg) : Str := ⟨l.toArray⟩
def eI : Rp Int := ⟨fun _ v x => v = .int x, fun _ h => h⟩
def eB : Rp Bool := ⟨fun _ v x => v = .bl x, fun _ h => h⟩
def eN : Rp Unit := ⟨fun _ v _ => v = .non, fun _ h => h⟩
def eS : Rp Sg := ⟨fun _ v x => v = .str (S x) ∧ x.length ≤ sizeLine, fun _ h => h⟩
def eO {α : Type} (t : Rp α) : Rp (Option α) := ⟨fun F v x => match x with
  | none => v = .non
  | some a => v ≠ .non ∧ t.r F v a, fun {F F' v x} s h => by
    cases x with
    | none => exact h
    | some a => exact ⟨h.1, t.mono s h.2⟩⟩
abbrev Al {α : Type} (t : Rp α) (F : Hp) (vs : List V) (xs : List α) : Prop := Paired (fun v x => t.r F v x) vs xs
theorem Al.mono {α : Type} {t : Rp α} {F F' : Hp} {vs : List V} {xs : List α} (h : Al t F vs xs) (s : Sub F F') : Al t F' vs xs := Paired.mapP h fun _ _ z => t.mono s z
def eP2 {α β : Type} (a : Rp α) (b : Rp β) : Rp (α × β) := ⟨fun F v x => ∃ p y z, v = .ref p ∧ F p = some (.tup [y, z]) ∧ a.r F y x.1 ∧ b.r F z x.2,
  fun s ⟨p, y, z, e, q, h1, h2⟩ => ⟨p, y, z, e, s _ _ q, a.mono s h1, b.mono s h2⟩⟩
def eP3 {α β γ : Type} (a : Rp α) (b : Rp β) (c : Rp γ) : Rp (α × β × γ) := ⟨fun F v x => ∃ p y z w, v = .ref p ∧ F p = some (.tup [y, z, w]) ∧ a.r F y x.1 ∧ b.r F z x.2.1 ∧ c.r F w x.2.2,
  fun s ⟨p, y, z, w, e, q, h1, h2, h3⟩ => ⟨p, y, z, w, e, s _ _ q, a.mono s h1, b.mono s h2, c.mono s h3⟩⟩
def eL {α : Type} (t : Rp α) : Rp (List α) := ⟨fun F v x => ∃ p vs, v = .ref p ∧ F p = some (.lst vs) ∧ Al t F vs x,
  fun s ⟨p, vs, e, q, h⟩ => ⟨p, vs, e, s _ _ q, h.mono s⟩⟩
def eT {α : Type} (t : Rp α) : Rp (List α) := ⟨fun F v x => ∃ p vs, v = .ref p ∧ F p = some (.tup vs) ∧ Al t F vs x,
  fun s ⟨p, vs, e, q, h⟩ => ⟨p, vs, e, s _ _ q, h.mono s⟩⟩
/-- the script: a list of ints, perhaps locked -/
def eQ (K : PySem.W.Frag) : Rp (List Int) := ⟨fun F v x => ∃ p, v = .ref p ∧ SqL K F p (x.map V.int), fun s ⟨p, e, q⟩ => ⟨p, e, s.l q⟩⟩
/-- a new list that is the taker's own -/
def New {α : Type} (t : Rp α) (H F' H' : Hp) (v : V) (x : List α) : Prop := ∃ p vs, v = .ref p ∧ H p = none ∧ F' p = none ∧ H' p = some (.lst vs) ∧ Al t F' vs x

/-! ### lists in step -/
section
variable {α β : Type} {R : α → β → Prop}
theorem pd_get : ∀ {xs : List α} {ys : List β} {i : Nat} {y : β}, Paired R xs ys → ys[i]? = some y → ∃ x, xs[i]? = some x ∧ R x y
  | _, _, _, _, .nil, h => by simp at h
  | _, _, 0, _, .cons r _, h => by simp at h; subst h; exact ⟨_, rfl, r⟩
  | _, _, i + 1, _, .cons _ t, h => by
    obtain ⟨x, e, r⟩ := pd_get (i := i) t (by simpa using h)
    exact ⟨x, by simpa using e, r⟩
theorem pd_getL : ∀ {xs : List α} {ys : List β} {i : Nat} {x : α}, Paired R xs ys → xs[i]? = some x → ∃ y, ys[i]? = some y ∧ R x y
  | _, _, _, _, .nil, h => by simp at h
  | _, _, 0, _, .cons r _, h => by simp at h; subst h; exact ⟨_, rfl, r⟩
  | _, _, i + 1, _, .cons _ t, h => by
    obtain ⟨x, e, r⟩ := pd_getL (i := i) t (by simpa using h)
    exact ⟨x, by simpa using e, r⟩
theorem pd_append : ∀ {xs xs' : List α} {ys ys' : List β}, Paired R xs ys → Paired R xs' ys' → Paired R (xs ++ xs') (ys ++ ys')
  | _, _, _, _, .nil, h => h
  | _, _, _, _, .cons r t, h => .cons r (pd_append t h)
theorem pd_snoc {xs : List α} {ys : List β} {x : α} {y : β} (h : Paired R xs ys) (r : R x y) : Paired R (xs ++ [x]) (ys ++ [y]) := pd_append h (.cons r .nil)
theorem pd_take : ∀ {xs : List α} {ys : List β} (n : Nat), Paired R xs ys → Paired R (xs.take n) (ys.take n)
  | _, _, 0, _ => .nil
  | _, _, _ + 1, .nil => .nil
  | _, _, n + 1, .cons r t => .cons r (pd_take n t)
theorem pd_drop : ∀ {xs : List α} {ys : List β} (n : Nat), Paired R xs ys → Paired R (xs.drop n) (ys.drop n)
  | _, _, 0, h => h
  | _, _, _ + 1, .nil => .nil
  | _, _, n + 1, .cons _ t => pd_drop n t
theorem pd_set : ∀ {xs : List α} {ys : List β} (n : Nat) {x : α} {y : β}, Paired R xs ys → R x y → Paired R (xs.set n x) (ys.set n y)
  | _, _, _, _, _, .nil, _ => .nil
  | _, _, 0, _, _, .cons _ t, h => .cons h t
  | _, _, n + 1, _, _, .cons r t, h => .cons r (pd_set n t h)
theorem pd_rev : ∀ {xs : List α} {ys : List β}, Paired R xs ys → Paired R xs.reverse ys.reverse
  | _, _, .nil => .nil
  | _, _, .cons r t => by
    rw [List.reverse_cons, List.reverse_cons]
    exact pd_snoc (pd_rev t) r
theorem pd_last : ∀ {xs : List α} {ys : List β}, Paired R xs ys → Paired R xs.dropLast ys.dropLast := fun {xs ys} h => by
  rw [List.dropLast_eq_take, List.dropLast_eq_take, Paired.length h]
  exact pd_take _ h
end
theorem al_int {F : Hp} : ∀ {vs : List V} {xs : List Int}, Al eI F vs xs → vs = xs.map V.int
  | _, _, .nil => rfl
  | _, _, .cons r t => by
    have e : _ = V.int _ := r
    rw [e, al_int t]; rfl
theorem al_ofint {F : Hp} : ∀ (xs : List Int), Al eI F (xs.map V.int) xs
  | [] => .nil
  | _ :: r => .cons rfl (al_ofint r)
theorem al_bl {F : Hp} : ∀ {vs : List V} {xs : List Bool}, Al eB F vs xs → vs = xs.map V.bl
  | _, _, .nil => rfl
  | _, _, .cons r t => by
    have e : _ = V.bl _ := r
    rw [e, al_bl t]; rfl
theorem al_str {F : Hp} : ∀ {vs : List V} {xs : List Sg}, Al eS F vs xs → vs = (xs.map S).map V.str
  | _, _, .nil => rfl
  | _, _, .cons r t => by
    have e : _ = V.str _ := r.1
    rw [e, al_str t]; rfl
theorem al_len {α : Type} {t : Rp α} {F : Hp} {vs : List V} {xs : List α} (h : Al t F vs xs) : vs.length = xs.length := Paired.length h
theorem al_at {α : Type} {t : Rp α} {F : Hp} {vs : List V} {xs : List α} {i : Int} {a : α} (h : Al t F vs xs) (e : atI xs i = some a) : ∃ v, atI vs i = some v ∧ t.r F v a := by
  unfold atI at e ⊢
  rw [al_len h]
  cases q : ixN xs.length i with
  | none => rw [q] at e; cases e
  | some j =>
    rw [q] at e
    exact pd_get h e

/-! ### the mirror's words -/
section
variable {α β σ ρ : Type}
theorem bnd {x : Option α} {f : α → Option β} {b : β} (h : x.bind f = some b) : ∃ a, x = some a ∧ f a = some b := Option.bind_eq_some_iff.mp h
def cutL (xs : List α) (lo hi : Option Int) : List α := (xs.drop (HT.sIx xs.length 0 lo)).take (HT.sIx xs.length xs.length hi - HT.sIx xs.length 0 lo)
/-- a condition of the model's limits -/
def need (c : Bool) (x : α) : Option α := if c then some x else none
theorem need_ok {c : Bool} {x a : α} (h : need c x = some a) : c = true ∧ x = a := by
  unfold need at h
  cases c with
  | true => exact ⟨rfl, Option.some.inj h⟩
  | false => cases h
def szB (n : Nat) : Bool := decide (n ≤ 16777216)
theorem sz_ok {n : Nat} (h : szB n = true) : n ≤ sizeLine := by rw [sizeLine_eq]; exact of_decide_eq_true h
def catM (a b : Sg) : Option Sg := need (szB (a.length + b.length)) (a ++ b)
def mulB (i j : Int) : Bool := decide (-(2 ^ 64) < i ∧ i < 2 ^ 64) || decide (-(2 ^ 64) < j ∧ j < 2 ^ 64)
def mulM (i j : Int) : Option Int := need (mulB i j) (i * j)
def modM (i j : Int) : Option Int := need (decide (0 < j)) (i % j)
def divM (i j : Int) : Option Int := need (decide (0 < j ∧ j < 1073741824)) (i / j)
def b2 (b : Bool) : Int := if b then 1 else 0
def mx (i j : Int) : Int := if j > i then j else i
def mn (i j : Int) : Int := if j < i then j else i
def setM (xs : List α) (i : Int) (a : α) : Option (List α) := (ixN xs.length i).map fun j => xs.set j a
def joinM (sep : Sg) (xs : List Sg) : Option Sg := need (szB ((xs.map List.length).sum + xs.length * sep.length)) (TL.joinL sep xs)
def upto (lo hi : Int) : List Int := (List.range (hi - lo).toNat).map fun (i : Nat) => lo + i
def signs (l : Sg) : List Sg := l.map fun c => [c]
def foldO : List α → σ → (σ → α → Option σ) → Option σ
  | [], s, _ => some s
  | x :: xs, s, f => (f s x).bind fun s' => foldO xs s' f
inductive Fl (σ ρ : Type) where
  | nx (s : σ)
  | rt (r : ρ)
def foldR : List α → σ → (σ → α → Option (Fl σ ρ)) → Option (Fl σ ρ)
  | [], s, _ => some (.nx s)
  | x :: xs, s, f => (f s x).bind fun
    | .nx s' => foldR xs s' f
    | .rt r => some (.rt r)
def whileO : Nat → σ → (σ → Option Bool) → (σ → Option σ) → Option σ
  | 0, _, _, _ => none
  | n + 1, s, c, b => (c s).bind fun t => if t = true then (b s).bind fun s' => whileO n s' c b else some s
/-- a comprehension: a state handed on, an item made or none -/
def compO : List α → σ → (σ → α → Option (σ × Option β)) → Option (σ × List β)
  | [], s, _ => some (s, [])
  | x :: xs, s, f => (f s x).bind fun r => (compO xs r.1 f).bind fun q => some (q.1, r.2.toList ++ q.2)
end

/-! ### the readings' nodes -/
section
variable {σ σ' : St} {H : Hp} {Q : VK} {R : V → V → Hp → Prop} {ta tb tc : TE} {t tr : TA} {D : Ends} {v x y : V} {i : Nat}
theorem n_var (h : σ[i]? = some (some v)) (k : Q v H) : tVar i σ H Q := ⟨v, h, k⟩
theorem n_c (k : Q v H) : tC v σ H Q := k
theorem n_op {r : R2} (h : ta σ H fun x H1 => tb σ H1 fun y H2 => r x y H2 Q) : tOp r ta tb σ H Q := h
theorem n_un {r : V → Hp → VK → Prop} (h : ta σ H fun x H1 => r x H1 Q) : tUn r ta σ H Q := h
theorem n_cb {r : List V → Hp → VK → Prop} (h : t σ H fun vs H1 => r vs H1 Q) : tCB r t σ H Q := h
theorem n_cons {Q : List V → Hp → Prop} (h : ta σ H fun x H1 => tr σ H1 fun xs H2 => Q (x :: xs) H2) : tCons ta tr σ H Q := h
theorem n_nil {Q : List V → Hp → Prop} (h : Q [] H) : tNil σ H Q := h
def qT (Q : Bool → Hp → Prop) : VK := fun x H' => ∃ k, x = .bl k ∧ Q k H'
def qNewT (Q : VK) : List V → Hp → Prop := fun xs H1 => xs.length ≤ sizeLine ∧ ∀ p, H1 p = none → Q (.ref p) (upd H1 p (.tup xs))
def qNewL (Q : VK) : List V → Hp → Prop := fun xs H1 => xs.length ≤ sizeLine ∧ ∀ p, H1 p = none → Q (.ref p) (upd H1 p (.lst xs))
theorem n_tup (h : t σ H (qNewT Q)) : tTup t σ H Q := h
theorem n_lst (h : t σ H (qNewL Q)) : tLst t σ H Q := h
theorem n_call {sp : Sp} {dvs : List V} {E : XK} (h : t σ H fun vs H1 => sp (vs ++ dvs) H1 Q E) : tCall sp dvs E t σ H Q := h
theorem n_sl {r : V → Option Int → Option Int → Hp → VK → Prop} {tl th : TO} (h : ta σ H fun x H1 => tl σ H1 fun l H2 => th σ H2 fun u H3 => r x l u H3 Q) : tSl r ta tl th σ H Q := h
def qPart (Q : Option Int → Hp → Prop) : VK := fun x H1 => ∃ i, x = .int i ∧ Q (some i) H1
theorem n_part {Q : Option Int → Hp → Prop} (h : ta σ H (qPart Q)) : tPart ta σ H Q := h
theorem v_part {Q : Option Int → Hp → Prop} {n : Int} (h : Q (some n) H) : qPart Q (.int n) H := ⟨n, rfl, h⟩
theorem n_nopart {Q : Option Int → Hp → Prop} (h : Q none H) : tNoPart σ H Q := h
theorem n_bm {K : PySem.W.Frag} {T : String} {r : V → List V → Hp → VK → Prop} (h : ta σ H fun x H1 => tyV K T x H1 ∧ t σ H1 fun xs H2 => r x xs H2 Q) : tBM K T r ta t σ H Q := h
theorem n_bm0 {K : PySem.W.Frag} {T : String} {r : V → List V → Hp → VK → Prop} (h : ta σ H fun x H1 => tyV K T x H1 ∧ r x [] H1 Q) : tBM0 K T r ta σ H Q := h
theorem n_test {Q : Bool → Hp → Prop} (h : ta σ H (qT Q)) : tTest ta σ H Q := h
variable {nx bk ct : L2.St → Hp → Prop} {rt : VK}
theorem n_seq {t u : TS} (h : t ⟨u ⟨nx, rt, bk, ct⟩, rt, bk, ct⟩ σ H) : tSeq t u ⟨nx, rt, bk, ct⟩ σ H := h
theorem n_asg {g : TG} (h : ta σ H fun x H1 => g x σ H1 nx) : tAsg ta g ⟨nx, rt, bk, ct⟩ σ H := h
theorem n_drop (h : ta σ H fun _ H1 => nx σ H1) : tDrop ta ⟨nx, rt, bk, ct⟩ σ H := h
theorem n_ret (h : ta σ H rt) : tRet ta ⟨nx, rt, bk, ct⟩ σ H := h
theorem n_ifs {c : TT} {t u : TS} (h : c σ H fun b H1 => if b = true then t ⟨nx, rt, bk, ct⟩ σ H1 else u ⟨nx, rt, bk, ct⟩ σ H1) : tIfS c t u ⟨nx, rt, bk, ct⟩ σ H := h
theorem n_nextS (h : nx σ H) : tNext ⟨nx, rt, bk, ct⟩ σ H := h
theorem n_name {Q : St → Hp → Prop} (e : σ.set i (some v) = σ') (k : Q σ' H) : gName i v σ H Q := by rw [← e] at k; exact k
theorem set0 {x y : Option V} {r : St} : (x :: r).set 0 y = y :: r := rfl
theorem setS {x y : Option V} {r r' : St} {n : Nat} (h : r.set n y = r') : (x :: r).set (n + 1) y = x :: r' := by rw [← h]; rfl
theorem br {b : Bool} {A B : Prop} (h1 : b = true → A) (h2 : b = false → B) : if b = true then A else B := by
  cases b with
  | true => rw [if_pos rfl]; exact h1 rfl
  | false => rw [if_neg Bool.false_ne_true]; exact h2 rfl
theorem ifT {α : Type} {b : Bool} {x y : α} {z : α} (hb : b = true) (h : (if b = true then x else y) = z) : x = z := by rw [if_pos hb] at h; exact h
theorem ifF {α : Type} {b : Bool} {x y : α} {z : α} (hb : b = false) (h : (if b = true then x else y) = z) : y = z := by
  rw [if_neg (by rw [hb]; exact Bool.false_ne_true)] at h; exact h
/-- a cut behind an expression -/
theorem n_cut (I : V → Hp → Prop) (h : ∀ Q' : VK, (∀ v H', I v H' → Q' v H') → ta σ H Q') (k : ∀ v H', I v H' → Q v H') : ta σ H Q := h Q k
theorem n_cutT {t : TT} {Q : Bool → Hp → Prop} (I : Bool → Hp → Prop) (h : ∀ Q' : Bool → Hp → Prop, (∀ v H', I v H' → Q' v H') → t σ H Q') (k : ∀ v H', I v H' → Q v H') : t σ H Q := h Q k
end
end U
set_option Elab.async false
set_option linter.all false
set_option maxRecDepth 100000
set_option maxHeartbeats 4000000
namespace U
open PySem PySem.Spec L2

/-! ### what is walked -/
structure Sr {α : Type} (J : It) (G : Hp → Prop) (as : List α) (Y : Hp → V → Hp → α → Prop) : Prop where
  goes : ∀ i H, i < as.length → G H → J.go i H
  stops : ∀ H, G H → J.stop as.length H
  yields : ∀ i H x H', G H → J.yld i H x H' → ∀ a, as[i]? = some a → Y H x H' a
abbrev Forr (J : It) (g : TG) (tb : TS) (nx : L2.St → Hp → Prop) (rt : VK) (σ : L2.St) (H : Hp) : Prop :=
  ∃ W : Nat → Nat → L2.St → Hp → Prop, (∃ m, W 0 m σ H) ∧ ∀ i m σ H, W i m σ H →
    (J.stop i H ∧ nx σ H) ∨ (J.go i H ∧ ∃ N : L2.St → Hp → Prop, (∀ σ' H', N σ' H' → ∃ m', m' < m ∧ W (i + 1) m' σ' H') ∧ ∀ x H', J.yld i H x H' → g x σ H' fun σ2 H2 => tb ⟨N, rt, nx, N⟩ σ2 H2)
section
variable {α τ ρ : Type} {J : It} {G : Hp → Prop} {as : List α} {Y : Hp → V → Hp → α → Prop} {g : TG} {tb : TS} {nx bk ct : L2.St → Hp → Prop} {rt : VK} {σ : L2.St} {H : Hp}
theorem for_o (w : Sr J G as Y) {s0 s1 : τ} {f : τ → α → Option τ} (hm : foldO as s0 f = some s1) (I : τ → L2.St → Hp → Prop) (h0 : I s0 σ H) (hG : ∀ s σ H, I s σ H → G H)
    (hs : ∀ a s s' x σ H H', I s σ H → Y H x H' a → f s a = some s' → ∀ N : L2.St → Hp → Prop, (∀ σ' H', I s' σ' H' → N σ' H') → g x σ H' fun σ2 H2 => tb ⟨N, rt, nx, N⟩ σ2 H2)
    (hd : ∀ σ H, I s1 σ H → nx σ H) : Forr J g tb nx rt σ H := by
  refine ⟨fun i m σ H => m = as.length - i ∧ i ≤ as.length ∧ ∃ s, foldO (as.drop i) s f = some s1 ∧ I s σ H, ⟨as.length, by simp, Nat.zero_le _, s0, by simpa using hm, h0⟩, ?_⟩
  rintro i m σ H ⟨rfl, hi, s, hf, p⟩
  by_cases hlt : i < as.length
  · rw [List.drop_eq_getElem_cons hlt] at hf
    obtain ⟨s', e1, e2⟩ := bnd hf
    refine .inr ⟨w.goes i H hlt (hG _ _ _ p), fun σ' H' => ∃ s, foldO (as.drop (i + 1)) s f = some s1 ∧ I s σ' H', fun σ' H' p' => ⟨as.length - (i + 1), by omega, rfl, hlt, p'⟩, fun x H' y => ?_⟩
    exact hs as[i] s s' x σ H H' p (w.yields i H x H' (hG _ _ _ p) y as[i] (by simp [hlt])) e1 _ fun σ' H' q => ⟨s', e2, q⟩
  · have e : i = as.length := by omega
    subst e
    rw [List.drop_length] at hf
    have e2 : s = s1 := Option.some.inj hf
    subst e2
    exact .inl ⟨w.stops H (hG _ _ _ p), hd σ H p⟩
theorem for_r (w : Sr J G as Y) {s0 : τ} {z : Fl τ ρ} {f : τ → α → Option (Fl τ ρ)} (hm : foldR as s0 f = some z) (I : τ → L2.St → Hp → Prop) (h0 : I s0 σ H) (hG : ∀ s σ H, I s σ H → G H)
    (hs : ∀ a s fl x σ H H', I s σ H → Y H x H' a → f s a = some fl → (∀ r, fl = .rt r → z = .rt r) → ∀ N : L2.St → Hp → Prop, (∀ s' σ' H', fl = .nx s' → I s' σ' H' → N σ' H') → g x σ H' fun σ2 H2 => tb ⟨N, rt, nx, N⟩ σ2 H2)
    (hd : ∀ s1 σ H, z = .nx s1 → I s1 σ H → nx σ H) : Forr J g tb nx rt σ H := by
  refine ⟨fun i m σ H => m = as.length - i ∧ i ≤ as.length ∧ ∃ s, foldR (as.drop i) s f = some z ∧ I s σ H, ⟨as.length, by simp, Nat.zero_le _, s0, by simpa using hm, h0⟩, ?_⟩
  rintro i m σ H ⟨rfl, hi, s, hf, p⟩
  by_cases hlt : i < as.length
  · rw [List.drop_eq_getElem_cons hlt] at hf
    obtain ⟨fl, e1, e2⟩ := bnd hf
    refine .inr ⟨w.goes i H hlt (hG _ _ _ p), fun σ' H' => ∃ s, foldR (as.drop (i + 1)) s f = some z ∧ I s σ' H', fun σ' H' p' => ⟨as.length - (i + 1), by omega, rfl, hlt, p'⟩, fun x H' y => ?_⟩
    refine hs as[i] s fl x σ H H' p (w.yields i H x H' (hG _ _ _ p) y as[i] (by simp [hlt])) e1 (fun r er => ?_) _ fun s' σ' H' es q => ⟨s', ?_, q⟩
    · subst er; exact (Option.some.inj e2).symm
    · subst es; exact e2
  · have e : i = as.length := by omega
    subst e
    rw [List.drop_length] at hf
    have e2 : Fl.nx s = z := Option.some.inj hf
    exact .inl ⟨w.stops H (hG _ _ _ p), hd s σ H e2.symm p⟩
abbrev Compp (J : It) (g : TG) (tt : TT) (te : TE) (ws : List Nat) (σ : L2.St) (H1 : Hp) (Dd : Addr) (Q : VK) : Prop :=
  ∃ W : Nat → Nat → Hp → Prop, (∃ m, W 0 m (upd H1 Dd (.lst []))) ∧ ∀ i m H, W i m H →
    (J.stop i H ∧ Q (.ref Dd) H) ∨ (J.go i H ∧ ∃ Nx : Hp → Prop, (∀ H', Nx H' → ∃ m', m' < m ∧ W (i + 1) m' H') ∧ ∀ x H', J.yld i H x H' → g x (wipe σ ws) H' fun σ2 H2 => wipe σ2 ws = wipe σ ws ∧ tt σ2 H2 fun b H3 =>
      if b = true then te σ2 H3 fun y H4 => ∃ acc, H4 Dd = some (.lst acc) ∧ acc.length < sizeLine ∧ Nx (upd H4 Dd (.lst (acc ++ [y]))) else Nx H3)
theorem compO_len {β : Type} {f : τ → α → Option (τ × Option β)} : ∀ {as : List α} {s s1 : τ} {ys : List β}, compO as s f = some (s1, ys) → ys.length ≤ as.length
  | [], s, s1, ys, h => by
    have e := Option.some.inj h
    have e2 : [] = ys := congrArg Prod.snd e
    subst e2; simp
  | a :: r, s, s1, ys, h => by
    obtain ⟨q, _, h⟩ := bnd h
    obtain ⟨⟨s2, zs⟩, h2, h⟩ := bnd h
    have e := Option.some.inj h
    have e2 : q.2.toList ++ zs = ys := congrArg Prod.snd e
    subst e2
    have l := compO_len h2
    rw [List.length_append, List.length_cons]
    cases q.2 <;> simp <;> omega
theorem comp_p {β : Type} (w : Sr J G as Y) {s0 s1 : τ} {ys : List β} {f : τ → α → Option (τ × Option β)} (hm : compO as s0 f = some (s1, ys)) (hz : szB as.length = true) {tt : TT} {te : TE} {ws : List Nat} {Dd : Addr} {Q : VK}
    (I : τ → List β → Hp → Prop) (h0 : I s0 [] (upd H Dd (.lst []))) (hG : ∀ s acc H, I s acc H → G H)
    (hs : ∀ a s r acc x H H', I s acc H → Y H x H' a → f s a = some r → acc.length < sizeLine → ∀ N : Hp → Prop, (∀ H', I r.1 (acc ++ r.2.toList) H' → N H') → g x (wipe σ ws) H' fun σ2 H2 => wipe σ2 ws = wipe σ ws ∧ tt σ2 H2 fun b H3 =>
      if b = true then te σ2 H3 fun y H4 => ∃ acc, H4 Dd = some (.lst acc) ∧ acc.length < sizeLine ∧ N (upd H4 Dd (.lst (acc ++ [y]))) else N H3)
    (hd : ∀ H, I s1 ys H → Q (.ref Dd) H) : Compp J g tt te ws σ H Dd Q := by
  have hz' := sz_ok hz
  refine ⟨fun i m H => m = as.length - i ∧ i ≤ as.length ∧ ∃ s acc zs, compO (as.drop i) s f = some (s1, zs) ∧ acc ++ zs = ys ∧ acc.length ≤ i ∧ I s acc H, ⟨as.length, by simp, Nat.zero_le _, s0, [], ys, by simpa using hm, rfl, Nat.le_refl _, h0⟩, ?_⟩
  rintro i m H ⟨rfl, hi, s, acc, zs, hf, ez, hl, p⟩
  by_cases hlt : i < as.length
  · rw [List.drop_eq_getElem_cons hlt] at hf
    obtain ⟨r, e1, e2⟩ := bnd hf
    obtain ⟨⟨s2, zs2⟩, e3, e4⟩ := bnd e2
    have e5 := Option.some.inj e4
    have e6 : s2 = s1 := congrArg Prod.fst e5
    have e7 : r.2.toList ++ zs2 = zs := congrArg Prod.snd e5
    subst e6 e7
    refine .inr ⟨w.goes i H hlt (hG _ _ _ p), fun H' => ∃ s acc zs, compO (as.drop (i + 1)) s f = some (s2, zs) ∧ acc ++ zs = ys ∧ acc.length ≤ i + 1 ∧ I s acc H', fun H' p' => ⟨as.length - (i + 1), by omega, rfl, hlt, p'⟩, fun x H' y => ?_⟩
    refine hs as[i] s r acc x H H' p (w.yields i H x H' (hG _ _ _ p) y as[i] (by simp [hlt])) e1 (by omega) _ fun H' q => ⟨r.1, acc ++ r.2.toList, zs2, e3, by rw [List.append_assoc]; exact ez, ?_, q⟩
    rw [List.length_append]
    cases r.2 <;> simp <;> omega
  · have e : i = as.length := by omega
    subst e
    rw [List.drop_length] at hf
    have e2 := Option.some.inj hf
    have e3 : s = s1 := congrArg Prod.fst e2
    have e4 : [] = zs := congrArg Prod.snd e2
    subst e3 e4
    rw [List.append_nil] at ez
    subst ez
    exact .inl ⟨w.stops H (hG _ _ _ p), hd H p⟩
theorem comp_o {β : Type} (w : Sr J G as Y) {s0 : τ} {q : τ × List β} {f : τ → α → Option (τ × Option β)} (hm : compO as s0 f = some q) (hz : szB as.length = true) {tt : TT} {te : TE} {ws : List Nat} {Dd : Addr} {Q : VK}
    (I : τ → List β → Hp → Prop) (h0 : I s0 [] (upd H Dd (.lst []))) (hG : ∀ s acc H, I s acc H → G H)
    (hs : ∀ a s r acc x H H', I s acc H → Y H x H' a → f s a = some r → acc.length < sizeLine → ∀ N : Hp → Prop, (∀ H', I r.1 (acc ++ r.2.toList) H' → N H') → g x (wipe σ ws) H' fun σ2 H2 => wipe σ2 ws = wipe σ ws ∧ tt σ2 H2 fun b H3 =>
      if b = true then te σ2 H3 fun y H4 => ∃ acc, H4 Dd = some (.lst acc) ∧ acc.length < sizeLine ∧ N (upd H4 Dd (.lst (acc ++ [y]))) else N H3)
    (hd : ∀ H, I q.1 q.2 H → Q (.ref Dd) H) : Compp J g tt te ws σ H Dd Q := comp_p (s1 := q.1) (ys := q.2) w hm hz I h0 hG hs hd
def compS {β : Type} : List α → (α → Option (Option β)) → Option (List β)
  | [], _ => some []
  | x :: xs, f => (f x).bind fun r => (compS xs f).bind fun q => some (r.toList ++ q)
theorem compS_o {β : Type} {f : α → Option (Option β)} : ∀ {as : List α} {ys : List β}, compS as f = some ys → compO as () (fun _ a => (f a).bind fun r => some ((), r)) = some ((), ys)
  | [], ys, h => by rw [← Option.some.inj h]; rfl
  | a :: r, ys, h => by
    obtain ⟨q, h1, h2⟩ := bnd h
    obtain ⟨zs, h3, h4⟩ := bnd h2
    rw [← Option.some.inj h4]
    show ((f a).bind fun r => some ((), r)).bind _ = _
    rw [h1]
    show (compO r () _).bind _ = _
    rw [compS_o h3]; rfl
theorem comp_s {β : Type} (w : Sr J G as Y) {q : List β} {f : α → Option (Option β)} (hm : compS as f = some q) (hz : szB as.length = true) {tt : TT} {te : TE} {ws : List Nat} {Dd : Addr} {Q : VK}
    (I : List β → Hp → Prop) (h0 : I [] (upd H Dd (.lst []))) (hG : ∀ acc H, I acc H → G H)
    (hs : ∀ a r acc x H H', I acc H → Y H x H' a → f a = some r → acc.length < sizeLine → ∀ N : Hp → Prop, (∀ H', I (acc ++ r.toList) H' → N H') → g x (wipe σ ws) H' fun σ2 H2 => wipe σ2 ws = wipe σ ws ∧ tt σ2 H2 fun b H3 =>
      if b = true then te σ2 H3 fun y H4 => ∃ acc, H4 Dd = some (.lst acc) ∧ acc.length < sizeLine ∧ N (upd H4 Dd (.lst (acc ++ [y]))) else N H3)
    (hd : ∀ H, I q H → Q (.ref Dd) H) : Compp J g tt te ws σ H Dd Q :=
  comp_p w (compS_o hm) hz (fun _ => I) h0 (fun _ => hG) (fun a s r acc x H H' p y e l N hN => by
    obtain ⟨r', e1, e2⟩ := bnd e
    rw [← Option.some.inj e2] at hN
    exact hs a r' acc x H H' p y e1 l N hN) hd
/-- while -/
theorem while_o {n : Nat} {s0 s1 : τ} {cf : τ → Option Bool} {bf : τ → Option τ} (hm : whileO n s0 cf bf = some s1) {c : TT} (I : τ → L2.St → Hp → Prop) (h0 : I s0 σ H)
    (hc : ∀ s b σ H, I s σ H → cf s = some b → ∀ P : Bool → Hp → Prop, (∀ H1, I s σ H1 → P b H1) → c σ H P)
    (hb : ∀ s s' σ H, I s σ H → cf s = some true → bf s = some s' → ∀ N : L2.St → Hp → Prop, (∀ σ' H', I s' σ' H' → N σ' H') → tb ⟨N, rt, nx, N⟩ σ H)
    (hd : ∀ σ H, I s1 σ H → cf s1 = some false → nx σ H) : tWhile c tb ⟨nx, rt, bk, ct⟩ σ H := by
  refine ⟨fun m σ H => ∃ s, whileO m s cf bf = some s1 ∧ I s σ H, ⟨n, s0, hm, h0⟩, ?_⟩
  rintro m σ H ⟨s, hw, p⟩
  cases m with
  | zero => cases hw
  | succ m =>
    obtain ⟨b, e1, e2⟩ := bnd hw
    refine hc s b σ H p e1 _ fun H1 p1 => ?_
    cases b with
    | true =>
      rw [if_pos rfl] at e2 ⊢
      obtain ⟨s', e3, e4⟩ := bnd e2
      exact ⟨fun σ' H' => ∃ s, whileO m s cf bf = some s1 ∧ I s σ' H', fun σ' H' q => ⟨m, Nat.lt_succ_self m, q⟩, hb s s' σ H1 p1 e1 e3 _ fun σ' H' q => ⟨s', e4, q⟩⟩
    | false =>
      rw [if_neg Bool.false_ne_true] at e2 ⊢
      have e5 : s = s1 := Option.some.inj e2
      subst e5
      exact hd σ H1 p1 e1
def whileR : Nat → τ → (τ → Option Bool) → (τ → Option (Fl τ ρ)) → Option (Fl τ ρ)
  | 0, _, _, _ => none
  | n + 1, s, c, b => (c s).bind fun t => if t = true then (b s).bind fun
    | .nx s' => whileR n s' c b
    | .rt r => some (.rt r) else some (.nx s)
theorem while_r {n : Nat} {s0 : τ} {z : Fl τ ρ} {cf : τ → Option Bool} {bf : τ → Option (Fl τ ρ)} (hm : whileR n s0 cf bf = some z) {c : TT} (I : τ → L2.St → Hp → Prop) (h0 : I s0 σ H)
    (hc : ∀ s b σ H, I s σ H → cf s = some b → ∀ P : Bool → Hp → Prop, (∀ H1, I s σ H1 → P b H1) → c σ H P)
    (hb : ∀ s fl σ H, I s σ H → cf s = some true → bf s = some fl → (∀ r, fl = .rt r → z = .rt r) → ∀ N : L2.St → Hp → Prop, (∀ s' σ' H', fl = .nx s' → I s' σ' H' → N σ' H') → tb ⟨N, rt, nx, N⟩ σ H)
    (hd : ∀ s1 σ H, z = .nx s1 → I s1 σ H → cf s1 = some false → nx σ H) : tWhile c tb ⟨nx, rt, bk, ct⟩ σ H := by
  refine ⟨fun m σ H => ∃ s, whileR m s cf bf = some z ∧ I s σ H, ⟨n, s0, hm, h0⟩, ?_⟩
  rintro m σ H ⟨s, hw, p⟩
  cases m with
  | zero => cases hw
  | succ m =>
    obtain ⟨b, e1, e2⟩ := bnd hw
    refine hc s b σ H p e1 _ fun H1 p1 => ?_
    cases b with
    | true =>
      rw [if_pos rfl] at e2 ⊢
      obtain ⟨fl, e3, e4⟩ := bnd e2
      refine ⟨fun σ' H' => ∃ s, whileR m s cf bf = some z ∧ I s σ' H', fun σ' H' q => ⟨m, Nat.lt_succ_self m, q⟩, hb s fl σ H1 p1 e1 e3 (fun r er => ?_) _ fun s' σ' H' es q => ⟨s', ?_, q⟩⟩
      · subst er; exact (Option.some.inj e4).symm
      · subst es; exact e4
    | false =>
      rw [if_neg Bool.false_ne_true] at e2 ⊢
      have e5 : Fl.nx s = z := Option.some.inj e2
      exact hd s σ H1 e5.symm p1 e1
end
section
variable {α β : Type} {K : PySem.W.Frag} {p q : Addr} {vs ws : List V} {xs : List α} {ys : List β} {t : Rp α} {u : Rp β} {F : Hp}
theorem sr_L (h : Al t F vs xs) : Sr (Itl K p) (fun H => SqL K H p vs) xs (fun H x H' a => H' = H ∧ t.r F x a) := by
  refine ⟨fun i H hi hq => ?_, fun H hq => ⟨vs, hq, by rw [al_len h]; exact Nat.le_refl _⟩, fun i H x H' hq y a ha => ⟨y.1, ?_⟩⟩
  · obtain ⟨v, e, _⟩ := pd_get h (List.getElem?_eq_getElem hi)
    exact ⟨vs, v, hq, e⟩
  · obtain ⟨v, e, r⟩ := pd_get h ha
    have e2 := y.2 vs hq
    rw [e] at e2; cases e2
    exact r
theorem sr_T (h : Al t F vs xs) : Sr (Itt K p) (fun H => SqT K H p vs) xs (fun H x H' a => H' = H ∧ t.r F x a) := by
  refine ⟨fun i H hi hq => ?_, fun H hq => ⟨vs, hq, by rw [al_len h]; exact Nat.le_refl _⟩, fun i H x H' hq y a ha => ⟨y.1, ?_⟩⟩
  · obtain ⟨v, e, _⟩ := pd_get h (List.getElem?_eq_getElem hi)
    exact ⟨vs, v, hq, e⟩
  · obtain ⟨v, e, r⟩ := pd_get h ha
    have e2 := y.2 vs hq
    rw [e] at e2; cases e2
    exact r
theorem upto_len (lo hi : Int) : (upto lo hi).length = (hi - lo).toNat := by simp [upto]
theorem sr_R (lo hi : Int) : Sr (Itr lo (hi - lo).toNat) (fun _ => True) (upto lo hi) (fun H x H' a => H' = H ∧ x = .int a) := by
  refine ⟨fun i H hi _ => by rw [upto_len] at hi; exact hi, fun H _ => by rw [upto_len]; exact Nat.le_refl _, fun i H x H' _ y a ha => ⟨y.1, ?_⟩⟩
  rw [y.2]
  unfold upto at ha
  rw [List.getElem?_map] at ha
  cases e : (List.range (hi - lo).toNat)[i]? with
  | none => rw [e] at ha; cases ha
  | some j =>
    rw [e] at ha
    have ej : j = i := by
      have := List.getElem?_eq_some_iff.mp e
      obtain ⟨h1, h2⟩ := this
      simpa using h2.symm
    subst ej
    exact congrArg V.int (Option.some.inj ha)
theorem sr_R0 (hi : Int) : Sr (Itr 0 hi.toNat) (fun _ => True) (upto 0 hi) (fun H x H' a => H' = H ∧ x = .int a) := by
  have := sr_R 0 hi
  rw [Int.sub_zero] at this
  exact this
theorem sr_S (l : Sg) : Sr (Its (S l)) (fun _ => True) (signs l) (fun H x H' a => H' = H ∧ x = .str (S a) ∧ a.length = 1) := by
  refine ⟨fun i H hi _ => by
    show i < (S l).cps.size
    simpa [signs] using hi, fun H _ => by
    show (S l).cps.size ≤ (signs l).length
    simp [signs], fun i H x H' _ y a ha => ⟨y.1, ?_⟩⟩
  obtain ⟨_, c, hc, e⟩ := y
  unfold signs at ha
  rw [List.getElem?_map] at ha
  have hc' : l[i]? = some c := by simpa using hc
  rw [hc'] at ha
  have ea : [c] = a := Option.some.inj ha
  subst ea
  exact ⟨e, rfl⟩
def enumL (xs : List α) : List (Int × α) := xs.mapIdx fun i x => ((i : Int), x)
theorem sr_E (h : Al t F vs xs) : Sr (Ite K p) (fun H => SqL K H p vs) (enumL xs) (fun H x H' a => ∃ T y, x = .ref T ∧ H T = none ∧ H' = upd H T (.tup [.int a.1, y]) ∧ t.r F y a.2) := by
  refine ⟨fun i H hi hq => ?_, fun H hq => ⟨vs, hq, by rw [al_len h]; simp [enumL]⟩, fun i H x H' hq y a ha => ?_⟩
  · obtain ⟨v, e, _⟩ := pd_get h (List.getElem?_eq_getElem (show i < xs.length by simpa [enumL] using hi))
    exact ⟨vs, v, hq, e⟩
  · obtain ⟨T, z, e1, e2, e3, e4⟩ := y
    unfold enumL at ha
    rw [List.getElem?_mapIdx] at ha
    cases e : xs[i]? with
    | none => rw [e] at ha; cases ha
    | some b =>
      rw [e] at ha
      have ea : ((i : Int), b) = a := Option.some.inj ha
      subst ea
      obtain ⟨v, ev, r⟩ := pd_get h e
      have e5 := e4 vs hq
      rw [ev] at e5; cases e5
      exact ⟨T, _, e1, e2, e3, r⟩
theorem sr_Z (h : Al t F vs xs) (h' : Al u F ws ys) : Sr (Itz K p q) (fun H => SqL K H p vs ∧ SqL K H q ws) (xs.zip ys) (fun H x H' a => ∃ T y z, x = .ref T ∧ H T = none ∧ H' = upd H T (.tup [y, z]) ∧ t.r F y a.1 ∧ u.r F z a.2) := by
  have l1 := al_len h
  have l2 := al_len h'
  refine ⟨fun i H hi hq => ?_, fun H hq => ⟨vs, ws, hq.1, hq.2, by rw [List.length_zip]; omega⟩, fun i H x H' hq y a ha => ?_⟩
  · rw [List.length_zip] at hi
    obtain ⟨v, e, _⟩ := pd_get h (List.getElem?_eq_getElem (show i < xs.length by omega))
    obtain ⟨v', e', _⟩ := pd_get h' (List.getElem?_eq_getElem (show i < ys.length by omega))
    exact ⟨vs, ws, v, v', hq.1, hq.2, e, e'⟩
  · obtain ⟨T, y1, y2, e1, e2, e3, e4, e5⟩ := y
    rw [List.getElem?_zip_eq_some] at ha
    obtain ⟨v, ev, r⟩ := pd_get h ha.1
    obtain ⟨v', ev', r'⟩ := pd_get h' ha.2
    have e6 := e4 vs hq.1
    have e7 := e5 ws hq.2
    rw [ev] at e6; cases e6
    rw [ev'] at e7; cases e7
    exact ⟨T, _, _, e1, e2, e3, r, r'⟩
end
end U
set_option Elab.async false
set_option linter.all false
set_option maxRecDepth 100000
set_option maxHeartbeats 4000000
namespace U
open PySem PySem.Spec L2
/-! ### the rules' readings by names, the written part by its own name -/
abbrev RCl := List V → Hp → VK → Prop
abbrev RMt := V → List V → Hp → VK → Prop
def qLen (K : PySem.W.Frag) : RCl := fun xs H Q => ∃ p ys, xs = [V.ref p] ∧ (SqL K H p ys ∨ SqT K H p ys) ∧ Q (.int (ys.length : Nat)) H
def qLenS : RCl := fun xs H Q => ∃ z, xs = [.str z] ∧ z.length ≤ sizeLine ∧ Q (.int z.length) H
def qMax2 : RCl := fun xs H Q => ∃ i j, xs = [.int i, .int j] ∧ Q (.int (if j > i then j else i)) H
def qMin2 : RCl := fun xs H Q => ∃ i j, xs = [.int i, .int j] ∧ Q (.int (if j < i then j else i)) H
def qInt1 : RCl := fun xs H Q => (∃ i, xs = [.int i] ∧ Q (.int i) H) ∨ ∃ k, xs = [.bl k] ∧ Q (.int (if k then 1 else 0)) H
def qTuple (K : PySem.W.Frag) : RCl := fun xs H Q => ∃ p ys, xs = [V.ref p] ∧ ((SqL K H p ys ∧ ∀ l, H l = none → Q (.ref l) (upd H l (.tup ys))) ∨ (SqT K H p ys ∧ Q (.ref p) H))
def qList (K : PySem.W.Frag) : RCl := fun xs H Q => ∃ p ys, xs = [V.ref p] ∧ (SqL K H p ys ∨ SqT K H p ys) ∧ ∀ l, H l = none → Q (.ref l) (upd H l (.lst ys))
def qJoin (K : PySem.W.Frag) : RMt := fun x xs H Q => ∃ a p, ∃ ys : List Str, x = .str a ∧ xs = [.ref p] ∧ (SqL K H p (ys.map V.str) ∨ SqT K H p (ys.map V.str)) ∧ (ys.map (·.length)).sum + ys.length * a.length ≤ 16777216 ∧ Q (.str (Txt.join a ys)) H
def qCatS : R2 := fun x y H Q => ∃ i j, x = .str i ∧ y = .str j ∧ i.length + j.length ≤ sizeLine ∧ Q (.str (i ++ j)) H
def qLtS : R2 := fun x y H Q => ∃ i j, x = .str i ∧ y = .str j ∧ Q (.bl (decide (i.cps.toList < j.cps.toList))) H
def qLeS : R2 := fun x y H Q => ∃ i j, x = .str i ∧ y = .str j ∧ Q (.bl (!decide (j.cps.toList < i.cps.toList))) H
def qGtS : R2 := fun x y H Q => ∃ i j, x = .str i ∧ y = .str j ∧ Q (.bl (decide (j.cps.toList < i.cps.toList))) H
def qGeS : R2 := fun x y H Q => ∃ i j, x = .str i ∧ y = .str j ∧ Q (.bl (!decide (i.cps.toList < j.cps.toList))) H
section
variable {X : Cx} {K : PySem.W.Frag}
theorem c_len (hK : X.K = K) : CallR X (.builtin "len") (qLen K) := by subst hK; exact call_len_seq
theorem c_lenS : CallR X (.builtin "len") qLenS := call_len_str
theorem c_max2 (hc : X.calm = true) : CallR X (.builtin "max") qMax2 := call_max2 hc
theorem c_min2 (hc : X.calm = true) : CallR X (.builtin "min") qMin2 := call_min2 hc
theorem c_int1 : CallR X (.type "int") qInt1 := call_int1
theorem c_tuple (hK : X.K = K) : CallR X (.type "tuple") (qTuple K) := by subst hK; exact call_tuple_of
theorem c_list (hK : X.K = K) : CallR X (.type "list") (qList K) := by subst hK; exact call_list_of
theorem c_join (hK : X.K = K) : MtR X "str.join" (qJoin K) := by subst hK; exact mt_join
theorem c_catS : OpR X (binaryOp .Add) qCatS := op_add_str
theorem c_ltS : OpR X (compareOp .Lt) qLtS := op_lt_str
theorem c_leS : OpR X (compareOp .LtE) qLeS := op_le_str
theorem c_gtS : OpR X (compareOp .Gt) qGtS := op_gt_str
theorem c_geS : OpR X (compareOp .GtE) qGeS := op_ge_str
theorem c_ixT (hK : X.K = K) : IxR X (rIxT K) := by subst hK; exact ix_tup
theorem c_ixL (hK : X.K = K) : IxR X (rIxL K) := by subst hK; exact ix_list
theorem c_slL (hK : X.K = K) : SlR X (rSlL K) := by subst hK; exact sl_list
theorem c_slT (hK : X.K = K) : SlR X (rSlA K) := by subst hK; exact sl_tupA
variable {name id T : String} {o e : Expr} {es : List Expr} {to : TE} {t : TA} {apos pos : Pos} {nm : Str} {r : V → List V → Hp → VK → Prop} {tg l : Expr} {tl : TE}
theorem c_pgtup {es : List Expr} {k : Nat} {t : TGs} {n : Nat} (hK : X.K = K) (hc : X.calm = true) (h : PGs X es t) (hn : (assignEach es X.env).length = n := by rfl) (hst : (assignEach es X.env).findIdx? (·.1) = none := by rfl) : PG X (.Tuple es k pos) (gTup K n t) := by
  subst hK; exact pg_tup hc h hn hst
theorem c_pilist (hK : X.K = K) (hl : PE X l tl) : PI X tg l (iList K tl) := by subst hK; exact pi_list hl
theorem c_pitup (hK : X.K = K) (hl : PE X l tl) : PI X tg l (iTup K tl) := by subst hK; exact pi_tup hl
end
section
variable {K : PySem.W.Frag} {σ σ' : L2.St} {H F H' : Hp} {Q : VK} {i j a : Int} {x y v : V} {s r : Sg} {b c : Bool} {X : Cx}
/-! ### numbers -/
theorem v_i2 {g : Int → Int → V} (k : Q (g i j) H) : rI0 g (.int i) (.int j) H Q := ⟨i, j, rfl, rfl, k⟩
theorem mulB_ok (h : mulB i j = true) : CMul i j := by
  unfold mulB at h
  rw [Bool.or_eq_true] at h
  exact h.elim (fun z => .inl (of_decide_eq_true z)) fun z => .inr (of_decide_eq_true z)
theorem v_mul (h : mulM i j = some a) (k : Q (.int a) H) : L2.rI CMul (fun i j => .int (i * j)) (.int i) (.int j) H Q := by
  obtain ⟨h1, rfl⟩ := need_ok h
  exact ⟨i, j, rfl, rfl, mulB_ok h1, k⟩
theorem v_mulL (h : -(2 ^ 64) < i ∧ i < 2 ^ 64) (k : Q (.int (i * j)) H) : L2.rI CMul (fun i j => .int (i * j)) (.int i) (.int j) H Q := ⟨i, j, rfl, rfl, .inl h, k⟩
theorem v_mulR (h : -(2 ^ 64) < j ∧ j < 2 ^ 64) (k : Q (.int (i * j)) H) : L2.rI CMul (fun i j => .int (i * j)) (.int i) (.int j) H Q := ⟨i, j, rfl, rfl, .inr h, k⟩
theorem v_mod (h : modM i j = some a) (k : Q (.int a) H) : L2.rI (fun _ j => 0 < j) (fun i j => .int (i % j)) (.int i) (.int j) H Q := by
  obtain ⟨h1, rfl⟩ := need_ok h
  exact ⟨i, j, rfl, rfl, of_decide_eq_true h1, k⟩
theorem v_modK (h : 0 < j) (k : Q (.int (i % j)) H) : L2.rI (fun _ j => 0 < j) (fun i j => .int (i % j)) (.int i) (.int j) H Q := ⟨i, j, rfl, rfl, h, k⟩
theorem v_div (h : divM i j = some a) (k : Q (.int a) H) : L2.rI CDiv (fun i j => .int (i / j)) (.int i) (.int j) H Q := by
  obtain ⟨h1, rfl⟩ := need_ok h
  have h2 : 0 < j ∧ j < 1073741824 := of_decide_eq_true h1
  exact ⟨i, j, rfl, rfl, h2, k⟩
theorem v_divK (h : 0 < j ∧ j < 1073741824) (k : Q (.int (i / j)) H) : L2.rI CDiv (fun i j => .int (i / j)) (.int i) (.int j) H Q := ⟨i, j, rfl, rfl, h, k⟩
theorem v_powK (h : CPow i j) (e : i ^ j.toNat = a) (k : Q (.int a) H) : L2.rI CPow (fun i j => .int (i ^ j.toNat)) (.int i) (.int j) H Q := ⟨i, j, rfl, rfl, h, by subst e; exact k⟩
theorem v_neg (k : Q (.int (-i)) H) : rU (fun i => .int (-i)) (.int i) H Q := ⟨i, rfl, k⟩
theorem v_eqI (k : Q (.bl (decide (i = j))) H) : rEq (.int i) (.int j) H Q := ⟨rfl, by rw [dec_int, Bool.beq_eq_decide_eq]; exact k⟩
theorem v_neI (k : Q (.bl (!decide (i = j))) H) : rNe (.int i) (.int j) H Q := ⟨rfl, by rw [dec_int, Bool.beq_eq_decide_eq]; exact k⟩
theorem v_eqB (k : Q (.bl (decide (b = c))) H) : rEq (.bl b) (.bl c) H Q := ⟨rfl, by rw [dec_bl, Bool.beq_eq_decide_eq]; exact k⟩
theorem v_neB (k : Q (.bl (!decide (b = c))) H) : rNe (.bl b) (.bl c) H Q := ⟨rfl, by rw [dec_bl, Bool.beq_eq_decide_eq]; exact k⟩
theorem S_inj : S s = S r ↔ s = r := ⟨fun h => by
  have h1 := congrArg (fun z : Str => z.cps.toList) h
  exact h1, fun h => by rw [h]⟩
theorem dec_S : decide (V.str (S s) = V.str (S r)) = decide (s = r) := by
  rw [Bool.eq_iff_iff]
  simp only [decide_eq_true_eq, V.str.injEq]
  exact S_inj
theorem v_eqS (k : Q (.bl (decide (s = r))) H) : rEq (.str (S s)) (.str (S r)) H Q := ⟨rfl, by rw [dec_S]; exact k⟩
theorem v_neS (k : Q (.bl (!decide (s = r))) H) : rNe (.str (S s)) (.str (S r)) H Q := ⟨rfl, by rw [dec_S]; exact k⟩
theorem v_ltS (k : Q (.bl (decide (s < r))) H) : qLtS (.str (S s)) (.str (S r)) H Q := ⟨_, _, rfl, rfl, k⟩
theorem v_gtS (k : Q (.bl (decide (r < s))) H) : qGtS (.str (S s)) (.str (S r)) H Q := ⟨_, _, rfl, rfl, k⟩
theorem v_leS (k : Q (.bl (!decide (r < s))) H) : qLeS (.str (S s)) (.str (S r)) H Q := ⟨_, _, rfl, rfl, k⟩
theorem v_geS (k : Q (.bl (!decide (s < r))) H) : qGeS (.str (S s)) (.str (S r)) H Q := ⟨_, _, rfl, rfl, k⟩
theorem v_bl {P : Bool → Hp → Prop} (k : P b H) : qT P (.bl b) H := ⟨b, rfl, k⟩
theorem v_max2 (k : Q (.int (mx i j)) H) : qMax2 [.int i, .int j] H Q := ⟨i, j, rfl, k⟩
theorem v_min2 (k : Q (.int (mn i j)) H) : qMin2 [.int i, .int j] H Q := ⟨i, j, rfl, k⟩
theorem v_intB (k : Q (.int (b2 b)) H) : qInt1 [.bl b] H Q := .inr ⟨b, rfl, k⟩
theorem v_intI (k : Q (.int i) H) : qInt1 [.int i] H Q := .inl ⟨i, rfl, k⟩
/-! ### texts -/
theorem n_str {x : Str} (e : x = S s) (k : Q (.str (S s)) H) : tC (.str x) σ H Q := by rw [e]; exact k
theorem catM_le (h : catM s r = some t) : t.length ≤ sizeLine := by
  obtain ⟨h1, rfl⟩ := need_ok h
  rw [List.length_append]; exact sz_ok h1
theorem v_catS {t : Sg} (h : catM s r = some t) (k : Q (.str (S t)) H) : qCatS (.str (S s)) (.str (S r)) H Q := by
  obtain ⟨h1, rfl⟩ := need_ok h
  refine ⟨_, _, rfl, rfl, by simpa [Str.length] using sz_ok h1, ?_⟩
  have e : (S s ++ S r : Str) = S (s ++ r) := TL.ext_tl (by rw [TL.tl_append])
  rw [e]; exact k
theorem one_le {n : Nat} : ([n] : Sg).length ≤ sizeLine := by show 1 ≤ sizeLine; decide
theorem len1_le (h : s.length = 1) : s.length ≤ sizeLine := by rw [h]; decide
theorem v_ixS {n : Nat} (hl : s.length ≤ sizeLine) (h : atI s i = some n) (k : Q (.str (S [n])) H) : rIxS (.str (S s)) (.int i) H Q := ⟨_, _, n, rfl, rfl, by simpa [Str.length] using hl, h, k⟩
theorem cut_le {lo hi : Option Int} (hl : s.length ≤ sizeLine) : (cutL s lo hi).length ≤ sizeLine := by
  unfold cutL
  rw [List.length_take, List.length_drop]
  omega
theorem v_slS {lo hi : Option Int} (hl : s.length ≤ sizeLine) (k : Q (.str (S (cutL s lo hi))) H) : rSlS (.str (S s)) lo hi H Q := ⟨S s, rfl, by simpa [Str.length] using hl, by
  have e : cutS (S s) lo hi = S (cutL s lo hi) := by unfold cutS cutL; simp [Str.length]
  rw [e]; exact k⟩
theorem v_lenS (hl : s.length ≤ sizeLine) (k : Q (.int s.length) H) : qLenS [.str (S s)] H Q := ⟨S s, rfl, by simpa [Str.length] using hl, by
  have e : (S s).length = s.length := by simp [Str.length]
  rw [e]; exact k⟩
theorem tyS : tyV K "str" (.str (S s)) H := rfl
theorem joinM_le {xs : List Sg} (h : joinM s xs = some r) : r.length ≤ sizeLine := by
  obtain ⟨h1, rfl⟩ := need_ok h
  have h2 := sz_ok h1
  refine Nat.le_trans ?_ h2
  clear h h1 h2
  induction xs with
  | nil => simp [TL.joinL]
  | cons p q ih =>
    cases q with
    | nil => simp [TL.joinL]
    | cons q r =>
      have e : TL.joinL s (p :: q :: r) = p ++ (s ++ TL.joinL s (q :: r)) := rfl
      rw [e]
      simp only [List.length_append, List.map_cons, List.sum_cons, List.length_cons] at ih ⊢
      have : (r.length + 1 + 1) * s.length = (r.length + 1) * s.length + s.length := by rw [Nat.add_mul (r.length + 1) 1]; simp
      omega
theorem join_S (s : Sg) (xs : List Sg) : Txt.join (S s) (xs.map S) = S (TL.joinL s xs) := by
  rw [TL.join_eq]
  refine TL.ext_tl ?_
  rw [TL.tl_join]
  congr 1
  rw [List.map_map]
  exact (List.map_congr_left fun a _ => rfl).trans (List.map_id _)
theorem v_join {p : Addr} {vs : List V} {xs : List Sg} (hq : SqL K H p vs ∨ SqT K H p vs) (hr : Al eS F vs xs) (h : joinM s xs = some r) (k : Q (.str (S r)) H) : qJoin K (.str (S s)) [.ref p] H Q := by
  obtain ⟨h1, rfl⟩ := need_ok h
  have e := al_str hr
  subst e
  refine ⟨S s, p, xs.map S, rfl, rfl, hq, ?_, by rw [join_S]; exact k⟩
  have h2 := of_decide_eq_true h1
  have e1 : (xs.map S).map (·.length) = xs.map List.length := by rw [List.map_map]; exact List.map_congr_left fun a _ => by simp [Str.length]
  rw [e1, List.length_map]
  have e2 : (S s).length = s.length := by simp [Str.length]
  rw [e2]; exact h2
end
section
variable {K : PySem.W.Frag} {σ σ' : L2.St} {H F H' : Hp} {Q : VK} {i j : Int} {x y z v w : V} {α β γ : Type} {t : Rp α} {ta : Rp α} {tb : Rp β} {tc : Rp γ} {p q : Addr} {vs us : List V} {xs zs : List α} {D : Ends}
/-! ### lists and tuples -/
theorem v_len (hq : SqL K H p vs ∨ SqT K H p vs) (hr : Al t F vs xs) (k : Q (.int (xs.length : Int)) H) : qLen K [.ref p] H Q :=
  ⟨p, vs, rfl, hq, by rw [al_len hr]; exact k⟩
theorem v_ixL {a : α} (hq : SqL K H p vs) (hr : Al t F vs xs) (h : atI xs i = some a) (k : ∀ v, t.r F v a → Q v H) : rIxL K (.ref p) (.int i) H Q := by
  obtain ⟨v, e, r⟩ := al_at hr h
  exact ⟨p, vs, i, v, rfl, rfl, hq, e, k v r⟩
theorem v_ixT {a : α} (hq : SqT K H p vs) (hr : Al t F vs xs) (h : atI xs i = some a) (k : ∀ v, t.r F v a → Q v H) : rIxT K (.ref p) (.int i) H Q := by
  obtain ⟨v, e, r⟩ := al_at hr h
  exact ⟨p, vs, i, v, rfl, rfl, hq, e, k v r⟩
theorem v_ix20 {m : α × β} (hs : Sub F H) (hr : (eP2 ta tb).r F x m) (k : ∀ v, ta.r F v m.1 → Q v H) : rIxT K x (.int 0) H Q := by
  obtain ⟨p, y, z, rfl, hq, h1, h2⟩ := hr
  exact ⟨p, _, 0, y, rfl, rfl, .inl (.inl (hs _ _ hq)), rfl, k y h1⟩
theorem v_ix21 {m : α × β} (hs : Sub F H) (hr : (eP2 ta tb).r F x m) (k : ∀ v, tb.r F v m.2 → Q v H) : rIxT K x (.int 1) H Q := by
  obtain ⟨p, y, z, rfl, hq, h1, h2⟩ := hr
  exact ⟨p, _, 1, z, rfl, rfl, .inl (.inl (hs _ _ hq)), rfl, k z h2⟩
theorem v_ix30 {m : α × β × γ} (hs : Sub F H) (hr : (eP3 ta tb tc).r F x m) (k : ∀ v, ta.r F v m.1 → Q v H) : rIxT K x (.int 0) H Q := by
  obtain ⟨p, y, z, w, rfl, hq, h1, h2, h3⟩ := hr
  exact ⟨p, _, 0, y, rfl, rfl, .inl (.inl (hs _ _ hq)), rfl, k y h1⟩
theorem v_ix31 {m : α × β × γ} (hs : Sub F H) (hr : (eP3 ta tb tc).r F x m) (k : ∀ v, tb.r F v m.2.1 → Q v H) : rIxT K x (.int 1) H Q := by
  obtain ⟨p, y, z, w, rfl, hq, h1, h2, h3⟩ := hr
  exact ⟨p, _, 1, z, rfl, rfl, .inl (.inl (hs _ _ hq)), rfl, k z h2⟩
theorem v_ix32 {m : α × β × γ} (hs : Sub F H) (hr : (eP3 ta tb tc).r F x m) (k : ∀ v, tc.r F v m.2.2 → Q v H) : rIxT K x (.int 2) H Q := by
  obtain ⟨p, y, z, w, rfl, hq, h1, h2, h3⟩ := hr
  exact ⟨p, _, 2, w, rfl, rfl, .inl (.inl (hs _ _ hq)), rfl, k w h3⟩
theorem v_unp2 {tg : TGs} {m : α × β} {R : L2.St → Hp → Prop} (hs : Sub F H) (hr : (eP2 ta tb).r F x m) (k : ∀ y z, ta.r F y m.1 → tb.r F z m.2 → tg [y, z] σ H R) : gTup K 2 tg x σ H R := by
  obtain ⟨p, y, z, rfl, hq, h1, h2⟩ := hr
  exact ⟨p, _, rfl, .inl (.inl (hs _ _ hq)), rfl, k y z h1 h2⟩
theorem v_unp3 {tg : TGs} {m : α × β × γ} {R : L2.St → Hp → Prop} (hs : Sub F H) (hr : (eP3 ta tb tc).r F x m) (k : ∀ y z w, ta.r F y m.1 → tb.r F z m.2.1 → tc.r F w m.2.2 → tg [y, z, w] σ H R) : gTup K 3 tg x σ H R := by
  obtain ⟨p, y, z, w, rfl, hq, h1, h2, h3⟩ := hr
  exact ⟨p, _, rfl, .inl (.inl (hs _ _ hq)), rfl, k y z w h1 h2 h3⟩
theorem n_gcons {tg : TG} {tgs : TGs} {R : L2.St → Hp → Prop} (h : tg x σ H fun σ' H' => tgs vs σ' H' R) : gCons tg tgs (x :: vs) σ H R := ⟨_, _, rfl, h⟩
theorem n_gnil {R : L2.St → Hp → Prop} (h : R σ H) : gNil [] σ H R := ⟨rfl, h⟩
/-- new objects -/
theorem gr_newF {W : List Addr} {o : HO} (hs : Sub F H) (hp : H p = none) : Gr W F H (upd F p o) (upd H p o) := (Gr.refl hs).newF hp
theorem gr_newM {W : List Addr} {o : HO} (hs : Sub F H) (hp : H p = none) : Gr W F H F (upd H p o) := (Gr.refl hs).newM hp
theorem v_mk2 {m : α} {n : β} (hs : Sub F H) (h1 : ta.r F x m) (h2 : tb.r F y n) (k : ∀ v F' H', Gr [] F H F' H' → (eP2 ta tb).r F' v (m, n) → Q v H') :
    qNewT Q [x, y] H :=
  ⟨by show 2 ≤ sizeLine; decide, fun p hp => k _ _ _ (gr_newF hs hp) ⟨p, x, y, rfl, upd_same, ta.mono (Sub.up1 (hs.nn hp)) h1, tb.mono (Sub.up1 (hs.nn hp)) h2⟩⟩
theorem v_mk3 {m : α} {n : β} {l : γ} (hs : Sub F H) (h1 : ta.r F x m) (h2 : tb.r F y n) (h3 : tc.r F z l) (k : ∀ v F' H', Gr [] F H F' H' → (eP3 ta tb tc).r F' v (m, n, l) → Q v H') :
    qNewT Q [x, y, z] H :=
  ⟨by show 3 ≤ sizeLine; decide, fun p hp => k _ _ _ (gr_newF hs hp) ⟨p, x, y, z, rfl, upd_same, ta.mono (Sub.up1 (hs.nn hp)) h1, tb.mono (Sub.up1 (hs.nn hp)) h2, tc.mono (Sub.up1 (hs.nn hp)) h3⟩⟩
theorem v_mkT (hs : Sub F H) (hr : Al t F vs xs) (hz : szB vs.length = true) (k : ∀ p F' H', Gr [] F H F' H' → F' p = some (.tup vs) → Al t F' vs xs → Q (.ref p) H') :
    qNewT Q vs H :=
  ⟨sz_ok hz, fun p hp => k _ _ _ (gr_newF hs hp) upd_same (hr.mono (Sub.up1 (hs.nn hp)))⟩
/-- a new list: frozen at once; one's own -/
theorem a_newF (hs : Sub F H) (hr : Al t F vs xs) (k : ∀ p F' H', Gr [] F H F' H' → F' p = some (.lst vs) → Al t F' vs xs → Q (.ref p) H') : ∀ p, H p = none → Q (.ref p) (upd H p (.lst vs)) :=
  fun p hp => k _ _ _ (gr_newF hs hp) upd_same (hr.mono (Sub.up1 (hs.nn hp)))
theorem a_newM (hs : Sub F H) (k : ∀ p H', H p = none → Gr [] F H F H' → F p = none → H' p = some (.lst vs) → Q (.ref p) H') : ∀ p, H p = none → Q (.ref p) (upd H p (.lst vs)) :=
  fun p hp => k _ _ hp (gr_newM hs hp) (hs.nn hp) upd_same
theorem v_mkLF (hs : Sub F H) (hr : Al t F vs xs) (hz : szB vs.length = true) (k : ∀ p F' H', Gr [] F H F' H' → F' p = some (.lst vs) → Al t F' vs xs → Q (.ref p) H') : qNewL Q vs H := ⟨sz_ok hz, a_newF hs hr k⟩
theorem v_mkLM (hs : Sub F H) (hz : szB vs.length = true) (k : ∀ p H', H p = none → Gr [] F H F H' → F p = none → H' p = some (.lst vs) → Q (.ref p) H') : qNewL Q vs H := ⟨sz_ok hz, a_newM hs k⟩
theorem cut_al {lo hi : Option Int} (hr : Al t F vs xs) : Al t F (cutV vs lo hi) (cutL xs lo hi) := by
  unfold cutV cutL
  rw [al_len hr]
  exact pd_take _ (pd_drop _ hr)
theorem v_slT {lo hi : Option Int} (hs : Sub F H) (hq : F p = some (.tup vs)) (hr : Al t F vs xs) (k : ∀ p' us F' H', Gr [] F H F' H' → F' p' = some (.tup us) → Al t F' us (cutL xs lo hi) → Q (.ref p') H') : rSlA K (.ref p) lo hi H Q := by
  refine ⟨p, vs, rfl, .inl (.inl (hs _ _ hq)), fun e => ?_, fun _ p' hp => k p' _ _ _ (gr_newF hs hp) upd_same ((cut_al hr).mono (Sub.up1 (hs.nn hp)))⟩
  have e2 : cutV vs lo hi = vs := by unfold cutV; rw [e.1, e.2]; simp
  have := cut_al (lo := lo) (hi := hi) hr
  rw [e2] at this
  exact k p vs F H (Gr.refl hs) hq this
/-- a list of one's own that changes -/
theorem tyL (hq : SqL K H p vs) : tyV K "list" (.ref p) H := .inl ⟨rfl, _, hq⟩
theorem v_append (hp : H p = some (.lst vs)) (hl : vs.length < sizeLine) (k : Q .non (upd H p (.lst (vs ++ [y])))) : rAppend (.ref p) [y] H Q := ⟨p, vs, y, rfl, rfl, hp, hl, k⟩
theorem v_extend (hp : H p = some (.lst vs)) (hq : H q = some (.lst us)) (hl : vs.length + us.length ≤ sizeLine) (k : Q .non (upd H p (.lst (vs ++ us)))) : rExtend (.ref p) [.ref q] H Q := ⟨p, q, vs, us, rfl, rfl, hp, hq, hl, k⟩
theorem v_setL {n : Nat} {R : Hp → Prop} (hp : H p = some (.lst vs)) (e : ixN vs.length i = some n) (k : R (upd H p (.lst (vs.set n y)))) : rSetL (.ref p) (.int i) y H R := ⟨p, vs, i, n, rfl, rfl, hp, e, k⟩
theorem setM_ok {a : α} {zs : List α} (hr : Al t F vs xs) (h : setM xs i a = some zs) (ha : t.r F y a) : ∃ n, ixN vs.length i = some n ∧ Al t F (vs.set n y) zs := by
  unfold setM at h
  rw [al_len hr]
  cases e : ixN xs.length i with
  | none => rw [e] at h; cases h
  | some n =>
    rw [e] at h
    have e2 : xs.set n a = zs := Option.some.inj h
    subst e2
    exact ⟨n, rfl, pd_set n hr ha⟩
def popM (xs : List α) : Option (α × List α) := (xs[xs.length - 1]?).map fun a => (a, xs.dropLast)
theorem v_pop {m : α × List α} (hp : H p = some (.lst vs)) (hr : Al t F vs xs) (h : popM xs = some m) (k : ∀ v, t.r F v m.1 → Al t F vs.dropLast m.2 → Q v (upd H p (.lst vs.dropLast))) : rPop (.ref p) [] H Q := by
  unfold popM at h
  cases e : xs[xs.length - 1]? with
  | none => rw [e] at h; cases h
  | some a =>
    rw [e] at h
    have e2 : (a, xs.dropLast) = m := Option.some.inj h
    subst e2
    rw [← al_len hr] at e
    obtain ⟨v, ev, rv⟩ := pd_get hr e
    exact ⟨p, vs, v, rfl, rfl, hp, ev, k v rv (pd_last hr)⟩
theorem v_cat (hs : Sub F H) (hp : H p = some (.lst vs)) (hq : H q = some (.lst us)) (hr : Al t F vs xs) (hr' : Al t F us zs) (hz : szB (xs.length + zs.length) = true) (k : ∀ p', H p' = none → Q (.ref p') (upd H p' (.lst (vs ++ us)))) : rCat (.ref p) (.ref q) H Q :=
  ⟨p, q, vs, us, rfl, rfl, hp, hq, by rw [al_len hr, al_len hr']; exact sz_ok hz, k⟩
def repL (xs : List α) (n : Nat) : List α := (List.replicate n xs).flatten
def repM (xs : List α) (i : Int) : Option (List α) := need (decide (-(2 ^ 63) ≤ i ∧ i < 2 ^ 63) && szB (xs.length * i.toNat)) (repL xs i.toNat)
theorem v_tuple (hs : Sub F H) (hq : SqL K H p vs) (hr : Al t F vs xs) (k : ∀ p' F' H', Gr [] F H F' H' → F' p' = some (.tup vs) → Al t F' vs xs → Q (.ref p') H') : qTuple K [.ref p] H Q :=
  ⟨p, vs, rfl, .inl ⟨hq, fun l hl => k _ _ _ (gr_newF hs hl) upd_same (hr.mono (Sub.up1 (hs.nn hl)))⟩⟩
theorem v_tupleT (hq : SqT K H p vs) (k : Q (.ref p) H) : qTuple K [.ref p] H Q := ⟨p, vs, rfl, .inr ⟨hq, k⟩⟩
theorem v_list (hq : SqL K H p vs ∨ SqT K H p vs) (k : ∀ l, H l = none → Q (.ref l) (upd H l (.lst vs))) : qList K [.ref p] H Q := ⟨p, vs, rfl, hq, k⟩
/-! ### loops' targets -/
theorem v_nmY {tg : TG} {P : Prop} {R : L2.St → Hp → Prop} (hY : H' = H ∧ P) (k : P → tg x σ H R) : tg x σ H' R := by
  obtain ⟨e, h⟩ := hY
  subst e; exact k h
theorem v_nmR {tg : TG} {a : Int} {R : L2.St → Hp → Prop} (hY : H' = H ∧ x = .int a) (k : tg (.int a) σ H R) : tg x σ H' R := by
  obtain ⟨e, h⟩ := hY
  subst e; subst h; exact k
theorem v_nmS {tg : TG} {a : Sg} {R : L2.St → Hp → Prop} (hY : H' = H ∧ x = .str (S a) ∧ a.length = 1) (k : a.length = 1 → tg (.str (S a)) σ H R) : tg x σ H' R := by
  obtain ⟨e, h, l⟩ := hY
  subst e; subst h; exact k l
theorem v_unpE {tg : TGs} {Fs : Hp} {a : Int × α} {R : L2.St → Hp → Prop} (hs : Sub F H) (hY : ∃ T y, x = .ref T ∧ H T = none ∧ H' = upd H T (.tup [.int a.1, y]) ∧ t.r Fs y a.2) (k : ∀ y, Gr [] F H F H' → t.r Fs y a.2 → tg [.int a.1, y] σ H' R) : gTup K 2 tg x σ H' R := by
  obtain ⟨T, y, rfl, nT, rfl, r⟩ := hY
  exact ⟨T, _, rfl, .inl (.inl upd_same), rfl, k y (gr_newM hs nT) r⟩
theorem v_unpZ {tg : TGs} {Fs : Hp} {a : α × β} {R : L2.St → Hp → Prop} (hs : Sub F H) (hY : ∃ T y z, x = .ref T ∧ H T = none ∧ H' = upd H T (.tup [y, z]) ∧ ta.r Fs y a.1 ∧ tb.r Fs z a.2) (k : ∀ y z, Gr [] F H F H' → ta.r Fs y a.1 → tb.r Fs z a.2 → tg [y, z] σ H' R) : gTup K 2 tg x σ H' R := by
  obtain ⟨T, y, z, rfl, nT, rfl, r, r'⟩ := hY
  exact ⟨T, _, rfl, .inl (.inl upd_same), rfl, k y z (gr_newM hs nT) r r'⟩
abbrev RIt := It → Hp → Prop
def qRng1 (R : RIt) : List V → Hp → Prop := fun vs H1 => ∃ j : Int, vs = [.int j] ∧ -(2 ^ 62) ≤ j ∧ j < 2 ^ 62 ∧ R (Itr 0 j.toNat) H1
def qRng2 (R : RIt) : List V → Hp → Prop := fun vs H1 => ∃ i j : Int, vs = [.int i, .int j] ∧ (-(2 ^ 62) ≤ i ∧ i < 2 ^ 62 ∧ -(2 ^ 62) ≤ j ∧ j < 2 ^ 62) ∧ R (Itr i (j - i).toNat) H1
def qItL (K : PySem.W.Frag) (R : RIt) : VK := fun x H1 => ∃ a, x = .ref a ∧ (∃ xs, SqL K H1 a xs) ∧ R (Itl K a) H1
def qItT (K : PySem.W.Frag) (R : RIt) : VK := fun x H1 => ∃ a, x = .ref a ∧ (∃ xs, SqT K H1 a xs) ∧ R (Itt K a) H1
def qItS (R : RIt) : VK := fun v H1 => ∃ x, v = .str x ∧ R (Its x) H1
theorem n_rng1 {ta : TA} {R : RIt} (h : ta σ H (qRng1 R)) : iRng1 ta σ H R := h
theorem n_rng2 {ta : TA} {R : RIt} (h : ta σ H (qRng2 R)) : iRng2 ta σ H R := h
theorem n_itL {ta : TE} {R : RIt} (h : ta σ H (qItL K R)) : iList K ta σ H R := h
theorem n_itT {ta : TE} {R : RIt} (h : ta σ H (qItT K R)) : iTup K ta σ H R := h
theorem n_itS {ta : TE} {R : RIt} (h : ta σ H (qItS R)) : iStr ta σ H R := h
def rngB (i : Int) : Bool := decide (-(2 ^ 62) ≤ i ∧ i < 2 ^ 62)
def uptoM (lo hi : Int) : Option (List Int) := need (rngB lo && rngB hi) (upto lo hi)
theorem uptoM_ok {lo hi : Int} {l : List Int} (h : uptoM lo hi = some l) : (-(2 ^ 62) ≤ lo ∧ lo < 2 ^ 62 ∧ -(2 ^ 62) ≤ hi ∧ hi < 2 ^ 62) ∧ upto lo hi = l := by
  obtain ⟨h1, h2⟩ := need_ok h
  unfold rngB at h1
  rw [Bool.and_eq_true] at h1
  have a := of_decide_eq_true h1.1
  have b := of_decide_eq_true h1.2
  exact ⟨⟨a.1, a.2, b.1, b.2⟩, h2⟩
theorem v_rng1 {hi : Int} {l : List Int} {R : It → Hp → Prop} (h : uptoM 0 hi = some l) (k : R (Itr 0 hi.toNat) H) : qRng1 R [.int hi] H :=
  ⟨hi, rfl, (uptoM_ok h).1.2.2.1, (uptoM_ok h).1.2.2.2, k⟩
theorem v_rng2 {lo hi : Int} {l : List Int} {R : It → Hp → Prop} (h : uptoM lo hi = some l) (k : R (Itr lo (hi - lo).toNat) H) : qRng2 R [.int lo, .int hi] H :=
  ⟨lo, hi, rfl, (uptoM_ok h).1, k⟩
theorem sr_R1 {hi : Int} {l : List Int} (h : uptoM 0 hi = some l) : Sr (Itr 0 hi.toNat) (fun _ => True) l (fun H x H' a => H' = H ∧ x = .int a) := by rw [← (uptoM_ok h).2]; exact sr_R0 hi
theorem sr_R2 {lo hi : Int} {l : List Int} (h : uptoM lo hi = some l) : Sr (Itr lo (hi - lo).toNat) (fun _ => True) l (fun H x H' a => H' = H ∧ x = .int a) := by rw [← (uptoM_ok h).2]; exact sr_R lo hi
variable {nx bk ct : L2.St → Hp → Prop} {rt : VK}
theorem n_for {wi : TI} {g : TG} {tb : TS} (h : wi σ H fun J H1 => Forr J g tb nx rt σ H1) : tFor wi g tb ⟨nx, rt, bk, ct⟩ σ H := h
theorem n_lc {wi : TI} {g : TG} {tt : TT} {te : TE} {ws : List Nat} (h : wi σ H fun J H1 => ∀ Dd, H1 Dd = none → Compp J g tt te ws σ H1 Dd Q) : tLc wi g tt te ws σ H Q := h
theorem v_itL (hq : SqL K H p vs) {R : It → Hp → Prop} (k : R (Itl K p) H) : qItL K R (.ref p) H := ⟨p, rfl, ⟨vs, hq⟩, k⟩
theorem v_itT (hq : SqT K H p vs) {R : It → Hp → Prop} (k : R (Itt K p) H) : qItT K R (.ref p) H := ⟨p, rfl, ⟨vs, hq⟩, k⟩
theorem v_itS {s : Sg} {R : It → Hp → Prop} (k : R (Its (S s)) H) : qItS R (.str (S s)) H := ⟨S s, rfl, k⟩
theorem br_join {b : Bool} {t u : TS} (I : L2.St → Hp → Prop) (hr : ∀ σ' H', I σ' H' → nx σ' H') (h1 : b = true → ∀ nx' : L2.St → Hp → Prop, (∀ σ' H', I σ' H' → nx' σ' H') → t ⟨nx', rt, bk, ct⟩ σ H)
    (h2 : b = false → ∀ nx' : L2.St → Hp → Prop, (∀ σ' H', I σ' H' → nx' σ' H') → u ⟨nx', rt, bk, ct⟩ σ H) : if b = true then t ⟨nx, rt, bk, ct⟩ σ H else u ⟨nx, rt, bk, ct⟩ σ H := by
  cases b with
  | true => rw [if_pos rfl]; exact h1 rfl nx hr
  | false => rw [if_neg Bool.false_ne_true]; exact h2 rfl nx hr
/-- and, or: what follows the first part -/
def qAndT (u : TT) (σ : L2.St) (Q : Bool → Hp → Prop) : Bool → Hp → Prop := fun c H1 => if c = true then u σ H1 Q else Q false H1
def qOrT (u : TT) (σ : L2.St) (Q : Bool → Hp → Prop) : Bool → Hp → Prop := fun c H1 => if c = true then Q true H1 else u σ H1 Q
def qAndV (u : TE) (σ : L2.St) (Q : VK) : Bool → Hp → Prop := fun c H1 => if c = true then u σ H1 Q else Q (.bl false) H1
def qOrV (u : TE) (σ : L2.St) (Q : VK) : Bool → Hp → Prop := fun c H1 => if c = true then Q (.bl true) H1 else u σ H1 Q
def qChain (tc : TE) (r' : R2) (y : V) (σ : L2.St) (Q : VK) : Bool → Hp → Prop := fun k H3 => if k = true then tc σ H3 fun w H4 => r' y w H4 Q else Q (.bl false) H3
def qIfE (ta tb : TE) (σ : L2.St) (Q : VK) : Bool → Hp → Prop := fun c H1 => if c = true then ta σ H1 Q else tb σ H1 Q
/-- the later part leaves the heap as it is -/
theorem br_andT {a b : Bool} {u : TT} {Q : Bool → Hp → Prop} (h : a = true → ∀ Q' : Bool → Hp → Prop, Q' b H → u σ H Q') (k : Q (a && b) H) : qAndT u σ Q a H := by
  unfold qAndT
  cases a with
  | true => rw [if_pos rfl]; exact h rfl Q k
  | false => rw [if_neg Bool.false_ne_true]; exact k
theorem br_orT {a b : Bool} {u : TT} {Q : Bool → Hp → Prop} (h : a = false → ∀ Q' : Bool → Hp → Prop, Q' b H → u σ H Q') (k : Q (a || b) H) : qOrT u σ Q a H := by
  unfold qOrT
  cases a with
  | true => rw [if_pos rfl]; exact k
  | false => rw [if_neg Bool.false_ne_true]; exact h rfl Q k
theorem br_andV {a b : Bool} {u : TE} (h : a = true → ∀ Q' : VK, Q' (.bl b) H → u σ H Q') (k : Q (.bl (a && b)) H) : qAndV u σ Q a H := by
  unfold qAndV
  cases a with
  | true => rw [if_pos rfl]; exact h rfl Q k
  | false => rw [if_neg Bool.false_ne_true]; exact k
theorem br_orV {a b : Bool} {u : TE} (h : a = false → ∀ Q' : VK, Q' (.bl b) H → u σ H Q') (k : Q (.bl (a || b)) H) : qOrV u σ Q a H := by
  unfold qOrV
  cases a with
  | true => rw [if_pos rfl]; exact k
  | false => rw [if_neg Bool.false_ne_true]; exact h rfl Q k
theorem br_chain {a b : Bool} {tc : TE} {r' : R2} (h : a = true → ∀ Q' : VK, Q' (.bl b) H → tc σ H fun w H4 => r' y w H4 Q') (k : Q (.bl (a && b)) H) : qChain tc r' y σ Q a H := by
  unfold qChain
  cases a with
  | true => rw [if_pos rfl]; exact h rfl Q k
  | false => rw [if_neg Bool.false_ne_true]; exact k
/-- .. in general: c is the whole's answer, I holds behind it -/
theorem br_andTM {a c : Bool} {u : TT} {Q : Bool → Hp → Prop} (I : Hp → Prop) (h : a = true → ∀ Q' : Bool → Hp → Prop, (∀ H', I H' → Q' c H') → u σ H Q') (hf : a = false → c = false ∧ I H) (k : ∀ H', I H' → Q c H') : qAndT u σ Q a H := by
  unfold qAndT
  cases a with
  | true => rw [if_pos rfl]; exact h rfl Q k
  | false => rw [if_neg Bool.false_ne_true]; have := k H (hf rfl).2; rw [(hf rfl).1] at this; exact this
theorem br_orTM {a c : Bool} {u : TT} {Q : Bool → Hp → Prop} (I : Hp → Prop) (h : a = false → ∀ Q' : Bool → Hp → Prop, (∀ H', I H' → Q' c H') → u σ H Q') (hf : a = true → c = true ∧ I H) (k : ∀ H', I H' → Q c H') : qOrT u σ Q a H := by
  unfold qOrT
  cases a with
  | true => rw [if_pos rfl]; have := k H (hf rfl).2; rw [(hf rfl).1] at this; exact this
  | false => rw [if_neg Bool.false_ne_true]; exact h rfl Q k
theorem br_andVM {a c : Bool} {u : TE} (I : Hp → Prop) (h : a = true → ∀ Q' : VK, (∀ H', I H' → Q' (.bl c) H') → u σ H Q') (hf : a = false → c = false ∧ I H) (k : ∀ H', I H' → Q (.bl c) H') : qAndV u σ Q a H := by
  unfold qAndV
  cases a with
  | true => rw [if_pos rfl]; exact h rfl Q k
  | false => rw [if_neg Bool.false_ne_true]; have := k H (hf rfl).2; rw [(hf rfl).1] at this; exact this
theorem br_orVM {a c : Bool} {u : TE} (I : Hp → Prop) (h : a = false → ∀ Q' : VK, (∀ H', I H' → Q' (.bl c) H') → u σ H Q') (hf : a = true → c = true ∧ I H) (k : ∀ H', I H' → Q (.bl c) H') : qOrV u σ Q a H := by
  unfold qOrV
  cases a with
  | true => rw [if_pos rfl]; have := k H (hf rfl).2; rw [(hf rfl).1] at this; exact this
  | false => rw [if_neg Bool.false_ne_true]; exact h rfl Q k
theorem n_and {t u : TT} {Q : Bool → Hp → Prop} (h : t σ H (qAndT u σ Q)) : tAnd t u σ H Q := h
theorem n_or {t u : TT} {Q : Bool → Hp → Prop} (h : t σ H (qOrT u σ Q)) : tOr t u σ H Q := h
theorem n_not {t : TT} {Q : Bool → Hp → Prop} (h : t σ H fun c H1 => Q (!c) H1) : tNot t σ H Q := h
theorem n_tB {t : TE} {Q : Bool → Hp → Prop} (h : t σ H (qT Q)) : tB t σ H Q := h
theorem n_andV {ta tb : TE} (h : ta σ H (qT (qAndV tb σ Q))) : tAndV ta tb σ H Q := h
theorem n_orV {ta tb : TE} (h : ta σ H (qT (qOrV tb σ Q))) : tOrV ta tb σ H Q := h
theorem n_notV {ta : TE} (h : ta σ H (qT fun c H1 => Q (.bl (!c)) H1)) : tNotV ta σ H Q := h
theorem n_ifE {t : TT} {ta tb : TE} (h : t σ H (qIfE ta tb σ Q)) : tIf t ta tb σ H Q := h
theorem n_chain {r r' : R2} {ta tb tc : TE} (h : ta σ H fun x H1 => tb σ H1 fun y H2 => r x y H2 (qT (qChain tc r' y σ Q))) : tChain r r' ta tb tc σ H Q := h
theorem n_aug {te : TE} {ti : TIp} {n : Nat} (h : σ[n]? = some (some x)) (k : te σ H fun y H1 => ti x y H1 fun z H2 => nx (σ.set n (some z)) H2) : tAug n te ti ⟨nx, rt, bk, ct⟩ σ H := ⟨x, h, k⟩
theorem v_ip {f : Int → Int → Int} (k : Q (.int (f i j)) H) : ipI f (.int i) (.int j) H Q := ⟨i, j, rfl, rfl, k⟩
theorem n_sub {to ti : TE} {st : TSet} {R : L2.St → Hp → Prop} (h : to σ H fun o H1 => ti σ H1 fun i H2 => st o i v H2 fun H3 => R σ H3) : gSub to ti st v σ H R := h
def qPar (σ : L2.St) (i j : Nat) (R : L2.St → Hp → Prop) : List V → Hp → Prop := fun vs H1 => ∃ v w, vs = [v, w] ∧ R ((σ.set i (some v)).set j (some w)) H1
theorem n_par {i j : Nat} {t : TA} (h : t σ H (qPar σ i j nx)) : tPar i j t ⟨nx, rt, bk, ct⟩ σ H := h
theorem v_par {i j : Nat} {τ : L2.St} {R : L2.St → Hp → Prop} (e : (σ.set i (some v)).set j (some w) = τ) (k : R τ H) : qPar σ i j R [v, w] H := ⟨v, w, rfl, by rw [e]; exact k⟩
end
end U
set_option Elab.async false
set_option linter.all false
set_option maxRecDepth 100000
set_option maxHeartbeats 4000000
namespace U
open PySem PySem.Spec L2
section
variable {K : PySem.W.Frag} {σ σ' : L2.St} {H F H' F0 H0 : Hp} {Q : VK} {i j : Int} {x y z v w : V} {α β γ : Type} {t : Rp α} {p q : Addr} {vs us : List V} {xs zs ys : List α} {D : Ends} {W : List Addr} {o u : HO}
def catLM (xs zs : List α) : Option (List α) := need (szB (xs.length + zs.length)) (xs ++ zs)
def snocM (xs : List α) (a : α) : Option (List α) := need (decide (xs.length < 16777216)) (xs ++ [a])
theorem v_catF (hs : Sub F H) (hp : H p = some (.lst vs)) (hq : H q = some (.lst us)) (hr : Al t F vs xs) (hr' : Al t F us zs) (h : catLM xs zs = some ys)
    (k : ∀ p' us' F' H', Gr [] F H F' H' → F' p' = some (.lst us') → Al t F' us' ys → Q (.ref p') H') : rCat (.ref p) (.ref q) H Q := by
  obtain ⟨h1, rfl⟩ := need_ok h
  exact ⟨p, q, vs, us, rfl, rfl, hp, hq, by rw [al_len hr, al_len hr']; exact sz_ok h1, fun p' hp' => k p' _ _ _ (gr_newF hs hp') upd_same (Al.mono (pd_append hr hr') (Sub.up1 (hs.nn hp')))⟩
theorem v_catM (hs : Sub F H) (hp : H p = some (.lst vs)) (hq : H q = some (.lst us)) (hr : Al t F vs xs) (hr' : Al t F us zs) (h : catLM xs zs = some ys)
    (k : ∀ p' us' H', H p' = none → Gr [] F H F H' → F p' = none → H' p' = some (.lst us') → Al t F us' ys → Q (.ref p') H') : rCat (.ref p) (.ref q) H Q := by
  obtain ⟨h1, rfl⟩ := need_ok h
  exact ⟨p, q, vs, us, rfl, rfl, hp, hq, by rw [al_len hr, al_len hr']; exact sz_ok h1, fun p' hp' => k p' _ _ hp' (gr_newM hs hp') (hs.nn hp') upd_same (pd_append hr hr')⟩
theorem pd_rep {n : Nat} (hr : Al t F vs xs) : Al t F (List.replicate n vs).flatten (repL xs n) := by
  unfold repL
  induction n with
  | zero => exact .nil
  | succ n ih => rw [List.replicate_succ, List.replicate_succ, List.flatten_cons, List.flatten_cons]; exact pd_append hr ih
theorem v_repF (hs : Sub F H) (hp : H p = some (.lst vs)) (hr : Al t F vs xs) (h : repM xs i = some ys)
    (k : ∀ p' us' F' H', Gr [] F H F' H' → F' p' = some (.lst us') → Al t F' us' ys → Q (.ref p') H') : rRep (.ref p) (.int i) H Q := by
  obtain ⟨h1, rfl⟩ := need_ok h
  rw [Bool.and_eq_true] at h1
  have h2 := of_decide_eq_true h1.1
  exact ⟨p, i, vs, rfl, rfl, hp, h2.1, h2.2, by rw [al_len hr]; exact sz_ok h1.2, fun p' hp' => k p' _ _ _ (gr_newF hs hp') upd_same (Al.mono (pd_rep hr) (Sub.up1 (hs.nn hp')))⟩
theorem v_repM (hs : Sub F H) (hp : H p = some (.lst vs)) (hr : Al t F vs xs) (h : repM xs i = some ys)
    (k : ∀ p' us' H', H p' = none → Gr [] F H F H' → F p' = none → H' p' = some (.lst us') → Al t F us' ys → Q (.ref p') H') : rRep (.ref p) (.int i) H Q := by
  obtain ⟨h1, rfl⟩ := need_ok h
  rw [Bool.and_eq_true] at h1
  have h2 := of_decide_eq_true h1.1
  exact ⟨p, i, vs, rfl, rfl, hp, h2.1, h2.2, by rw [al_len hr]; exact sz_ok h1.2, fun p' hp' => k p' _ _ hp' (gr_newM hs hp') (hs.nn hp') upd_same (pd_rep hr)⟩
theorem v_slLF {lo hi : Option Int} (hs : Sub F H) (hq : SqL K H p vs) (hr : Al t F vs xs) (k : ∀ p' us' F' H', Gr [] F H F' H' → F' p' = some (.lst us') → Al t F' us' (cutL xs lo hi) → Q (.ref p') H') : rSlL K (.ref p) lo hi H Q :=
  ⟨p, vs, rfl, hq, fun p' hp' => k p' _ _ _ (gr_newF hs hp') upd_same (Al.mono (cut_al hr) (Sub.up1 (hs.nn hp')))⟩
theorem v_slLM {lo hi : Option Int} (hs : Sub F H) (hq : SqL K H p vs) (hr : Al t F vs xs) (k : ∀ p' us' H', H p' = none → Gr [] F H F H' → F p' = none → H' p' = some (.lst us') → Al t F us' (cutL xs lo hi) → Q (.ref p') H') : rSlL K (.ref p) lo hi H Q :=
  ⟨p, vs, rfl, hq, fun p' hp' => k p' _ _ hp' (gr_newM hs hp') (hs.nn hp') upd_same (cut_al hr)⟩
theorem v_ixQ {ns : List Int} {a : Int} (hs : Sub F H) (hr : (eQ K).r F x ns) (h : atI ns i = some a) (k : Q (.int a) H) : rIxL K x (.int i) H Q := by
  obtain ⟨p, rfl, hq⟩ := hr
  obtain ⟨v, e, r⟩ := al_at (al_ofint (F := F) ns) h
  have r' : v = .int a := r
  subst r'
  exact ⟨p, _, i, _, rfl, rfl, hs.l hq, e, k⟩
theorem v_lenQ {ns : List Int} (hs : Sub F H) (hr : (eQ K).r F x ns) (k : Q (.int (ns.length : Int)) H) : qLen K [x] H Q := by
  obtain ⟨p, rfl, hq⟩ := hr
  exact ⟨p, _, rfl, .inl (hs.l hq), by rw [List.length_map]; exact k⟩
theorem snoc_lt {a : α} (hr : Al t F vs xs) (h : snocM xs a = some ys) : vs.length < sizeLine := by
  obtain ⟨h1, _⟩ := need_ok h
  rw [al_len hr, sizeLine_eq]; exact of_decide_eq_true h1
theorem app_ok {a : α} (g : Gr W F0 H0 F H) (m : Mu W H0 F H p (.lst vs)) (hr : Al t F vs xs) (h : snocM xs a = some ys) (ha : t.r F y a) :
    ∃ vs' H', Gr W F0 H0 F H' ∧ Al t F vs' ys ∧ vs' = vs ++ [y] ∧ H' = upd H p (.lst vs') := by
  obtain ⟨_, rfl⟩ := need_ok h
  exact ⟨_, _, m.gr g, pd_snoc hr ha, rfl, rfl⟩
theorem cat_le (hr : Al t F vs xs) (hr' : Al t F us zs) (h : catLM xs zs = some ys) : vs.length + us.length ≤ sizeLine := by
  obtain ⟨h1, _⟩ := need_ok h
  rw [al_len hr, al_len hr']; exact sz_ok h1
theorem ext_ok (g : Gr W F0 H0 F H) (m : Mu W H0 F H p (.lst vs)) (hr : Al t F vs xs) (hr' : Al t F us zs) (h : catLM xs zs = some ys) :
    ∃ vs' H', Gr W F0 H0 F H' ∧ Al t F vs' ys ∧ vs' = vs ++ us ∧ H' = upd H p (.lst vs') := by
  obtain ⟨_, rfl⟩ := need_ok h
  exact ⟨_, _, m.gr g, pd_append hr hr', rfl, rfl⟩
theorem pop_ok (g : Gr W F0 H0 F H) (m : Mu W H0 F H p (.lst vs)) : ∃ vs' H', Gr W F0 H0 F H' ∧ vs' = vs.dropLast ∧ H' = upd H p (.lst vs') := ⟨_, _, m.gr g, rfl, rfl⟩
theorem st_ok (g : Gr W F0 H0 F H) (m : Mu W H0 F H p o) (us : List V) : ∃ vs' H', Gr W F0 H0 F H' ∧ vs' = us ∧ H' = upd H p (.lst vs') := ⟨_, _, m.gr g, rfl, rfl⟩
theorem mu_self (m : Mu W H0 F H p o) (e : H' = upd H p u) : Mu W H0 F H' p u := by subst e; exact m.self
theorem mu_oth (m : Mu W H0 F H q o) (ne : q ≠ p) (e : H' = upd H p u) : Mu W H0 F H' q o := by subst e; exact m.mut ne
theorem freeze (g : Gr W F0 H0 F H) (m : Mu W H0 F H p o) (h0 : H0 p = none) : ∃ F', F' p = some o ∧ Sub F F' ∧ Gr W F0 H0 F' H ∧ (∀ q u, q ≠ p → Mu W H0 F H q u → Mu W H0 F' H q u) :=
  ⟨upd F p o, upd_same, Sub.up1 m.fr, g.frz m.fr m.hp h0, fun _ _ ne m' => m'.frz ne⟩
theorem wipe_to {ws : List Nat} {g : TG} {R : L2.St → Hp → Prop} (e : wipe σ ws = σ') (k : g x σ' H R) : g x (wipe σ ws) H R := by rw [e]; exact k
theorem set_to {n : Nat} {R : L2.St → Hp → Prop} {v : Option V} (e : σ.set n v = σ') (k : R σ' H) : R (σ.set n v) H := by rw [e]; exact k
theorem n_cutI {b : Bool} {ta tb : TE} (x : Int) (h : ∀ Q' : VK, Q' (.int x) H → qIfE ta tb σ Q' b H) (k : Q (.int x) H) : qIfE ta tb σ Q b H := h Q k
theorem n_cutB {b : Bool} {ta tb : TE} (x : Bool) (h : ∀ Q' : VK, Q' (.bl x) H → qIfE ta tb σ Q' b H) (k : Q (.bl x) H) : qIfE ta tb σ Q b H := h Q k
theorem n_cutS {b : Bool} {ta tb : TE} (x : Sg) (h : ∀ Q' : VK, (x.length ≤ sizeLine → Q' (.str (S x)) H) → qIfE ta tb σ Q' b H) (k : x.length ≤ sizeLine → Q (.str (S x)) H) : qIfE ta tb σ Q b H := h Q k
def thenF {σ ρ β : Type} (z : Fl σ ρ) (k : σ → Option β) (e : ρ → Option β) : Option β := match z with
  | .nx s => k s
  | .rt r => e r
theorem thenF_nx {σ ρ β : Type} {s : σ} {k : σ → Option β} {e : ρ → Option β} {b : Option β} (h : thenF (.nx s) k e = b) : k s = b := h
theorem thenF_rt {σ ρ β : Type} {z : Fl σ ρ} {r : ρ} {k : σ → Option β} {e : ρ → Option β} {b : Option β} (hz : z = .rt r) (h : thenF z k e = b) : e r = b := by subst hz; exact h
theorem n_yes {R : Bool → Hp → Prop} {A B : Prop} (k : A) (e : R true H = (if true = true then A else B)) : tYes σ H R := by show R true H; rw [e, if_pos rfl]; exact k
theorem nin1 {a p : Addr} (h : a ≠ p) : a ∉ [p] := by simp [h]
theorem nin2 {a p q : Addr} (h : a ≠ p) (h' : a ≠ q) : a ∉ [p, q] := by simp [h, h']
end
/-- a def of the text -/
abbrev FnP (K : PySem.W.Frag) (x : Str) (st : Stmt) (f : Addr) (fd : FuncData) : Prop := FunD K x x (defArgs st) (defBody st) (defScope st) [] [] f fd
theorem c_isi {X : Cx} {K : PySem.W.Frag} (hK : X.K = K) : CallR X (.builtin "isinstance") (rIsi K) := by subst hK; exact call_isi
section
variable {X : Cx} {K : PySem.W.Frag} {name id T : String} {o e : Expr} {es : List Expr} {to : TE} {t : TA} {apos pos : Pos} {nm : Str} {r : V → List V → Hp → VK → Prop}
theorem c_bm {cpos : Pos} (hK : X.K = K) (pa : PlainAttrs T) (slot : Slot T name id) (hty : typeOf (.builtin id) = pure (.type "method_descriptor")) (hm : MtR X id r) (ho : PE X o to) (ha : PA X (e :: es) t)
    (h1 : attributeBase o name X.env (eval o X.env) = eval o X.env := by rfl)
    (h2 : (((((backTo cpos (starEach (e :: es) X.env)).all fun x => !x.fst) && (backToKw cpos (keywordEach [] X.env)).all fun x => x.fst.isSome) && decide (((e :: es).length + ([] : List Keyword).length + if ([] : List Keyword).isEmpty = true then 0 else 1) < 30)) = true) := by rfl)
    (h3 : (apos.endLine == cpos.line) = true := by rfl) (h4 : starEach (e :: es) X.env = (false, eval e X.env) :: starEach es X.env := by rfl) (h5 : ((backTo cpos (starEach es X.env)).any fun x => x.fst) = false := by rfl) :
    PE X (.Call (.Attribute o name apos) (e :: es) [] cpos) (tBM K T r to t) := by subst hK; exact pe_bm pa slot hty hm ho ha h1 h2 h3 h4 h5
theorem c_bm0 {cpos : Pos} (hK : X.K = K) (pa : PlainAttrs T) (slot : Slot T name id) (hty : typeOf (.builtin id) = pure (.type "method_descriptor")) (hm : MtR X id r) (ho : PE X o to)
    (h1 : attributeBase o name X.env (eval o X.env) = eval o X.env := by rfl) (h3 : (apos.endLine == cpos.line) = true := by rfl) :
    PE X (.Call (.Attribute o name apos) [] [] cpos) (tBM0 K T r to) := by subst hK; exact pe_bm0 pa slot hty hm ho h1 h3
end
def Has (P : Program) (w : World) (K : PySem.W.Frag) (mg : Str → Option Value) (base : Heap) (x : Str) (ps : List Str) (k : Nat) (sp : Sp) : Prop :=
  ∃ f fd, FnOk P w K mg base CX0 k f fd ps sp ∧ mg x = some (.ref f) ∧ PySem.W.keepIn K (.ref f) = true ∧ Binds K fd ps []
end U
namespace U
open PySem PySem.Spec L2
theorem bo_len : bootBuiltins "len" = some (.builtin "len") := by decide +kernel
theorem bo_max : bootBuiltins "max" = some (.builtin "max") := by decide +kernel
theorem bo_min : bootBuiltins "min" = some (.builtin "min") := by decide +kernel
theorem bo_sum : bootBuiltins "sum" = some (.builtin "sum") := by decide +kernel
theorem bo_all : bootBuiltins "all" = some (.builtin "all") := by decide +kernel
theorem bo_any : bootBuiltins "any" = some (.builtin "any") := by decide +kernel
theorem bo_sorted : bootBuiltins "sorted" = some (.builtin "sorted") := by decide +kernel
theorem bo_repr : bootBuiltins "repr" = some (.builtin "repr") := by decide +kernel
theorem bo_isinstance : bootBuiltins "isinstance" = some (.builtin "isinstance") := by decide +kernel
theorem bo_int : bootBuiltins "int" = some (.type "int") := by decide +kernel
theorem bo_bool : bootBuiltins "bool" = some (.type "bool") := by decide +kernel
theorem bo_str : bootBuiltins "str" = some (.type "str") := by decide +kernel
theorem bo_tuple : bootBuiltins "tuple" = some (.type "tuple") := by decide +kernel
theorem bo_list : bootBuiltins "list" = some (.type "list") := by decide +kernel
theorem bo_dict : bootBuiltins "dict" = some (.type "dict") := by decide +kernel
theorem bo_set : bootBuiltins "set" = some (.type "set") := by decide +kernel
theorem bo_type : bootBuiltins "type" = some (.type "type") := by decide +kernel
section
variable {K : PySem.W.Frag} {H F : Hp} {Q : VK} {x : V} {T U : String} {b : Bool}
theorem v_isi (ty : TyX K H x (.type T)) (h : kitB T U = some b) (k : Q (.bl b) H) : rIsi K [x, .ty U] H Q := ⟨x, .ty U, _, _, b, rfl, .ty U, ty, kit_ty h, k⟩
theorem ty_frz {α β : Type} {ta : Rp α} {tb : Rp β} {m : α × β} (hs : Sub F H) (h : (eP2 ta tb).r F x m) : TyX K H x (.type "tuple") := by
  obtain ⟨p, y, z, rfl, q, _⟩ := h
  exact .base (.tup (hs _ _ q))
theorem ty_frz3 {α β γ : Type} {ta : Rp α} {tb : Rp β} {tc : Rp γ} {m : α × β × γ} (hs : Sub F H) (h : (eP3 ta tb tc).r F x m) : TyX K H x (.type "tuple") := by
  obtain ⟨p, y, z, w, rfl, q, _⟩ := h
  exact .base (.tup (hs _ _ q))
theorem ty_vt {α : Type} {ta : Rp α} {m : List α} (hs : Sub F H) (h : (eT ta).r F x m) : TyX K H x (.type "tuple") := by
  obtain ⟨p, vs, rfl, q, _⟩ := h
  exact .base (.tup (hs _ _ q))
theorem ty_list {α : Type} {ta : Rp α} {m : List α} (hs : Sub F H) (h : (eL ta).r F x m) : TyX K H x (.type "list") := by
  obtain ⟨p, vs, rfl, q, _⟩ := h
  exact .base (.lst (hs _ _ q))
end
end U
set_option Elab.async false
set_option linter.all false
set_option maxRecDepth 100000
set_option maxHeartbeats 4000000
namespace U
open PySem PySem.Spec PyProof.Rows L2
/-! ### defs that are called where no repr is under way (a repr within a def asks it) -/
structure FnG (P : Program) (w : World) (K : PySem.W.Frag) (mg : Str → Option Value) (base : Heap) (CX : CXT) (k : Nat) (f : Addr) (fd : FuncData) (ps : List Str) (sp : Sp) : Prop where
  len : ∀ vs H Q E, sp vs H Q E → vs.length = ps.length
  go : ∀ (A : Around) (out : List Env) (s : Shared) (H : Hp) (as : Args) (us : List Value) (vs : List V) (Q : VK) (E : XK), A.guards = some [] → Room k A → Env0 P w K mg base A out s H → BindsTo s fd as (ps.zip us) → Vals vs us →
    sp vs H Q E → codeAny (model P w) A (.call (.ref f) as) (CR CX out P w H s Q E) s
section
variable {P : Program} {w : World} {K : PySem.W.Frag} {mg : Str → Option Value} {base : Heap} {CX : CXT} {k : Nat} {f : Addr} {fd : FuncData} {ps N : List Str} {sp : Sp}
theorem FnG.mono {j : Nat} (G : FnG P w K mg base CX j f fd ps sp) (h : j ≤ k) : FnG P w K mg base CX k f fd ps sp :=
  ⟨G.len, fun A out s H as us vs Q E g hr => G.go A out s H as us vs Q E g (hr.mono h)⟩
theorem FnG.ofOk (F : FnOk P w K mg base CX k f fd ps sp) : FnG P w K mg base CX k f fd ps sp := ⟨F.len, fun A out s H as us vs Q E _ => F.run A out s H as us vs Q E⟩
/-- a def's body -/
theorem body_ok {nm qual : Str} {params : Arguments} {body : List Stmt} {scope : Scope} {dV kV doc pm cdv ct oc : Value} {an od : Option Addr} {osl : Array (Option Value)}
    (lk : K.lookup f = some ⟨oc, od, .func (PySem.W.fnOf nm qual params body scope dV kV doc pm an cdv ct), osl⟩) (hc : PySem.W.codeIn K cdv qual = true) (S : FnScope N ps scope) (hl : ∀ vs H Q E, sp vs H Q E → vs.length = ps.length)
    (hb : ∀ (A : Around) (out : List Env) (s : Shared) (H : Hp) (vs : List V) (Q : VK) (E : XK), A.guards = some [] → Room k (A.deeper (PyProof.Rows.envOfC qual scope s.heap.objs.size f cdv)) → sp vs H Q E →
      ∃ t, PSs (cxOf CX P w K mg base N qual scope f cdv A out s H E) body t ∧ t { nx := fun _ H' => Q .non H', rt := Q } (start N vs) H) :
    FnG P w K mg base CX (k + 1) f (PySem.W.fnOf nm qual params body scope dV kV doc pm an cdv ct) ps sp where
  len := hl
  go := fun A out s H as us vs Q E g hr e0 hbt rv hsp => by
    have kin : K.In s.heap := e0.mod.kin.keeps fun b o e => (e0.bs b o e).1
    have nol : s.heap.NoLimit := e0.mod.nolimit.keeps fun b o e => (e0.bs b o e).1
    have hs : ∀ y ∈ ps.zip us, scope.names.lookup y.1 = some .local ∨ (scope.names.lookup y.1 = some .cell ∧ ((cellsFrom (s.heap.objs.size + 1) scope.names []).lookup y.1).isSome = true) := by
      intro y hy
      rcases S.par y.1 (List.of_mem_zip (a := y.1) (b := y.2) hy).1 with h | h
      · exact .inl h
      · exact .inr ⟨h, PySem.W.cellsFrom_some _ _ _ (.inl h)⟩
    refine codeAny_call_function hr.depth (kin _ _ lk) rfl S.co S.gen rfl (PySem.W.codeRec_of kin hc) (hbt _ _ _ _ ?_)
    refine wpAny_newFunctionEnv_cells S.kind hs fun env he s1 x => ?_
    subst he
    refine ⟨nol.keeps x.toInCall.keep, codeAny_func ?_⟩
    obtain ⟨t, ht, hq⟩ := hb A out s H vs Q E g (hr.deeper _) hsp
    have I := inv_start (CX := CX) (E := E) (cd := cdv) (qual := qual) (f := f) S hr.hd e0 (hl _ _ _ _ hsp) rv x
    refine wpAny_mono (ht.run [] s1 (start N vs) H _ I hq) (fun fl s2 h2 => ?_) fun _ _ h2 => h2
    have done : ∀ {τ : L2.St} {H2 : Hp} {v : V} {u : Value}, Inv (cxOf CX P w K mg base N qual scope f cdv A out s H E) [] τ H2 s2 → RelV v u → Q v H2 → CE out P w H s Q u s2 := fun J r q => ⟨_, _, J.os, J.bare, J.base, J.hok, r, q⟩
    cases fl with
    | next =>
      obtain ⟨_, _, J, q⟩ := h2
      exact done (v := V.non) (u := Value.none) J rfl q
    | ret u =>
      obtain ⟨_, _, _, J, r, q⟩ := h2
      exact done J r q
    | brk =>
      obtain ⟨_, _, _, q⟩ := h2
      exact q.elim
    | cont =>
      obtain ⟨_, _, _, q⟩ := h2
      exact q.elim
theorem FnDok {x qual : Str} {params : Arguments} {body : List Stmt} {scope : Scope} {dvs : List V} {kws : List (Str × V)} (F : FunD K x qual params body scope dvs kws f fd) (S : FnScope N ps scope) (hl : ∀ vs H Q E, sp vs H Q E → vs.length = ps.length)
    (hb : ∀ (cdv : Value) (A : Around) (out : List Env) (s : Shared) (H : Hp) (vs : List V) (Q : VK) (E : XK), A.guards = some [] → Room k (A.deeper (PyProof.Rows.envOfC qual scope s.heap.objs.size f cdv)) → sp vs H Q E →
      ∃ t, PSs (cxOf CX P w K mg base N qual scope f cdv A out s H E) body t ∧ t { nx := fun _ H' => Q .non H', rt := Q } (start N vs) H) : FnG P w K mg base CX (k + 1) f fd ps sp := by
  obtain ⟨_, _, _, _, _, _, _, cdv, _, _, rfl, lk, hc, _, _⟩ := F.ex
  exact body_ok lk hc S hl fun A out s H vs Q E g hr h => hb cdv A out s H vs Q E g hr h
end
section
variable {X : Cx} {CX : CXT} {k : Nat} {f : Addr} {fd : FuncData} {ps : List Str} {sp : Sp} {E : XK} {x : Str} {p pos : Pos} {e : Expr} {es : List Expr} {t : TA}
theorem goG {pins : List (Addr × Obj)} {σ : L2.St} {H : Hp} {s : Shared} {Q : VK} {us : List Value} {vs : List V} (G : FnG X.prog X.w X.K X.mg X.base CX k f fd ps sp) (hg : X.A.guards = some []) (hr : Room k X.A) (hb : Binds X.K fd ps []) (hx : Passes CX X E)
    (I : Inv X pins σ H s) (r : Vals vs us) (h : sp vs H Q E) : wpAny (model X.prog X.w) X.A (call (.ref f) us) (EP X pins σ Q) X.xe s := by
  have hl : (us ++ []).length = ps.length := by rw [List.append_nil, ← r.length]; exact G.len _ _ _ _ h
  have bt := hb s us I.kIn hl
  rw [List.append_nil] at bt
  refine wpAny_call (codeAny_mono (G.go X.A X.stack s H ⟨us, []⟩ us vs Q E hg hr I.env0 bt r h) fun z s2 hz => ?_)
  match z, hz with
  | .error ex, hz => exact hx pins σ H s ex s2 I hz
  | .ok (.ret u), hz => exact I.after hz
theorem pe_callG (G : FnG X.prog X.w X.K X.mg X.base CX k f fd ps sp) (hgd : X.A.guards = some []) (hr : Room k X.A) (hg : Gl X x) (hm : X.mg x = some (.ref f)) (hk : PySem.W.keepIn X.K (.ref f) = true) (hb : Binds X.K fd ps []) (hx : Passes CX X E)
    (ha : PA X (e :: es) t) (hd : (x == ("__debug__" : Str)) = false := by decide) (h1 : starEach (e :: es) X.env = (false, eval e X.env) :: starEach es X.env := by rfl) (h2 : (backTo pos (starEach es X.env)).any (·.1) = false := by rfl) :
    PE X (.Call (.Name x p) (e :: es) [] pos) (tCall sp [] E t) where
  run := fun pins s σ H Q I h => wpAny_Call_Name_kw (ld_glob I hg hm (PySem.W.callWith_K (h₀ := X.base) I.ok.mod.kin hk (thn (ha.run pos pins s σ H _ I h) fun us s1 ⟨vs, H1, I1, r, q⟩ =>
    ⟨I1.kIn, goG G hgd hr hb hx I1 r (List.append_nil vs ▸ q)⟩) h1 h2) hd)
theorem pe_callG0 (G : FnG X.prog X.w X.K X.mg X.base CX k f fd ps sp) (hgd : X.A.guards = some []) (hr : Room k X.A) (hg : Gl X x) (hm : X.mg x = some (.ref f)) (hk : PySem.W.keepIn X.K (.ref f) = true) (hb : Binds X.K fd ps []) (hx : Passes CX X E)
    (hd : (x == ("__debug__" : Str)) = false := by decide) : PE X (.Call (.Name x p) [] [] pos) (tCall sp [] E tNil) where
  run := fun pins s σ H Q I h => wpAny_Call_Name_kw (ld_glob I hg hm (PySem.W.callWith_K0 I.kIn hk (goG G hgd hr hb hx I (us := []) .nil h)) hd)
end
/-- the law's call: from its promise -/
theorem law_goG {P : Program} {w : World} {K : PySem.W.Frag} {mg mb : Str → Option Value} {k : Nat} {fa a : Addr} {fd : FuncData} {x : Str} {sp : Sp} {s1 : Shared} {vs : List Value} {ns : List Int}
    (kin : K.In s1.heap) (hns : s1.heap.Ns mainGlobals mg) (hmb : s1.heap.Ns builtinsNs mb) (hbb : ∀ x : Str, x ≠ "__name__" → mb x = bootBuiltins x) (nol : s1.heap.NoLimit) (hg : s1.gens = #[])
    (ha : s1.heap.get? a = some { cls := .type "list", data := .seq vs.toArray }) (hi : PyProof.Rows.IntsAre vs ns) (hl : ns.length ≤ sizeLine) (hr : Room k callerA)
    (G : ∀ base : Heap, K.In base → base.Ns mainGlobals mg → FnG P w K mg base CX0 k fa fd [x] sp) (hbind : ∀ (s : Shared) (u : Value), BindsTo s fd ⟨[u], []⟩ [(x, u)])
    (hsp : ∀ H : Hp, SqL K H a (ns.map V.int) → sp [.ref a] H (fun v _ => v = .bl true) fun _ _ _ => False) :
    codeAny (model P w) callerA (.call (.ref fa) ⟨[.ref a], []⟩) (fun r s2 => r = .ok (.ret (.bool true)) ∧ OldK s1.heap s2.heap ∧ s2.os = s1.os ∧ AllBare s2.gens) s1 := by
  have rv : Vals (ns.map V.int) vs := vals_ints hi
  have lv := hi.length
  -- what is tracked: the script, where K does not hold it
  have main : ∀ H : Hp, (∀ b u, H b = some u → b = a ∧ K.lookup a = none ∧ ∃ o xs, u = .frz o (.lst xs)) → SqL K H a (ns.map V.int) → HOk P w H s1.heap →
      codeAny (model P w) callerA (.call (.ref fa) ⟨[.ref a], []⟩) (fun r s2 => r = .ok (.ret (.bool true)) ∧ OldK s1.heap s2.heap ∧ s2.os = s1.os ∧ AllBare s2.gens) s1 := by
    intro H hO hS hok
    have isNone : ∀ b, (∀ u, H b ≠ some u) → H b = none := fun b h => by
      cases e : H b with
      | none => rfl
      | some u => exact absurd e (h u)
    have dictNone : ∀ {b : Addr} {o : Obj} {es : Array DictEntry} {ep : Nat}, s1.heap.get? b = some o → o.data = .dict es ep → H b = none := fun {b o es ep} e d => isNone b fun u hu => by
      obtain ⟨rfl, _⟩ := hO b u hu
      rw [ha] at e
      cases e
      exact nomatch (show Data.seq vs.toArray _ = Data.dict es ep from d)
    have nsOf : ∀ {b : Addr} {m : Str → Option Value}, s1.heap.Ns b m → (hidT s1.heap H).Ns b m := fun ⟨o, es, ep, e, d, r⟩ => ⟨o, es, ep, hidT_get e (dictNone e d), d, r⟩
    have hK : K.In (hidT s1.heap H) := fun b o e => hidT_get (kin b o e) (isNone b fun u hu => by
      obtain ⟨rfl, hn, _⟩ := hO b u hu
      rw [hn] at e
      cases e)
    obtain ⟨mc, hc1, hc2⟩ := nol
    have e0 : Env0 P w K mg (hidT s1.heap H) callerA [] s1 H :=
      { frames := rfl, mod := ⟨hK, nsOf hns, ⟨mb, nsOf hmb, hbb⟩, ⟨mc, nsOf hc1, hc2⟩⟩, bs := fun b o e => of_hidT e, bsz := Nat.le_of_eq (hidT_size _ _), funs := trivial, frf := fun b hb => (nomatch hb), hok := hok, bare := .of_eq hg }
    refine codeAny_mono ((G _ hK (nsOf hns)).go callerA [] s1 H ⟨[.ref a], []⟩ [.ref a] [.ref a] _ _ rfl hr e0 (hbind s1 (.ref a)) (.cons rfl .nil) (hsp H hS)) fun r s2 h => ?_
    match r, h with
    | .ok (.ret u), h =>
      obtain ⟨v, H2, os, bare, un, hok2, rr, q⟩ := h
      subst q
      obtain rfl : u = Value.bool true := rr
      refine ⟨rfl, OldK.of_keep fun b o e => ?_, os, bare⟩
      cases hb : H b with
      | none => exact un.keep b o e hb (fun z => nomatch z) (fun z => nomatch z)
      | some u =>
        obtain ⟨_, _, ob, xs, rfl⟩ := hO b u hb
        obtain ⟨e1, _⟩ := hok b _ hb
        obtain ⟨e2, _⟩ := hok2 b _ (un.frzs b ob _ hb)
        rw [e1] at e
        cases e
        exact e2
  cases hk : K.lookup a with
  | none =>
    refine main (upd (fun _ => none) a (.frz { cls := .type "list", data := .seq vs.toArray } (.lst (ns.map V.int)))) (fun b u hb => ?_) (.inl (.inr ⟨_, upd_same⟩)) fun b u hb => ?_
    · by_cases h : b = a
      · subst h
        rw [upd_same] at hb
        exact ⟨rfl, hk, _, _, (Option.some.inj hb).symm⟩
      · rw [upd_ne h] at hb
        cases hb
    · by_cases h : b = a
      · subst h
        rw [upd_same] at hb
        cases hb
        exact ⟨ha, by rw [List.length_map]; exact hl, vs, _, rv, ha⟩
      · rw [upd_ne h] at hb
        cases hb
  | some o =>
    have e := kin a o hk
    rw [ha] at e
    cases e
    exact main (fun _ => none) (fun b u hb => nomatch hb) (.inr ⟨_, vs.toArray, _, hk, rfl, rfl, rfl, by rw [List.size_toArray, lv]; exact hl, by simpa using rv⟩) fun b u hb => nomatch hb
theorem walkG {l : PySem.W.OpenLaw} {n k : Nat} {q : Program} {loose : List Str} {XP : (Str → Option Value) → Heap → Prop} {YP : World → Heap → Prop} {d : DefRec} {x : Str}
    (hn : l.most = some n) (hn2 : n ≤ sizeLine) (hdf : d.params.defaults = []) (hr : Room k callerA)
    (F : ∀ (w : World) (mg : Str → Option Value) (fa : Addr) (h : Heap), YP w h → h.Ns mainGlobals mg → mg d.name = some (.ref fa) →
      ∃ (K : PySem.W.Frag) (fd : FuncData) (sp : Sp), K.In h ∧ (∀ (s : Shared) (u : Value), BindsTo s fd ⟨[u], []⟩ [(x, u)]) ∧
        (∀ (H : Hp) (a : Addr) (ns : List Int), ns.length ≤ n → SqL K H a (ns.map V.int) → sp [.ref a] H (fun v _ => v = .bl true) fun _ _ _ => False) ∧
        ∀ base : Heap, K.In base → base.Ns mainGlobals mg → FnG l.prog w K mg base CX0 k fa fd [x] sp) :
    PySem.W.WalkO q loose XP YP l.row.toRowW d [] (fun f vs => PySem.call f vs) :=
  Att.attach_call hn hdf fun w s0 s1 mg mb fa o pm cd doc a vs ns Gd Y ho hd hcd hmg hobj hints hlen hg => by
    obtain ⟨K, fd, sp, kin, hb, hsp, hF⟩ := F w mg fa _ Y Gd.T.g hmg
    exact law_goG kin Gd.T.g Gd.T.b Gd.T.builtins Gd.T.nolimit hg hobj hints (Nat.le_trans hlen hn2) hr hF hb fun H hS => hsp H a ns hlen hS
def HasG (P : Program) (w : World) (K : PySem.W.Frag) (mg : Str → Option Value) (base : Heap) (x : Str) (ps : List Str) (k : Nat) (sp : Sp) : Prop :=
  ∃ f fd, FnG P w K mg base CX0 k f fd ps sp ∧ mg x = some (.ref f) ∧ PySem.W.keepIn K (.ref f) = true ∧ Binds K fd ps []
end U
set_option Elab.async false
set_option linter.all false
set_option maxRecDepth 100000
set_option maxHeartbeats 4000000
namespace U
open PySem PySem.Spec L2 PyProof.Rows
open Sem (wp)
/-! ### enumerate and zip over lists, tuples, texts -/
/-- the new enumerate's record -/
abbrev enO (it : Addr) : Obj := { cls := .type "enumerate", data := .fields #[.none, .bool false, .ref it, rawInt 0, .none, .none] }
theorem mt_en1 {v : Value} {o : Obj} {Hh : Heap → Prop} (B : Begins v o Hh) : Meets (Builtin.«enumerate.__new__» ⟨[.type "enumerate", v], []⟩)
    (fun _ R s => Hh s.heap ∧ R (.ok (.ret (.ref (s.heap.push o).objs.size))) { s with heap := (s.heap.push o).push (enO s.heap.objs.size) }) :=
  .of_wp fun P w A R s ⟨hh, kk⟩ => by
    obtain ⟨hp, gs, dr, tk, os⟩ := s
    have sb := sub_enumerate
    have it1 : ∀ {A' : Around} {E Q : Value → Shared → Prop}, Q (.ref hp.objs.size) ⟨hp.push o, gs, dr, tk, os⟩ → wpAny (model P w) A' (pyIter v) Q E ⟨hp, gs, dr, tk, os⟩ := fun q => B.iter P w _ _ ⟨hp, gs, dr, tk, os⟩ _ hh q
    wp_walk using it1
    refine wpAny_stack_any fun st => wpAny_pure ?_
    split
    · rename_i c _ _ _ _ _
      cases (c == Value.type "enumerate") <;> (wp_walk using it1; exact ⟨_, rfl, kk⟩)
    · wp_walk using it1
      exact ⟨_, rfl, kk⟩
theorem call_en1 {P : Program} {w : World} {A : Around} {E Q : Value → Shared → Prop} {s : Shared} {v : Value} {o : Obj} {Hh : Heap → Prop} (B : Begins v o Hh) (hh : Hh s.heap)
    (k : ∀ h', IsEnum h' (s.heap.objs.size + 1) s.heap.objs.size 0 .none → h'.get? s.heap.objs.size = some o → (∀ b u, s.heap.get? b = some u → h'.get? b = some u) → Q (.ref (s.heap.objs.size + 1)) { s with heap := h' }) :
    wpAny (model P w) A (call (.type "enumerate") [v]) Q E s := by
  have z1 : (s.heap.push o).objs.size = s.heap.objs.size + 1 := Heap.size_push ..
  refine callType_new F.called_enumerate (by decide) (F.typeCall_enumerate_1 _) (F.newCall_enumerate_1 _) (fun obj => F.args_object_init_2 obj _) F.entry_enumerate_new (mt_en1 B) ⟨hh, ?_⟩
  show _ ∧ _
  rw [z1]
  have e1 : ((s.heap.push o).push (enO s.heap.objs.size)).get? (s.heap.objs.size + 1) = some (enO s.heap.objs.size) := by
    have q := Heap.get?_push_size (s.heap.push o) (o := enO s.heap.objs.size) rfl
    rw [z1] at q; exact q
  exact ⟨⟨_, e1, rfl⟩, k _ e1 (Heap.get?_push_of_some _ (Heap.get?_push_size _ B.free)) fun b u x => Heap.get?_push_of_some _ (Heap.get?_push_of_some _ x)⟩
/-- what is walked by one of these -/
inductive Sk where
  | l (a : Addr)
  | t (a : Addr)
  | s (x : Str)
def Sk.va : Sk → V
  | .l a => .ref a
  | .t a => .ref a
  | .s x => .str x
def sgV (x : Str) : List V := x.cps.toList.map fun c => V.str ⟨#[c]⟩
def Sk.on (K : PySem.W.Frag) (H : Hp) : Sk → List V → Prop
  | .l a, xs => SqL K H a xs
  | .t a, xs => SqT K H a xs
  | .s x, xs => xs = sgV x
def Sk.low (n : Nat) : Sk → Prop
  | .l a => a < n
  | .t a => a < n
  | .s _ => True
def Sk.itr (it : Addr) (i : Nat) (h : Heap) : Sk → Prop
  | .l a => h.IsListIter it a i
  | .t a => h.IsTupleIter it a i
  | .s x => ∃ t, h.IsStrIter it (strIterType x) x t i
theorem Sk.itr_obj {it : Addr} {i : Nat} {h : Heap} {k : Sk} (st : k.itr it i h) : ∃ o, h.get? it = some o ∧ ∀ v, o.data ≠ .cell v := by
  cases k with
  | l a => obtain ⟨o, e, _, d⟩ := st; exact ⟨o, e, fun v z => by rw [d] at z; cases z⟩
  | t a => obtain ⟨o, e, _, d⟩ := st; exact ⟨o, e, fun v z => by rw [d] at z; cases z⟩
  | s x => obtain ⟨t, o, e, _, d⟩ := st; exact ⟨o, e, fun v z => by rw [d] at z; cases z⟩
theorem Sk.itr_keep {it : Addr} {i : Nat} {h h' : Heap} {k : Sk} (st : k.itr it i h) (hk : ∀ o, h.get? it = some o → h'.get? it = some o) : k.itr it i h' := by
  cases k with
  | l a => exact st.at hk
  | t a => exact st.at hk
  | s x => obtain ⟨t, o, e, c, d⟩ := st; exact ⟨t, o, hk o e, c, d⟩
section
variable {X : Cx} {pins : List (Addr × Obj)} {σ : L2.St} {H : Hp} {s : Shared}
theorem vals_get {xs : List V} {us : List Value} {j : Nat} {u : Value} (r : Vals xs us) (h : us[j]? = some u) : ∃ x, xs[j]? = some x ∧ RelV x u := by
  induction r generalizing j with
  | nil => simp at h
  | cons r _ ih =>
    cases j with
    | zero => simp at h; subst h; exact ⟨_, rfl, r⟩
    | succ j => exact ih (by simpa using h)
theorem Sk.draw {k : Sk} {xs : List V} {N : Nat} {it : Addr} {i : Nat} (I : Inv X pins σ H s) (hh : X.A.handled = none) (on : k.on X.K H xs) (lo : k.low N) (hN : N ≤ it) (st : k.itr it i s.heap) :
    ∃ (fp : List Addr) (P : Nat → Value → Prop) (T : Nat → Heap → Prop), Draws X.prog X.w X.A.in1 it (it :: fp) xs.length P T ∧ T i s.heap ∧ (∀ j h', T j h' → k.itr it j h') ∧ (∀ j v, P j v → ∃ x, xs[j]? = some x ∧ RelV x v) ∧ ∀ b ∈ fp, b < N := by
  cases k with
  | l a =>
    obtain ⟨its, rv, p, _⟩ := I.list on
    have lo' : a < N := lo
    have hl : its.toArray.size = xs.length := by rw [List.size_toArray]; exact rv.length.symm
    have D := Draws.list (prog := X.prog) (w := X.w) (A := X.A.in1) hh it a (Nat.ne_of_lt (Nat.lt_of_lt_of_le lo' hN)) its.toArray
    rw [hl] at D
    exact ⟨[a], _, _, D, ⟨st, p.isList⟩, fun j h' z => z.1, fun j v z => vals_get rv (by simpa using z), fun b hb => by rw [List.mem_singleton.mp hb]; exact lo'⟩
  | t a =>
    obtain ⟨its, rv, p, _⟩ := I.tuple on
    have lo' : a < N := lo
    have hl : its.toArray.size = xs.length := by rw [List.size_toArray]; exact rv.length.symm
    have D := Draws.tuple (prog := X.prog) (w := X.w) (A := X.A.in1) hh it a (Nat.ne_of_lt (Nat.lt_of_lt_of_le lo' hN)) its.toArray
    rw [hl] at D
    exact ⟨[a], _, _, D, ⟨st, show s.heap.IsTuple a its.toArray from p⟩, fun j h' z => z.1, fun j v z => vals_get rv (by simpa using z), fun b hb => by rw [List.mem_singleton.mp hb]; exact lo'⟩
  | s x =>
    obtain ⟨t, st⟩ := st
    have e : xs = sgV x := on
    subst e
    have D := Draws.text (prog := X.prog) (w := X.w) (A := X.A.in1) hh it x t
    have hl : x.cps.size = (sgV x).length := by simp [sgV]
    rw [hl] at D
    refine ⟨[], _, _, D, st, fun j h' z => ⟨t, z⟩, fun j v z => ?_, fun b hb => by cases hb⟩
    obtain ⟨c, u, hc, rfl⟩ := z
    refine ⟨.str ⟨#[c]⟩, ?_, u, rfl⟩
    unfold sgV
    rw [List.getElem?_map]
    have : x.cps.toList[j]? = some c := by simpa using hc
    rw [this]; rfl
/-- one new tuple is drawn -/
theorem wt_item {I0 : Addr} {fp wr : List Addr} {n i : Nat} {Pt : Nat → Array Value → Prop} {T : Nat → Heap → Prop} {Mid : Nat → Addr → Heap → Prop} {elts : List Expr} {kk : Nat} {tpos : Pos} {E : Value → Shared → Prop} {Y : List V → Prop}
    (W : WalksT X.prog X.w X.A I0 fp wr n Pt T Mid) (I : Inv X pins σ H s) (hf : ∀ b ∈ wr, FpOk X pins H b) (hw : ∀ b ∈ wr, b < s.heap.objs.size) (hi : i < n) (st : T i s.heap)
    (hP : ∀ vals, Pt i vals → ∃ (xs : List V) (us : List Value), vals = us.toArray ∧ Vals xs us ∧ xs.length ≤ sizeLine ∧ Y xs) :
    wpAny (model X.prog X.w) X.A (pyNext (.ref I0)) (fun r s1 => ∃ u, r = some u ∧ wpAny (model X.prog X.w) X.A (letOwnedTupleGo (.Tuple elts kk tpos) (.ref I0) u)
      (fun _ s2 => ∃ x H', Inv X pins σ H' s2 ∧ RelV x u ∧ (∃ q xs, x = .ref q ∧ s.heap.objs.size ≤ q ∧ H q = none ∧ H' = upd H q (.tup xs) ∧ Y xs) ∧ T (i + 1) s2.heap ∧ ∀ b ∈ wr, H' b = none) E s1) E s := by
  refine W.item i s _ _ hi st fun q vals h1 tk hv hq hT hM k1 => ⟨_, rfl, W.go _ _ _ i q _ _ _ hM fun h2 s2 k2 => ?_⟩
  obtain ⟨xs, us, rfl, rv, hz, y⟩ := hP vals hv
  have hqw := W.apart i q _ hM
  obtain ⟨o, ho, hc, m, hd⟩ := hT
  have new : ObjOk X.prog X.w (upd H q (.tup xs)) h2 q (.tup xs) := ⟨hz, us, rv, ⟨o, k2 q o hqw ho, hc, m, hd⟩⟩
  have I1 : Inv X pins σ (upd H q (.tup xs)) { s with heap := h2, toks := tk } := I.turnedNew (ch := wr) (fun b u hb e => k2 b u hb (k1 b u hb e)) hf hq new
  refine ⟨.ref q, _, I1, rfl, ⟨q, xs, rfl, hq, I.hok.fresh hq, rfl, y⟩, s2, fun b hb => ?_⟩
  rw [upd_ne (Nat.ne_of_lt (Nat.lt_of_lt_of_le (hw b hb) hq))]
  exact (hf b hb).1
end
/-! enumerate -/
def Jen (K : PySem.W.Frag) (k : Sk) (xs : List V) : It :=
  ⟨fun i H => i < xs.length ∧ k.on K H xs, fun i H v H' => ∃ q ys, v = .ref q ∧ H q = none ∧ H' = upd H q (.tup ys) ∧ ∃ x, ys = [.int (i : Nat), x] ∧ xs[i]? = some x, fun i H => xs.length ≤ i ∧ k.on K H xs⟩
theorem turn_en {P : Program} {w : World} {K : PySem.W.Frag} {elts : List Expr} {kk : Nat} {tpos : Pos} {k : Sk} {xs : List V} {N : Nat} (lo : k.low N) :
    Turn P w K (.Tuple elts kk tpos) (Jen K k xs) [N + 1, N] (N + 1) (fun i h => i ≤ xs.length ∧ (∃ old, IsEnum h (N + 1) N ((i : Nat) : Int) old) ∧ k.itr N i h) where
  mem := by simp
  obj := fun i h ⟨_, ⟨old, he⟩, st⟩ b hb => by
    have e : b = N + 1 ∨ b = N := by simpa using hb
    rcases e with rfl | rfl
    · exact ⟨_, he, fun v q => nomatch q⟩
    · exact (Sk.itr_obj st)
  keep := fun i h h' ⟨hi, ⟨old, he⟩, st⟩ hk => ⟨hi, ⟨old, hk _ (by simp) _ he⟩, Sk.itr_keep st (hk N (by simp))⟩
  item := by
    intro X hP hw hK hc i pins s σ H E I hf ⟨hi, he, st⟩ ⟨hlt, on⟩
    subst hP hw hK
    obtain ⟨fp, Pp, T, D, t0, t1, t2, t3⟩ := Sk.draw I (I.ok.hd hc) on lo (Nat.le_refl N) st
    have W := WalksT.enumerateD D (N + 1) (Nat.succ_ne_self N) (fun hm => by
      rcases List.mem_cons.mp hm with e | e
      · exact Nat.succ_ne_self N e
      · exact absurd (t3 _ e) (Nat.not_lt.mpr (Nat.le_succ N))) (by simp)
    have hl : ∀ b ∈ [N + 1, N], b < s.heap.objs.size := fun b hb => by
      have e : b = N + 1 ∨ b = N := by simpa using hb
      rcases e with rfl | rfl
      · obtain ⟨old, he⟩ := he; exact Heap.lt_size he
      · obtain ⟨o, e, _⟩ := (Sk.itr_obj st); exact Heap.lt_size e
    refine wpAny_mono (wt_item (Y := fun ys => ∃ x, ys = [.int (i : Nat), x] ∧ xs[i]? = some x) W I hf hl hlt ⟨he, t0⟩ fun vals ⟨tk, u, hu, e⟩ => ?_) (fun r s1 ⟨u, e, q⟩ => ⟨u, e, wpAny_mono q (fun _ s2 ⟨x, H', a, b, ⟨q1, zs1, c1, _, c⟩, ⟨⟨old, d1⟩, d2⟩, f⟩ => ?_) fun _ _ z => z⟩) fun _ _ z => z
    · obtain ⟨x, hx, r⟩ := t2 i u hu
      exact ⟨[.int (i : Nat), x], [.int i tk, u], by rw [e], .cons ⟨_, rfl⟩ (.cons r .nil), by show 2 ≤ sizeLine; decide, x, rfl, hx⟩
    · refine ⟨x, H', a, b, ⟨q1, zs1, c1, c⟩, ⟨hlt, ⟨old, ?_⟩, t1 _ _ d2⟩, f⟩
      exact d1
  done := by
    intro X hP hw hK hc i pins s σ H E I hf ⟨hi, he, st⟩ ⟨hge, on⟩
    subst hP hw hK
    have ei : i = xs.length := Nat.le_antisymm hi hge
    subst ei
    obtain ⟨old, he⟩ := he
    obtain ⟨fp, Pp, T, D, t0, t1, t2, t3⟩ := Sk.draw I (I.ok.hd hc) on lo (Nat.le_refl N) st
    exact wpAny_pyNext_enum_endD D he t0 fun h' eb => ⟨rfl, I.turnedL (t' := s.toks) (ch := [N + 1, N]) (fun b o hb q => eb b o (fun z => hb (by simp [z])) q) hf⟩
  self := fun A i s Q E ⟨_, ⟨_, he⟩, _⟩ h => wpAny_pyIter_enum he h
def iEn (K : PySem.W.Frag) (ta : TA) : TI := fun σ H R => ta σ H fun vs H1 => ∃ k xs, vs = [k.va] ∧ k.on K H1 xs ∧ R (Jen K k xs) H1
section
variable {X : Cx} {pins : List (Addr × Obj)} {σ : L2.St} {H : Hp} {s : Shared}
/-- it begins -/
theorem Sk.begins {k : Sk} {xs : List V} {u : Value} (I : Inv X pins σ H s) (on : k.on X.K H xs) (r : RelV k.va u) :
    ∃ (o : Obj) (Hh : Heap → Prop), Begins u o Hh ∧ Hh s.heap ∧ k.low s.heap.objs.size ∧ ∀ it h', h'.get? it = some o → k.itr it 0 h' := by
  cases k with
  | l a =>
    cases r
    obtain ⟨its, rv, p, _⟩ := I.list on
    exact ⟨_, _, begins_list a its.toArray, p.isList, p.lt, fun it h' e => ⟨_, e, rfl, rfl⟩⟩
  | t a =>
    cases r
    obtain ⟨its, rv, p, _⟩ := I.tuple on
    exact ⟨_, _, begins_tuple a its.toArray, show s.heap.IsTuple a its.toArray from p, (let ⟨_, e, _⟩ := p; Heap.lt_size e), fun it h' e => ⟨_, e, rfl, rfl⟩⟩
  | s x =>
    obtain ⟨t, rfl⟩ := r
    exact ⟨_, _, begins_text x t, trivial, trivial, fun it h' e => ⟨t, _, e, rfl, rfl⟩⟩
theorem pi_en {e : Expr} {ta : TA} {p pos tpos : Pos} {elts : List Expr} {kk : Nat} {K : PySem.W.Frag} (hK : X.K = K) (hg : Gl X "enumerate") (hm : X.mg "enumerate" = none) (ha : PA X [e] ta) (hs : starEach [e] X.env = [(false, eval e X.env)] := by rfl) :
    PI X (.Tuple elts kk tpos) (.Call (.Name "enumerate" p) [e] [] pos) (iEn K ta) := by
  subst hK
  refine ⟨fun pins s σ H R I h => Call_ (ld_blt I hg hm boot_enumerate (PyProof.Rows.callWith_type1 (thn (ha.run pos pins s σ H _ I h) fun us s1 ⟨vs, H1, I1, r1, k, xs, e1, on, q⟩ => ?_) hs rfl))⟩
  subst e1
  cases r1 with
  | cons r rr =>
    cases rr
    obtain ⟨o, Hh, B, hh, lo, fin⟩ := Sk.begins I1 on r
    refine call_en1 B hh fun h' he ho hk => wpAny_pyIter_enum he ?_
    refine ⟨_, [s1.heap.objs.size + 1, s1.heap.objs.size], _, _, H1, rfl, I1.kept (t' := s1.toks) hk, turn_en (xs := xs) lo, ⟨Nat.zero_le _, ⟨.none, he⟩, fin _ _ ho⟩, fun b hb => ?_, q⟩
    have hle : s1.heap.objs.size ≤ b := by
      have e : b = s1.heap.objs.size + 1 ∨ b = s1.heap.objs.size := by simpa using hb
      rcases e with z | z
      · rw [z]; exact Nat.le_succ _
      · rw [z]; exact Nat.le_refl _
    exact I1.fpOk hle (I1.hok.fresh hle)
end
/-! zip of two -/
def Jzp (K : PySem.W.Frag) (k k' : Sk) (xs ys : List V) : It :=
  ⟨fun i H => i < min xs.length ys.length ∧ k.on K H xs ∧ k'.on K H ys, fun i H v H' => ∃ q zs, v = .ref q ∧ H q = none ∧ H' = upd H q (.tup zs) ∧ ∃ x y, zs = [x, y] ∧ xs[i]? = some x ∧ ys[i]? = some y, fun i H => min xs.length ys.length ≤ i ∧ k.on K H xs ∧ k'.on K H ys⟩
theorem turn_zp {P : Program} {w : World} {K : PySem.W.Frag} {elts : List Expr} {kk : Nat} {tpos : Pos} {k k' : Sk} {xs ys : List V} {N : Nat} (lo : k.low N) (lo' : k'.low N) :
    Turn P w K (.Tuple elts kk tpos) (Jzp K k k' xs ys) [N + 4, N + 2, N + 3, N, N + 1] (N + 4)
      (fun i h => i ≤ min xs.length ys.length ∧ IsZip h (N + 4) (N + 2) (N + 3) .none ∧ IsTupOf2 h (N + 2) (.ref N) (.ref (N + 1)) ∧ (∃ x y, IsTupOf2 h (N + 3) x y) ∧ k.itr N i h ∧ k'.itr (N + 1) i h) where
  mem := by simp
  obj := fun i h ⟨_, hz, hI, ⟨x, y, hO⟩, st, st'⟩ b hb => by
    have e : b = N + 4 ∨ b = N + 2 ∨ b = N + 3 ∨ b = N ∨ b = N + 1 := by simpa using hb
    rcases e with rfl | rfl | rfl | rfl | rfl
    · exact ⟨_, hz, fun v q => nomatch q⟩
    · exact ⟨_, hI, fun v q => nomatch q⟩
    · exact ⟨_, hO, fun v q => nomatch q⟩
    · exact (Sk.itr_obj st)
    · exact (Sk.itr_obj st')
  keep := fun i h h' ⟨hi, hz, hI, ⟨x, y, hO⟩, st, st'⟩ hk => ⟨hi, hk _ (by simp) _ hz, hk _ (by simp) _ hI, ⟨x, y, hk _ (by simp) _ hO⟩, Sk.itr_keep st (hk N (by simp)), Sk.itr_keep st' (hk _ (by simp))⟩
  item := by
    intro X hP hw hK hc i pins s σ H E I hf ⟨hi, hz, hI, hO, st, st'⟩ ⟨hlt, on, on'⟩
    subst hP hw hK
    obtain ⟨fp, Pp, T, D, t0, t1, t2, t3⟩ := Sk.draw I (I.ok.hd hc) on lo (Nat.le_refl N) st
    obtain ⟨fp', Pp', T', D', t0', t1', t2', t3'⟩ := Sk.draw I (I.ok.hd hc) on' lo' (Nat.le_succ N) st'
    have W := WalksT.zipD2 (zip_sep2 t3 t3') D D'
    have sub : ∀ b ∈ [N + 4, N + 3, N, N + 1], b ∈ [N + 4, N + 2, N + 3, N, N + 1] := fun b hb => by
      have e : b = N + 4 ∨ b = N + 3 ∨ b = N ∨ b = N + 1 := by simpa using hb
      rcases e with rfl | rfl | rfl | rfl <;> simp
    have hl : ∀ b ∈ [N + 4, N + 2, N + 3, N, N + 1], b < s.heap.objs.size := fun b hb => by
      have e : b = N + 4 ∨ b = N + 2 ∨ b = N + 3 ∨ b = N ∨ b = N + 1 := by simpa using hb
      rcases e with rfl | rfl | rfl | rfl | rfl
      · exact Heap.lt_size hz
      · exact Heap.lt_size hI
      · obtain ⟨_, _, e⟩ := hO; exact Heap.lt_size e
      · obtain ⟨o, e, _⟩ := (Sk.itr_obj st); exact Heap.lt_size e
      · obtain ⟨o, e, _⟩ := (Sk.itr_obj st'); exact Heap.lt_size e
    refine wpAny_mono (wt_item (Y := fun zs => ∃ x y, zs = [x, y] ∧ xs[i]? = some x ∧ ys[i]? = some y) W I (fun b hb => hf b (sub b hb)) (fun b hb => hl b (sub b hb)) hlt ⟨hz, hI, hO, t0, t0'⟩ fun vals ⟨u, u', hu, hu', e⟩ => ?_)
      (fun r s1 ⟨u, e, q⟩ => ⟨u, e, wpAny_mono q (fun _ s2 ⟨x, H', a, b, c, ⟨d1, d2, d3, d4, d5⟩, f⟩ => ?_) fun _ _ z => z⟩) fun _ _ z => z
    · obtain ⟨x, hx, r⟩ := t2 i u hu
      obtain ⟨y, hy, r'⟩ := t2' i u' hu'
      exact ⟨[x, y], [u, u'], by rw [e], .cons r (.cons r' .nil), by show 2 ≤ sizeLine; decide, x, y, rfl, hx, hy⟩
    · obtain ⟨q, zs, e1, hq, c⟩ := c
      refine ⟨x, H', a, b, ⟨q, zs, e1, c⟩, ⟨hlt, d1, d2, d3, t1 _ _ d4, t1' _ _ d5⟩, fun m hm => ?_⟩
      rw [c.2.1, upd_ne (Nat.ne_of_lt (Nat.lt_of_lt_of_le (hl m hm) hq))]
      exact (hf m hm).1
  done := by
    intro X hP hw hK hc i pins s σ H E I hf ⟨hi, hz, hI, hO, st, st'⟩ ⟨hge, on, on'⟩
    subst hP hw hK
    have ei : i = min xs.length ys.length := Nat.le_antisymm hi hge
    subst ei
    obtain ⟨fp, Pp, T, D, t0, t1, t2, t3⟩ := Sk.draw I (I.ok.hd hc) on lo (Nat.le_refl N) st
    obtain ⟨fp', Pp', T', D', t0', t1', t2', t3'⟩ := Sk.draw I (I.ok.hd hc) on' lo' (Nat.le_succ N) st'
    have W := WalksT.zipD2 (zip_sep2 t3 t3') D D'
    exact W.done s _ _ ⟨hz, hI, hO, t0, t0'⟩ fun h' tk hk => ⟨rfl, I.turnedL (ch := [N + 4, N + 2, N + 3, N, N + 1]) (fun b o hb q => hk b o (fun z => hb (by
      have e : b = N + 4 ∨ b = N + 3 ∨ b = N ∨ b = N + 1 := by simpa using z
      rcases e with rfl | rfl | rfl | rfl <;> simp)) q) hf⟩
  self := fun A i s Q E ⟨_, hz, _⟩ h => wpAny_pyIter_zip hz h
def iZp (K : PySem.W.Frag) (ta : TA) : TI := fun σ H R => ta σ H fun vs H1 => ∃ k k' xs ys, vs = [k.va, k'.va] ∧ k.on K H1 xs ∧ k'.on K H1 ys ∧ R (Jzp K k k' xs ys) H1
section
variable {X : Cx}
theorem pi_zp {e e2 : Expr} {ta : TA} {p pos tpos : Pos} {elts : List Expr} {kk : Nat} {K : PySem.W.Frag} (hK : X.K = K) (hg : Gl X "zip") (hm : X.mg "zip" = none) (ha : PA X [e, e2] ta)
    (hs : starEach [e, e2] X.env = (false, eval e X.env) :: starEach [e2] X.env := by rfl) (hpl : (backTo pos (starEach [e2] X.env)).any (·.1) = false := by rfl) : PI X (.Tuple elts kk tpos) (.Call (.Name "zip" p) [e, e2] [] pos) (iZp K ta) := by
  subst hK
  refine ⟨fun pins s σ H R I h => Call_ (ld_blt I hg hm PyProof.Rows.boot_zip (PyProof.Rows.callWith_type1 (thn (ha.run pos pins s σ H _ I h) fun us s1 ⟨vs, H1, I1, r1, k, k', xs, ys, e1, on, on', q⟩ => ?_) hs hpl))⟩
  subst e1
  cases r1 with
  | cons r rr =>
    cases rr with
    | cons r' rr =>
      cases rr
      obtain ⟨o, Hh, B, hh, lo, fin⟩ := Sk.begins I1 on r
      obtain ⟨o', Hh', B', hh', lo', fin'⟩ := Sk.begins I1 on' r'
      refine zip_begins2 B B' hh hh' fun h' hz hI hO ho ho' hsz hk => wpAny_pyIter_zip hz ?_
      refine ⟨_, [s1.heap.objs.size + 4, s1.heap.objs.size + 2, s1.heap.objs.size + 3, s1.heap.objs.size, s1.heap.objs.size + 1], _, _, H1, rfl, I1.kept (t' := s1.toks) hk, turn_zp (xs := xs) (ys := ys) lo lo', ⟨Nat.zero_le _, hz, hI, ⟨_, _, hO⟩, fin _ _ ho, fin' _ _ ho'⟩, fun b hb => ?_, q⟩
      have hle : s1.heap.objs.size ≤ b := by
        have e : b = s1.heap.objs.size + 4 ∨ b = s1.heap.objs.size + 2 ∨ b = s1.heap.objs.size + 3 ∨ b = s1.heap.objs.size ∨ b = s1.heap.objs.size + 1 := by simpa using hb
        rcases e with z | z | z | z | z <;> (rw [z]; first | exact Nat.le_refl _ | exact Nat.le_add_right _ _)
      exact I1.fpOk hle (I1.hok.fresh hle)
end
section
variable {α β : Type} {K : PySem.W.Frag} {k k' : Sk} {vs ws : List V} {xs : List α} {ys : List β} {t : Rp α} {u : Rp β} {F : Hp}
theorem sr_En (h : Al t F vs xs) : Sr (Jen K k vs) (fun H => k.on K H vs) (enumL xs) (fun H x H' a => ∃ T y, x = .ref T ∧ H T = none ∧ H' = upd H T (.tup [.int a.1, y]) ∧ t.r F y a.2) := by
  refine ⟨fun i H hi hq => ⟨?_, hq⟩, fun H hq => ⟨by rw [al_len h]; simp [enumL], hq⟩, fun i H x H' hq y a ha => ?_⟩
  · rw [al_len h]; simpa [enumL] using hi
  · obtain ⟨q, zs, e1, e2, e3, z, e4, e5⟩ := y
    unfold enumL at ha
    rw [List.getElem?_mapIdx] at ha
    cases e : xs[i]? with
    | none => rw [e] at ha; cases ha
    | some b =>
      rw [e] at ha
      have ea : ((i : Int), b) = a := Option.some.inj ha
      subst ea
      obtain ⟨v, ev, r⟩ := pd_get h e
      rw [ev] at e5; cases e5
      exact ⟨q, _, e1, e2, by rw [e3, e4], r⟩
theorem sr_Zp (h : Al t F vs xs) (h' : Al u F ws ys) : Sr (Jzp K k k' vs ws) (fun H => k.on K H vs ∧ k'.on K H ws) (xs.zip ys) (fun H x H' a => ∃ T y z, x = .ref T ∧ H T = none ∧ H' = upd H T (.tup [y, z]) ∧ t.r F y a.1 ∧ u.r F z a.2) := by
  have l1 := al_len h
  have l2 := al_len h'
  refine ⟨fun i H hi hq => ⟨?_, hq⟩, fun H hq => ⟨by rw [List.length_zip]; omega, hq⟩, fun i H x H' hq y a ha => ?_⟩
  · rw [List.length_zip] at hi; omega
  · obtain ⟨q, zs, e1, e2, e3, y1, y2, e4, e5, e6⟩ := y
    rw [List.getElem?_zip_eq_some] at ha
    obtain ⟨v, ev, r⟩ := pd_get h ha.1
    obtain ⟨v', ev', r'⟩ := pd_get h' ha.2
    rw [ev] at e5; cases e5
    rw [ev'] at e6; cases e6
    exact ⟨q, _, _, e1, e2, by rw [e3, e4], r, r'⟩
theorem al_sg (s : Sg) : Al eS F (sgV (S s)) (signs s) := by
  unfold sgV signs
  show Al eS F (s.map fun c => V.str ⟨#[c]⟩) (s.map fun c => [c])
  induction s with
  | nil => exact .nil
  | cons c r ih => exact .cons ⟨rfl, one_le⟩ ih
end
section
variable {K : PySem.W.Frag} {σ : L2.St} {H : Hp} {k k' : Sk} {vs ws : List V} {ta : TA} {R : RIt}
def qEn (K : PySem.W.Frag) (R : RIt) : List V → Hp → Prop := fun vs H1 => ∃ k xs, vs = [k.va] ∧ k.on K H1 xs ∧ R (Jen K k xs) H1
def qZp (K : PySem.W.Frag) (R : RIt) : List V → Hp → Prop := fun vs H1 => ∃ k k' xs ys, vs = [k.va, k'.va] ∧ k.on K H1 xs ∧ k'.on K H1 ys ∧ R (Jzp K k k' xs ys) H1
theorem n_en (h : ta σ H (qEn K R)) : iEn K ta σ H R := h
theorem n_zp (h : ta σ H (qZp K R)) : iZp K ta σ H R := h
theorem v_en (on : k.on K H vs) (q : R (Jen K k vs) H) : qEn K R [k.va] H := ⟨k, vs, rfl, on, q⟩
theorem v_zp (on : k.on K H vs) (on' : k'.on K H ws) (q : R (Jzp K k k' vs ws) H) : qZp K R [k.va, k'.va] H := ⟨k, k', vs, ws, rfl, on, on', q⟩
end
end U
set_option Elab.async false
set_option linter.all false
set_option maxRecDepth 100000
set_option maxHeartbeats 4000000
namespace U
open PySem PySem.Spec L2
/-! ### data: repr, == and != at any depth -/
mutual
theorem dp_nodict {K : PySem.W.Frag} {H : Hp} : ∀ {v : V} {d : PyData}, Dp K H v d → d.hasDict = false
  | _, _, .non => by simp only [PyData.hasDict]
  | _, _, .bl b => by simp only [PyData.hasDict]
  | _, _, .int i => by simp only [PyData.hasDict]
  | _, _, .str x => by simp only [PyData.hasDict]
  | _, _, .lst _ h => by simp only [PyData.hasDict]; exact dpa_nodict h
  | _, _, .tup _ h => by simp only [PyData.hasDict]; exact dpa_nodict h
theorem dpa_nodict {K : PySem.W.Frag} {H : Hp} : ∀ {vs : List V} {ds : List PyData}, DpAll K H vs ds → PyData.hasDictAll ds = false
  | _, _, .nil => by simp only [PyData.hasDictAll]
  | _, _, .cons h1 h2 => by simp only [PyData.hasDictAll, dp_nodict h1, dpa_nodict h2, Bool.or_self]
end
def reprB (d : PyData) : Bool := d.showable && decide (d.depth ≤ 60 ∧ d.shown.length ≤ 16777216)
def reprM (d : PyData) : Option Sg := need (reprB d) d.shown.cps.toList
def qRepr (K : PySem.W.Frag) : RCl := fun xs H Q => ∃ v d, xs = [v] ∧ Dp K H v d ∧ reprB d = true ∧ Q (.str d.shown) H
theorem c_repr {X : Cx} {K : PySem.W.Frag} {k : Nat} (hK : X.K = K) (hg : X.A.guards = some []) (hr : Room k X.A) : CallR X (.builtin "repr") (qRepr K) := by
  subst hK
  intro pins s σ H xs us Q I rv ⟨v, d, e, hd, hb, q⟩
  subst e
  cases rv with
  | cons r rr =>
    cases rr
    obtain ⟨as, rd⟩ := Dp.reads I d _ _ hd r
    have nd := dp_nodict hd
    unfold reprB at hb
    rw [Bool.and_eq_true] at hb
    obtain ⟨h1, h2⟩ := hb
    have h3 := of_decide_eq_true h2
    have hz : d.shown.length ≤ sizeLine := by rw [sizeLine_eq]; exact h3.2
    cases hd with
    | non =>
      cases r
      exact PySem.P.repr_of_none ⟨.str _, H, I.tok _, ⟨_, rfl⟩, by simpa [PyData.shown] using q⟩
    | bl b =>
      cases r
      exact PySem.P.repr_of_bool ⟨.str _, H, I.tok _, ⟨_, rfl⟩, by simpa [PyData.shown] using q⟩
    | int i =>
      obtain ⟨t, rfl⟩ := r
      exact PySem.P.repr_of_int (by simpa [PyData.showable] using h1) ⟨.str _, H, I.tok _, ⟨_, rfl⟩, by simpa [PyData.shown] using q⟩
    | str x =>
      obtain ⟨t, rfl⟩ := r
      exact PySem.P.repr_of_str ⟨.str _, H, I.tok _, ⟨_, rfl⟩, by simpa [PyData.shown] using q⟩ (by simpa [PyData.shown] using hz)
    | lst _ _ =>
      cases r
      exact PySem.repr_of_reads' rd h1 (fun z => by rw [nd] at z; cases z) hg (by have := hr.un; omega) (fun _ _ e => e) (fun h' u tk hk => ⟨.str _, H, I.kept hk, ⟨u, rfl⟩, q⟩) hz
    | tup _ _ =>
      cases r
      exact PySem.repr_of_reads' rd h1 (fun z => by rw [nd] at z; cases z) hg (by have := hr.un; omega) (fun _ _ e => e) (fun h' u tk hk => ⟨.str _, H, I.kept hk, ⟨u, rfl⟩, q⟩) hz
/-- a typed value's data -/
structure Dt {α : Type} (t : Rp α) where
  d : α → PyData
  ok : ∀ {K : PySem.W.Frag} {F H : Hp} {v : V} {x : α}, Sub F H → t.r F v x → Dp K H v (d x)
  eqv : ∀ x y, PyData.eqv (d x) (d y) = true ↔ x = y
section
variable {α β γ : Type} {t : Rp α} {ta : Rp α} {tb : Rp β} {tc : Rp γ} {K : PySem.W.Frag} {F H : Hp} {v : V} {vs : List V} {xs : List α} {x y : α} {p : Addr} {Q : VK} {r : Sg}
theorem dt_all (D : Dt t) (hs : Sub F H) (h : Al t F vs xs) : DpAll K H vs (xs.map D.d) := by
  induction h with
  | nil => exact .nil
  | cons r _ ih => exact .cons (D.ok hs r) ih
theorem eqv_all (D : Dt t) : ∀ xs ys : List α, PyData.eqvAll (xs.map D.d) (ys.map D.d) = true ↔ xs = ys
  | [], [] => by simp [PyData.eqvAll]
  | [], _ :: _ => by simp [PyData.eqvAll]
  | _ :: _, [] => by simp [PyData.eqvAll]
  | x :: xs, y :: ys => by
    simp only [List.map_cons, PyData.eqvAll, Bool.and_eq_true, List.cons.injEq]
    rw [D.eqv, eqv_all D xs ys]
def dI : Dt eI := ⟨fun i => .int i, fun _ h => by have e : _ = V.int _ := h; subst e; exact .int _, fun x y => by simp [PyData.eqv]⟩
def dB : Dt eB := ⟨fun b => .bool b, fun _ h => by have e : _ = V.bl _ := h; subst e; exact .bl _, fun x y => by simp [PyData.eqv]⟩
def dN : Dt eN := ⟨fun _ => .none, fun _ h => by have e : _ = V.non := h; subst e; exact .non, fun x y => by simp [PyData.eqv]⟩
def dS : Dt eS := ⟨fun s => .str (S s), fun _ h => by obtain ⟨e, _⟩ := h; subst e; exact .str _, fun x y => by simp only [PyData.eqv, beq_iff_eq]; exact S_inj⟩
def dP2 (a : Dt ta) (b : Dt tb) : Dt (eP2 ta tb) := ⟨fun x => .tuple [a.d x.1, b.d x.2], fun hs ⟨p, y, z, e, q, h1, h2⟩ => by
  subst e; exact .tup (.inl (.inl (hs _ _ q))) (.cons (a.ok hs h1) (.cons (b.ok hs h2) .nil)), fun x y => by
  simp only [PyData.eqv, PyData.eqvAll, Bool.and_true, Bool.and_eq_true, a.eqv, b.eqv]; exact (Prod.ext_iff).symm⟩
def dP3 (a : Dt ta) (b : Dt tb) (c : Dt tc) : Dt (eP3 ta tb tc) := ⟨fun x => .tuple [a.d x.1, b.d x.2.1, c.d x.2.2], fun hs ⟨p, y, z, w, e, q, h1, h2, h3⟩ => by
  subst e; exact .tup (.inl (.inl (hs _ _ q))) (.cons (a.ok hs h1) (.cons (b.ok hs h2) (.cons (c.ok hs h3) .nil))), fun x y => by
  simp only [PyData.eqv, PyData.eqvAll, Bool.and_true, Bool.and_eq_true, a.eqv, b.eqv, c.eqv]; rw [Prod.ext_iff, Prod.ext_iff]⟩
def dL (a : Dt t) : Dt (eL t) := ⟨fun x => .list (x.map a.d), fun hs ⟨p, vs, e, q, h⟩ => by subst e; exact .lst (.inl (.inl (hs _ _ q))) (dt_all a hs h), fun x y => by
  simp only [PyData.eqv]; exact eqv_all a x y⟩
def dT (a : Dt t) : Dt (eT t) := ⟨fun x => .tuple (x.map a.d), fun hs ⟨p, vs, e, q, h⟩ => by subst e; exact .tup (.inl (.inl (hs _ _ q))) (dt_all a hs h), fun x y => by
  simp only [PyData.eqv]; exact eqv_all a x y⟩
def isNoneD : PyData → Bool
  | .none => true
  | _ => false
theorem eqv_none {d : PyData} (h : isNoneD d = false) : PyData.eqv .none d = false ∧ PyData.eqv d .none = false := by
  cases d <;> simp [isNoneD, PyData.eqv] at *
def dO (a : Dt t) (nn : ∀ x, isNoneD (a.d x) = false) : Dt (eO t) := ⟨fun x => match x with
  | none => .none
  | some x => a.d x, fun {K F H v x} hs h => by
    cases x with
    | none => have e : _ = V.non := h; subst e; exact .non
    | some x => exact a.ok hs h.2, fun x y => by
    cases x with
    | none => cases y with
      | none => simp [PyData.eqv]
      | some y => simp [(eqv_none (nn y)).1]
    | some x => cases y with
      | none => simp [(eqv_none (nn x)).2]
      | some y => simp only [Option.some.injEq]; exact a.eqv x y⟩
theorem reprM_le {d : PyData} (h : reprM d = some r) : r.length ≤ sizeLine := by
  obtain ⟨h1, rfl⟩ := need_ok h
  unfold reprB at h1
  rw [Bool.and_eq_true] at h1
  have h3 := (of_decide_eq_true h1.2).2
  rw [sizeLine_eq]
  simpa [Str.length] using h3
theorem v_reprD {d : PyData} (hd : Dp K H v d) (h : reprM d = some r) (k : Q (.str (S r)) H) : qRepr K [v] H Q := by
  obtain ⟨h1, rfl⟩ := need_ok h
  exact ⟨v, d, rfl, hd, h1, k⟩
theorem v_repr (D : Dt t) (hs : Sub F H) (hr : t.r F v x) (h : reprM (D.d x) = some r) (k : Q (.str (S r)) H) : qRepr K [v] H Q := v_reprD (D.ok hs hr) h k
theorem v_reprM (D : Dt t) (hs : Sub F H) (hq : H p = some (.lst vs)) (hr : Al t F vs xs) (h : reprM (.list (xs.map D.d)) = some r) (k : Q (.str (S r)) H) : qRepr K [.ref p] H Q :=
  v_reprD (.lst (.inl (.inl hq)) (dt_all D hs hr)) h k
/-! == -/
theorem c_eqD {X : Cx} {k : Nat} (hK : X.K = K) (hr : Room k X.A) : OpR X (compareOp .Eq) (rEqD K) := by subst hK; exact op_eqD hr.units
theorem c_neD {X : Cx} {k : Nat} (hK : X.K = K) (hr : Room k X.A) : OpR X (compareOp .NotEq) (rNeD K) := by subst hK; exact op_neD hr.units
def eqB (d e : PyData) : Bool := SeqAt.shaped d && SeqAt.shaped e
theorem eqv_dec {α : Type} [DecidableEq α] {t : Rp α} (D : Dt t) (x y : α) : PyData.eqv (D.d x) (D.d y) = decide (x = y) := by
  rw [Bool.eq_iff_iff, decide_eq_true_eq]; exact D.eqv x y
theorem v_eqDp {v w : V} {d e : PyData} {b : Bool} (h1 : Dp K H v d) (h2 : Dp K H w e) (hb : eqB d e = true) (he : PyData.eqv d e = b) (k : Q (.bl b) H) : rEqD K v w H Q := by
  unfold eqB at hb
  rw [Bool.and_eq_true] at hb
  exact ⟨d, e, h1, h2, hb.1, hb.2, by rw [he]; exact k⟩
theorem v_neDp {v w : V} {d e : PyData} {b : Bool} (h1 : Dp K H v d) (h2 : Dp K H w e) (hb : eqB d e = true) (he : PyData.eqv d e = b) (k : Q (.bl (!b)) H) : rNeD K v w H Q := by
  unfold eqB at hb
  rw [Bool.and_eq_true] at hb
  exact ⟨d, e, h1, h2, hb.1, hb.2, by rw [he]; exact k⟩
theorem dp_mut (D : Dt t) (hs : Sub F H) (hq : H p = some (.lst vs)) (hr : Al t F vs xs) : Dp K H (.ref p) (.list (xs.map D.d)) := .lst (.inl (.inl hq)) (dt_all D hs hr)
end
/-! ### plain: how long a repr is -/
structure Rk (e B : Nat) (d : PyData) : Prop where
  sh : d.showable = true
  dp : d.depth ≤ e
  ln : d.shown.length ≤ B
structure Rks (e B : Nat) (ds : List PyData) : Prop where
  sh : PyData.showableAll ds = true
  dp : PyData.depthAll ds ≤ e
  ln : piled (PyData.shownAll ds) ≤ B
theorem rks_nil {e : Nat} : Rks e 0 [] := ⟨by simp only [PyData.showableAll], by simp only [PyData.depthAll]; exact Nat.zero_le _, by simp only [PyData.shownAll, piled_nil]; exact Nat.le_refl _⟩
theorem rks_cons {e B C : Nat} {d : PyData} {ds : List PyData} (h : Rk e B d) (h' : Rks e C ds) : Rks e (B + 2 + C) (d :: ds) :=
  ⟨by simp only [PyData.showableAll, h.sh, h'.sh, Bool.and_self], by simp only [PyData.depthAll]; exact Nat.max_le.mpr ⟨h.dp, h'.dp⟩, by
    simp only [PyData.shownAll, piled_cons]
    have := h.ln; have := h'.ln; omega⟩
theorem rks_all {e B : Nat} : ∀ {ds : List PyData}, (∀ d ∈ ds, Rk e B d) → Rks e (ds.length * (B + 2)) ds
  | [], _ => by simpa using rks_nil
  | d :: ds, h => by
    have q := rks_cons (h d (by simp)) (rks_all (ds := ds) fun c hc => h c (List.mem_cons_of_mem _ hc))
    refine ⟨q.sh, q.dp, ?_⟩
    have := q.ln
    rw [List.length_cons, Nat.add_mul, Nat.one_mul]
    omega
theorem Rk.mono {e e' B B' : Nat} {d : PyData} (h : Rk e B d) (he : e ≤ e') (hB : B ≤ B') : Rk e' B' d := ⟨h.sh, Nat.le_trans h.dp he, Nat.le_trans h.ln hB⟩
theorem textFrom_le (ts : List Str) : (listText ts).length ≤ piled ts + 2 := by
  unfold listText
  rw [strLen_append]
  cases ts with
  | nil => exact Nat.le_of_eq rfl
  | cons t r =>
    have e : textFrom 0 "[" (t :: r) = textFrom 1 (("[" : Str) ++ "" ++ t) r := rfl
    rw [e, textFrom_length_pos _ _ _ (Nat.succ_pos 0), strLen_append, strLen_append, piled_cons]
    have e1 : (("[" : String) : Str).length = 1 := rfl
    have e2 : (("" : String) : Str).length = 0 := rfl
    have e3 : (("]" : String) : Str).length = 1 := rfl
    rw [e1, e2, e3]; omega
theorem tupText_le (ts : List Str) : (tupleText ts).length ≤ piled ts + 3 := by
  unfold tupleText
  rw [strLen_append, strLen_append]
  have e1 : (("(" : String) : Str).length = 1 := rfl
  have e3 : (((if ts.length == 1 then ",)" else ")" : String) : Str)).length ≤ 2 := by split <;> decide
  rw [e1]
  by_cases h : ts = []
  · subst h
    have e4 : (Str.join ", " ([] : List Str)).length = 0 := rfl
    rw [e4]; omega
  · have := join_length_add ts h
    omega
theorem rk_list {e B : Nat} {ds : List PyData} (h : Rks e B ds) : Rk (e + 1) (B + 2) (.list ds) :=
  ⟨by simp only [PyData.showable]; exact h.sh, by simp only [PyData.depth]; exact Nat.succ_le_succ h.dp, by simp only [PyData.shown]; exact Nat.le_trans (textFrom_le _) (Nat.add_le_add_right h.ln 2)⟩
theorem rk_tup {e B : Nat} {ds : List PyData} (h : Rks e B ds) : Rk (e + 1) (B + 3) (.tuple ds) :=
  ⟨by simp only [PyData.showable]; exact h.sh, by simp only [PyData.depth]; exact Nat.succ_le_succ h.dp, by simp only [PyData.shown]; exact Nat.le_trans (tupText_le _) (Nat.add_le_add_right h.ln 3)⟩
theorem rk_non : Rk 0 4 .none := ⟨by simp only [PyData.showable], by simp only [PyData.depth]; exact Nat.le_refl _, by simp only [PyData.shown]; decide⟩
theorem rk_bool (b : Bool) : Rk 0 5 (.bool b) := ⟨by simp only [PyData.showable], by simp only [PyData.depth]; exact Nat.le_refl _, by simp only [PyData.shown]; cases b <;> decide⟩
theorem rk_str {s : Sg} {n : Nat} (hs : ∀ c ∈ s, c < 1114112) (hn : s.length ≤ n) : Rk 0 (10 * n + 2) (.str (S s)) :=
  ⟨by simp only [PyData.showable], by simp only [PyData.depth]; exact Nat.le_refl _, by
    simp only [PyData.shown]
    have := StrLaws.reprText_len (S s) (fun c hc => by have := hs c (by simpa using hc); omega)
    have e : (S s).length = s.length := by simp [Str.length]
    omega⟩
theorem rk_int {i : Int} {k : Nat} (hk : 0 < k) (h : i.natAbs < 2 ^ k) (hk2 : k ≤ 1920) : Rk 0 (k + 1) (.int i) := by
  have hl : i.natAbs.log2 < k := by
    by_cases h0 : i.natAbs = 0
    · rw [h0]; simpa using hk
    · exact (Nat.log2_lt h0).mpr h
  refine ⟨by simp only [PyData.showable]; exact decide_eq_true (Nat.lt_of_lt_of_le hl hk2), by simp only [PyData.depth]; exact Nat.le_refl _, ?_⟩
  simp only [PyData.shown]
  have h1 := int_text_length_le hk hl
  rw [ofString_length]; exact h1
theorem reprB_of {e B : Nat} {d : PyData} (h : Rk e B d) (he : e ≤ 60) (hB : B ≤ 16777216) : reprB d = true := by
  unfold reprB
  rw [h.sh, Bool.true_and]
  exact decide_eq_true ⟨Nat.le_trans h.dp he, Nat.le_trans h.ln hB⟩
theorem reprM_of {e B : Nat} {d : PyData} (h : Rk e B d) (he : e ≤ 60) (hB : B ≤ 16777216) : reprM d = some d.shown.cps.toList := by unfold reprM need; rw [reprB_of h he hB]; rfl
end U
set_option Elab.async false
set_option linter.all false
set_option maxRecDepth 100000
set_option maxHeartbeats 4000000
namespace U
open PySem PySem.Spec L2
/-! ### plain: what a mirror gives -/
section
variable {α β σ ρ : Type} {P Q : α → Prop} {R : β → Prop} {x : Option α} {f : α → Option β} {a : α}
def Ret (x : Option α) (P : α → Prop) : Prop := ∃ a, x = some a ∧ P a
theorem Ret.pure (h : P a) : Ret (some a) P := ⟨a, rfl, h⟩
theorem Ret.bind (h : Ret x P) (k : ∀ a, P a → Ret (f a) R) : Ret (x.bind f) R := by
  obtain ⟨a, rfl, p⟩ := h
  exact k a p
theorem Ret.mono (h : Ret x P) (k : ∀ a, P a → Q a) : Ret x Q := by
  obtain ⟨a, e, p⟩ := h
  exact ⟨a, e, k a p⟩
theorem Ret.eq (h : x = some a) (k : Ret (f a) R) : Ret (x.bind f) R := by subst h; exact k
theorem Ret.of (h : x = some a) (p : P a) : Ret x P := ⟨a, h, p⟩
theorem Ret.val {b : α} (h : Ret x P) (k : ∀ a, P a → a = b) : x = some b := by
  obtain ⟨a, e, p⟩ := h
  rw [e, k a p]
theorem ret_need {c : Bool} (h : c = true) (k : Ret (f a) R) : Ret ((need c a).bind f) R := by subst h; exact k
theorem need_eq {c : Bool} (h : c = true) : need c a = some a := by subst h; rfl
theorem Ret.ite {c : Bool} {x y : Option α} (h1 : c = true → Ret x P) (h2 : c = false → Ret y P) : Ret (if c = true then x else y) P := by
  cases c with
  | true => rw [if_pos rfl]; exact h1 rfl
  | false => rw [if_neg Bool.false_ne_true]; exact h2 rfl
theorem atI_of {xs : List α} {i : Int} {a : α} (h0 : 0 ≤ i) (h : xs[i.toNat]? = some a) : atI xs i = some a := by
  have := atI_nat h
  rw [show ((i.toNat : Nat) : Int) = i by omega] at this
  exact this
theorem atI_lt {xs : List α} {i : Int} (h0 : 0 ≤ i) (h : i < xs.length) : atI xs i = some (xs[i.toNat]'(by omega)) := atI_of h0 (List.getElem?_eq_getElem (by omega))
theorem ret_at {xs : List α} {i : Int} (h0 : 0 ≤ i) (h : i < xs.length) : Ret (atI xs i) (fun a => xs[i.toNat]? = some a) := ⟨_, atI_lt h0 h, List.getElem?_eq_getElem (by omega)⟩
theorem atI_neg {xs : List α} {i : Int} (h0 : i < 0) (h : -(xs.length : Int) ≤ i) : atI xs i = xs[(i + xs.length).toNat]? := by
  unfold atI ixN
  rw [if_neg (by omega), if_pos h]
  rfl
theorem ixN_of {n : Nat} {i : Int} (h0 : 0 ≤ i) (h : i < n) : ixN n i = some i.toNat := by
  unfold ixN
  rw [if_pos h0, if_pos h]
theorem setM_of {xs : List α} {i : Int} {a : α} (h0 : 0 ≤ i) (h : i < xs.length) : setM xs i a = some (xs.set i.toNat a) := by
  unfold setM
  rw [ixN_of h0 h]; rfl
theorem szB_of {n : Nat} (h : n ≤ 16777216) : szB n = true := decide_eq_true h
theorem snocM_of {xs : List α} {a : α} (h : xs.length < 16777216) : snocM xs a = some (xs ++ [a]) := need_eq (decide_eq_true h)
theorem catLM_of {xs ys : List α} (h : xs.length + ys.length ≤ 16777216) : catLM xs ys = some (xs ++ ys) := need_eq (szB_of h)
theorem catM_of {xs ys : Sg} (h : xs.length + ys.length ≤ 16777216) : catM xs ys = some (xs ++ ys) := need_eq (szB_of h)
theorem modM_of {i j : Int} (h : 0 < j) : modM i j = some (i % j) := need_eq (decide_eq_true h)
theorem divM_of {i j : Int} (h : 0 < j) (h2 : j < 1073741824) : divM i j = some (i / j) := need_eq (decide_eq_true ⟨h, h2⟩)
theorem mulM_of {i j : Int} (h : (-(2 ^ 64) < i ∧ i < 2 ^ 64) ∨ (-(2 ^ 64) < j ∧ j < 2 ^ 64)) : mulM i j = some (i * j) := by
  refine need_eq ?_
  unfold mulB
  rcases h with h | h
  · rw [decide_eq_true h]; rfl
  · rw [decide_eq_true h, Bool.or_true]
theorem uptoM_of {lo hi : Int} (h1 : -(2 ^ 62) ≤ lo) (h2 : lo < 2 ^ 62) (h3 : -(2 ^ 62) ≤ hi) (h4 : hi < 2 ^ 62) : uptoM lo hi = some (upto lo hi) := by
  refine need_eq ?_
  unfold rngB
  rw [decide_eq_true ⟨h1, h2⟩, decide_eq_true ⟨h3, h4⟩]; rfl
theorem upto_get {lo hi : Int} {i : Nat} {a : Int} (h : (upto lo hi)[i]? = some a) : a = lo + i ∧ lo + i < hi := by
  unfold upto at h
  rw [List.getElem?_map] at h
  cases e : (List.range (hi - lo).toNat)[i]? with
  | none => rw [e] at h; cases h
  | some j =>
    rw [e] at h
    obtain ⟨h1, h2⟩ := List.getElem?_eq_some_iff.mp e
    rw [List.length_range] at h1
    have ej : j = i := by simpa using h2.symm
    subst ej
    have e3 : lo + (j : Int) = a := Option.some.inj h
    exact ⟨e3.symm, by omega⟩
theorem upto_mem {lo hi a : Int} (h : a ∈ upto lo hi) : lo ≤ a ∧ a < hi := by
  obtain ⟨i, hi'⟩ := List.getElem?_of_mem h
  have := upto_get hi'
  omega
theorem mx_eq (i j : Int) : mx i j = max i j := by unfold mx; split <;> omega
theorem mn_eq (i j : Int) : mn i j = min i j := by unfold mn; split <;> omega
theorem ret_foldO {xs : List α} {s : σ} {f : σ → α → Option σ} (I : Nat → σ → Prop) (h0 : I 0 s) (step : ∀ i s x, xs[i]? = some x → I i s → Ret (f s x) (I (i + 1))) : Ret (foldO xs s f) (I xs.length) := by
  induction xs generalizing s I with
  | nil => exact ⟨s, rfl, h0⟩
  | cons x xs ih =>
    obtain ⟨s', e, h1⟩ := step 0 s x rfl h0
    have := ih (s := s') (fun i => I (i + 1)) h1 fun i s y hy hi => step (i + 1) s y (by simpa using hy) hi
    obtain ⟨z, e2, h2⟩ := this
    refine ⟨z, ?_, by simpa using h2⟩
    show (f s x).bind _ = _
    rw [e]; exact e2
theorem ret_foldR {xs : List α} {s : σ} {f : σ → α → Option (Fl σ ρ)} (I : Nat → σ → Prop) (h0 : I 0 s) (step : ∀ i s x, xs[i]? = some x → I i s → Ret (f s x) (fun z => ∃ s', z = .nx s' ∧ I (i + 1) s')) :
    Ret (foldR xs s f) (fun z => ∃ s', z = .nx s' ∧ I xs.length s') := by
  induction xs generalizing s I with
  | nil => exact ⟨_, rfl, s, rfl, h0⟩
  | cons x xs ih =>
    obtain ⟨_, e, s', rfl, h1⟩ := step 0 s x rfl h0
    have := ih (s := s') (fun i => I (i + 1)) h1 fun i s y hy hi => step (i + 1) s y (by simpa using hy) hi
    obtain ⟨z, e2, h2⟩ := this
    refine ⟨z, ?_, by simpa using h2⟩
    show (f s x).bind _ = _
    rw [e]; exact e2
theorem ret_whileO {n : Nat} {s : σ} {c : σ → Option Bool} {b : σ → Option σ} (I : σ → Prop) (μ : σ → Nat) (h0 : I s) (hn : μ s < n)
    (step : ∀ s, I s → Ret (c s) (fun t => t = true → Ret (b s) (fun s' => I s' ∧ μ s' < μ s))) : Ret (whileO n s c b) (fun s => I s ∧ c s = some false) := by
  induction n generalizing s with
  | zero => omega
  | succ n ih =>
    obtain ⟨t, e, h⟩ := step s h0
    unfold whileO
    rw [e]
    cases t with
    | false => exact ⟨s, rfl, h0, e⟩
    | true =>
      obtain ⟨s', e2, h1, h2⟩ := h rfl
      show Ret ((b s).bind _) _
      rw [e2]
      exact ih h1 (by omega)
theorem compS_of {xs : List α} {f : α → Option (Option β)} (g : α → Option β) (h : ∀ x ∈ xs, f x = some (g x)) : compS xs f = some (xs.filterMap g) := by
  induction xs with
  | nil => rfl
  | cons x xs ih =>
    show (f x).bind _ = _
    rw [h x (by simp)]
    show (compS xs f).bind _ = _
    rw [ih fun y hy => h y (by simp [hy])]
    show some _ = some _
    rw [List.filterMap_cons]
    cases g x <;> rfl
theorem compS_map {xs : List α} {f : α → Option (Option β)} (g : α → β) (h : ∀ x ∈ xs, f x = some (some (g x))) : compS xs f = some (xs.map g) := by
  rw [compS_of (fun x => some (g x)) h]
  congr 1
  rw [List.filterMap_eq_map']
/-- items made one by one, each with a property -/
theorem ret_compS {xs : List α} {f : α → Option (Option β)} (P : β → Prop) (h : ∀ x ∈ xs, Ret (f x) (fun r => ∃ y, r = some y ∧ P y)) : Ret (compS xs f) (fun ys => ys.length = xs.length ∧ ∀ y ∈ ys, P y) := by
  induction xs with
  | nil => exact ⟨[], rfl, rfl, by simp⟩
  | cons x xs ih =>
    obtain ⟨_, e, y, rfl, p⟩ := h x (by simp)
    obtain ⟨ys, e2, l, q⟩ := ih fun z hz => h z (by simp [hz])
    refine ⟨y :: ys, ?_, by simp [l], by simp; exact ⟨p, q⟩⟩
    show (f x).bind _ = _
    rw [e]
    show (compS xs f).bind _ = _
    rw [e2]; rfl
theorem cutL_from {xs : List α} {a : Int} (h : 0 ≤ a) : cutL xs (some a) none = xs.drop a.toNat := by
  unfold cutL
  obtain ⟨n, rfl⟩ : ∃ n : Nat, a = n := ⟨a.toNat, by omega⟩
  rw [HT.sIx_nat, HT.sIx_none, Int.toNat_natCast]
  by_cases hn : n ≤ xs.length
  · rw [Nat.min_eq_left hn]
    exact List.take_of_length_le (by rw [List.length_drop]; omega)
  · rw [Nat.min_eq_right (by omega)]
    simp
    omega
theorem cutL_to {xs : List α} {b : Int} (h : 0 ≤ b) : cutL xs none (some b) = xs.take b.toNat := by
  unfold cutL
  obtain ⟨n, rfl⟩ : ∃ n : Nat, b = n := ⟨b.toNat, by omega⟩
  rw [HT.sIx_nat, HT.sIx_none, Int.toNat_natCast]
  rw [List.drop_zero, Nat.sub_zero]
  by_cases hn : n ≤ xs.length
  · rw [Nat.min_eq_left hn]
  · rw [Nat.min_eq_right (by omega), List.take_of_length_le (Nat.le_refl _), List.take_of_length_le (by omega)]
theorem joinL_nil : ∀ xs : List Sg, TL.joinL [] xs = xs.flatten
  | [] => rfl
  | [x] => by simp [TL.joinL]
  | x :: y :: r => by
    show x ++ ([] ++ TL.joinL [] (y :: r)) = _
    rw [joinL_nil (y :: r)]
    simp
theorem joinM_of {sep : Sg} {xs : List Sg} (h : (xs.map List.length).sum + xs.length * sep.length ≤ 16777216) : joinM sep xs = some (TL.joinL sep xs) := need_eq (szB_of h)
end
end U
set_option Elab.async false
set_option linter.all false
set_option maxRecDepth 100000
set_option maxHeartbeats 4000000
namespace U
open PySem PySem.Spec L2
/-! ### trees, words: plain -/
abbrev Tre := List Int × Sg
inductive Anc (ups : List Int) : Nat → Nat → Prop where
  | refl (k : Nat) : Anc ups k k
  | up {k a : Nat} {u : Int} (h : ups[k]? = some u) (hu : 0 ≤ u) (r : Anc ups u.toNat a) : Anc ups k a
theorem get_app {α : Type} {xs ys : List α} {i : Nat} {a : α} (h : xs[i]? = some a) : (xs ++ ys)[i]? = some a := by
  rw [List.getElem?_append_left (List.getElem?_eq_some_iff.mp h).1]; exact h
theorem Anc.app {ups more : List Int} {k a : Nat} (h : Anc ups k a) : Anc (ups ++ more) k a := by
  induction h with
  | refl k => exact .refl k
  | up h hu _ ih => exact .up (get_app h) hu ih
theorem Anc.trans {ups : List Int} {k a b : Nat} (h : Anc ups k a) (h' : Anc ups a b) : Anc ups k b := by
  induction h with
  | refl k => exact h'
  | up h hu _ ih => exact .up h hu (ih h')
structure UpsOk (ups : List Int) : Prop where
  root : ups[0]? = some (-1)
  up : ∀ (k : Nat) (u : Int), 0 < k → ups[k]? = some u → 0 ≤ u ∧ u < k
  ch : ∀ (k : Nat) (u : Int), 0 < k → ups[k]? = some u → Anc ups (k - 1) u.toNat
structure TreeOk (t : Tre) : Prop where
  len : t.1.length = t.2.length
  most : t.1.length ≤ 60
  ups : UpsOk t.1
  low : ∀ c ∈ t.2, 97 ≤ c ∧ c ≤ 122
theorem UpsOk.pos {ups : List Int} (h : UpsOk ups) : 0 < ups.length := by
  have := h.root
  cases ups with
  | nil => cases this
  | cons _ _ => simp
theorem UpsOk.one : UpsOk [-1] := ⟨rfl, fun k u hk h => by
  cases k with
  | zero => omega
  | succ k => simp at h, fun k u hk h => by
  cases k with
  | zero => omega
  | succ k => simp at h⟩
theorem UpsOk.snoc {ups : List Int} {p : Int} (h : UpsOk ups) (h0 : 0 ≤ p) (hp : p < ups.length) (ha : Anc ups (ups.length - 1) p.toNat) : UpsOk (ups ++ [p]) := by
  have hl := h.pos
  refine ⟨get_app h.root, fun k u hk e => ?_, fun k u hk e => ?_⟩
  · by_cases hlt : k < ups.length
    · rw [List.getElem?_append_left hlt] at e; exact h.up k u hk e
    · rw [List.getElem?_append_right (by omega)] at e
      have hk2 : k = ups.length := by
        by_cases h9 : k - ups.length = 0
        · omega
        · rw [List.getElem?_eq_none (by simp; omega)] at e; cases e
      subst hk2
      simp at e; subst e
      exact ⟨h0, hp⟩
  · by_cases hlt : k < ups.length
    · rw [List.getElem?_append_left hlt] at e; exact (h.ch k u hk e).app
    · rw [List.getElem?_append_right (by omega)] at e
      have hk2 : k = ups.length := by
        by_cases h9 : k - ups.length = 0
        · omega
        · rw [List.getElem?_eq_none (by simp; omega)] at e; cases e
      subst hk2
      simp at e; subst e
      exact ha.app
/-- all come to the root -/
theorem UpsOk.toRoot {ups : List Int} (h : UpsOk ups) : ∀ k, k < ups.length → Anc ups k 0 := by
  intro k
  induction k using Nat.strongRecOn with
  | _ k ih =>
    intro hk
    by_cases h0 : k = 0
    · subst h0; exact .refl 0
    · have e := List.getElem?_eq_getElem hk
      obtain ⟨a, b⟩ := h.up k _ (by omega) e
      exact .up e a (ih _ (by omega) (by omega))
/-- the word of a place -/
def wdF (ups : List Int) (labels : Sg) : Nat → Nat → Sg
  | 0, _ => []
  | n + 1, k => labels.getD k 0 :: (if 0 ≤ ups.getD k (-1) then wdF ups labels n (ups.getD k (-1)).toNat else [])
def wd (t : Tre) (k : Nat) : Sg := wdF t.1 t.2 (k + 1) k
theorem getD_of {α : Type} {xs : List α} {i : Nat} {a d : α} (h : xs[i]? = some a) : xs.getD i d = a := by
  rw [List.getD_eq_getElem?_getD, h]; rfl
theorem wdF_eq {ups : List Int} (labels : Sg) (ok : UpsOk ups) : ∀ (n m k : Nat), k < n → k < m → k < ups.length → wdF ups labels n k = wdF ups labels m k
  | 0, _, _, h, _, _ => by omega
  | _, 0, _, _, h, _ => by omega
  | n + 1, m + 1, k, h1, h2, h3 => by
    unfold wdF
    congr 1
    have e := List.getElem?_eq_getElem h3
    rw [getD_of e]
    by_cases h0 : 0 ≤ ups[k]
    · rw [if_pos h0, if_pos h0]
      by_cases hk : k = 0
      · subst hk
        rw [ok.root] at e
        have e2 : -1 = ups[0] := Option.some.inj e
        omega
      · obtain ⟨a, b⟩ := ok.up k _ (by omega) e
        exact wdF_eq labels ok n m _ (by omega) (by omega) (by omega)
    · rw [if_neg h0, if_neg h0]
theorem wd_root {t : Tre} (ok : UpsOk t.1) : wd t 0 = [t.2.getD 0 0] := by
  unfold wd wdF
  rw [getD_of ok.root]
  rfl
theorem wd_up {t : Tre} (ok : UpsOk t.1) {k : Nat} {u : Int} (h0 : 0 < k) (h : t.1[k]? = some u) : wd t k = t.2.getD k 0 :: wd t u.toNat := by
  have hk := (List.getElem?_eq_some_iff.mp h).1
  obtain ⟨a, b⟩ := ok.up k u h0 h
  show wdF t.1 t.2 (k + 1) k = _ :: wdF t.1 t.2 (u.toNat + 1) u.toNat
  rw [wdF.eq_def]
  simp only [getD_of h, if_pos a]
  rw [wdF_eq t.2 ok k (u.toNat + 1) u.toNat (by omega) (by omega) (by omega)]
theorem wd_len {t : Tre} (ok : UpsOk t.1) : ∀ k, k < t.1.length → 1 ≤ (wd t k).length ∧ (wd t k).length ≤ k + 1 := by
  intro k
  induction k using Nat.strongRecOn with
  | _ k ih =>
    intro hk
    by_cases h0 : k = 0
    · subst h0; rw [wd_root ok]; simp
    · have e := List.getElem?_eq_getElem hk
      obtain ⟨a, b⟩ := ok.up k _ (by omega) e
      rw [wd_up ok (by omega) e]
      have := ih _ (show (t.1[k]).toNat < k by omega) (by omega)
      simp; omega
/-- going up from a place: the word of an int, none below 0 -/
def wdI (t : Tre) (i : Int) : Sg := if 0 ≤ i then wd t i.toNat else []
theorem wdI_eq {t : Tre} (ok : UpsOk t.1) {i u : Int} (h0 : 0 ≤ i) (h : t.1[i.toNat]? = some u) : wdI t i = t.2.getD i.toNat 0 :: wdI t u := by
  unfold wdI
  rw [if_pos h0]
  by_cases hk : i.toNat = 0
  · rw [hk] at h ⊢
    rw [wd_root ok]
    rw [ok.root] at h
    have : u = -1 := (Option.some.inj h).symm
    subst this; rfl
  · obtain ⟨a, b⟩ := ok.up _ u (by omega) h
    rw [if_pos a, wd_up ok (by omega) h]
end U
set_option Elab.async false
set_option linter.all false
set_option maxRecDepth 100000
set_option maxHeartbeats 4000000
namespace G
open PySem PySem.Spec L2 U

def topS (i : Nat) : Stmt := PySem.Challenge.pw_upwords_k54_ways_down_told.main.body.getD i (.Pass ⟨0, 0, 0, 0⟩)
abbrev s_ways_down : Stmt := topS 1
abbrev s__law_cell_at : Stmt := topS 3
abbrev s__law_pool : Stmt := topS 4
abbrev s__law_take : Stmt := topS 5
abbrev s__law_letters : Stmt := topS 6
abbrev s__law_grown : Stmt := topS 7
abbrev s__law_copies : Stmt := topS 8
abbrev s__law_tree : Stmt := topS 9
abbrev s__law_way : Stmt := topS 10
abbrev s_law : Stmt := topS 11
section
variable {P : Program} {w : World} {K : PySem.W.Frag} {mg : Str → Option Value} {base : Heap}
def m_ways_down (x_tree : (List Int × Sg)) : Option (List Sg) :=
  (foldO (enumL x_tree.1) [] fun s30 a29 =>
  (if (decide ((0 : Int) ≤ a29.2)) = true then
  (atI s30 a29.2).bind fun a54 =>
  some a54
  else
  some ([] : Sg)).bind fun c52 =>
  (atI x_tree.2 a29.1).bind fun c58 =>
  (catM c52 [c58]).bind fun t59 =>
  (snocM s30 t59).bind fun l60 =>
  some l60).bind fun s20 =>
  some s20
def sp_ways_down (K : PySem.W.Frag) : Sp := fun vs H Q _ => ∃ (F : Hp) (v_tree : V) (x_tree : (List Int × Sg)) (r : List Sg), vs = [v_tree] ∧ Sub F H ∧ (eP2 (eT eI) eS).r F v_tree x_tree ∧ m_ways_down x_tree = some r ∧ ∀ (v : V) (F' H' : Hp) , Gr [] F H F' H' → New eS H F' H' v r → Q v H'
theorem sc_ways_down : FnScope ["tree", "found", "ups", "labels", "place", "up"] ["tree"] (defScope s_ways_down) := ⟨rfl, rfl, rfl, by decide +kernel, rfl, by decide +kernel, by decide +kernel⟩
theorem ok_ways_down {f : Addr} {fd : FuncData} (F : FnP K "ways_down" s_ways_down f fd) (b_enumerate : mg "enumerate" = none) : FnG P w K mg base CX0 1 f fd ["tree"] (sp_ways_down K) := by
  refine FnDok F sc_ways_down (fun vs H Q E h => ?_) (fun cdv A outer s H0 vs Q E gd hr h => ?_)
  · obtain ⟨_, _, _, _, rfl, _⟩ := h
    rfl
  · obtain ⟨F0, v_tree, x_tree, r0, rfl, hs0, r_tree, hm, hk⟩ := h
    have g0 : Gr [] F0 H0 F0 H0 := Gr.refl hs0
    refine ⟨_, PSs.nox (pss_cons (ps_asg (pv 0) (c_pgtup (K := K) rfl (by rfl) (pgs_cons (pg_name (i := 2) sc_ways_down.nd rfl (by first | exact Or.inl rfl | exact Or.inr rfl)) (pgs_cons (pg_name (i := 3) sc_ways_down.nd rfl (by first | exact Or.inl rfl | exact Or.inr rfl)) pgs_nil))))
(pss_cons (ps_set (i := 1) sc_ways_down.nd rfl (by first | exact Or.inl rfl | exact Or.inr rfl) (pe_lst pa_nil))
(pss_cons (ps_for PassesOwn.never rfl (pi_en (K := K) rfl (by rfl) b_enumerate (pa_cons (pv 2) pa_nil)) (c_pgtup (K := K) rfl (by rfl) (pgs_cons (pg_name (i := 4) sc_ways_down.nd rfl (by first | exact Or.inl rfl | exact Or.inr rfl)) (pgs_cons (pg_name (i := 5) sc_ways_down.nd rfl (by first | exact Or.inl rfl | exact Or.inr rfl)) pgs_nil))) (pss_one (ps_expr (c_bm (K := K) rfl PySem.F.plainAttrs_list PySem.F.slot_list_append PySem.F.type_list_append mt_append (pv 1) (pa_cons (pe_op c_catS (pe_ifExp (pt_cmpR op_ge (pv 5) pe_int (nomark _)) (pe_ix (c_ixL (K := K) rfl) (pv 1) (pv 5) (fun _ _ => rfl)) pe_str) (pe_ix ix_str (pv 3) (pv 4) (fun _ _ => rfl))) pa_nil)))))
(pss_one (ps_ret (pv 1)))))), ?_⟩
    refine n_seq ?_
    refine n_asg ?_
    refine n_var rfl ?_
    refine v_unp2 g0.fh r_tree fun v1 v3 r2 r4 => ?_
    obtain ⟨er4, lr4⟩ : v3 = V.str (S x_tree.2) ∧ x_tree.2.length ≤ sizeLine := r4
    subst er4
    refine n_gcons ?_
    refine n_name (setS (setS set0)) ?_
    refine n_gcons ?_
    refine n_name (setS (setS (setS set0))) ?_
    refine n_gnil ?_
    refine n_seq ?_
    refine n_asg ?_
    refine n_lst ?_
    refine n_nil ?_
    have al12 : Al eS F0 [] [] := .nil
    refine v_mkLM g0.fh rfl fun p5 H6 np7 d8 fp9 hp10 => ?_
    have go13 := g0.old np7
    have g14 := g0.trans0 d8
    have m15 : Mu [] H0 F0 H6 p5 (.lst []) := ⟨fp9, hp10, .inl go13⟩
    refine n_name (setS set0) ?_
    refine n_seq ?_
    refine n_for ?_
    refine n_en ?_
    refine n_cons ?_
    refine n_var rfl ?_
    refine n_nil ?_
    obtain ⟨p16, vs17, ep16, q18, al19⟩ := r2
    subst ep16
    refine v_en (k := (.t p16)) (vs := vs17) (SqT.of (g14.fh _ _ q18)) ?_
    obtain ⟨s20, hs20, hm⟩ := bnd hm
    refine for_o (sr_En (k := (.t p16)) al19) hs20 (fun (s7 : List Sg) σ7 H7 => ∃ (F7 : Hp) (o_place : Option V) (o_up : Option V) (us_found : List V), σ7 = [some v_tree, some (.ref p5), some (.ref p16), some (.str (S x_tree.2)), o_place, o_up] ∧ Gr [] F0 H0 F7 H7 ∧ Sub F0 F7 ∧ Mu [] H0 F7 H7 p5 (.lst us_found) ∧ Al eS F7 us_found s7) ⟨_, _, _, [], rfl, g14, Sub.refl _, m15, al12⟩ ?_ ?_ ?_
    · rintro s7 _ H7 ⟨F21, o24, o25, vs26, rfl, g22, sb23, m27, al28⟩
      exact (SqT.of (g22.fh _ _ (sb23 _ _ q18)))
    · rintro a29 s30 s31 x32 _ H33 H34 ⟨F38, o41, o42, vs43, rfl, g39, sb40, m44, al45⟩ hY35 hm N36 hN37
      refine v_unpE g39.fh hY35 fun v47 d46 r48 => ?_
      have g49 := g39.trans0 d46
      have m50 := m44.call0 d46
      have er48 : v47 = V.int a29.2 := r48
      subst er48
      refine n_gcons ?_
      refine n_name (setS (setS (setS (setS set0)))) ?_
      refine n_gcons ?_
      refine n_name (setS (setS (setS (setS (setS set0))))) ?_
      refine n_gnil ?_
      refine n_drop ?_
      refine n_bm ?_
      refine n_var rfl ?_
      refine ⟨tyL m50.l, ?_⟩
      refine n_cons ?_
      refine n_op ?_
      refine n_ifE ?_
      refine n_test ?_
      refine n_op ?_
      refine n_var rfl ?_
      refine n_c ?_
      refine v_i2 ?_
      refine v_bl ?_
      obtain ⟨c52, hc51, hm⟩ := bnd hm
      refine n_cutS c52 (fun Q7 k7 => br (fun hb53 => ?_) (fun hb53 => ?_)) ?_
      · replace hc51 := ifT hb53 hc51
        have hm := hc51
        refine n_op ?_
        refine n_var rfl ?_
        refine n_var rfl ?_
        obtain ⟨a54, ha54, hm⟩ := bnd hm
        refine v_ixL m50.l al45 ha54 fun v55 r56 => ?_
        obtain ⟨er56, lr56⟩ : v55 = V.str (S a54) ∧ a54.length ≤ sizeLine := r56
        subst er56
        obtain rfl := Option.some.inj hm
        exact k7 lr56
      · replace hc51 := ifF hb53 hc51
        have hm := hc51
        refine n_str (s := []) (by decide +kernel) ?_
        obtain rfl := Option.some.inj hm
        exact k7 (sz_ok (n := 0) rfl)
      intro l57
      refine n_op ?_
      refine n_var rfl ?_
      refine n_var rfl ?_
      obtain ⟨c58, hc58, hm⟩ := bnd hm
      refine v_ixS lr4 hc58 ?_
      obtain ⟨t59, ht59, hm⟩ := bnd hm
      refine v_catS ht59 ?_
      refine n_nil ?_
      obtain ⟨l60, hl60, hm⟩ := bnd hm
      obtain ⟨vs64, H61, g65, al63, evs64, eH61⟩ := app_ok g49 m50 al45 hl60 (show eS.r F38 (.str (S t59)) t59 from ⟨rfl, (catM_le ht59)⟩)
      refine v_append m50.hp (snoc_lt al45 hl60) ?_
      rw [← evs64, ← eH61]
      have m66 := mu_self m50 eH61
      obtain rfl := Option.some.inj hm
      exact hN37 _ _ ⟨_, _, _, vs64, rfl, g65, sb40, m66, al63⟩
    rintro _ H67 ⟨F68, o71, o72, vs73, rfl, g69, sb70, m74, al75⟩
    refine n_ret ?_
    refine n_var rfl ?_
    obtain rfl := Option.some.inj hm
    exact hk _ _ _  g69   ⟨p5, vs73, rfl, (m74.own.resolve_right (by simp)), m74.fr, m74.hp, al75⟩

def m__law_cell_at (x_script : List Int) (x_k : Int) : Option Int :=
  if (decide (x_k < (x_script.length : Int))) = true then
  (atI x_script x_k).bind fun a2 =>
  some a2
  else
  some (0 : Int)
def sp__law_cell_at (K : PySem.W.Frag) : Sp := fun vs H Q _ => ∃ (F : Hp) (v_script : V) (x_script : List Int) (v_k : V) (x_k : Int) (r : Int), vs = [v_script, v_k] ∧ Sub F H ∧ (eQ K).r F v_script x_script ∧ eI.r F v_k x_k ∧ m__law_cell_at x_script x_k = some r ∧ ∀ (v : V) (F' H' : Hp) , Gr [] F H F' H' → eI.r F' v r → Q v H'
theorem sc__law_cell_at : FnScope ["script", "k"] ["script", "k"] (defScope s__law_cell_at) := ⟨rfl, rfl, rfl, by decide +kernel, rfl, by decide +kernel, by decide +kernel⟩
theorem ok__law_cell_at {f : Addr} {fd : FuncData} (F : FnP K "_law_cell_at" s__law_cell_at f fd) (b_len : mg "len" = none) : FnG P w K mg base CX0 1 f fd ["script", "k"] (sp__law_cell_at K) := by
  refine FnDok F sc__law_cell_at (fun vs H Q E h => ?_) (fun cdv A outer s H0 vs Q E gd hr h => ?_)
  · obtain ⟨_, _, _, _, _, _, rfl, _⟩ := h
    rfl
  · obtain ⟨F0, v_script, x_script, v_k, x_k, r0, rfl, hs0, r_script, r_k, hm, hk⟩ := h
    have g0 : Gr [] F0 H0 F0 H0 := Gr.refl hs0
    have er_k : v_k = V.int x_k := r_k
    subst er_k
    refine ⟨_, PSs.nox (pss_cons (ps_if (pt_cmpR op_lt (pv 1) (pe_callB (c_len (K := K) rfl) (by rfl) b_len bo_len (pa_cons (pv 0) pa_nil)) (nomark _)) (pss_one (ps_ret (pe_ix (c_ixL (K := K) rfl) (pv 0) (pv 1) (fun _ _ => rfl)))) pss_nil)
(pss_one (ps_ret pe_int))), ?_⟩
    refine n_seq ?_
    refine n_ifs ?_
    refine n_test ?_
    refine n_op ?_
    refine n_var rfl ?_
    refine n_cb ?_
    refine n_cons ?_
    refine n_var rfl ?_
    refine n_nil ?_
    refine v_lenQ g0.fh r_script ?_
    refine v_i2 ?_
    refine v_bl ?_
    refine br (fun hb1 => ?_) (fun hb1 => ?_)
    · replace hm := ifT hb1 hm
      refine n_ret ?_
      refine n_op ?_
      refine n_var rfl ?_
      refine n_var rfl ?_
      obtain ⟨a2, ha2, hm⟩ := bnd hm
      refine v_ixQ g0.fh r_script ha2 ?_
      obtain rfl := Option.some.inj hm
      exact hk _ _ _  g0   rfl
    replace hm := ifF hb1 hm
    refine n_nextS ?_
    refine n_ret ?_
    refine n_c ?_
    obtain rfl := Option.some.inj hm
    exact hk _ _ _  g0   rfl

def m__law_pool (x_script : List Int) (x_at : Int) : Option (List Int) :=
  (m__law_cell_at x_script x_at).bind fun r1 =>
  (uptoM 0 (99 : Int)).bind fun l8 =>
  (foldO l8 (0 : Int) fun s11 a10 =>
  (mulM ((89 : Int) * a10) a10).bind fun a24 =>
  (mulM ((((((r1 % (998244353 : Int)) + a24) + ((7 : Int) * x_at)) + (1 : Int)) * (48271 : Int)) % (2147483647 : Int)) ((((((r1 % (998244353 : Int)) + a24) + ((7 : Int) * x_at)) + (1 : Int)) * (48271 : Int)) % (2147483647 : Int))).bind fun a25 =>
  some ((s11 * (1000003 : Int)) + ((((((a25 % (1000000007 : Int)) + ((7919 : Int) * a10)) * (69621 : Int)) % (2147483587 : Int)) / (8 : Int)) % (1000003 : Int)))).bind fun s9 =>
  (mulM r1 (b2 (decide ((1000000000000000000 : Int) ≤ r1)))).bind fun a32 =>
  some [a32, s9]
def sp__law_pool (K : PySem.W.Frag) : Sp := fun vs H Q _ => ∃ (F : Hp) (v_script : V) (x_script : List Int) (v_at : V) (x_at : Int) (r : List Int), vs = [v_script, v_at] ∧ Sub F H ∧ (eQ K).r F v_script x_script ∧ eI.r F v_at x_at ∧ m__law_pool x_script x_at = some r ∧ ∀ (v : V) (F' H' : Hp) , Gr [] F H F' H' → New eI H F' H' v r → Q v H'
theorem sc__law_pool : FnScope ["script", "at", "cell", "big", "turn", "one"] ["script", "at"] (defScope s__law_pool) := ⟨rfl, rfl, rfl, by decide +kernel, rfl, by decide +kernel, by decide +kernel⟩
theorem ok__law_pool {f : Addr} {fd : FuncData} (F : FnP K "_law_pool" s__law_pool f fd) (H__law_cell_at : HasG P w K mg base "_law_cell_at" ["script", "k"] 1 (sp__law_cell_at K)) (b_range : mg "range" = none) (b_int : mg "int" = none) : FnG P w K mg base CX0 2 f fd ["script", "at"] (sp__law_pool K) := by
  obtain ⟨f__law_cell_at, fd__law_cell_at, G0__law_cell_at, g__law_cell_at, k__law_cell_at, b__law_cell_at⟩ := H__law_cell_at
  have G__law_cell_at := G0__law_cell_at.mono (show 1 ≤ 1 by decide)
  refine FnDok F sc__law_pool (fun vs H Q E h => ?_) (fun cdv A outer s H0 vs Q E gd hr h => ?_)
  · obtain ⟨_, _, _, _, _, _, rfl, _⟩ := h
    rfl
  · obtain ⟨F0, v_script, x_script, v_at, x_at, r0, rfl, hs0, r_script, r_at, hm, hk⟩ := h
    have g0 : Gr [] F0 H0 F0 H0 := Gr.refl hs0
    have er_at : v_at = V.int x_at := r_at
    subst er_at
    refine ⟨_, PSs.nox (pss_cons (ps_set (i := 2) sc__law_pool.nd rfl (by first | exact Or.inl rfl | exact Or.inr rfl) (pe_callG G__law_cell_at gd hr (by rfl) g__law_cell_at k__law_cell_at b__law_cell_at pass0 (pa_cons (pv 0) (pa_cons (pv 1) pa_nil))))
(pss_cons (ps_set (i := 3) sc__law_pool.nd rfl (by first | exact Or.inl rfl | exact Or.inr rfl) pe_int)
(pss_cons (ps_for PassesOwn.never rfl (pi_range1 (by rfl) b_range (pa_cons pe_int pa_nil)) (pg_name (i := 4) sc__law_pool.nd rfl (by first | exact Or.inl rfl | exact Or.inr rfl)) (pss_cons (ps_set (i := 5) sc__law_pool.nd rfl (by first | exact Or.inl rfl | exact Or.inr rfl) (pe_op op_mod (pe_op op_mul (pe_op op_add (pe_op op_add (pe_op op_add (pe_op op_mod (pv 2) pe_int) (pe_op op_mul (pe_op op_mul pe_int (pv 4)) (pv 4))) (pe_op op_mul pe_int (pv 1))) pe_int) pe_int) pe_int))
(pss_cons (ps_set (i := 5) sc__law_pool.nd rfl (by first | exact Or.inl rfl | exact Or.inr rfl) (pe_op op_mod (pe_op op_mul (pv 5) (pv 5)) pe_int))
(pss_cons (ps_set (i := 5) sc__law_pool.nd rfl (by first | exact Or.inl rfl | exact Or.inr rfl) (pe_op op_mod (pe_op op_mul (pe_op op_add (pv 5) (pe_op op_mul pe_int (pv 4))) pe_int) pe_int))
(pss_one (ps_set (i := 3) sc__law_pool.nd rfl (by first | exact Or.inl rfl | exact Or.inr rfl) (pe_op op_add (pe_op op_mul (pv 3) pe_int) (pe_op op_mod (pe_op op_fdiv (pv 5) pe_int) pe_int))))))))
(pss_one (ps_ret (pe_lst (pa_cons (pe_op op_mul (pv 2) (pe_callTy c_int1 (by rfl) b_int bo_int (pa_cons (pe_cmpR op_ge (pv 2) (pe_op op_pow pe_int pe_int) (nomark _)) pa_nil))) (pa_cons (pv 3) pa_nil)))))))), ?_⟩
    refine n_seq ?_
    refine n_asg ?_
    refine n_call ?_
    refine n_cons ?_
    refine n_var rfl ?_
    refine n_cons ?_
    refine n_var rfl ?_
    refine n_nil ?_
    obtain ⟨r1, hr1, hm⟩ := bnd hm
    refine ⟨F0, v_script, x_script, .int x_at, x_at, r1, rfl, g0.fh, r_script, rfl, hr1, fun v5 F2 H3 d4 r6 => ?_⟩
    have g7 := g0.trans0 d4
    have er6 : v5 = V.int r1 := r6
    subst er6
    refine n_name (setS (setS set0)) ?_
    refine n_seq ?_
    refine n_asg ?_
    refine n_c ?_
    refine n_name (setS (setS (setS set0))) ?_
    refine n_seq ?_
    refine n_for ?_
    refine n_rng1 ?_
    refine n_cons ?_
    refine n_c ?_
    refine n_nil ?_
    obtain ⟨l8, hl8, hm⟩ := bnd hm
    refine v_rng1 hl8 ?_
    obtain ⟨s9, hs9, hm⟩ := bnd hm
    refine for_o (sr_R1 hl8) hs9 (fun (s7 : Int) σ7 H7 => ∃ (F7 : Hp) (o_turn : Option V) (o_one : Option V), σ7 = [some v_script, some (.int x_at), some (.int r1), some (.int s7), o_turn, o_one] ∧ Gr [] F0 H0 F7 H7 ∧ Sub F2 F7) ⟨_, _, _, rfl, g7, Sub.refl _⟩ ?_ ?_ ?_
    · intros; exact trivial
    · rintro a10 s11 s12 x13 _ H14 H15 ⟨F19, o22, o23, rfl, g20, sb21⟩ hY16 hm N17 hN18
      refine v_nmR hY16 ?_
      refine n_name (setS (setS (setS (setS set0)))) ?_
      refine n_seq ?_
      refine n_asg ?_
      refine n_op ?_
      refine n_op ?_
      refine n_op ?_
      refine n_op ?_
      refine n_op ?_
      refine n_op ?_
      refine n_var rfl ?_
      refine n_c ?_
      refine v_modK (by decide) ?_
      refine n_op ?_
      refine n_op ?_
      refine n_c ?_
      refine n_var rfl ?_
      refine v_mulL (by decide) ?_
      refine n_var rfl ?_
      obtain ⟨a24, ha24, hm⟩ := bnd hm
      refine v_mul ha24 ?_
      refine v_i2 ?_
      refine n_op ?_
      refine n_c ?_
      refine n_var rfl ?_
      refine v_mulL (by decide) ?_
      refine v_i2 ?_
      refine n_c ?_
      refine v_i2 ?_
      refine n_c ?_
      refine v_mulR (by decide) ?_
      refine n_c ?_
      refine v_modK (by decide) ?_
      refine n_name (setS (setS (setS (setS (setS set0))))) ?_
      refine n_seq ?_
      refine n_asg ?_
      refine n_op ?_
      refine n_op ?_
      refine n_var rfl ?_
      refine n_var rfl ?_
      obtain ⟨a25, ha25, hm⟩ := bnd hm
      refine v_mul ha25 ?_
      refine n_c ?_
      refine v_modK (by decide) ?_
      refine n_name (setS (setS (setS (setS (setS set0))))) ?_
      refine n_seq ?_
      refine n_asg ?_
      refine n_op ?_
      refine n_op ?_
      refine n_op ?_
      refine n_var rfl ?_
      refine n_op ?_
      refine n_c ?_
      refine n_var rfl ?_
      refine v_mulL (by decide) ?_
      refine v_i2 ?_
      refine n_c ?_
      refine v_mulR (by decide) ?_
      refine n_c ?_
      refine v_modK (by decide) ?_
      refine n_name (setS (setS (setS (setS (setS set0))))) ?_
      refine n_asg ?_
      refine n_op ?_
      refine n_op ?_
      refine n_var rfl ?_
      refine n_c ?_
      refine v_mulR (by decide) ?_
      refine n_op ?_
      refine n_op ?_
      refine n_var rfl ?_
      refine n_c ?_
      refine v_divK (by decide) ?_
      refine n_c ?_
      refine v_modK (by decide) ?_
      refine v_i2 ?_
      refine n_name (setS (setS (setS set0))) ?_
      obtain rfl := Option.some.inj hm
      exact hN18 _ _ ⟨_, _, _, rfl, g20, sb21⟩
    rintro _ H26 ⟨F27, o30, o31, rfl, g28, sb29⟩
    refine n_ret ?_
    refine n_lst ?_
    refine n_cons ?_
    refine n_op ?_
    refine n_var rfl ?_
    refine n_cb ?_
    refine n_cons ?_
    refine n_op ?_
    refine n_var rfl ?_
    refine n_op ?_
    refine n_c ?_
    refine n_c ?_
    refine v_powK (a := 1000000000000000000) ⟨by decide, by decide, by decide⟩ (by decide +kernel) ?_
    refine v_i2 ?_
    refine n_nil ?_
    refine v_intB ?_
    obtain ⟨a32, ha32, hm⟩ := bnd hm
    refine v_mul ha32 ?_
    refine n_cons ?_
    refine n_var rfl ?_
    refine n_nil ?_
    have al40 : Al eI F27 [.int a32, .int s9] [a32, s9] := (.cons rfl (.cons rfl .nil))
    refine v_mkLM g28.fh rfl fun p33 H34 np35 d36 fp37 hp38 => ?_
    have go41 := g28.old np35
    have g42 := g28.trans0 d36
    have m43 : Mu [] H0 F27 H34 p33 (.lst [.int a32, .int s9]) := ⟨fp37, hp38, .inl go41⟩
    obtain rfl := Option.some.inj hm
    exact hk _ _ _  g42   ⟨p33, [.int a32, .int s9], rfl, (m43.own.resolve_right (by simp)), m43.fr, m43.hp, al40⟩

def m__law_take (x_pool : List Int) (x_many : Int) : Option (Int × List Int) :=
  (atI x_pool (0 : Int)).bind fun a2 =>
  (atI x_pool (b2 (decide (a2 = (0 : Int))))).bind fun a5 =>
  (modM a5 x_many).bind fun a8 =>
  (atI x_pool (b2 (decide (a2 = (0 : Int))))).bind fun a9 =>
  (divM a9 x_many).bind fun a12 =>
  (setM x_pool (b2 (decide (a2 = (0 : Int)))) a12).bind fun l13 =>
  some (a8, l13)
def sp__law_take (K : PySem.W.Frag) : Sp := fun vs H Q _ => ∃ (F : Hp) (p_pool : Addr) (vs_pool : List V) (x_pool : List Int) (v_many : V) (x_many : Int) (r : (Int × List Int)), vs = [.ref p_pool, v_many] ∧ Sub F H ∧ F p_pool = none ∧ H p_pool = some (.lst vs_pool) ∧ Al eI F vs_pool x_pool ∧ eI.r F v_many x_many ∧ m__law_take x_pool x_many = some r ∧ ∀ (v : V) (F' H' : Hp) (us_pool : List V), Gr [p_pool] F H F' H' → H' p_pool = some (.lst us_pool) → Al eI F' us_pool r.2 → eI.r F' v r.1 → Q v H'
theorem sc__law_take : FnScope ["pool", "many", "at", "number"] ["pool", "many"] (defScope s__law_take) := ⟨rfl, rfl, rfl, by decide +kernel, rfl, by decide +kernel, by decide +kernel⟩
theorem ok__law_take {f : Addr} {fd : FuncData} (F : FnP K "_law_take" s__law_take f fd) (b_int : mg "int" = none) : FnG P w K mg base CX0 1 f fd ["pool", "many"] (sp__law_take K) := by
  refine FnDok F sc__law_take (fun vs H Q E h => ?_) (fun cdv A outer s H0 vs Q E gd hr h => ?_)
  · obtain ⟨_, _, _, _, _, _, _, rfl, _⟩ := h
    rfl
  · obtain ⟨F0, p_pool, vs_pool, x_pool, v_many, x_many, r0, rfl, hs0, fr_pool, hp_pool, al_pool, r_many, hm, hk⟩ := h
    have g0 : Gr [p_pool] F0 H0 F0 H0 := Gr.refl hs0
    have m1 : Mu [p_pool] H0 F0 H0 p_pool (.lst vs_pool) := ⟨fr_pool, hp_pool, .inr (by simp)⟩
    have er_many : v_many = V.int x_many := r_many
    subst er_many
    refine ⟨_, PSs.nox (pss_cons (ps_set (i := 2) sc__law_take.nd rfl (by first | exact Or.inl rfl | exact Or.inr rfl) (pe_callTy c_int1 (by rfl) b_int bo_int (pa_cons (pe_cmpR op_eq (pe_ix (c_ixL (K := K) rfl) (pv 0) pe_int (fun _ _ => rfl)) pe_int (nomark _)) pa_nil)))
(pss_cons (ps_set (i := 3) sc__law_take.nd rfl (by first | exact Or.inl rfl | exact Or.inr rfl) (pe_op op_mod (pe_ix (c_ixL (K := K) rfl) (pv 0) (pv 2) (fun _ _ => rfl)) (pv 1)))
(pss_cons (ps_asg (pe_op op_fdiv (pe_ix (c_ixL (K := K) rfl) (pv 0) (pv 2) (fun _ _ => rfl)) (pv 1)) (pg_sub (pv 0) (pv 2) set_list))
(pss_one (ps_ret (pv 3)))))), ?_⟩
    refine n_seq ?_
    refine n_asg ?_
    refine n_cb ?_
    refine n_cons ?_
    refine n_op ?_
    refine n_op ?_
    refine n_var rfl ?_
    refine n_c ?_
    obtain ⟨a2, ha2, hm⟩ := bnd hm
    refine v_ixL m1.l al_pool ha2 fun v3 r4 => ?_
    have er4 : v3 = V.int a2 := r4
    subst er4
    refine n_c ?_
    refine v_eqI ?_
    refine n_nil ?_
    refine v_intB ?_
    refine n_name (setS (setS set0)) ?_
    refine n_seq ?_
    refine n_asg ?_
    refine n_op ?_
    refine n_op ?_
    refine n_var rfl ?_
    refine n_var rfl ?_
    obtain ⟨a5, ha5, hm⟩ := bnd hm
    refine v_ixL m1.l al_pool ha5 fun v6 r7 => ?_
    have er7 : v6 = V.int a5 := r7
    subst er7
    refine n_var rfl ?_
    obtain ⟨a8, ha8, hm⟩ := bnd hm
    refine v_mod ha8 ?_
    refine n_name (setS (setS (setS set0))) ?_
    refine n_seq ?_
    refine n_asg ?_
    refine n_op ?_
    refine n_op ?_
    refine n_var rfl ?_
    refine n_var rfl ?_
    obtain ⟨a9, ha9, hm⟩ := bnd hm
    refine v_ixL m1.l al_pool ha9 fun v10 r11 => ?_
    have er11 : v10 = V.int a9 := r11
    subst er11
    refine n_var rfl ?_
    obtain ⟨a12, ha12, hm⟩ := bnd hm
    refine v_div ha12 ?_
    refine n_sub ?_
    refine n_var rfl ?_
    refine n_var rfl ?_
    obtain ⟨l13, hl13, hm⟩ := bnd hm
    obtain ⟨n14, en15, al16⟩ := setM_ok al_pool hl13 (show eI.r F0 (.int a12) a12 from rfl)
    refine v_setL m1.hp en15 ?_
    obtain ⟨vs17, H18, g19, evs17, eH18⟩ := st_ok g0 m1 ((vs_pool : List V).set n14 (.int a12))
    rw [← evs17, ← eH18]
    rw [← evs17] at al16
    have m20 := mu_self m1 eH18
    refine n_ret ?_
    refine n_var rfl ?_
    obtain rfl := Option.some.inj hm
    exact hk _ _ _ _ g19 m20.hp al16 rfl

def m__law_letters (x_pool : List Int) : Option (List Sg × List Int) :=
  (m__law_take x_pool (6 : Int)).bind fun r10 =>
  (atI [(1 : Int), (2 : Int), (2 : Int), (3 : Int), (5 : Int), (26 : Int)] r10.1).bind fun a21 =>
  (m__law_take r10.2 (26 : Int)).bind fun r24 =>
  (m__law_take r24.2 (3 : Int)).bind fun r43 =>
  (atI [(1 : Int), (3 : Int), (25 : Int)] r43.1).bind fun a54 =>
  (uptoM 0 a21).bind fun l57 =>
  (need (szB l57.length) ()).bind fun u60 =>
  (compS l57 fun a62 =>
  (mulM a54 a62).bind fun a83 =>
  (atI ([97, 98, 99, 100, 101, 102, 103, 104, 105, 106, 107, 108, 109, 110, 111, 112, 113, 114, 115, 116, 117, 118, 119, 120, 121, 122] : Sg) ((r24.1 + a83) % (26 : Int))).bind fun c84 =>
  some (some [c84])).bind fun q61 =>
  some (q61, r43.2)
def sp__law_letters (K : PySem.W.Frag) : Sp := fun vs H Q _ => ∃ (F : Hp) (p_pool : Addr) (vs_pool : List V) (x_pool : List Int) (r : (List Sg × List Int)), vs = [.ref p_pool] ∧ Sub F H ∧ F p_pool = none ∧ H p_pool = some (.lst vs_pool) ∧ Al eI F vs_pool x_pool ∧ m__law_letters x_pool = some r ∧ ∀ (v : V) (F' H' : Hp) (us_pool : List V), Gr [p_pool] F H F' H' → H' p_pool = some (.lst us_pool) → Al eI F' us_pool r.2 → New eS H F' H' v r.1 → Q v H'
theorem sc__law_letters : FnScope ["pool", "many", "first", "by", "k"] ["pool"] (defScope s__law_letters) := ⟨rfl, rfl, rfl, by decide +kernel, rfl, by decide +kernel, by decide +kernel⟩
theorem ok__law_letters {f : Addr} {fd : FuncData} (F : FnP K "_law_letters" s__law_letters f fd) (H__law_take : HasG P w K mg base "_law_take" ["pool", "many"] 1 (sp__law_take K)) (b_range : mg "range" = none) : FnG P w K mg base CX0 2 f fd ["pool"] (sp__law_letters K) := by
  obtain ⟨f__law_take, fd__law_take, G0__law_take, g__law_take, k__law_take, b__law_take⟩ := H__law_take
  have G__law_take := G0__law_take.mono (show 1 ≤ 1 by decide)
  refine FnDok F sc__law_letters (fun vs H Q E h => ?_) (fun cdv A outer s H0 vs Q E gd hr h => ?_)
  · obtain ⟨_, _, _, _, _, rfl, _⟩ := h
    rfl
  · obtain ⟨F0, p_pool, vs_pool, x_pool, r0, rfl, hs0, fr_pool, hp_pool, al_pool, hm, hk⟩ := h
    have g0 : Gr [p_pool] F0 H0 F0 H0 := Gr.refl hs0
    have m1 : Mu [p_pool] H0 F0 H0 p_pool (.lst vs_pool) := ⟨fr_pool, hp_pool, .inr (by simp)⟩
    refine ⟨_, PSs.nox (pss_cons (ps_set (i := 1) sc__law_letters.nd rfl (by first | exact Or.inl rfl | exact Or.inr rfl) (pe_ix (c_ixL (K := K) rfl) (pe_lst (pa_cons pe_int (pa_cons pe_int (pa_cons pe_int (pa_cons pe_int (pa_cons pe_int (pa_cons pe_int pa_nil))))))) (pe_callG G__law_take gd hr (by rfl) g__law_take k__law_take b__law_take pass0 (pa_cons (pv 0) (pa_cons pe_int pa_nil))) (fun _ _ => rfl)))
(pss_cons (ps_set (i := 2) sc__law_letters.nd rfl (by first | exact Or.inl rfl | exact Or.inr rfl) (pe_callG G__law_take gd hr (by rfl) g__law_take k__law_take b__law_take pass0 (pa_cons (pv 0) (pa_cons pe_int pa_nil))))
(pss_cons (ps_set (i := 3) sc__law_letters.nd rfl (by first | exact Or.inl rfl | exact Or.inr rfl) (pe_ix (c_ixL (K := K) rfl) (pe_lst (pa_cons pe_int (pa_cons pe_int (pa_cons pe_int pa_nil)))) (pe_callG G__law_take gd hr (by rfl) g__law_take k__law_take b__law_take pass0 (pa_cons (pv 0) (pa_cons pe_int pa_nil))) (fun _ _ => rfl)))
(pss_one (ps_ret (pe_lc (own := [("k", 4)]) (g := gName 4) (by rfl) sc__law_letters.nd (pi_range1 (by rfl) b_range (pa_cons (pv 1) pa_nil)) (blkOk_by (own := [("k", 4)]) (N := ["pool", "many", "first", "by", "k"]) (sc := defScope s__law_letters) (by decide +kernel)) (fun _ _ _ _ _ => (pg_name (i := 4) sc__law_letters.nd rfl (Or.inl rfl))) (fun _ _ _ _ _ => pts_nil) (fun _ _ _ _ _ => (pe_ix ix_str pe_str (pe_op op_mod (pe_op op_add (pv 2) (pe_op op_mul (pv 3) (pv 4))) pe_int) (fun _ _ => rfl))))))))), ?_⟩
    refine n_seq ?_
    refine n_asg ?_
    refine n_op ?_
    refine n_lst ?_
    refine n_cons ?_
    refine n_c ?_
    refine n_cons ?_
    refine n_c ?_
    refine n_cons ?_
    refine n_c ?_
    refine n_cons ?_
    refine n_c ?_
    refine n_cons ?_
    refine n_c ?_
    refine n_cons ?_
    refine n_c ?_
    refine n_nil ?_
    refine v_mkLF (t := eI) (xs := [(1 : Int), (2 : Int), (2 : Int), (3 : Int), (5 : Int), (26 : Int)]) g0.fh (.cons rfl (.cons rfl (.cons rfl (.cons rfl (.cons rfl (.cons rfl .nil)))))) rfl fun p2 F3 H4 d5 q6 al7 => ?_
    have g8 := g0.trans0 d5
    have m9 := m1.call0 d5
    refine n_call ?_
    refine n_cons ?_
    refine n_var rfl ?_
    refine n_cons ?_
    refine n_c ?_
    refine n_nil ?_
    obtain ⟨r10, hr10, hm⟩ := bnd hm
    refine ⟨F3, p_pool, vs_pool, x_pool, .int (6 : Int), (6 : Int), r10, rfl, g8.fh, m9.fr, m9.hp, (Al.mono al_pool d5.ff), rfl, hr10, fun v17 F11 H12 vs14 d13 hp15 al16 r18 => ?_⟩
    have g19 := g8.trans d13 (fun a ha => (List.mem_cons.mp ha).elim (fun e => e ▸ m9.own) (fun ha => absurd ha (by simp)))
    have m20 := m9.back d13 hp15
    have er18 : v17 = V.int r10.1 := r18
    subst er18
    obtain ⟨a21, ha21, hm⟩ := bnd hm
    refine v_ixL (SqL.of (g19.fh _ _ (d13.ff _ _ q6))) (Al.mono al7 d13.ff) ha21 fun v22 r23 => ?_
    have er23 : v22 = V.int a21 := r23
    subst er23
    refine n_name (setS set0) ?_
    refine n_seq ?_
    refine n_asg ?_
    refine n_call ?_
    refine n_cons ?_
    refine n_var rfl ?_
    refine n_cons ?_
    refine n_c ?_
    refine n_nil ?_
    obtain ⟨r24, hr24, hm⟩ := bnd hm
    refine ⟨F11, p_pool, vs14, r10.2, .int (26 : Int), (26 : Int), r24, rfl, g19.fh, m20.fr, m20.hp, al16, rfl, hr24, fun v31 F25 H26 vs28 d27 hp29 al30 r32 => ?_⟩
    have g33 := g19.trans d27 (fun a ha => (List.mem_cons.mp ha).elim (fun e => e ▸ m20.own) (fun ha => absurd ha (by simp)))
    have m34 := m20.back d27 hp29
    have er32 : v31 = V.int r24.1 := r32
    subst er32
    refine n_name (setS (setS set0)) ?_
    refine n_seq ?_
    refine n_asg ?_
    refine n_op ?_
    refine n_lst ?_
    refine n_cons ?_
    refine n_c ?_
    refine n_cons ?_
    refine n_c ?_
    refine n_cons ?_
    refine n_c ?_
    refine n_nil ?_
    refine v_mkLF (t := eI) (xs := [(1 : Int), (3 : Int), (25 : Int)]) g33.fh (.cons rfl (.cons rfl (.cons rfl .nil))) rfl fun p35 F36 H37 d38 q39 al40 => ?_
    have g41 := g33.trans0 d38
    have m42 := m34.call0 d38
    refine n_call ?_
    refine n_cons ?_
    refine n_var rfl ?_
    refine n_cons ?_
    refine n_c ?_
    refine n_nil ?_
    obtain ⟨r43, hr43, hm⟩ := bnd hm
    refine ⟨F36, p_pool, vs28, r24.2, .int (3 : Int), (3 : Int), r43, rfl, g41.fh, m42.fr, m42.hp, (Al.mono al30 d38.ff), rfl, hr43, fun v50 F44 H45 vs47 d46 hp48 al49 r51 => ?_⟩
    have g52 := g41.trans d46 (fun a ha => (List.mem_cons.mp ha).elim (fun e => e ▸ m42.own) (fun ha => absurd ha (by simp)))
    have m53 := m42.back d46 hp48
    have er51 : v50 = V.int r43.1 := r51
    subst er51
    obtain ⟨a54, ha54, hm⟩ := bnd hm
    refine v_ixL (SqL.of (g52.fh _ _ (d46.ff _ _ q39))) (Al.mono al40 d46.ff) ha54 fun v55 r56 => ?_
    have er56 : v55 = V.int a54 := r56
    subst er56
    refine n_name (setS (setS (setS set0))) ?_
    refine n_ret ?_
    refine n_lc ?_
    refine n_rng1 ?_
    refine n_cons ?_
    refine n_var rfl ?_
    refine n_nil ?_
    obtain ⟨l57, hl57, hm⟩ := bnd hm
    refine v_rng1 hl57 ?_
    obtain ⟨u60, hu60, hm⟩ := bnd hm
    obtain ⟨q61, hq61, hm⟩ := bnd hm
    intro D58 nD59
    have goD58 := g52.old nD59
    have neD58_p_pool := m53.ne nD59
    have gg89 := gr_newM (W := []) (o := .lst []) g52.fh nD59
    refine comp_s (sr_R1 hl57) hq61 (need_ok hu60).1 (fun (acc7 : List Sg) H7 => ∃ (F7 : Hp) (vs7 : List V), Gr [p_pool] F0 H0 F7 H7 ∧ Sub F44 F7 ∧ F7 D58 = none ∧ H7 D58 = some (.lst vs7) ∧ Al eS F7 vs7 acc7 ∧ Mu [p_pool] H0 F7 H7 p_pool (.lst vs47)) ⟨_, [], g52.trans0 gg89, Sub.refl _, g52.fh.nn nD59, upd_same, .nil, m53.call0 gg89⟩ ?_ ?_ ?_
    · intros; exact trivial
    · rintro a62 r64 acc65 x66 H67 H68 ⟨F73, vs74, g75, sb76, fD77, hD78, al79, m80⟩ hY69 hm hl72 N70 hN71
      have m82 : Mu [p_pool] H0 F73 H67 D58 (.lst vs74) := ⟨fD77, hD78, .inl goD58⟩
      refine wipe_to (σ' := [some (.ref p_pool), some (.int a21), some (.int r24.1), some (.int a54), none]) rfl ?_
      refine v_nmR hY69 ?_
      refine n_name (setS (setS (setS (setS set0)))) ?_
      refine ⟨rfl, ?_⟩
      refine n_yes ?_ rfl
      refine n_op ?_
      refine n_str (s := [97, 98, 99, 100, 101, 102, 103, 104, 105, 106, 107, 108, 109, 110, 111, 112, 113, 114, 115, 116, 117, 118, 119, 120, 121, 122]) (by decide +kernel) ?_
      refine n_op ?_
      refine n_op ?_
      refine n_var rfl ?_
      refine n_op ?_
      refine n_var rfl ?_
      refine n_var rfl ?_
      obtain ⟨a83, ha83, hm⟩ := bnd hm
      refine v_mul ha83 ?_
      refine v_i2 ?_
      refine n_c ?_
      refine v_modK (by decide) ?_
      obtain ⟨c84, hc84, hm⟩ := bnd hm
      refine v_ixS (sz_ok (n := 26) rfl) hc84 ?_
      obtain rfl := Option.some.inj hm
      refine ⟨_, m82.hp, by rw [al_len al79]; exact hl72, hN71 _ ?_⟩
      exact ⟨_, _, m82.gr g75, sb76, m82.fr, upd_same, pd_snoc al79 (show eS.r F73 (.str (S [c84])) [c84] from ⟨rfl, one_le⟩), m80.mut neD58_p_pool⟩
    rintro H90 ⟨F91, vs92, g93, sb94, fD95, hD96, al97, m98⟩
    have m100 : Mu [p_pool] H0 F91 H90 D58 (.lst vs92) := ⟨fD95, hD96, .inl goD58⟩
    obtain rfl := Option.some.inj hm
    exact hk _ _ _ _ g93 m98.hp (Al.mono al49 sb94) ⟨D58, vs92, rfl, (m100.own.resolve_right (nin1 (Ne.symm neD58_p_pool))), m100.fr, m100.hp, al97⟩

def m__law_grown (x_pool : List Int) (x_many : Int) (x_kind : Int) (x_letters : List Sg) : Option ((List Int × Sg) × List Int) :=
  (uptoM (1 : Int) x_many).bind fun l24 =>
  (foldO l24 ([(0 : Int)], x_pool, [(-1 : Int)]) fun s27 a26 =>
  (m__law_take s27.2.1 (4 : Int)).bind fun r56 =>
  (atI [(s27.1.length : Int), ((1 : Int) + r56.1)] (b2 (decide ((4 : Int) < (s27.1.length : Int))))).bind fun a77 =>
  (m__law_take r56.2 (3 : Int)).bind fun r80 =>
  (m__law_take r80.2 (s27.1.length : Int)).bind fun r92 =>
  (atI [(s27.1.length : Int), (1 : Int), ((1 : Int) + r92.1), (mx (1 : Int) ((s27.1.length : Int) - r80.1)), (mx (1 : Int) (((s27.1.length : Int) - (1 : Int)) + (a26 % (2 : Int)))), a77] x_kind).bind fun a113 =>
  (atI s27.1 (a113 - (1 : Int))).bind fun a116 =>
  (snocM s27.2.2 a116).bind fun l119 =>
  (catLM (cutL s27.1 none (some a113)) [a26]).bind fun l146 =>
  some (l146, r92.2, l119)).bind fun s25 =>
  (m__law_take s25.2.1 (6 : Int)).bind fun r175 =>
  (m__law_take r175.2 x_many).bind fun r187 =>
  (m__law_take r187.2 (2 : Int)).bind fun r208 =>
  (atI [r187.1, (0 : Int)] r208.1).bind fun a220 =>
  (uptoM 0 x_many).bind fun l223 =>
  (foldO l223 (([] : Sg), r208.2) fun s226 a225 =>
  (m__law_take s226.2 (x_letters.length : Int)).bind fun r248 =>
  (if ((decide ((0 : Int) < r175.1)) && (decide (r175.1 < (4 : Int)))) = true then
  (modM a225 r175.1).bind fun a265 =>
  (modM a265 (x_letters.length : Int)).bind fun a266 =>
  some a266
  else
  some r248.1).bind fun s262 =>
  (if (decide ((4 : Int) < r175.1)) = true then
  (modM (b2 (decide (a225 = a220))) (x_letters.length : Int)).bind fun a277 =>
  some a277
  else
  some s262).bind fun s274 =>
  (atI x_letters s274).bind fun a284 =>
  (catM s226.1 a284).bind fun t287 =>
  some (t287, r248.2)).bind fun s224 =>
  some ((s25.2.2, s224.1), s224.2)
def sp__law_grown (K : PySem.W.Frag) : Sp := fun vs H Q _ => ∃ (F : Hp) (p_pool : Addr) (vs_pool : List V) (x_pool : List Int) (v_many : V) (x_many : Int) (v_kind : V) (x_kind : Int) (v_letters : V) (x_letters : List Sg) (r : ((List Int × Sg) × List Int)), vs = [.ref p_pool, v_many, v_kind, v_letters] ∧ Sub F H ∧ F p_pool = none ∧ H p_pool = some (.lst vs_pool) ∧ Al eI F vs_pool x_pool ∧ eI.r F v_many x_many ∧ eI.r F v_kind x_kind ∧ (eL eS).r F v_letters x_letters ∧ m__law_grown x_pool x_many x_kind x_letters = some r ∧ ∀ (v : V) (F' H' : Hp) (us_pool : List V), Gr [p_pool] F H F' H' → H' p_pool = some (.lst us_pool) → Al eI F' us_pool r.2 → (eP2 (eT eI) eS).r F' v r.1 → Q v H'
theorem sc__law_grown : FnScope ["pool", "many", "kind", "letters", "ups", "line", "k", "way", "other", "labels", "deep", "low", "near", "comb", "cut", "at"] ["pool", "many", "kind", "letters"] (defScope s__law_grown) := ⟨rfl, rfl, rfl, by decide +kernel, rfl, by decide +kernel, by decide +kernel⟩
theorem ok__law_grown {f : Addr} {fd : FuncData} (F : FnP K "_law_grown" s__law_grown f fd) (H__law_take : HasG P w K mg base "_law_take" ["pool", "many"] 1 (sp__law_take K)) (b_range : mg "range" = none) (b_len : mg "len" = none) (b_max : mg "max" = none) (b_tuple : mg "tuple" = none) (b_int : mg "int" = none) : FnG P w K mg base CX0 2 f fd ["pool", "many", "kind", "letters"] (sp__law_grown K) := by
  obtain ⟨f__law_take, fd__law_take, G0__law_take, g__law_take, k__law_take, b__law_take⟩ := H__law_take
  have G__law_take := G0__law_take.mono (show 1 ≤ 1 by decide)
  refine FnDok F sc__law_grown (fun vs H Q E h => ?_) (fun cdv A outer s H0 vs Q E gd hr h => ?_)
  · obtain ⟨_, _, _, _, _, _, _, _, _, _, _, rfl, _⟩ := h
    rfl
  · obtain ⟨F0, p_pool, vs_pool, x_pool, v_many, x_many, v_kind, x_kind, v_letters, x_letters, r0, rfl, hs0, fr_pool, hp_pool, al_pool, r_many, r_kind, r_letters, hm, hk⟩ := h
    have g0 : Gr [p_pool] F0 H0 F0 H0 := Gr.refl hs0
    have m1 : Mu [p_pool] H0 F0 H0 p_pool (.lst vs_pool) := ⟨fr_pool, hp_pool, .inr (by simp)⟩
    have er_many : v_many = V.int x_many := r_many
    subst er_many
    have er_kind : v_kind = V.int x_kind := r_kind
    subst er_kind
    refine ⟨_, PSs.nox (pss_cons (ps_set (i := 4) sc__law_grown.nd rfl (by first | exact Or.inl rfl | exact Or.inr rfl) (pe_lst (pa_cons (pe_un un_neg pe_int) pa_nil)))
(pss_cons (ps_set (i := 5) sc__law_grown.nd rfl (by first | exact Or.inl rfl | exact Or.inr rfl) (pe_lst (pa_cons pe_int pa_nil)))
(pss_cons (ps_for PassesOwn.never rfl (pi_range2 (by rfl) b_range (pa_cons pe_int (pa_cons (pv 1) pa_nil))) (pg_name (i := 6) sc__law_grown.nd rfl (by first | exact Or.inl rfl | exact Or.inr rfl)) (pss_cons (ps_set (i := 10) sc__law_grown.nd rfl (by first | exact Or.inl rfl | exact Or.inr rfl) (pe_callB (c_len (K := K) rfl) (by rfl) b_len bo_len (pa_cons (pv 5) pa_nil)))
(pss_cons (ps_set (i := 11) sc__law_grown.nd rfl (by first | exact Or.inl rfl | exact Or.inr rfl) (pe_ix (c_ixL (K := K) rfl) (pe_lst (pa_cons (pv 10) (pa_cons (pe_op op_add pe_int (pe_callG G__law_take gd hr (by rfl) g__law_take k__law_take b__law_take pass0 (pa_cons (pv 0) (pa_cons pe_int pa_nil)))) pa_nil))) (pe_callTy c_int1 (by rfl) b_int bo_int (pa_cons (pe_cmpR op_gt (pv 10) pe_int (nomark _)) pa_nil)) (fun _ _ => rfl)))
(pss_cons (ps_set (i := 12) sc__law_grown.nd rfl (by first | exact Or.inl rfl | exact Or.inr rfl) (pe_callB (c_max2 rfl) (by rfl) b_max bo_max (pa_cons pe_int (pa_cons (pe_op op_sub (pv 10) (pe_callG G__law_take gd hr (by rfl) g__law_take k__law_take b__law_take pass0 (pa_cons (pv 0) (pa_cons pe_int pa_nil)))) pa_nil))))
(pss_cons (ps_set (i := 13) sc__law_grown.nd rfl (by first | exact Or.inl rfl | exact Or.inr rfl) (pe_callB (c_max2 rfl) (by rfl) b_max bo_max (pa_cons pe_int (pa_cons (pe_op op_add (pe_op op_sub (pv 10) pe_int) (pe_op op_mod (pv 6) pe_int)) pa_nil))))
(pss_cons (ps_set (i := 14) sc__law_grown.nd rfl (by first | exact Or.inl rfl | exact Or.inr rfl) (pe_ix (c_ixL (K := K) rfl) (pe_lst (pa_cons (pv 10) (pa_cons pe_int (pa_cons (pe_op op_add pe_int (pe_callG G__law_take gd hr (by rfl) g__law_take k__law_take b__law_take pass0 (pa_cons (pv 0) (pa_cons (pv 10) pa_nil)))) (pa_cons (pv 12) (pa_cons (pv 13) (pa_cons (pv 11) pa_nil))))))) (pv 2) (fun _ _ => rfl)))
(pss_cons (ps_expr (c_bm (K := K) rfl PySem.F.plainAttrs_list PySem.F.slot_list_append PySem.F.type_list_append mt_append (pv 4) (pa_cons (pe_ix (c_ixL (K := K) rfl) (pv 5) (pe_op op_sub (pv 14) pe_int) (fun _ _ => rfl)) pa_nil)))
(pss_one (ps_set (i := 5) sc__law_grown.nd rfl (by first | exact Or.inl rfl | exact Or.inr rfl) (pe_op op_cat (pe_slice (c_slL (K := K) rfl) (pv 5) po_none (po_some (pv 14))) (pe_lst (pa_cons (pv 6) pa_nil))))))))))))
(pss_cons (ps_set (i := 7) sc__law_grown.nd rfl (by first | exact Or.inl rfl | exact Or.inr rfl) (pe_callG G__law_take gd hr (by rfl) g__law_take k__law_take b__law_take pass0 (pa_cons (pv 0) (pa_cons pe_int pa_nil))))
(pss_cons (ps_set (i := 8) sc__law_grown.nd rfl (by first | exact Or.inl rfl | exact Or.inr rfl) (pe_ix (c_ixL (K := K) rfl) (pe_lst (pa_cons (pe_callG G__law_take gd hr (by rfl) g__law_take k__law_take b__law_take pass0 (pa_cons (pv 0) (pa_cons (pv 1) pa_nil))) (pa_cons pe_int pa_nil))) (pe_callG G__law_take gd hr (by rfl) g__law_take k__law_take b__law_take pass0 (pa_cons (pv 0) (pa_cons pe_int pa_nil))) (fun _ _ => rfl)))
(pss_cons (ps_set (i := 9) sc__law_grown.nd rfl (by first | exact Or.inl rfl | exact Or.inr rfl) pe_str)
(pss_cons (ps_for PassesOwn.never rfl (pi_range1 (by rfl) b_range (pa_cons (pv 1) pa_nil)) (pg_name (i := 6) sc__law_grown.nd rfl (by first | exact Or.inl rfl | exact Or.inr rfl)) (pss_cons (ps_set (i := 15) sc__law_grown.nd rfl (by first | exact Or.inl rfl | exact Or.inr rfl) (pe_callG G__law_take gd hr (by rfl) g__law_take k__law_take b__law_take pass0 (pa_cons (pv 0) (pa_cons (pe_callB (c_len (K := K) rfl) (by rfl) b_len bo_len (pa_cons (pv 3) pa_nil)) pa_nil))))
(pss_cons (ps_if (pt_chain op_lt op_lt pe_int (pv 7) pe_int) (pss_one (ps_set (i := 15) sc__law_grown.nd rfl (by first | exact Or.inl rfl | exact Or.inr rfl) (pe_op op_mod (pe_op op_mod (pv 6) (pv 7)) (pe_callB (c_len (K := K) rfl) (by rfl) b_len bo_len (pa_cons (pv 3) pa_nil))))) pss_nil)
(pss_cons (ps_if (pt_cmpR op_gt (pv 7) pe_int (nomark _)) (pss_one (ps_set (i := 15) sc__law_grown.nd rfl (by first | exact Or.inl rfl | exact Or.inr rfl) (pe_op op_mod (pe_callTy c_int1 (by rfl) b_int bo_int (pa_cons (pe_cmpR op_eq (pv 6) (pv 8) (nomark _)) pa_nil)) (pe_callB (c_len (K := K) rfl) (by rfl) b_len bo_len (pa_cons (pv 3) pa_nil))))) pss_nil)
(pss_one (ps_set (i := 9) sc__law_grown.nd rfl (by first | exact Or.inl rfl | exact Or.inr rfl) (pe_op c_catS (pv 9) (pe_ix (c_ixL (K := K) rfl) (pv 3) (pv 15) (fun _ _ => rfl)))))))))
(pss_one (ps_ret (pe_tup (pa_cons (pe_callTy (c_tuple (K := K) rfl) (by rfl) b_tuple bo_tuple (pa_cons (pv 4) pa_nil)) (pa_cons (pv 9) pa_nil)))))))))))), ?_⟩
    refine n_seq ?_
    refine n_asg ?_
    refine n_lst ?_
    refine n_cons ?_
    refine n_un ?_
    refine n_c ?_
    refine v_neg ?_
    refine n_nil ?_
    have al9 : Al eI F0 [.int (-(1 : Int))] [(-1 : Int)] := (.cons rfl .nil)
    refine v_mkLM g0.fh rfl fun p2 H3 np4 d5 fp6 hp7 => ?_
    have go10 := g0.old np4
    have ne11 := m1.ne np4
    have g12 := g0.trans0 d5
    have m13 := m1.call0 d5
    have m14 : Mu [p_pool] H0 F0 H3 p2 (.lst [.int (-(1 : Int))]) := ⟨fp6, hp7, .inl go10⟩
    refine n_name (setS (setS (setS (setS set0)))) ?_
    refine n_seq ?_
    refine n_asg ?_
    refine n_lst ?_
    refine n_cons ?_
    refine n_c ?_
    refine n_nil ?_
    refine v_mkLF (t := eI) (xs := [(0 : Int)]) g12.fh (.cons rfl .nil) rfl fun p15 F16 H17 d18 q19 al20 => ?_
    have g21 := g12.trans0 d18
    have m22 := m13.call0 d18
    have m23 := m14.call0 d18
    refine n_name (setS (setS (setS (setS (setS set0))))) ?_
    refine n_seq ?_
    refine n_for ?_
    refine n_rng2 ?_
    refine n_cons ?_
    refine n_c ?_
    refine n_cons ?_
    refine n_var rfl ?_
    refine n_nil ?_
    obtain ⟨l24, hl24, hm⟩ := bnd hm
    refine v_rng2 hl24 ?_
    obtain ⟨s25, hs25, hm⟩ := bnd hm
    refine for_o (sr_R2 hl24) hs25 (fun (s7 : List Int × List Int × List Int) σ7 H7 => ∃ (F7 : Hp) (v_line : V) (o_k : Option V) (o_deep : Option V) (o_low : Option V) (o_near : Option V) (o_comb : Option V) (o_cut : Option V) (us_pool : List V) (us_ups : List V), σ7 = [some (.ref p_pool), some (.int x_many), some (.int x_kind), some v_letters, some (.ref p2), some v_line, o_k, none, none, none, o_deep, o_low, o_near, o_comb, o_cut, none] ∧ Gr [p_pool] F0 H0 F7 H7 ∧ Sub F16 F7 ∧ (eL eI).r F7 v_line s7.1 ∧ Mu [p_pool] H0 F7 H7 p_pool (.lst us_pool) ∧ Al eI F7 us_pool s7.2.1 ∧ Mu [p_pool] H0 F7 H7 p2 (.lst us_ups) ∧ Al eI F7 us_ups s7.2.2) ⟨_, (.ref p15), _, _, _, _, _, _, vs_pool, [.int (-(1 : Int))], rfl, g21, Sub.refl _, (⟨p15, [.int (0 : Int)], rfl, q19, al20⟩ : (eL eI).r F16 (.ref p15) [(0 : Int)]), m22, (Al.mono al_pool d18.ff), m23, (Al.mono al9 d18.ff)⟩ ?_ ?_ ?_
    · intros; exact trivial
    · rintro a26 s27 s28 x29 _ H30 H31 ⟨F35, v38, o39, o40, o41, o42, o43, o44, vs45, vs46, rfl, g36, sb37, r47, m48, al49, m50, al51⟩ hY32 hm N33 hN34
      refine v_nmR hY32 ?_
      refine n_name (setS (setS (setS (setS (setS (setS set0)))))) ?_
      refine n_seq ?_
      refine n_asg ?_
      refine n_cb ?_
      refine n_cons ?_
      refine n_var rfl ?_
      refine n_nil ?_
      obtain ⟨p52, vs53, ep52, q54, al55⟩ := r47
      subst ep52
      refine v_len (.inl (SqL.of (g36.fh _ _ q54))) al55 ?_
      refine n_name (setS (setS (setS (setS (setS (setS (setS (setS (setS (setS set0)))))))))) ?_
      refine n_seq ?_
      refine n_asg ?_
      refine n_op ?_
      refine n_lst ?_
      refine n_cons ?_
      refine n_var rfl ?_
      refine n_cons ?_
      refine n_op ?_
      refine n_c ?_
      refine n_call ?_
      refine n_cons ?_
      refine n_var rfl ?_
      refine n_cons ?_
      refine n_c ?_
      refine n_nil ?_
      obtain ⟨r56, hr56, hm⟩ := bnd hm
      refine ⟨F35, p_pool, vs45, s27.2.1, .int (4 : Int), (4 : Int), r56, rfl, g36.fh, m48.fr, m48.hp, al49, rfl, hr56, fun v63 F57 H58 vs60 d59 hp61 al62 r64 => ?_⟩
      have g65 := g36.trans d59 (fun a ha => (List.mem_cons.mp ha).elim (fun e => e ▸ m48.own) (fun ha => absurd ha (by simp)))
      have m66 := m48.back d59 hp61
      have m67 := m50.call d59 (nin1 (Ne.symm ne11))
      have er64 : v63 = V.int r56.1 := r64
      subst er64
      refine v_i2 ?_
      refine n_nil ?_
      refine v_mkLF (t := eI) (xs := [(s27.1.length : Int), ((1 : Int) + r56.1)]) g65.fh (.cons rfl (.cons rfl .nil)) rfl fun p68 F69 H70 d71 q72 al73 => ?_
      have g74 := g65.trans0 d71
      have m75 := m66.call0 d71
      have m76 := m67.call0 d71
      refine n_cb ?_
      refine n_cons ?_
      refine n_op ?_
      refine n_var rfl ?_
      refine n_c ?_
      refine v_i2 ?_
      refine n_nil ?_
      refine v_intB ?_
      obtain ⟨a77, ha77, hm⟩ := bnd hm
      refine v_ixL (SqL.of (g74.fh _ _ q72)) al73 ha77 fun v78 r79 => ?_
      have er79 : v78 = V.int a77 := r79
      subst er79
      refine n_name (setS (setS (setS (setS (setS (setS (setS (setS (setS (setS (setS set0))))))))))) ?_
      refine n_seq ?_
      refine n_asg ?_
      refine n_cb ?_
      refine n_cons ?_
      refine n_c ?_
      refine n_cons ?_
      refine n_op ?_
      refine n_var rfl ?_
      refine n_call ?_
      refine n_cons ?_
      refine n_var rfl ?_
      refine n_cons ?_
      refine n_c ?_
      refine n_nil ?_
      obtain ⟨r80, hr80, hm⟩ := bnd hm
      refine ⟨F69, p_pool, vs60, r56.2, .int (3 : Int), (3 : Int), r80, rfl, g74.fh, m75.fr, m75.hp, (Al.mono al62 d71.ff), rfl, hr80, fun v87 F81 H82 vs84 d83 hp85 al86 r88 => ?_⟩
      have g89 := g74.trans d83 (fun a ha => (List.mem_cons.mp ha).elim (fun e => e ▸ m75.own) (fun ha => absurd ha (by simp)))
      have m90 := m75.back d83 hp85
      have m91 := m76.call d83 (nin1 (Ne.symm ne11))
      have er88 : v87 = V.int r80.1 := r88
      subst er88
      refine v_i2 ?_
      refine n_nil ?_
      refine v_max2 ?_
      refine n_name (setS (setS (setS (setS (setS (setS (setS (setS (setS (setS (setS (setS set0)))))))))))) ?_
      refine n_seq ?_
      refine n_asg ?_
      refine n_cb ?_
      refine n_cons ?_
      refine n_c ?_
      refine n_cons ?_
      refine n_op ?_
      refine n_op ?_
      refine n_var rfl ?_
      refine n_c ?_
      refine v_i2 ?_
      refine n_op ?_
      refine n_var rfl ?_
      refine n_c ?_
      refine v_modK (by decide) ?_
      refine v_i2 ?_
      refine n_nil ?_
      refine v_max2 ?_
      refine n_name (setS (setS (setS (setS (setS (setS (setS (setS (setS (setS (setS (setS (setS set0))))))))))))) ?_
      refine n_seq ?_
      refine n_asg ?_
      refine n_op ?_
      refine n_lst ?_
      refine n_cons ?_
      refine n_var rfl ?_
      refine n_cons ?_
      refine n_c ?_
      refine n_cons ?_
      refine n_op ?_
      refine n_c ?_
      refine n_call ?_
      refine n_cons ?_
      refine n_var rfl ?_
      refine n_cons ?_
      refine n_var rfl ?_
      refine n_nil ?_
      obtain ⟨r92, hr92, hm⟩ := bnd hm
      refine ⟨F81, p_pool, vs84, r80.2, .int (s27.1.length : Int), (s27.1.length : Int), r92, rfl, g89.fh, m90.fr, m90.hp, al86, rfl, hr92, fun v99 F93 H94 vs96 d95 hp97 al98 r100 => ?_⟩
      have g101 := g89.trans d95 (fun a ha => (List.mem_cons.mp ha).elim (fun e => e ▸ m90.own) (fun ha => absurd ha (by simp)))
      have m102 := m90.back d95 hp97
      have m103 := m91.call d95 (nin1 (Ne.symm ne11))
      have er100 : v99 = V.int r92.1 := r100
      subst er100
      refine v_i2 ?_
      refine n_cons ?_
      refine n_var rfl ?_
      refine n_cons ?_
      refine n_var rfl ?_
      refine n_cons ?_
      refine n_var rfl ?_
      refine n_nil ?_
      refine v_mkLF (t := eI) (xs := [(s27.1.length : Int), (1 : Int), ((1 : Int) + r92.1), (mx (1 : Int) ((s27.1.length : Int) - r80.1)), (mx (1 : Int) (((s27.1.length : Int) - (1 : Int)) + (a26 % (2 : Int)))), a77]) g101.fh (.cons rfl (.cons rfl (.cons rfl (.cons rfl (.cons rfl (.cons rfl .nil)))))) rfl fun p104 F105 H106 d107 q108 al109 => ?_
      have g110 := g101.trans0 d107
      have m111 := m102.call0 d107
      have m112 := m103.call0 d107
      refine n_var rfl ?_
      obtain ⟨a113, ha113, hm⟩ := bnd hm
      refine v_ixL (SqL.of (g110.fh _ _ q108)) al109 ha113 fun v114 r115 => ?_
      have er115 : v114 = V.int a113 := r115
      subst er115
      refine n_name (setS (setS (setS (setS (setS (setS (setS (setS (setS (setS (setS (setS (setS (setS set0)))))))))))))) ?_
      refine n_seq ?_
      refine n_drop ?_
      refine n_bm ?_
      refine n_var rfl ?_
      refine ⟨tyL m112.l, ?_⟩
      refine n_cons ?_
      refine n_op ?_
      refine n_var rfl ?_
      refine n_op ?_
      refine n_var rfl ?_
      refine n_c ?_
      refine v_i2 ?_
      obtain ⟨a116, ha116, hm⟩ := bnd hm
      refine v_ixL (SqL.of (g110.fh _ _ ((Sub.trans d59.ff (Sub.trans d71.ff (Sub.trans d83.ff (Sub.trans d95.ff d107.ff)))) _ _ q54))) (Al.mono al55 (Sub.trans d59.ff (Sub.trans d71.ff (Sub.trans d83.ff (Sub.trans d95.ff d107.ff))))) ha116 fun v117 r118 => ?_
      have er118 : v117 = V.int a116 := r118
      subst er118
      refine n_nil ?_
      obtain ⟨l119, hl119, hm⟩ := bnd hm
      obtain ⟨vs123, H120, g124, al122, evs123, eH120⟩ := app_ok g110 m112 (Al.mono al51 (Sub.trans d59.ff (Sub.trans d71.ff (Sub.trans d83.ff (Sub.trans d95.ff d107.ff))))) hl119 (show eI.r F105 (.int a116) a116 from rfl)
      refine v_append m112.hp (snoc_lt (Al.mono al51 (Sub.trans d59.ff (Sub.trans d71.ff (Sub.trans d83.ff (Sub.trans d95.ff d107.ff))))) hl119) ?_
      rw [← evs123, ← eH120]
      have m125 := mu_oth m111 ne11 eH120
      have m126 := mu_self m112 eH120
      refine n_asg ?_
      refine n_op ?_
      refine n_sl ?_
      refine n_var rfl ?_
      refine n_nopart ?_
      refine n_part ?_
      refine n_var rfl ?_
      refine v_part ?_
      refine v_slLF g124.fh (SqL.of (g124.fh _ _ ((Sub.trans d59.ff (Sub.trans d71.ff (Sub.trans d83.ff (Sub.trans d95.ff d107.ff)))) _ _ q54))) (Al.mono al55 (Sub.trans d59.ff (Sub.trans d71.ff (Sub.trans d83.ff (Sub.trans d95.ff d107.ff))))) fun p127 vs128 F130 H131 d132 q133 al129 => ?_
      have g134 := g124.trans0 d132
      have m135 := m125.call0 d132
      have m136 := m126.call0 d132
      refine n_lst ?_
      refine n_cons ?_
      refine n_var rfl ?_
      refine n_nil ?_
      refine v_mkLF (t := eI) (xs := [a26]) g134.fh (.cons rfl .nil) rfl fun p137 F138 H139 d140 q141 al142 => ?_
      have g143 := g134.trans0 d140
      have m144 := m135.call0 d140
      have m145 := m136.call0 d140
      obtain ⟨l146, hl146, hm⟩ := bnd hm
      refine v_catF g143.fh (g143.fh _ _ (d140.ff _ _ q133)) (g143.fh _ _ q141) (Al.mono al129 d140.ff) al142 hl146 fun p147 vs148 F150 H151 d152 q153 al149 => ?_
      have g154 := g143.trans0 d152
      have m155 := m144.call0 d152
      have m156 := m145.call0 d152
      refine n_name (setS (setS (setS (setS (setS set0))))) ?_
      obtain rfl := Option.some.inj hm
      exact hN34 _ _ ⟨_, (.ref p147), _, _, _, _, _, _, vs96, vs123, rfl, g154, (Sub.trans sb37 (Sub.trans d59.ff (Sub.trans d71.ff (Sub.trans d83.ff (Sub.trans d95.ff (Sub.trans d107.ff (Sub.trans d132.ff (Sub.trans d140.ff d152.ff)))))))), (⟨p147, vs148, rfl, q153, al149⟩ : (eL eI).r F150 (.ref p147) l146), m155, (Al.mono al98 (Sub.trans d107.ff (Sub.trans d132.ff (Sub.trans d140.ff d152.ff)))), m156, (Al.mono al122 (Sub.trans d132.ff (Sub.trans d140.ff d152.ff)))⟩
    rintro _ H157 ⟨F158, v161, o162, o163, o164, o165, o166, o167, vs168, vs169, rfl, g159, sb160, r170, m171, al172, m173, al174⟩
    refine n_seq ?_
    refine n_asg ?_
    refine n_call ?_
    refine n_cons ?_
    refine n_var rfl ?_
    refine n_cons ?_
    refine n_c ?_
    refine n_nil ?_
    obtain ⟨r175, hr175, hm⟩ := bnd hm
    refine ⟨F158, p_pool, vs168, s25.2.1, .int (6 : Int), (6 : Int), r175, rfl, g159.fh, m171.fr, m171.hp, al172, rfl, hr175, fun v182 F176 H177 vs179 d178 hp180 al181 r183 => ?_⟩
    have g184 := g159.trans d178 (fun a ha => (List.mem_cons.mp ha).elim (fun e => e ▸ m171.own) (fun ha => absurd ha (by simp)))
    have m185 := m171.back d178 hp180
    have m186 := m173.call d178 (nin1 (Ne.symm ne11))
    have er183 : v182 = V.int r175.1 := r183
    subst er183
    refine n_name (setS (setS (setS (setS (setS (setS (setS set0))))))) ?_
    refine n_seq ?_
    refine n_asg ?_
    refine n_op ?_
    refine n_lst ?_
    refine n_cons ?_
    refine n_call ?_
    refine n_cons ?_
    refine n_var rfl ?_
    refine n_cons ?_
    refine n_var rfl ?_
    refine n_nil ?_
    obtain ⟨r187, hr187, hm⟩ := bnd hm
    refine ⟨F176, p_pool, vs179, r175.2, .int x_many, x_many, r187, rfl, g184.fh, m185.fr, m185.hp, al181, rfl, hr187, fun v194 F188 H189 vs191 d190 hp192 al193 r195 => ?_⟩
    have g196 := g184.trans d190 (fun a ha => (List.mem_cons.mp ha).elim (fun e => e ▸ m185.own) (fun ha => absurd ha (by simp)))
    have m197 := m185.back d190 hp192
    have m198 := m186.call d190 (nin1 (Ne.symm ne11))
    have er195 : v194 = V.int r187.1 := r195
    subst er195
    refine n_cons ?_
    refine n_c ?_
    refine n_nil ?_
    refine v_mkLF (t := eI) (xs := [r187.1, (0 : Int)]) g196.fh (.cons rfl (.cons rfl .nil)) rfl fun p199 F200 H201 d202 q203 al204 => ?_
    have g205 := g196.trans0 d202
    have m206 := m197.call0 d202
    have m207 := m198.call0 d202
    refine n_call ?_
    refine n_cons ?_
    refine n_var rfl ?_
    refine n_cons ?_
    refine n_c ?_
    refine n_nil ?_
    obtain ⟨r208, hr208, hm⟩ := bnd hm
    refine ⟨F200, p_pool, vs191, r187.2, .int (2 : Int), (2 : Int), r208, rfl, g205.fh, m206.fr, m206.hp, (Al.mono al193 d202.ff), rfl, hr208, fun v215 F209 H210 vs212 d211 hp213 al214 r216 => ?_⟩
    have g217 := g205.trans d211 (fun a ha => (List.mem_cons.mp ha).elim (fun e => e ▸ m206.own) (fun ha => absurd ha (by simp)))
    have m218 := m206.back d211 hp213
    have m219 := m207.call d211 (nin1 (Ne.symm ne11))
    have er216 : v215 = V.int r208.1 := r216
    subst er216
    obtain ⟨a220, ha220, hm⟩ := bnd hm
    refine v_ixL (SqL.of (g217.fh _ _ (d211.ff _ _ q203))) (Al.mono al204 d211.ff) ha220 fun v221 r222 => ?_
    have er222 : v221 = V.int a220 := r222
    subst er222
    refine n_name (setS (setS (setS (setS (setS (setS (setS (setS set0)))))))) ?_
    refine n_seq ?_
    refine n_asg ?_
    refine n_str (s := []) (by decide +kernel) ?_
    refine n_name (setS (setS (setS (setS (setS (setS (setS (setS (setS set0))))))))) ?_
    refine n_seq ?_
    refine n_for ?_
    refine n_rng1 ?_
    refine n_cons ?_
    refine n_var rfl ?_
    refine n_nil ?_
    obtain ⟨l223, hl223, hm⟩ := bnd hm
    refine v_rng1 hl223 ?_
    obtain ⟨s224, hs224, hm⟩ := bnd hm
    refine for_o (sr_R1 hl223) hs224 (fun (s7 : Sg × List Int) σ7 H7 => ∃ (F7 : Hp) (o_k : Option V) (o_at : Option V) (us_pool : List V), σ7 = [some (.ref p_pool), some (.int x_many), some (.int x_kind), some v_letters, some (.ref p2), some v161, o_k, some (.int r175.1), some (.int a220), some (.str (S s7.1)), o163, o164, o165, o166, o167, o_at] ∧ Gr [p_pool] F0 H0 F7 H7 ∧ Sub F209 F7 ∧ s7.1.length ≤ sizeLine ∧ Mu [p_pool] H0 F7 H7 p_pool (.lst us_pool) ∧ Al eI F7 us_pool s7.2 ∧ Mu [p_pool] H0 F7 H7 p2 (.lst vs169)) ⟨_, _, _, vs212, rfl, g217, Sub.refl _, (sz_ok (n := 0) rfl), m218, al214, m219⟩ ?_ ?_ ?_
    · intros; exact trivial
    · rintro a225 s226 s227 x228 _ H229 H230 ⟨F234, o237, o238, vs239, rfl, g235, sb236, l240, m241, al242, m243⟩ hY231 hm N232 hN233
      refine v_nmR hY231 ?_
      refine n_name (setS (setS (setS (setS (setS (setS set0)))))) ?_
      refine n_seq ?_
      refine n_asg ?_
      refine n_call ?_
      refine n_cons ?_
      refine n_var rfl ?_
      refine n_cons ?_
      refine n_cb ?_
      refine n_cons ?_
      refine n_var rfl ?_
      refine n_nil ?_
      obtain ⟨p244, vs245, ep244, q246, al247⟩ := (Rp.mono (eL eS) (Sub.trans d18.ff (Sub.trans sb160 (Sub.trans d178.ff (Sub.trans d190.ff (Sub.trans d202.ff (Sub.trans d211.ff sb236)))))) r_letters)
      subst ep244
      refine v_len (.inl (SqL.of (g235.fh _ _ q246))) al247 ?_
      refine n_nil ?_
      obtain ⟨r248, hr248, hm⟩ := bnd hm
      refine ⟨F234, p_pool, vs239, s226.2, .int (x_letters.length : Int), (x_letters.length : Int), r248, rfl, g235.fh, m241.fr, m241.hp, al242, rfl, hr248, fun v255 F249 H250 vs252 d251 hp253 al254 r256 => ?_⟩
      have g257 := g235.trans d251 (fun a ha => (List.mem_cons.mp ha).elim (fun e => e ▸ m241.own) (fun ha => absurd ha (by simp)))
      have m258 := m241.back d251 hp253
      have m259 := m243.call d251 (nin1 (Ne.symm ne11))
      have er256 : v255 = V.int r248.1 := r256
      subst er256
      refine n_name (setS (setS (setS (setS (setS (setS (setS (setS (setS (setS (setS (setS (setS (setS (setS set0))))))))))))))) ?_
      refine n_seq ?_
      refine n_ifs ?_
      refine n_test ?_
      refine n_chain ?_
      refine n_c ?_
      refine n_var rfl ?_
      refine v_i2 ?_
      refine v_bl ?_
      refine br_chain (b := (decide (r175.1 < (4 : Int)))) (fun _ Q7 k7 => ?_) ?_
      · refine n_c ?_
        refine v_i2 ?_
        exact k7
      refine v_bl ?_
      obtain ⟨s262, hs262, hm⟩ := bnd hm
      refine br_join (fun σ7 H7 => ∃ (F7 : Hp), σ7 = [some (.ref p_pool), some (.int x_many), some (.int x_kind), some (.ref p244), some (.ref p2), some v161, some (.int a225), some (.int r175.1), some (.int a220), some (.str (S s226.1)), o163, o164, o165, o166, o167, some (.int s262)] ∧ Gr [p_pool] F0 H0 F7 H7 ∧ Sub F249 F7 ∧ Mu [p_pool] H0 F7 H7 p_pool (.lst vs252) ∧ Mu [p_pool] H0 F7 H7 p2 (.lst vs169)) ?_ (fun hb261 nx263 hnx264 => ?_) (fun hb261 nx263 hnx264 => ?_)
      rotate_left
      · have hm := ifT hb261 hs262
        refine n_asg ?_
        refine n_op ?_
        refine n_op ?_
        refine n_var rfl ?_
        refine n_var rfl ?_
        obtain ⟨a265, ha265, hm⟩ := bnd hm
        refine v_mod ha265 ?_
        refine n_cb ?_
        refine n_cons ?_
        refine n_var rfl ?_
        refine n_nil ?_
        refine v_len (.inl (SqL.of (g257.fh _ _ (d251.ff _ _ q246)))) (Al.mono al247 d251.ff) ?_
        obtain ⟨a266, ha266, hm⟩ := bnd hm
        refine v_mod ha266 ?_
        refine n_name (setS (setS (setS (setS (setS (setS (setS (setS (setS (setS (setS (setS (setS (setS (setS set0))))))))))))))) ?_
        obtain rfl := Option.some.inj hm
        exact hnx264 _ _ ⟨_, rfl, g257, Sub.refl _, m258, m259⟩
      · have hm := ifF hb261 hs262
        refine n_nextS ?_
        obtain rfl := Option.some.inj hm
        exact hnx264 _ _ ⟨_, rfl, g257, Sub.refl _, m258, m259⟩
      rintro _ H272 ⟨F267, rfl, g268, sb269, m270, m271⟩
      refine n_seq ?_
      refine n_ifs ?_
      refine n_test ?_
      refine n_op ?_
      refine n_var rfl ?_
      refine n_c ?_
      refine v_i2 ?_
      refine v_bl ?_
      obtain ⟨s274, hs274, hm⟩ := bnd hm
      refine br_join (fun σ7 H7 => ∃ (F7 : Hp), σ7 = [some (.ref p_pool), some (.int x_many), some (.int x_kind), some (.ref p244), some (.ref p2), some v161, some (.int a225), some (.int r175.1), some (.int a220), some (.str (S s226.1)), o163, o164, o165, o166, o167, some (.int s274)] ∧ Gr [p_pool] F0 H0 F7 H7 ∧ Sub F267 F7 ∧ Mu [p_pool] H0 F7 H7 p_pool (.lst vs252) ∧ Mu [p_pool] H0 F7 H7 p2 (.lst vs169)) ?_ (fun hb273 nx275 hnx276 => ?_) (fun hb273 nx275 hnx276 => ?_)
      rotate_left
      · have hm := ifT hb273 hs274
        refine n_asg ?_
        refine n_op ?_
        refine n_cb ?_
        refine n_cons ?_
        refine n_op ?_
        refine n_var rfl ?_
        refine n_var rfl ?_
        refine v_eqI ?_
        refine n_nil ?_
        refine v_intB ?_
        refine n_cb ?_
        refine n_cons ?_
        refine n_var rfl ?_
        refine n_nil ?_
        refine v_len (.inl (SqL.of (g268.fh _ _ ((Sub.trans d251.ff sb269) _ _ q246)))) (Al.mono al247 (Sub.trans d251.ff sb269)) ?_
        obtain ⟨a277, ha277, hm⟩ := bnd hm
        refine v_mod ha277 ?_
        refine n_name (setS (setS (setS (setS (setS (setS (setS (setS (setS (setS (setS (setS (setS (setS (setS set0))))))))))))))) ?_
        obtain rfl := Option.some.inj hm
        exact hnx276 _ _ ⟨_, rfl, g268, Sub.refl _, m270, m271⟩
      · have hm := ifF hb273 hs274
        refine n_nextS ?_
        obtain rfl := Option.some.inj hm
        exact hnx276 _ _ ⟨_, rfl, g268, Sub.refl _, m270, m271⟩
      rintro _ H283 ⟨F278, rfl, g279, sb280, m281, m282⟩
      refine n_asg ?_
      refine n_op ?_
      refine n_var rfl ?_
      refine n_op ?_
      refine n_var rfl ?_
      refine n_var rfl ?_
      obtain ⟨a284, ha284, hm⟩ := bnd hm
      refine v_ixL (SqL.of (g279.fh _ _ ((Sub.trans d251.ff (Sub.trans sb269 sb280)) _ _ q246))) (Al.mono al247 (Sub.trans d251.ff (Sub.trans sb269 sb280))) ha284 fun v285 r286 => ?_
      obtain ⟨er286, lr286⟩ : v285 = V.str (S a284) ∧ a284.length ≤ sizeLine := r286
      subst er286
      obtain ⟨t287, ht287, hm⟩ := bnd hm
      refine v_catS ht287 ?_
      refine n_name (setS (setS (setS (setS (setS (setS (setS (setS (setS set0))))))))) ?_
      obtain rfl := Option.some.inj hm
      exact hN233 _ _ ⟨_, _, _, vs252, rfl, g279, (Sub.trans sb236 (Sub.trans d251.ff (Sub.trans sb269 sb280))), (catM_le ht287), m281, (Al.mono al254 (Sub.trans sb269 sb280)), m282⟩
    rintro _ H288 ⟨F289, o292, o293, vs294, rfl, g290, sb291, l295, m296, al297, m298⟩
    refine n_ret ?_
    refine n_tup ?_
    refine n_cons ?_
    refine n_cb ?_
    refine n_cons ?_
    refine n_var rfl ?_
    refine n_nil ?_
    refine v_tuple g290.fh m298.l (Al.mono al174 (Sub.trans d178.ff (Sub.trans d190.ff (Sub.trans d202.ff (Sub.trans d211.ff sb291))))) fun p299 F300 H301 d302 q303 al304 => ?_
    have g305 := g290.trans0 d302
    have m306 := m296.call0 d302
    have m307 := m298.call0 d302
    refine n_cons ?_
    refine n_var rfl ?_
    refine n_nil ?_
    refine v_mk2 g305.fh (show (eT eI).r F300 (.ref p299) s25.2.2 from (⟨p299, vs169, rfl, q303, al304⟩ : (eT eI).r F300 (.ref p299) s25.2.2)) (show eS.r F300 (.str (S s224.1)) s224.1 from ⟨rfl, l295⟩) fun v308 F309 H310 d311 r312 => ?_
    have g313 := g305.trans0 d311
    have m314 := m306.call0 d311
    have m315 := m307.call0 d311
    obtain rfl := Option.some.inj hm
    exact hk _ _ _ _ g313 m314.hp (Al.mono al297 (Sub.trans d302.ff d311.ff)) r312

def m__law_copies (x_pool : List Int) (x_most : Int) (x_letters : List Sg) : Option ((List Int × Sg) × List Int) :=
  (m__law_take x_pool (6 : Int)).bind fun r2 =>
  (m__law_grown r2.2 ((1 : Int) + r2.1) (2 : Int) x_letters).bind fun r13 =>
  (m__law_take r13.2 (2 : Int)).bind fun r24 =>
  (m__law_take r24.2 (x_letters.length : Int)).bind fun r52 =>
  (atI x_letters r52.1).bind fun a64 =>
  (m__law_take r52.2 (12 : Int)).bind fun r67 =>
  (uptoM 0 ((1 : Int) + r67.1)).bind fun l79 =>
  (foldO l79 (a64, [(-1 : Int)]) fun s82 a81 =>
  if (decide (((s82.2.length : Int) + (r13.1.1.length : Int)) ≤ x_most)) = true then
  (atI [(0 : Int), ((s82.2.length : Int) - (1 : Int))] r24.1).bind fun a116 =>
  (need (szB (cutL r13.1.1 (some (1 : Int)) none).length) ()).bind fun u162 =>
  (compS (cutL r13.1.1 (some (1 : Int)) none) fun a164 =>
  some (some (a164 + (s82.2.length : Int)))).bind fun q163 =>
  (catLM [a116] q163).bind fun l214 =>
  (catLM s82.2 l214).bind fun l225 =>
  (catM s82.1 r13.1.2).bind fun t234 =>
  some (t234, l225)
  else
  some (s82.1, s82.2)).bind fun s80 =>
  some ((s80.2, s80.1), r67.2)
def sp__law_copies (K : PySem.W.Frag) : Sp := fun vs H Q _ => ∃ (F : Hp) (p_pool : Addr) (vs_pool : List V) (x_pool : List Int) (v_most : V) (x_most : Int) (v_letters : V) (x_letters : List Sg) (r : ((List Int × Sg) × List Int)), vs = [.ref p_pool, v_most, v_letters] ∧ Sub F H ∧ F p_pool = none ∧ H p_pool = some (.lst vs_pool) ∧ Al eI F vs_pool x_pool ∧ eI.r F v_most x_most ∧ (eL eS).r F v_letters x_letters ∧ m__law_copies x_pool x_most x_letters = some r ∧ ∀ (v : V) (F' H' : Hp) (us_pool : List V), Gr [p_pool] F H F' H' → H' p_pool = some (.lst us_pool) → Al eI F' us_pool r.2 → (eP2 (eT eI) eS).r F' v r.1 → Q v H'
theorem sc__law_copies : FnScope ["pool", "most", "letters", "one", "chain", "ups", "labels", "turn", "here", "up"] ["pool", "most", "letters"] (defScope s__law_copies) := ⟨rfl, rfl, rfl, by decide +kernel, rfl, by decide +kernel, by decide +kernel⟩
theorem ok__law_copies {f : Addr} {fd : FuncData} (F : FnP K "_law_copies" s__law_copies f fd) (H__law_grown : HasG P w K mg base "_law_grown" ["pool", "many", "kind", "letters"] 2 (sp__law_grown K)) (H__law_take : HasG P w K mg base "_law_take" ["pool", "many"] 1 (sp__law_take K)) (b_range : mg "range" = none) (b_tuple : mg "tuple" = none) (b_len : mg "len" = none) : FnG P w K mg base CX0 3 f fd ["pool", "most", "letters"] (sp__law_copies K) := by
  obtain ⟨f__law_grown, fd__law_grown, G0__law_grown, g__law_grown, k__law_grown, b__law_grown⟩ := H__law_grown
  have G__law_grown := G0__law_grown.mono (show 2 ≤ 2 by decide)
  obtain ⟨f__law_take, fd__law_take, G0__law_take, g__law_take, k__law_take, b__law_take⟩ := H__law_take
  have G__law_take := G0__law_take.mono (show 1 ≤ 2 by decide)
  refine FnDok F sc__law_copies (fun vs H Q E h => ?_) (fun cdv A outer s H0 vs Q E gd hr h => ?_)
  · obtain ⟨_, _, _, _, _, _, _, _, _, rfl, _⟩ := h
    rfl
  · obtain ⟨F0, p_pool, vs_pool, x_pool, v_most, x_most, v_letters, x_letters, r0, rfl, hs0, fr_pool, hp_pool, al_pool, r_most, r_letters, hm, hk⟩ := h
    have g0 : Gr [p_pool] F0 H0 F0 H0 := Gr.refl hs0
    have m1 : Mu [p_pool] H0 F0 H0 p_pool (.lst vs_pool) := ⟨fr_pool, hp_pool, .inr (by simp)⟩
    have er_most : v_most = V.int x_most := r_most
    subst er_most
    refine ⟨_, PSs.nox (pss_cons (ps_set (i := 3) sc__law_copies.nd rfl (by first | exact Or.inl rfl | exact Or.inr rfl) (pe_callG G__law_grown gd hr (by rfl) g__law_grown k__law_grown b__law_grown pass0 (pa_cons (pv 0) (pa_cons (pe_op op_add pe_int (pe_callG G__law_take gd hr (by rfl) g__law_take k__law_take b__law_take pass0 (pa_cons (pv 0) (pa_cons pe_int pa_nil)))) (pa_cons pe_int (pa_cons (pv 2) pa_nil))))))
(pss_cons (ps_set (i := 4) sc__law_copies.nd rfl (by first | exact Or.inl rfl | exact Or.inr rfl) (pe_callG G__law_take gd hr (by rfl) g__law_take k__law_take b__law_take pass0 (pa_cons (pv 0) (pa_cons pe_int pa_nil))))
(pss_cons (ps_set (i := 5) sc__law_copies.nd rfl (by first | exact Or.inl rfl | exact Or.inr rfl) (pe_lst (pa_cons (pe_un un_neg pe_int) pa_nil)))
(pss_cons (ps_set (i := 6) sc__law_copies.nd rfl (by first | exact Or.inl rfl | exact Or.inr rfl) (pe_ix (c_ixL (K := K) rfl) (pv 2) (pe_callG G__law_take gd hr (by rfl) g__law_take k__law_take b__law_take pass0 (pa_cons (pv 0) (pa_cons (pe_callB (c_len (K := K) rfl) (by rfl) b_len bo_len (pa_cons (pv 2) pa_nil)) pa_nil))) (fun _ _ => rfl)))
(pss_cons (ps_for PassesOwn.never rfl (pi_range1 (by rfl) b_range (pa_cons (pe_op op_add pe_int (pe_callG G__law_take gd hr (by rfl) g__law_take k__law_take b__law_take pass0 (pa_cons (pv 0) (pa_cons pe_int pa_nil)))) pa_nil)) (pg_name (i := 7) sc__law_copies.nd rfl (by first | exact Or.inl rfl | exact Or.inr rfl)) (pss_one (ps_if (pt_cmpR op_le (pe_op op_add (pe_callB (c_len (K := K) rfl) (by rfl) b_len bo_len (pa_cons (pv 5) pa_nil)) (pe_callB (c_len (K := K) rfl) (by rfl) b_len bo_len (pa_cons (pe_ix (c_ixT (K := K) rfl) (pv 3) pe_int (fun _ _ => rfl)) pa_nil))) (pv 1) (nomark _)) (pss_cons (ps_set (i := 8) sc__law_copies.nd rfl (by first | exact Or.inl rfl | exact Or.inr rfl) (pe_callB (c_len (K := K) rfl) (by rfl) b_len bo_len (pa_cons (pv 5) pa_nil)))
(pss_cons (ps_expr (c_bm (K := K) rfl PySem.F.plainAttrs_list PySem.F.slot_list_extend PySem.F.type_list_extend mt_extend (pv 5) (pa_cons (pe_op op_cat (pe_lst (pa_cons (pe_ix (c_ixL (K := K) rfl) (pe_lst (pa_cons pe_int (pa_cons (pe_op op_sub (pv 8) pe_int) pa_nil))) (pv 4) (fun _ _ => rfl)) pa_nil)) (pe_lc (own := [("up", 9)]) (g := gName 9) (by rfl) sc__law_copies.nd (c_pitup (K := K) rfl (pe_slice (c_slT (K := K) rfl) (pe_ix (c_ixT (K := K) rfl) (pv 3) pe_int (fun _ _ => rfl)) (po_some pe_int) po_none)) (blkOk_by (own := [("up", 9)]) (N := ["pool", "most", "letters", "one", "chain", "ups", "labels", "turn", "here", "up"]) (sc := defScope s__law_copies) (by decide +kernel)) (fun _ _ _ _ _ => (pg_name (i := 9) sc__law_copies.nd rfl (Or.inl rfl))) (fun _ _ _ _ _ => pts_nil) (fun _ _ _ _ _ => (pe_op op_add (pv 9) (pv 8))))) pa_nil)))
(pss_one (ps_set (i := 6) sc__law_copies.nd rfl (by first | exact Or.inl rfl | exact Or.inr rfl) (pe_op c_catS (pv 6) (pe_ix (c_ixT (K := K) rfl) (pv 3) pe_int (fun _ _ => rfl))))))) pss_nil)))
(pss_one (ps_ret (pe_tup (pa_cons (pe_callTy (c_tuple (K := K) rfl) (by rfl) b_tuple bo_tuple (pa_cons (pv 5) pa_nil)) (pa_cons (pv 6) pa_nil)))))))))), ?_⟩
    refine n_seq ?_
    refine n_asg ?_
    refine n_call ?_
    refine n_cons ?_
    refine n_var rfl ?_
    refine n_cons ?_
    refine n_op ?_
    refine n_c ?_
    refine n_call ?_
    refine n_cons ?_
    refine n_var rfl ?_
    refine n_cons ?_
    refine n_c ?_
    refine n_nil ?_
    obtain ⟨r2, hr2, hm⟩ := bnd hm
    refine ⟨F0, p_pool, vs_pool, x_pool, .int (6 : Int), (6 : Int), r2, rfl, g0.fh, m1.fr, m1.hp, al_pool, rfl, hr2, fun v9 F3 H4 vs6 d5 hp7 al8 r10 => ?_⟩
    have g11 := g0.trans d5 (fun a ha => (List.mem_cons.mp ha).elim (fun e => e ▸ m1.own) (fun ha => absurd ha (by simp)))
    have m12 := m1.back d5 hp7
    have er10 : v9 = V.int r2.1 := r10
    subst er10
    refine v_i2 ?_
    refine n_cons ?_
    refine n_c ?_
    refine n_cons ?_
    refine n_var rfl ?_
    refine n_nil ?_
    obtain ⟨r13, hr13, hm⟩ := bnd hm
    refine ⟨F3, p_pool, vs6, r2.2, .int ((1 : Int) + r2.1), ((1 : Int) + r2.1), .int (2 : Int), (2 : Int), v_letters, x_letters, r13, rfl, g11.fh, m12.fr, m12.hp, al8, rfl, rfl, (Rp.mono (eL eS) d5.ff r_letters), hr13, fun v20 F14 H15 vs17 d16 hp18 al19 r21 => ?_⟩
    have g22 := g11.trans d16 (fun a ha => (List.mem_cons.mp ha).elim (fun e => e ▸ m12.own) (fun ha => absurd ha (by simp)))
    have m23 := m12.back d16 hp18
    refine n_name (setS (setS (setS set0))) ?_
    refine n_seq ?_
    refine n_asg ?_
    refine n_call ?_
    refine n_cons ?_
    refine n_var rfl ?_
    refine n_cons ?_
    refine n_c ?_
    refine n_nil ?_
    obtain ⟨r24, hr24, hm⟩ := bnd hm
    refine ⟨F14, p_pool, vs17, r13.2, .int (2 : Int), (2 : Int), r24, rfl, g22.fh, m23.fr, m23.hp, al19, rfl, hr24, fun v31 F25 H26 vs28 d27 hp29 al30 r32 => ?_⟩
    have g33 := g22.trans d27 (fun a ha => (List.mem_cons.mp ha).elim (fun e => e ▸ m23.own) (fun ha => absurd ha (by simp)))
    have m34 := m23.back d27 hp29
    have er32 : v31 = V.int r24.1 := r32
    subst er32
    refine n_name (setS (setS (setS (setS set0)))) ?_
    refine n_seq ?_
    refine n_asg ?_
    refine n_lst ?_
    refine n_cons ?_
    refine n_un ?_
    refine n_c ?_
    refine v_neg ?_
    refine n_nil ?_
    have al42 : Al eI F25 [.int (-(1 : Int))] [(-1 : Int)] := (.cons rfl .nil)
    refine v_mkLM g33.fh rfl fun p35 H36 np37 d38 fp39 hp40 => ?_
    have go43 := g33.old np37
    have ne44 := m34.ne np37
    have g45 := g33.trans0 d38
    have m46 := m34.call0 d38
    have m47 : Mu [p_pool] H0 F25 H36 p35 (.lst [.int (-(1 : Int))]) := ⟨fp39, hp40, .inl go43⟩
    refine n_name (setS (setS (setS (setS (setS set0))))) ?_
    refine n_seq ?_
    refine n_asg ?_
    refine n_op ?_
    refine n_var rfl ?_
    refine n_call ?_
    refine n_cons ?_
    refine n_var rfl ?_
    refine n_cons ?_
    refine n_cb ?_
    refine n_cons ?_
    refine n_var rfl ?_
    refine n_nil ?_
    obtain ⟨p48, vs49, ep48, q50, al51⟩ := (Rp.mono (eL eS) (Sub.trans d5.ff (Sub.trans d16.ff d27.ff)) r_letters)
    subst ep48
    refine v_len (.inl (SqL.of (g45.fh _ _ q50))) al51 ?_
    refine n_nil ?_
    obtain ⟨r52, hr52, hm⟩ := bnd hm
    refine ⟨F25, p_pool, vs28, r24.2, .int (x_letters.length : Int), (x_letters.length : Int), r52, rfl, g45.fh, m46.fr, m46.hp, al30, rfl, hr52, fun v59 F53 H54 vs56 d55 hp57 al58 r60 => ?_⟩
    have g61 := g45.trans d55 (fun a ha => (List.mem_cons.mp ha).elim (fun e => e ▸ m46.own) (fun ha => absurd ha (by simp)))
    have m62 := m46.back d55 hp57
    have m63 := m47.call d55 (nin1 (Ne.symm ne44))
    have er60 : v59 = V.int r52.1 := r60
    subst er60
    obtain ⟨a64, ha64, hm⟩ := bnd hm
    refine v_ixL (SqL.of (g61.fh _ _ (d55.ff _ _ q50))) (Al.mono al51 d55.ff) ha64 fun v65 r66 => ?_
    obtain ⟨er66, lr66⟩ : v65 = V.str (S a64) ∧ a64.length ≤ sizeLine := r66
    subst er66
    refine n_name (setS (setS (setS (setS (setS (setS set0)))))) ?_
    refine n_seq ?_
    refine n_for ?_
    refine n_rng1 ?_
    refine n_cons ?_
    refine n_op ?_
    refine n_c ?_
    refine n_call ?_
    refine n_cons ?_
    refine n_var rfl ?_
    refine n_cons ?_
    refine n_c ?_
    refine n_nil ?_
    obtain ⟨r67, hr67, hm⟩ := bnd hm
    refine ⟨F53, p_pool, vs56, r52.2, .int (12 : Int), (12 : Int), r67, rfl, g61.fh, m62.fr, m62.hp, al58, rfl, hr67, fun v74 F68 H69 vs71 d70 hp72 al73 r75 => ?_⟩
    have g76 := g61.trans d70 (fun a ha => (List.mem_cons.mp ha).elim (fun e => e ▸ m62.own) (fun ha => absurd ha (by simp)))
    have m77 := m62.back d70 hp72
    have m78 := m63.call d70 (nin1 (Ne.symm ne44))
    have er75 : v74 = V.int r67.1 := r75
    subst er75
    refine v_i2 ?_
    refine n_nil ?_
    obtain ⟨l79, hl79, hm⟩ := bnd hm
    refine v_rng1 hl79 ?_
    obtain ⟨s80, hs80, hm⟩ := bnd hm
    refine for_o (sr_R1 hl79) hs80 (fun (s7 : Sg × List Int) σ7 H7 => ∃ (F7 : Hp) (o_turn : Option V) (o_here : Option V) (us_ups : List V), σ7 = [some (.ref p_pool), some (.int x_most), some (.ref p48), some v20, some (.int r24.1), some (.ref p35), some (.str (S s7.1)), o_turn, o_here, none] ∧ Gr [p_pool] F0 H0 F7 H7 ∧ Sub F68 F7 ∧ s7.1.length ≤ sizeLine ∧ Mu [p_pool] H0 F7 H7 p35 (.lst us_ups) ∧ Al eI F7 us_ups s7.2 ∧ Mu [p_pool] H0 F7 H7 p_pool (.lst vs71)) ⟨_, _, _, [.int (-(1 : Int))], rfl, g76, Sub.refl _, lr66, m78, (Al.mono al42 (Sub.trans d55.ff d70.ff)), m77⟩ ?_ ?_ ?_
    · intros; exact trivial
    · rintro a81 s82 s83 x84 _ H85 H86 ⟨F90, o93, o94, vs95, rfl, g91, sb92, l96, m97, al98, m99⟩ hY87 hm N88 hN89
      refine v_nmR hY87 ?_
      refine n_name (setS (setS (setS (setS (setS (setS (setS set0))))))) ?_
      refine n_ifs ?_
      refine n_test ?_
      refine n_op ?_
      refine n_op ?_
      refine n_cb ?_
      refine n_cons ?_
      refine n_var rfl ?_
      refine n_nil ?_
      refine v_len (.inl m97.l) al98 ?_
      refine n_cb ?_
      refine n_cons ?_
      refine n_op ?_
      refine n_var rfl ?_
      refine n_c ?_
      refine v_ix20 g91.fh (Rp.mono (eP2 (eT eI) eS) (Sub.trans d27.ff (Sub.trans d55.ff (Sub.trans d70.ff sb92))) r21) fun v100 r101 => ?_
      refine n_nil ?_
      obtain ⟨p102, vs103, ep102, q104, al105⟩ := r101
      subst ep102
      refine v_len (.inr (SqT.of (g91.fh _ _ q104))) al105 ?_
      refine v_i2 ?_
      refine n_var rfl ?_
      refine v_i2 ?_
      refine v_bl ?_
      refine br (fun hb106 => ?_) (fun hb106 => ?_)
      · replace hm := ifT hb106 hm
        refine n_seq ?_
        refine n_asg ?_
        refine n_cb ?_
        refine n_cons ?_
        refine n_var rfl ?_
        refine n_nil ?_
        refine v_len (.inl m97.l) al98 ?_
        refine n_name (setS (setS (setS (setS (setS (setS (setS (setS set0)))))))) ?_
        refine n_seq ?_
        refine n_drop ?_
        refine n_bm ?_
        refine n_var rfl ?_
        refine ⟨tyL m97.l, ?_⟩
        refine n_cons ?_
        refine n_op ?_
        refine n_lst ?_
        refine n_cons ?_
        refine n_op ?_
        refine n_lst ?_
        refine n_cons ?_
        refine n_c ?_
        refine n_cons ?_
        refine n_op ?_
        refine n_var rfl ?_
        refine n_c ?_
        refine v_i2 ?_
        refine n_nil ?_
        refine v_mkLF (t := eI) (xs := [(0 : Int), ((s82.2.length : Int) - (1 : Int))]) g91.fh (.cons rfl (.cons rfl .nil)) rfl fun p107 F108 H109 d110 q111 al112 => ?_
        have g113 := g91.trans0 d110
        have m114 := m99.call0 d110
        have m115 := m97.call0 d110
        refine n_var rfl ?_
        obtain ⟨a116, ha116, hm⟩ := bnd hm
        refine v_ixL (SqL.of (g113.fh _ _ q111)) al112 ha116 fun v117 r118 => ?_
        have er118 : v117 = V.int a116 := r118
        subst er118
        refine n_nil ?_
        refine v_mkLF (t := eI) (xs := [a116]) g113.fh (.cons rfl .nil) rfl fun p119 F120 H121 d122 q123 al124 => ?_
        have g125 := g113.trans0 d122
        have m126 := m114.call0 d122
        have m127 := m115.call0 d122
        refine n_lc ?_
        refine n_itT ?_
        refine n_sl ?_
        refine n_op ?_
        refine n_var rfl ?_
        refine n_c ?_
        refine v_ix20 g125.fh (Rp.mono (eP2 (eT eI) eS) (Sub.trans d27.ff (Sub.trans d55.ff (Sub.trans d70.ff (Sub.trans sb92 (Sub.trans d110.ff d122.ff))))) r21) fun v144 r145 => ?_
        refine n_part ?_
        refine n_c ?_
        refine v_part ?_
        refine n_nopart ?_
        obtain ⟨p146, vs147, ep146, q148, al149⟩ := r145
        subst ep146
        refine v_slT g125.fh q148 al149 fun p150 vs151 F152 H153 d154 q155 al156 => ?_
        have g157 := g125.trans0 d154
        have m158 := m126.call0 d154
        have m159 := m127.call0 d154
        refine v_itT (SqT.of (g157.fh _ _ q155)) ?_
        obtain ⟨u162, hu162, hm⟩ := bnd hm
        obtain ⟨q163, hq163, hm⟩ := bnd hm
        intro D160 nD161
        have goD160 := g157.old nD161
        have neD160_p_pool := m158.ne nD161
        have neD160_p35 := m159.ne nD161
        have gg192 := gr_newM (W := []) (o := .lst []) g157.fh nD161
        refine comp_s (sr_T al156) hq163 (need_ok hu162).1 (fun (acc7 : List Int) H7 => ∃ (F7 : Hp) (vs7 : List V), Gr [p_pool] F0 H0 F7 H7 ∧ Sub F152 F7 ∧ F7 D160 = none ∧ H7 D160 = some (.lst vs7) ∧ Al eI F7 vs7 acc7 ∧ Mu [p_pool] H0 F7 H7 p_pool (.lst vs71) ∧ Mu [p_pool] H0 F7 H7 p35 (.lst vs95)) ⟨_, [], g157.trans0 gg192, Sub.refl _, g157.fh.nn nD161, upd_same, .nil, m158.call0 gg192, m159.call0 gg192⟩ ?_ ?_ ?_
        · rintro _ _ ⟨F175, vs176, g177, sb178, _, _, _, _, _⟩
          exact (SqT.of (g177.fh _ _ (sb178 _ _ q155)))
        · rintro a164 r166 acc167 x168 H169 H170 ⟨F175, vs176, g177, sb178, fD179, hD180, al181, m182, m184⟩ hY171 hm hl174 N172 hN173
          have m186 : Mu [p_pool] H0 F175 H169 D160 (.lst vs176) := ⟨fD179, hD180, .inl goD160⟩
          refine wipe_to (σ' := [some (.ref p_pool), some (.int x_most), some (.ref p48), some v20, some (.int r24.1), some (.ref p35), some (.str (S s82.1)), some (.int a81), some (.int (s82.2.length : Int)), none]) rfl ?_
          refine v_nmY hY171 fun r187 => ?_
          have er187 : x168 = V.int a164 := r187
          subst er187
          refine n_name (setS (setS (setS (setS (setS (setS (setS (setS (setS set0))))))))) ?_
          refine ⟨rfl, ?_⟩
          refine n_yes ?_ rfl
          refine n_op ?_
          refine n_var rfl ?_
          refine n_var rfl ?_
          refine v_i2 ?_
          obtain rfl := Option.some.inj hm
          refine ⟨_, m186.hp, by rw [al_len al181]; exact hl174, hN173 _ ?_⟩
          exact ⟨_, _, m186.gr g177, sb178, m186.fr, upd_same, pd_snoc al181 (show eI.r F175 (.int (a164 + (s82.2.length : Int))) (a164 + (s82.2.length : Int)) from rfl), m182.mut neD160_p_pool, m184.mut neD160_p35⟩
        rintro H193 ⟨F194, vs195, g196, sb197, fD198, hD199, al200, m201, m203⟩
        have m205 : Mu [p_pool] H0 F194 H193 D160 (.lst vs195) := ⟨fD198, hD199, .inl goD160⟩
        obtain ⟨F206, q208, sb210, g209, d207⟩ := freeze g196 m205 (m205.own.resolve_right (nin1 (Ne.symm neD160_p_pool)))
        have m211 := d207 _ _ neD160_p_pool m201
        have m212 := d207 _ _ neD160_p35 m203
        have al213 := (Al.mono al200 sb210)
        obtain ⟨l214, hl214, hm⟩ := bnd hm
        refine v_catF g209.fh (g209.fh _ _ ((Sub.trans d154.ff (Sub.trans sb197 sb210)) _ _ q123)) (g209.fh _ _ q208) (Al.mono al124 (Sub.trans d154.ff (Sub.trans sb197 sb210))) al213 hl214 fun p215 vs216 F218 H219 d220 q221 al217 => ?_
        have g222 := g209.trans0 d220
        have m223 := m211.call0 d220
        have m224 := m212.call0 d220
        refine n_nil ?_
        obtain ⟨l225, hl225, hm⟩ := bnd hm
        obtain ⟨vs228, H226, g229, al227, evs228, eH226⟩ := ext_ok g222 m224 (Al.mono al98 (Sub.trans d110.ff (Sub.trans d122.ff (Sub.trans d154.ff (Sub.trans sb197 (Sub.trans sb210 d220.ff)))))) al217 hl225
        refine v_extend m224.hp (g222.fh _ _ q221) (cat_le (Al.mono al98 (Sub.trans d110.ff (Sub.trans d122.ff (Sub.trans d154.ff (Sub.trans sb197 (Sub.trans sb210 d220.ff)))))) al217 hl225) ?_
        rw [← evs228, ← eH226]
        have m230 := mu_oth m223 ne44 eH226
        have m231 := mu_self m224 eH226
        refine n_asg ?_
        refine n_op ?_
        refine n_var rfl ?_
        refine n_op ?_
        refine n_var rfl ?_
        refine n_c ?_
        refine v_ix21 g229.fh (Rp.mono (eP2 (eT eI) eS) (Sub.trans d27.ff (Sub.trans d55.ff (Sub.trans d70.ff (Sub.trans sb92 (Sub.trans d110.ff (Sub.trans d122.ff (Sub.trans d154.ff (Sub.trans sb197 (Sub.trans sb210 d220.ff))))))))) r21) fun v232 r233 => ?_
        obtain ⟨er233, lr233⟩ : v232 = V.str (S r13.1.2) ∧ r13.1.2.length ≤ sizeLine := r233
        subst er233
        obtain ⟨t234, ht234, hm⟩ := bnd hm
        refine v_catS ht234 ?_
        refine n_name (setS (setS (setS (setS (setS (setS set0)))))) ?_
        obtain rfl := Option.some.inj hm
        exact hN89 _ _ ⟨_, _, _, vs228, rfl, g229, (Sub.trans sb92 (Sub.trans d110.ff (Sub.trans d122.ff (Sub.trans d154.ff (Sub.trans sb197 (Sub.trans sb210 d220.ff)))))), (catM_le ht234), m231, al227, m230⟩
      replace hm := ifF hb106 hm
      refine n_nextS ?_
      obtain rfl := Option.some.inj hm
      exact hN89 _ _ ⟨_, _, _, vs95, rfl, g91, sb92, l96, m97, al98, m99⟩
    rintro _ H235 ⟨F236, o239, o240, vs241, rfl, g237, sb238, l242, m243, al244, m245⟩
    refine n_ret ?_
    refine n_tup ?_
    refine n_cons ?_
    refine n_cb ?_
    refine n_cons ?_
    refine n_var rfl ?_
    refine n_nil ?_
    refine v_tuple g237.fh m243.l al244 fun p246 F247 H248 d249 q250 al251 => ?_
    have g252 := g237.trans0 d249
    have m253 := m245.call0 d249
    have m254 := m243.call0 d249
    refine n_cons ?_
    refine n_var rfl ?_
    refine n_nil ?_
    refine v_mk2 g252.fh (show (eT eI).r F247 (.ref p246) s80.2 from (⟨p246, vs241, rfl, q250, al251⟩ : (eT eI).r F247 (.ref p246) s80.2)) (show eS.r F247 (.str (S s80.1)) s80.1 from ⟨rfl, l242⟩) fun v255 F256 H257 d258 r259 => ?_
    have g260 := g252.trans0 d258
    have m261 := m253.call0 d258
    have m262 := m254.call0 d258
    obtain rfl := Option.some.inj hm
    exact hk _ _ _ _ g260 m261.hp (Al.mono al73 (Sub.trans sb238 (Sub.trans d249.ff d258.ff))) r259

def m__law_tree (x_pool : List Int) (x_most : Int) (x_letters : List Sg) : Option ((List Int × Sg) × List Int) :=
  (m__law_take x_pool (8 : Int)).bind fun r2 =>
  (m__law_take r2.2 (9 : Int)).bind fun r13 =>
  (m__law_take r13.2 x_most).bind fun r24 =>
  (m__law_take r24.2 (3 : Int)).bind fun r43 =>
  (atI [((1 : Int) + r13.1), ((1 : Int) + r24.1), x_most] r43.1).bind fun a54 =>
  if (decide ((5 : Int) < r2.1)) = true then
  (m__law_copies r43.2 x_most x_letters).bind fun r58 =>
  some (r58.1, r58.2)
  else
  (m__law_grown r43.2 a54 r2.1 x_letters).bind fun r69 =>
  some (r69.1, r69.2)
def sp__law_tree (K : PySem.W.Frag) : Sp := fun vs H Q _ => ∃ (F : Hp) (p_pool : Addr) (vs_pool : List V) (x_pool : List Int) (v_most : V) (x_most : Int) (v_letters : V) (x_letters : List Sg) (r : ((List Int × Sg) × List Int)), vs = [.ref p_pool, v_most, v_letters] ∧ Sub F H ∧ F p_pool = none ∧ H p_pool = some (.lst vs_pool) ∧ Al eI F vs_pool x_pool ∧ eI.r F v_most x_most ∧ (eL eS).r F v_letters x_letters ∧ m__law_tree x_pool x_most x_letters = some r ∧ ∀ (v : V) (F' H' : Hp) (us_pool : List V), Gr [p_pool] F H F' H' → H' p_pool = some (.lst us_pool) → Al eI F' us_pool r.2 → (eP2 (eT eI) eS).r F' v r.1 → Q v H'
theorem sc__law_tree : FnScope ["pool", "most", "letters", "kind", "many"] ["pool", "most", "letters"] (defScope s__law_tree) := ⟨rfl, rfl, rfl, by decide +kernel, rfl, by decide +kernel, by decide +kernel⟩
theorem ok__law_tree {f : Addr} {fd : FuncData} (F : FnP K "_law_tree" s__law_tree f fd) (H__law_take : HasG P w K mg base "_law_take" ["pool", "many"] 1 (sp__law_take K)) (H__law_grown : HasG P w K mg base "_law_grown" ["pool", "many", "kind", "letters"] 2 (sp__law_grown K)) (H__law_copies : HasG P w K mg base "_law_copies" ["pool", "most", "letters"] 3 (sp__law_copies K)) : FnG P w K mg base CX0 4 f fd ["pool", "most", "letters"] (sp__law_tree K) := by
  obtain ⟨f__law_take, fd__law_take, G0__law_take, g__law_take, k__law_take, b__law_take⟩ := H__law_take
  have G__law_take := G0__law_take.mono (show 1 ≤ 3 by decide)
  obtain ⟨f__law_grown, fd__law_grown, G0__law_grown, g__law_grown, k__law_grown, b__law_grown⟩ := H__law_grown
  have G__law_grown := G0__law_grown.mono (show 2 ≤ 3 by decide)
  obtain ⟨f__law_copies, fd__law_copies, G0__law_copies, g__law_copies, k__law_copies, b__law_copies⟩ := H__law_copies
  have G__law_copies := G0__law_copies.mono (show 3 ≤ 3 by decide)
  refine FnDok F sc__law_tree (fun vs H Q E h => ?_) (fun cdv A outer s H0 vs Q E gd hr h => ?_)
  · obtain ⟨_, _, _, _, _, _, _, _, _, rfl, _⟩ := h
    rfl
  · obtain ⟨F0, p_pool, vs_pool, x_pool, v_most, x_most, v_letters, x_letters, r0, rfl, hs0, fr_pool, hp_pool, al_pool, r_most, r_letters, hm, hk⟩ := h
    have g0 : Gr [p_pool] F0 H0 F0 H0 := Gr.refl hs0
    have m1 : Mu [p_pool] H0 F0 H0 p_pool (.lst vs_pool) := ⟨fr_pool, hp_pool, .inr (by simp)⟩
    have er_most : v_most = V.int x_most := r_most
    subst er_most
    refine ⟨_, PSs.nox (pss_cons (ps_set (i := 3) sc__law_tree.nd rfl (by first | exact Or.inl rfl | exact Or.inr rfl) (pe_callG G__law_take gd hr (by rfl) g__law_take k__law_take b__law_take pass0 (pa_cons (pv 0) (pa_cons pe_int pa_nil))))
(pss_cons (ps_set (i := 4) sc__law_tree.nd rfl (by first | exact Or.inl rfl | exact Or.inr rfl) (pe_ix (c_ixL (K := K) rfl) (pe_lst (pa_cons (pe_op op_add pe_int (pe_callG G__law_take gd hr (by rfl) g__law_take k__law_take b__law_take pass0 (pa_cons (pv 0) (pa_cons pe_int pa_nil)))) (pa_cons (pe_op op_add pe_int (pe_callG G__law_take gd hr (by rfl) g__law_take k__law_take b__law_take pass0 (pa_cons (pv 0) (pa_cons (pv 1) pa_nil)))) (pa_cons (pv 1) pa_nil)))) (pe_callG G__law_take gd hr (by rfl) g__law_take k__law_take b__law_take pass0 (pa_cons (pv 0) (pa_cons pe_int pa_nil))) (fun _ _ => rfl)))
(pss_cons (ps_if (pt_cmpR op_gt (pv 3) pe_int (nomark _)) (pss_one (ps_ret (pe_callG G__law_copies gd hr (by rfl) g__law_copies k__law_copies b__law_copies pass0 (pa_cons (pv 0) (pa_cons (pv 1) (pa_cons (pv 2) pa_nil)))))) pss_nil)
(pss_one (ps_ret (pe_callG G__law_grown gd hr (by rfl) g__law_grown k__law_grown b__law_grown pass0 (pa_cons (pv 0) (pa_cons (pv 4) (pa_cons (pv 3) (pa_cons (pv 2) pa_nil)))))))))), ?_⟩
    refine n_seq ?_
    refine n_asg ?_
    refine n_call ?_
    refine n_cons ?_
    refine n_var rfl ?_
    refine n_cons ?_
    refine n_c ?_
    refine n_nil ?_
    obtain ⟨r2, hr2, hm⟩ := bnd hm
    refine ⟨F0, p_pool, vs_pool, x_pool, .int (8 : Int), (8 : Int), r2, rfl, g0.fh, m1.fr, m1.hp, al_pool, rfl, hr2, fun v9 F3 H4 vs6 d5 hp7 al8 r10 => ?_⟩
    have g11 := g0.trans d5 (fun a ha => (List.mem_cons.mp ha).elim (fun e => e ▸ m1.own) (fun ha => absurd ha (by simp)))
    have m12 := m1.back d5 hp7
    have er10 : v9 = V.int r2.1 := r10
    subst er10
    refine n_name (setS (setS (setS set0))) ?_
    refine n_seq ?_
    refine n_asg ?_
    refine n_op ?_
    refine n_lst ?_
    refine n_cons ?_
    refine n_op ?_
    refine n_c ?_
    refine n_call ?_
    refine n_cons ?_
    refine n_var rfl ?_
    refine n_cons ?_
    refine n_c ?_
    refine n_nil ?_
    obtain ⟨r13, hr13, hm⟩ := bnd hm
    refine ⟨F3, p_pool, vs6, r2.2, .int (9 : Int), (9 : Int), r13, rfl, g11.fh, m12.fr, m12.hp, al8, rfl, hr13, fun v20 F14 H15 vs17 d16 hp18 al19 r21 => ?_⟩
    have g22 := g11.trans d16 (fun a ha => (List.mem_cons.mp ha).elim (fun e => e ▸ m12.own) (fun ha => absurd ha (by simp)))
    have m23 := m12.back d16 hp18
    have er21 : v20 = V.int r13.1 := r21
    subst er21
    refine v_i2 ?_
    refine n_cons ?_
    refine n_op ?_
    refine n_c ?_
    refine n_call ?_
    refine n_cons ?_
    refine n_var rfl ?_
    refine n_cons ?_
    refine n_var rfl ?_
    refine n_nil ?_
    obtain ⟨r24, hr24, hm⟩ := bnd hm
    refine ⟨F14, p_pool, vs17, r13.2, .int x_most, x_most, r24, rfl, g22.fh, m23.fr, m23.hp, al19, rfl, hr24, fun v31 F25 H26 vs28 d27 hp29 al30 r32 => ?_⟩
    have g33 := g22.trans d27 (fun a ha => (List.mem_cons.mp ha).elim (fun e => e ▸ m23.own) (fun ha => absurd ha (by simp)))
    have m34 := m23.back d27 hp29
    have er32 : v31 = V.int r24.1 := r32
    subst er32
    refine v_i2 ?_
    refine n_cons ?_
    refine n_var rfl ?_
    refine n_nil ?_
    refine v_mkLF (t := eI) (xs := [((1 : Int) + r13.1), ((1 : Int) + r24.1), x_most]) g33.fh (.cons rfl (.cons rfl (.cons rfl .nil))) rfl fun p35 F36 H37 d38 q39 al40 => ?_
    have g41 := g33.trans0 d38
    have m42 := m34.call0 d38
    refine n_call ?_
    refine n_cons ?_
    refine n_var rfl ?_
    refine n_cons ?_
    refine n_c ?_
    refine n_nil ?_
    obtain ⟨r43, hr43, hm⟩ := bnd hm
    refine ⟨F36, p_pool, vs28, r24.2, .int (3 : Int), (3 : Int), r43, rfl, g41.fh, m42.fr, m42.hp, (Al.mono al30 d38.ff), rfl, hr43, fun v50 F44 H45 vs47 d46 hp48 al49 r51 => ?_⟩
    have g52 := g41.trans d46 (fun a ha => (List.mem_cons.mp ha).elim (fun e => e ▸ m42.own) (fun ha => absurd ha (by simp)))
    have m53 := m42.back d46 hp48
    have er51 : v50 = V.int r43.1 := r51
    subst er51
    obtain ⟨a54, ha54, hm⟩ := bnd hm
    refine v_ixL (SqL.of (g52.fh _ _ (d46.ff _ _ q39))) (Al.mono al40 d46.ff) ha54 fun v55 r56 => ?_
    have er56 : v55 = V.int a54 := r56
    subst er56
    refine n_name (setS (setS (setS (setS set0)))) ?_
    refine n_seq ?_
    refine n_ifs ?_
    refine n_test ?_
    refine n_op ?_
    refine n_var rfl ?_
    refine n_c ?_
    refine v_i2 ?_
    refine v_bl ?_
    refine br (fun hb57 => ?_) (fun hb57 => ?_)
    · replace hm := ifT hb57 hm
      refine n_ret ?_
      refine n_call ?_
      refine n_cons ?_
      refine n_var rfl ?_
      refine n_cons ?_
      refine n_var rfl ?_
      refine n_cons ?_
      refine n_var rfl ?_
      refine n_nil ?_
      obtain ⟨r58, hr58, hm⟩ := bnd hm
      refine ⟨F44, p_pool, vs47, r43.2, .int x_most, x_most, v_letters, x_letters, r58, rfl, g52.fh, m53.fr, m53.hp, al49, rfl, (Rp.mono (eL eS) (Sub.trans d5.ff (Sub.trans d16.ff (Sub.trans d27.ff (Sub.trans d38.ff d46.ff)))) r_letters), hr58, fun v65 F59 H60 vs62 d61 hp63 al64 r66 => ?_⟩
      have g67 := g52.trans d61 (fun a ha => (List.mem_cons.mp ha).elim (fun e => e ▸ m53.own) (fun ha => absurd ha (by simp)))
      have m68 := m53.back d61 hp63
      obtain rfl := Option.some.inj hm
      exact hk _ _ _ _ g67 m68.hp al64 r66
    replace hm := ifF hb57 hm
    refine n_nextS ?_
    refine n_ret ?_
    refine n_call ?_
    refine n_cons ?_
    refine n_var rfl ?_
    refine n_cons ?_
    refine n_var rfl ?_
    refine n_cons ?_
    refine n_var rfl ?_
    refine n_cons ?_
    refine n_var rfl ?_
    refine n_nil ?_
    obtain ⟨r69, hr69, hm⟩ := bnd hm
    refine ⟨F44, p_pool, vs47, r43.2, .int a54, a54, .int r2.1, r2.1, v_letters, x_letters, r69, rfl, g52.fh, m53.fr, m53.hp, al49, rfl, rfl, (Rp.mono (eL eS) (Sub.trans d5.ff (Sub.trans d16.ff (Sub.trans d27.ff (Sub.trans d38.ff d46.ff)))) r_letters), hr69, fun v76 F70 H71 vs73 d72 hp74 al75 r77 => ?_⟩
    have g78 := g52.trans d72 (fun a ha => (List.mem_cons.mp ha).elim (fun e => e ▸ m53.own) (fun ha => absurd ha (by simp)))
    have m79 := m53.back d72 hp74
    obtain rfl := Option.some.inj hm
    exact hk _ _ _ _ g78 m79.hp al75 r77

def m__law_way (x_tree : (List Int × Sg)) (x_place : Int) : Option Sg :=
  (whileO 1000000 (([] : Sg), x_place) (fun s2 =>
  some (decide ((0 : Int) ≤ s2.2))) (fun s11 =>
  (atI x_tree.2 s11.2).bind fun c22 =>
  (catM [c22] s11.1).bind fun t23 =>
  (atI x_tree.1 s11.2).bind fun a26 =>
  some (t23, a26))).bind fun s1 =>
  some s1.1
def sp__law_way (K : PySem.W.Frag) : Sp := fun vs H Q _ => ∃ (F : Hp) (v_tree : V) (x_tree : (List Int × Sg)) (v_place : V) (x_place : Int) (r : Sg), vs = [v_tree, v_place] ∧ Sub F H ∧ (eP2 (eT eI) eS).r F v_tree x_tree ∧ eI.r F v_place x_place ∧ m__law_way x_tree x_place = some r ∧ ∀ (v : V) (F' H' : Hp) , Gr [] F H F' H' → eS.r F' v r → Q v H'
theorem sc__law_way : FnScope ["tree", "place", "found"] ["tree", "place"] (defScope s__law_way) := ⟨rfl, rfl, rfl, by decide +kernel, rfl, by decide +kernel, by decide +kernel⟩
theorem ok__law_way {f : Addr} {fd : FuncData} (F : FnP K "_law_way" s__law_way f fd)  : FnG P w K mg base CX0 1 f fd ["tree", "place"] (sp__law_way K) := by
  refine FnDok F sc__law_way (fun vs H Q E h => ?_) (fun cdv A outer s H0 vs Q E gd hr h => ?_)
  · obtain ⟨_, _, _, _, _, _, rfl, _⟩ := h
    rfl
  · obtain ⟨F0, v_tree, x_tree, v_place, x_place, r0, rfl, hs0, r_tree, r_place, hm, hk⟩ := h
    have g0 : Gr [] F0 H0 F0 H0 := Gr.refl hs0
    have er_place : v_place = V.int x_place := r_place
    subst er_place
    refine ⟨_, PSs.nox (pss_cons (ps_set (i := 2) sc__law_way.nd rfl (by first | exact Or.inl rfl | exact Or.inr rfl) pe_str)
(pss_cons (ps_while PassesOwn.never (pt_cmpR op_ge (pv 1) pe_int (nomark _)) (pss_cons (ps_set (i := 2) sc__law_way.nd rfl (by first | exact Or.inl rfl | exact Or.inr rfl) (pe_op c_catS (pe_ix ix_str (pe_ix (c_ixT (K := K) rfl) (pv 0) pe_int (fun _ _ => rfl)) (pv 1) (fun _ _ => rfl)) (pv 2)))
(pss_one (ps_set (i := 1) sc__law_way.nd rfl (by first | exact Or.inl rfl | exact Or.inr rfl) (pe_ix (c_ixT (K := K) rfl) (pe_ix (c_ixT (K := K) rfl) (pv 0) pe_int (fun _ _ => rfl)) (pv 1) (fun _ _ => rfl))))))
(pss_one (ps_ret (pv 2))))), ?_⟩
    refine n_seq ?_
    refine n_asg ?_
    refine n_str (s := []) (by decide +kernel) ?_
    refine n_name (setS (setS set0)) ?_
    refine n_seq ?_
    obtain ⟨s1, hs1, hm⟩ := bnd hm
    refine while_o hs1 (fun (s7 : Sg × Int) σ7 H7 => ∃ (F7 : Hp), σ7 = [some v_tree, some (.int s7.2), some (.str (S s7.1))] ∧ Gr [] F0 H0 F7 H7 ∧ Sub F0 F7 ∧ s7.1.length ≤ sizeLine) ⟨_, rfl, g0, Sub.refl _, (sz_ok (n := 0) rfl)⟩ ?_ ?_ ?_
    · rintro s2 b3 _ H4 ⟨F7, rfl, g8, sb9, l10⟩ hm P5 hP6
      refine n_test ?_
      refine n_op ?_
      refine n_var rfl ?_
      refine n_c ?_
      refine v_i2 ?_
      refine v_bl ?_
      obtain rfl := Option.some.inj hm
      exact hP6 _ ⟨_, rfl, g8, sb9, l10⟩
    · rintro s11 s12 _ H13 ⟨F16, rfl, g17, sb18, l19⟩ _ hm N14 hN15
      refine n_seq ?_
      refine n_asg ?_
      refine n_op ?_
      refine n_op ?_
      refine n_op ?_
      refine n_var rfl ?_
      refine n_c ?_
      refine v_ix21 g17.fh (Rp.mono (eP2 (eT eI) eS) sb18 r_tree) fun v20 r21 => ?_
      obtain ⟨er21, lr21⟩ : v20 = V.str (S x_tree.2) ∧ x_tree.2.length ≤ sizeLine := r21
      subst er21
      refine n_var rfl ?_
      obtain ⟨c22, hc22, hm⟩ := bnd hm
      refine v_ixS lr21 hc22 ?_
      refine n_var rfl ?_
      obtain ⟨t23, ht23, hm⟩ := bnd hm
      refine v_catS ht23 ?_
      refine n_name (setS (setS set0)) ?_
      refine n_asg ?_
      refine n_op ?_
      refine n_op ?_
      refine n_var rfl ?_
      refine n_c ?_
      refine v_ix20 g17.fh (Rp.mono (eP2 (eT eI) eS) sb18 r_tree) fun v24 r25 => ?_
      refine n_var rfl ?_
      obtain ⟨a26, ha26, hm⟩ := bnd hm
      obtain ⟨p27, vs28, ep27, q29, al30⟩ := r25
      subst ep27
      refine v_ixT (SqT.of (g17.fh _ _ q29)) al30 ha26 fun v31 r32 => ?_
      have er32 : v31 = V.int a26 := r32
      subst er32
      refine n_name (setS set0) ?_
      obtain rfl := Option.some.inj hm
      exact hN15 _ _ ⟨_, rfl, g17, sb18, (catM_le ht23)⟩
    rintro _ H33 ⟨F34, rfl, g35, sb36, l37⟩ _
    refine n_ret ?_
    refine n_var rfl ?_
    obtain rfl := Option.some.inj hm
    exact hk _ _ _  g35   ⟨rfl, l37⟩

def m_law (x_script : List Int) : Option Bool :=
  (uptoM 0 (mx (1 : Int) (mn (12 : Int) (x_script.length : Int)))).bind fun l1 =>
  (foldR l1 () fun s5 a4 =>
  (m__law_pool x_script a4).bind fun r23 =>
  (m__law_letters r23).bind fun r38 =>
  (m__law_tree r38.2 (60 : Int) r38.1).bind fun r65 =>
  (uptoM 0 (r65.1.1.length : Int)).bind fun l82 =>
  (need (szB l82.length) ()).bind fun u85 =>
  (compS l82 fun a87 =>
  (m__law_way r65.1 a87).bind fun r108 =>
  some (some r108)).bind fun q86 =>
  (uptoM 0 (2 : Int)).bind fun l140 =>
  (foldR l140 () fun s144 a143 =>
  (m_ways_down r65.1).bind fun r159 =>
  (reprM (.list ((r159).map dS.d))).bind fun t176 =>
  (reprM ((dL dS).d q86)).bind fun t177 =>
  if (!decide (t176 = t177)) = true then
  some (.rt false)
  else
  (snocM r159 ([] : Sg)).bind fun l179 =>
  some (.nx ())).bind fun z141 =>
  thenF z141 (fun s188 =>
  some (.nx ())) (fun r7 => some (.rt r7))).bind fun z2 =>
  thenF z2 (fun s197 =>
  some true) (fun r7 => some r7)
def sp_law (K : PySem.W.Frag) : Sp := fun vs H Q _ => ∃ (F : Hp) (v_script : V) (x_script : List Int) (r : Bool), vs = [v_script] ∧ Sub F H ∧ (eQ K).r F v_script x_script ∧ m_law x_script = some r ∧ ∀ (v : V) (F' H' : Hp) , Gr [] F H F' H' → eB.r F' v r → Q v H'
theorem sc_law : FnScope ["script", "at", "pool", "tree", "due", "turn", "found", "place"] ["script"] (defScope s_law) := ⟨rfl, rfl, rfl, by decide +kernel, rfl, by decide +kernel, by decide +kernel⟩
theorem ok_law {f : Addr} {fd : FuncData} (F : FnP K "law" s_law f fd) (H__law_pool : HasG P w K mg base "_law_pool" ["script", "at"] 2 (sp__law_pool K)) (H__law_tree : HasG P w K mg base "_law_tree" ["pool", "most", "letters"] 4 (sp__law_tree K)) (H__law_letters : HasG P w K mg base "_law_letters" ["pool"] 2 (sp__law_letters K)) (H__law_way : HasG P w K mg base "_law_way" ["tree", "place"] 1 (sp__law_way K)) (H_ways_down : HasG P w K mg base "ways_down" ["tree"] 1 (sp_ways_down K)) (b_range : mg "range" = none) (b_max : mg "max" = none) (b_min : mg "min" = none) (b_len : mg "len" = none) (b_repr : mg "repr" = none) : FnG P w K mg base CX0 5 f fd ["script"] (sp_law K) := by
  obtain ⟨f__law_pool, fd__law_pool, G0__law_pool, g__law_pool, k__law_pool, b__law_pool⟩ := H__law_pool
  have G__law_pool := G0__law_pool.mono (show 2 ≤ 4 by decide)
  obtain ⟨f__law_tree, fd__law_tree, G0__law_tree, g__law_tree, k__law_tree, b__law_tree⟩ := H__law_tree
  have G__law_tree := G0__law_tree.mono (show 4 ≤ 4 by decide)
  obtain ⟨f__law_letters, fd__law_letters, G0__law_letters, g__law_letters, k__law_letters, b__law_letters⟩ := H__law_letters
  have G__law_letters := G0__law_letters.mono (show 2 ≤ 4 by decide)
  obtain ⟨f__law_way, fd__law_way, G0__law_way, g__law_way, k__law_way, b__law_way⟩ := H__law_way
  have G__law_way := G0__law_way.mono (show 1 ≤ 4 by decide)
  obtain ⟨f_ways_down, fd_ways_down, G0_ways_down, g_ways_down, k_ways_down, b_ways_down⟩ := H_ways_down
  have G_ways_down := G0_ways_down.mono (show 1 ≤ 4 by decide)
  refine FnDok F sc_law (fun vs H Q E h => ?_) (fun cdv A outer s H0 vs Q E gd hr h => ?_)
  · obtain ⟨_, _, _, _, rfl, _⟩ := h
    rfl
  · obtain ⟨F0, v_script, x_script, r0, rfl, hs0, r_script, hm, hk⟩ := h
    have g0 : Gr [] F0 H0 F0 H0 := Gr.refl hs0
    refine ⟨_, PSs.nox (pss_cons (ps_for PassesOwn.never rfl (pi_range1 (by rfl) b_range (pa_cons (pe_callB (c_max2 rfl) (by rfl) b_max bo_max (pa_cons pe_int (pa_cons (pe_callB (c_min2 rfl) (by rfl) b_min bo_min (pa_cons pe_int (pa_cons (pe_callB (c_len (K := K) rfl) (by rfl) b_len bo_len (pa_cons (pv 0) pa_nil)) pa_nil))) pa_nil))) pa_nil)) (pg_name (i := 1) sc_law.nd rfl (by first | exact Or.inl rfl | exact Or.inr rfl)) (pss_cons (ps_set (i := 2) sc_law.nd rfl (by first | exact Or.inl rfl | exact Or.inr rfl) (pe_callG G__law_pool gd hr (by rfl) g__law_pool k__law_pool b__law_pool pass0 (pa_cons (pv 0) (pa_cons (pv 1) pa_nil))))
(pss_cons (ps_set (i := 3) sc_law.nd rfl (by first | exact Or.inl rfl | exact Or.inr rfl) (pe_callG G__law_tree gd hr (by rfl) g__law_tree k__law_tree b__law_tree pass0 (pa_cons (pv 2) (pa_cons pe_int (pa_cons (pe_callG G__law_letters gd hr (by rfl) g__law_letters k__law_letters b__law_letters pass0 (pa_cons (pv 2) pa_nil)) pa_nil)))))
(pss_cons (ps_setLc (i := 4) (own := [("place", 7)]) (g := gName 7) (by rfl) sc_law.nd rfl rfl (sw_true rfl rfl rfl (by decide +kernel)) (pi_range1 (by rfl) b_range (pa_cons (pe_callB (c_len (K := K) rfl) (by rfl) b_len bo_len (pa_cons (pe_ix (c_ixT (K := K) rfl) (pv 3) pe_int (fun _ _ => rfl)) pa_nil)) pa_nil)) (blkOk_by (own := [("place", 7)]) (N := ["script", "at", "pool", "tree", "due", "turn", "found", "place"]) (sc := defScope s_law) (by decide +kernel)) (fun _ _ _ _ _ => (pg_name (i := 7) sc_law.nd rfl (Or.inl rfl))) (fun _ _ _ _ _ => pts_nil) (fun _ _ _ _ _ => (pe_callG G__law_way gd hr (by rfl) g__law_way k__law_way b__law_way pass0 (pa_cons (pv 3) (pa_cons (pv 7) pa_nil)))))
(pss_one (ps_for PassesOwn.never rfl (pi_range1 (by rfl) b_range (pa_cons pe_int pa_nil)) (pg_name (i := 5) sc_law.nd rfl (by first | exact Or.inl rfl | exact Or.inr rfl)) (pss_cons (ps_set (i := 6) sc_law.nd rfl (by first | exact Or.inl rfl | exact Or.inr rfl) (pe_callG G_ways_down gd hr (by rfl) g_ways_down k_ways_down b_ways_down pass0 (pa_cons (pv 3) pa_nil)))
(pss_cons (ps_if (pt_cmpR op_ne (pe_callB (c_repr (K := K) rfl gd hr) (by rfl) b_repr bo_repr (pa_cons (pv 6) pa_nil)) (pe_callB (c_repr (K := K) rfl gd hr) (by rfl) b_repr bo_repr (pa_cons (pv 4) pa_nil)) (nomark _)) (pss_one (ps_ret pe_bl)) pss_nil)
(pss_one (ps_expr (c_bm (K := K) rfl PySem.F.plainAttrs_list PySem.F.slot_list_append PySem.F.type_list_append mt_append (pv 6) (pa_cons pe_str pa_nil))))))))))))
(pss_one (ps_ret pe_bl))), ?_⟩
    refine n_seq ?_
    refine n_for ?_
    refine n_rng1 ?_
    refine n_cons ?_
    refine n_cb ?_
    refine n_cons ?_
    refine n_c ?_
    refine n_cons ?_
    refine n_cb ?_
    refine n_cons ?_
    refine n_c ?_
    refine n_cons ?_
    refine n_cb ?_
    refine n_cons ?_
    refine n_var rfl ?_
    refine n_nil ?_
    refine v_lenQ g0.fh r_script ?_
    refine n_nil ?_
    refine v_min2 ?_
    refine n_nil ?_
    refine v_max2 ?_
    refine n_nil ?_
    obtain ⟨l1, hl1, hm⟩ := bnd hm
    refine v_rng1 hl1 ?_
    obtain ⟨z2, hz2, hm⟩ := bnd hm
    have hmo3 := hm
    refine for_r (sr_R1 hl1) hz2 (fun (s7 : Unit) σ7 H7 => ∃ (F7 : Hp) (o_at : Option V) (o_pool : Option V) (o_tree : Option V) (o_due : Option V) (o_turn : Option V) (o_found : Option V), σ7 = [some v_script, o_at, o_pool, o_tree, o_due, o_turn, o_found, none] ∧ Gr [] F0 H0 F7 H7 ∧ Sub F0 F7) ⟨_, _, _, _, _, _, _, rfl, g0, Sub.refl _⟩ ?_ ?_ ?_
    · intros; exact trivial
    · rintro a4 s5 s6 x7 _ H8 H9 ⟨F13, o16, o17, o18, o19, o20, o21, rfl, g14, sb15⟩ hY10 hm hrt22 N11 hN12
      refine v_nmR hY10 ?_
      refine n_name (setS set0) ?_
      refine n_seq ?_
      refine n_asg ?_
      refine n_call ?_
      refine n_cons ?_
      refine n_var rfl ?_
      refine n_cons ?_
      refine n_var rfl ?_
      refine n_nil ?_
      obtain ⟨r23, hr23, hm⟩ := bnd hm
      refine ⟨F13, v_script, x_script, .int a4, a4, r23, rfl, g14.fh, (Rp.mono (eQ K) sb15 r_script), rfl, hr23, fun v33 F24 H25 d26 r34 => ?_⟩
      obtain ⟨p27, vs28, ev33, np29, fp30, hp31, al32⟩ := r34
      subst ev33
      have go35 := g14.old np29
      have g36 := g14.trans0 d26
      have m37 : Mu [] H0 F24 H25 p27 (.lst vs28) := ⟨fp30, hp31, .inl go35⟩
      refine n_name (setS (setS set0)) ?_
      refine n_seq ?_
      refine n_asg ?_
      refine n_call ?_
      refine n_cons ?_
      refine n_var rfl ?_
      refine n_cons ?_
      refine n_c ?_
      refine n_cons ?_
      refine n_call ?_
      refine n_cons ?_
      refine n_var rfl ?_
      refine n_nil ?_
      obtain ⟨r38, hr38, hm⟩ := bnd hm
      refine ⟨F24, p27, vs28, r23, r38, rfl, g36.fh, m37.fr, m37.hp, al32, hr38, fun v51 F39 H40 vs42 d41 hp43 al44 r52 => ?_⟩
      obtain ⟨p45, vs46, ev51, np47, fp48, hp49, al50⟩ := r52
      subst ev51
      have go53 := g36.old np47
      have ne54 := m37.ne np47
      have g55 := g36.trans d41 (fun a ha => (List.mem_cons.mp ha).elim (fun e => e ▸ m37.own) (fun ha => absurd ha (by simp)))
      have m56 := m37.back d41 hp43
      have m57 : Mu [] H0 F39 H40 p45 (.lst vs46) := ⟨fp48, hp49, .inl go53⟩
      obtain ⟨F58, q60, sb62, g61, d59⟩ := freeze g55 m57 (m57.own.resolve_right (by simp))
      have m63 := d59 _ _ ne54 m56
      have al64 := (Al.mono al50 sb62)
      refine n_nil ?_
      obtain ⟨r65, hr65, hm⟩ := bnd hm
      refine ⟨F58, p27, vs42, r38.2, .int (60 : Int), (60 : Int), (.ref p45), r38.1, r65, rfl, g61.fh, m63.fr, m63.hp, (Al.mono al44 sb62), rfl, (⟨p45, vs46, rfl, q60, al64⟩ : (eL eS).r F58 (.ref p45) r38.1), hr65, fun v72 F66 H67 vs69 d68 hp70 al71 r73 => ?_⟩
      have g74 := g61.trans d68 (fun a ha => (List.mem_cons.mp ha).elim (fun e => e ▸ m63.own) (fun ha => absurd ha (by simp)))
      have m75 := m63.back d68 hp70
      refine n_name (setS (setS (setS set0))) ?_
      refine n_seq ?_
      refine n_asg ?_
      refine n_lc ?_
      refine n_rng1 ?_
      refine n_cons ?_
      refine n_cb ?_
      refine n_cons ?_
      refine n_op ?_
      refine n_var rfl ?_
      refine n_c ?_
      refine v_ix20 g74.fh r73 fun v76 r77 => ?_
      refine n_nil ?_
      obtain ⟨p78, vs79, ep78, q80, al81⟩ := r77
      subst ep78
      refine v_len (.inr (SqT.of (g74.fh _ _ q80))) al81 ?_
      refine n_nil ?_
      obtain ⟨l82, hl82, hm⟩ := bnd hm
      refine v_rng1 hl82 ?_
      obtain ⟨u85, hu85, hm⟩ := bnd hm
      obtain ⟨q86, hq86, hm⟩ := bnd hm
      intro D83 nD84
      have goD83 := g74.old nD84
      have neD83_p27 := m75.ne nD84
      have gg121 := gr_newM (W := []) (o := .lst []) g74.fh nD84
      refine comp_s (sr_R1 hl82) hq86 (need_ok hu85).1 (fun (acc7 : List Sg) H7 => ∃ (F7 : Hp) (vs7 : List V), Gr [] F0 H0 F7 H7 ∧ Sub F66 F7 ∧ F7 D83 = none ∧ H7 D83 = some (.lst vs7) ∧ Al eS F7 vs7 acc7 ∧ Mu [] H0 F7 H7 p27 (.lst vs69)) ⟨_, [], g74.trans0 gg121, Sub.refl _, g74.fh.nn nD84, upd_same, .nil, m75.call0 gg121⟩ ?_ ?_ ?_
      · intros; exact trivial
      · rintro a87 r89 acc90 x91 H92 H93 ⟨F98, vs99, g100, sb101, fD102, hD103, al104, m105⟩ hY94 hm hl97 N95 hN96
        have m107 : Mu [] H0 F98 H92 D83 (.lst vs99) := ⟨fD102, hD103, .inl goD83⟩
        refine wipe_to (σ' := [some v_script, some (.int a4), some (.ref p27), some v72, o19, o20, o21, none]) rfl ?_
        refine v_nmR hY94 ?_
        refine n_name (setS (setS (setS (setS (setS (setS (setS set0))))))) ?_
        refine ⟨rfl, ?_⟩
        refine n_yes ?_ rfl
        refine n_call ?_
        refine n_cons ?_
        refine n_var rfl ?_
        refine n_cons ?_
        refine n_var rfl ?_
        refine n_nil ?_
        obtain ⟨r108, hr108, hm⟩ := bnd hm
        refine ⟨F98, v72, r65.1, .int a87, a87, r108, rfl, g100.fh, (Rp.mono (eP2 (eT eI) eS) sb101 r73), rfl, hr108, fun v112 F109 H110 d111 r113 => ?_⟩
        have g114 := g100.trans0 d111
        have m115 := m105.call0 d111
        have m116 := m107.call0 d111
        obtain ⟨er113, lr113⟩ : v112 = V.str (S r108) ∧ r108.length ≤ sizeLine := r113
        subst er113
        obtain rfl := Option.some.inj hm
        refine ⟨_, m116.hp, by rw [al_len (Al.mono al104 d111.ff)]; exact hl97, hN96 _ ?_⟩
        exact ⟨_, _, m116.gr g114, (Sub.trans sb101 d111.ff), m116.fr, upd_same, pd_snoc (Al.mono al104 d111.ff) (show eS.r F109 (.str (S r108)) r108 from ⟨rfl, lr113⟩), m115.mut neD83_p27⟩
      rintro H122 ⟨F123, vs124, g125, sb126, fD127, hD128, al129, m130⟩
      have m132 : Mu [] H0 F123 H122 D83 (.lst vs124) := ⟨fD127, hD128, .inl goD83⟩
      obtain ⟨F133, q135, sb137, g136, d134⟩ := freeze g125 m132 (m132.own.resolve_right (by simp))
      have m138 := d134 _ _ neD83_p27 m130
      have al139 := (Al.mono al129 sb137)
      refine n_name (setS (setS (setS (setS set0)))) ?_
      refine n_for ?_
      refine n_rng1 ?_
      refine n_cons ?_
      refine n_c ?_
      refine n_nil ?_
      obtain ⟨l140, hl140, hm⟩ := bnd hm
      refine v_rng1 hl140 ?_
      obtain ⟨z141, hz141, hm⟩ := bnd hm
      have hmo142 := hm
      refine for_r (sr_R1 hl140) hz141 (fun (s7 : Unit) σ7 H7 => ∃ (F7 : Hp) (o_turn : Option V) (o_found : Option V), σ7 = [some v_script, some (.int a4), some (.ref p27), some v72, some (.ref D83), o_turn, o_found, none] ∧ Gr [] F0 H0 F7 H7 ∧ Sub F133 F7 ∧ Mu [] H0 F7 H7 p27 (.lst vs69)) ⟨_, _, _, rfl, g136, Sub.refl _, m138⟩ ?_ ?_ ?_
      · intros; exact trivial
      · rintro a143 s144 s145 x146 _ H147 H148 ⟨F152, o155, o156, rfl, g153, sb154, m157⟩ hY149 hm hrt158 N150 hN151
        refine v_nmR hY149 ?_
        refine n_name (setS (setS (setS (setS (setS set0))))) ?_
        refine n_seq ?_
        refine n_asg ?_
        refine n_call ?_
        refine n_cons ?_
        refine n_var rfl ?_
        refine n_nil ?_
        obtain ⟨r159, hr159, hm⟩ := bnd hm
        refine ⟨F152, v72, r65.1, r159, rfl, g153.fh, (Rp.mono (eP2 (eT eI) eS) (Sub.trans sb126 (Sub.trans sb137 sb154)) r73), hr159, fun v169 F160 H161 d162 r170 => ?_⟩
        obtain ⟨p163, vs164, ev169, np165, fp166, hp167, al168⟩ := r170
        subst ev169
        have go171 := g153.old np165
        have ne172 := m157.ne np165
        have g173 := g153.trans0 d162
        have m174 := m157.call0 d162
        have m175 : Mu [] H0 F160 H161 p163 (.lst vs164) := ⟨fp166, hp167, .inl go171⟩
        refine n_name (setS (setS (setS (setS (setS (setS set0)))))) ?_
        refine n_seq ?_
        refine n_ifs ?_
        refine n_test ?_
        refine n_op ?_
        refine n_cb ?_
        refine n_cons ?_
        refine n_var rfl ?_
        refine n_nil ?_
        obtain ⟨t176, ht176, hm⟩ := bnd hm
        refine v_reprD (dp_mut dS g173.fh m175.hp al168) ht176 ?_
        refine n_cb ?_
        refine n_cons ?_
        refine n_var rfl ?_
        refine n_nil ?_
        obtain ⟨t177, ht177, hm⟩ := bnd hm
        refine v_reprD ((dL dS).ok g173.fh (show (eL eS).r F160 (.ref D83) q86 from (Rp.mono (eL eS) (Sub.trans sb154 d162.ff) (⟨D83, vs124, rfl, q135, al139⟩ : (eL eS).r F133 (.ref D83) q86)))) ht177 ?_
        refine v_neS ?_
        refine v_bl ?_
        refine br (fun hb178 => ?_) (fun hb178 => ?_)
        · replace hm := ifT hb178 hm
          refine n_ret ?_
          refine n_c ?_
          obtain rfl := Option.some.inj hm
          have hm := thenF_rt (hrt158 _ rfl) hmo142
          obtain rfl := Option.some.inj hm
          have hm := thenF_rt (hrt22 _ rfl) hmo3
          obtain rfl := Option.some.inj hm
          exact hk _ _ _  g173   rfl
        replace hm := ifF hb178 hm
        refine n_nextS ?_
        refine n_drop ?_
        refine n_bm ?_
        refine n_var rfl ?_
        refine ⟨tyL m175.l, ?_⟩
        refine n_cons ?_
        refine n_str (s := []) (by decide +kernel) ?_
        refine n_nil ?_
        obtain ⟨l179, hl179, hm⟩ := bnd hm
        obtain ⟨vs183, H180, g184, al182, evs183, eH180⟩ := app_ok g173 m175 al168 hl179 (show eS.r F160 (.str (S ([] : Sg))) ([] : Sg) from ⟨rfl, (sz_ok (n := 0) rfl)⟩)
        refine v_append m175.hp (snoc_lt al168 hl179) ?_
        rw [← evs183, ← eH180]
        have m185 := mu_oth m174 ne172 eH180
        have m186 := mu_self m175 eH180
        obtain rfl := Option.some.inj hm
        exact hN151 _ _ _ rfl ⟨_, _, _, rfl, g184, (Sub.trans sb154 d162.ff), m185⟩
      rintro s188 _ H187 e189 ⟨F190, o193, o194, rfl, g191, sb192, m195⟩
      subst e189
      replace hm := thenF_nx hm
      obtain rfl := Option.some.inj hm
      exact hN12 _ _ _ rfl ⟨_, _, _, _, _, _, _, rfl, g191, (Sub.trans sb15 (Sub.trans d26.ff (Sub.trans d41.ff (Sub.trans sb62 (Sub.trans d68.ff (Sub.trans sb126 (Sub.trans sb137 sb192)))))))⟩
    rintro s197 _ H196 e198 ⟨F199, o202, o203, o204, o205, o206, o207, rfl, g200, sb201⟩
    subst e198
    replace hm := thenF_nx hm
    refine n_ret ?_
    refine n_c ?_
    obtain rfl := Option.some.inj hm
    exact hk _ _ _  g200   rfl

end
def d_ways_down : He.DefD := ⟨("ways_down", none), "ways_down", "ways_down", defArgs s_ways_down, defBody s_ways_down, defScope s_ways_down, [], []⟩
def d__law_cell_at : He.DefD := ⟨("_law_cell_at", none), "_law_cell_at", "_law_cell_at", defArgs s__law_cell_at, defBody s__law_cell_at, defScope s__law_cell_at, [], []⟩
def d__law_pool : He.DefD := ⟨("_law_pool", none), "_law_pool", "_law_pool", defArgs s__law_pool, defBody s__law_pool, defScope s__law_pool, [], []⟩
def d__law_take : He.DefD := ⟨("_law_take", none), "_law_take", "_law_take", defArgs s__law_take, defBody s__law_take, defScope s__law_take, [], []⟩
def d__law_letters : He.DefD := ⟨("_law_letters", none), "_law_letters", "_law_letters", defArgs s__law_letters, defBody s__law_letters, defScope s__law_letters, [], []⟩
def d__law_grown : He.DefD := ⟨("_law_grown", none), "_law_grown", "_law_grown", defArgs s__law_grown, defBody s__law_grown, defScope s__law_grown, [], []⟩
def d__law_copies : He.DefD := ⟨("_law_copies", none), "_law_copies", "_law_copies", defArgs s__law_copies, defBody s__law_copies, defScope s__law_copies, [], []⟩
def d__law_tree : He.DefD := ⟨("_law_tree", none), "_law_tree", "_law_tree", defArgs s__law_tree, defBody s__law_tree, defScope s__law_tree, [], []⟩
def d__law_way : He.DefD := ⟨("_law_way", none), "_law_way", "_law_way", defArgs s__law_way, defBody s__law_way, defScope s__law_way, [], []⟩
def d_law : He.DefD := ⟨("law", none), "law", "law", defArgs s_law, defBody s_law, defScope s_law, [], []⟩
def fn0 : List He.DefD := [d_ways_down, d__law_cell_at, d__law_pool, d__law_take, d__law_letters, d__law_grown, d__law_copies, d__law_tree, d__law_way, d_law]
def fn : List He.DefD := fn0
def fa0 : List He.Fa := [.glo "ways_down", .glo "_law_cell_at", .glo "_law_pool", .glo "_law_take", .glo "_law_letters", .glo "_law_grown", .glo "_law_copies", .glo "_law_tree", .glo "_law_way", .glo "law", .free "enumerate", .free "len", .free "range", .free "int", .free "max", .free "tuple", .free "min", .free "repr"]
def fa : List He.Fa := fa0
def loose0 : List PySem.Str := ["ways_down", "_law_cell_at", "_law_pool", "_law_take", "_law_letters", "_law_grown", "_law_copies", "_law_tree", "_law_way"]
def loose : List PySem.Str := loose0
abbrev R : PySem.W.OpenRow := PySem.W.OpenLaw.row PySem.Challenge.rw_upwords_k54_ways_down_told
abbrev hk : PySem.W.Hook := He.hookD 4 fa fn
def ob (s : PySem.W.SharedT) : He.AlD := He.obsDG 4 fa fn (HandSHeadRun.getT s)
theorem ob_eq (s : PySem.W.SharedT) : ob s = hk.obs s.abs := He.obsDG_eq (HandSHeadRun.getT_eq s)
theorem run (w : World) : HandSHeadRun.RunEq R (PySem.W.view R.prog [11]) hk ob 4000 loose w := by
  intro os
  kernel_rfl
theorem facts {P : Program} {w : World} {K : PySem.W.Frag} {h : Heap} {mg : Str → Option Value} {f : Addr} (X : K.In h) (G : h.Ns mainGlobals mg) (hfa : mg ("law" : Str) = some (.ref f)) (c : He.SaysD fa fn K) :
    ∃ fd : FuncData, (∀ (s : Shared) (v : Value), BindsTo s fd ⟨[v], []⟩ [("script", v)]) ∧ ∀ base : Heap, K.In base → base.Ns mainGlobals mg → FnG P w K mg base CX0 5 f fd ["script"] (sp_law K) := by
  obtain ⟨fd_ways_down, F_ways_down⟩ := c.def_ 0 (d := d_ways_down) rfl
  have g_ways_down := He.glo_ok X G (c.fact 0 (f := .glo "ways_down") rfl)
  obtain ⟨fd__law_cell_at, F__law_cell_at⟩ := c.def_ 1 (d := d__law_cell_at) rfl
  have g__law_cell_at := He.glo_ok X G (c.fact 1 (f := .glo "_law_cell_at") rfl)
  obtain ⟨fd__law_pool, F__law_pool⟩ := c.def_ 2 (d := d__law_pool) rfl
  have g__law_pool := He.glo_ok X G (c.fact 2 (f := .glo "_law_pool") rfl)
  obtain ⟨fd__law_take, F__law_take⟩ := c.def_ 3 (d := d__law_take) rfl
  have g__law_take := He.glo_ok X G (c.fact 3 (f := .glo "_law_take") rfl)
  obtain ⟨fd__law_letters, F__law_letters⟩ := c.def_ 4 (d := d__law_letters) rfl
  have g__law_letters := He.glo_ok X G (c.fact 4 (f := .glo "_law_letters") rfl)
  obtain ⟨fd__law_grown, F__law_grown⟩ := c.def_ 5 (d := d__law_grown) rfl
  have g__law_grown := He.glo_ok X G (c.fact 5 (f := .glo "_law_grown") rfl)
  obtain ⟨fd__law_copies, F__law_copies⟩ := c.def_ 6 (d := d__law_copies) rfl
  have g__law_copies := He.glo_ok X G (c.fact 6 (f := .glo "_law_copies") rfl)
  obtain ⟨fd__law_tree, F__law_tree⟩ := c.def_ 7 (d := d__law_tree) rfl
  have g__law_tree := He.glo_ok X G (c.fact 7 (f := .glo "_law_tree") rfl)
  obtain ⟨fd__law_way, F__law_way⟩ := c.def_ 8 (d := d__law_way) rfl
  have g__law_way := He.glo_ok X G (c.fact 8 (f := .glo "_law_way") rfl)
  obtain ⟨fd_law, F_law⟩ := c.def_ 9 (d := d_law) rfl
  have g_law := He.glo_ok X G (c.fact 9 (f := .glo "law") rfl)
  have b_enumerate := He.free_ok X G (c.fact 10 (f := .free "enumerate") rfl)
  have b_len := He.free_ok X G (c.fact 11 (f := .free "len") rfl)
  have b_range := He.free_ok X G (c.fact 12 (f := .free "range") rfl)
  have b_int := He.free_ok X G (c.fact 13 (f := .free "int") rfl)
  have b_max := He.free_ok X G (c.fact 14 (f := .free "max") rfl)
  have b_tuple := He.free_ok X G (c.fact 15 (f := .free "tuple") rfl)
  have b_min := He.free_ok X G (c.fact 16 (f := .free "min") rfl)
  have b_repr := He.free_ok X G (c.fact 17 (f := .free "repr") rfl)
  refine ⟨fd_law, fun s v => FunD.bindsA (ps := ["script"]) F_law (fun _ _ _ _ _ _ us hl => match us, hl with | [_], _ => rfl) s [v] rfl, fun base _ _ => ?_⟩
  have e := hfa.symm.trans g_law
  cases e
  have O_ways_down := ok_ways_down (P := P) (w := w) (mg := mg) (base := base) F_ways_down b_enumerate
  have H_ways_down : HasG P w K mg base "ways_down" ["tree"] 1 (sp_ways_down K) := ⟨_, _, O_ways_down, g_ways_down, F_ways_down.kp, F_ways_down.bindsN fun _ _ _ _ _ _ us hl => match us, hl with | [_], _ => rfl⟩
  have O__law_cell_at := ok__law_cell_at (P := P) (w := w) (mg := mg) (base := base) F__law_cell_at b_len
  have H__law_cell_at : HasG P w K mg base "_law_cell_at" ["script", "k"] 1 (sp__law_cell_at K) := ⟨_, _, O__law_cell_at, g__law_cell_at, F__law_cell_at.kp, F__law_cell_at.bindsN fun _ _ _ _ _ _ us hl => match us, hl with | [_, _], _ => rfl⟩
  have O__law_pool := ok__law_pool (P := P) (w := w) (mg := mg) (base := base) F__law_pool H__law_cell_at b_range b_int
  have H__law_pool : HasG P w K mg base "_law_pool" ["script", "at"] 2 (sp__law_pool K) := ⟨_, _, O__law_pool, g__law_pool, F__law_pool.kp, F__law_pool.bindsN fun _ _ _ _ _ _ us hl => match us, hl with | [_, _], _ => rfl⟩
  have O__law_take := ok__law_take (P := P) (w := w) (mg := mg) (base := base) F__law_take b_int
  have H__law_take : HasG P w K mg base "_law_take" ["pool", "many"] 1 (sp__law_take K) := ⟨_, _, O__law_take, g__law_take, F__law_take.kp, F__law_take.bindsN fun _ _ _ _ _ _ us hl => match us, hl with | [_, _], _ => rfl⟩
  have O__law_letters := ok__law_letters (P := P) (w := w) (mg := mg) (base := base) F__law_letters H__law_take b_range
  have H__law_letters : HasG P w K mg base "_law_letters" ["pool"] 2 (sp__law_letters K) := ⟨_, _, O__law_letters, g__law_letters, F__law_letters.kp, F__law_letters.bindsN fun _ _ _ _ _ _ us hl => match us, hl with | [_], _ => rfl⟩
  have O__law_grown := ok__law_grown (P := P) (w := w) (mg := mg) (base := base) F__law_grown H__law_take b_range b_len b_max b_tuple b_int
  have H__law_grown : HasG P w K mg base "_law_grown" ["pool", "many", "kind", "letters"] 2 (sp__law_grown K) := ⟨_, _, O__law_grown, g__law_grown, F__law_grown.kp, F__law_grown.bindsN fun _ _ _ _ _ _ us hl => match us, hl with | [_, _, _, _], _ => rfl⟩
  have O__law_copies := ok__law_copies (P := P) (w := w) (mg := mg) (base := base) F__law_copies H__law_grown H__law_take b_range b_tuple b_len
  have H__law_copies : HasG P w K mg base "_law_copies" ["pool", "most", "letters"] 3 (sp__law_copies K) := ⟨_, _, O__law_copies, g__law_copies, F__law_copies.kp, F__law_copies.bindsN fun _ _ _ _ _ _ us hl => match us, hl with | [_, _, _], _ => rfl⟩
  have O__law_tree := ok__law_tree (P := P) (w := w) (mg := mg) (base := base) F__law_tree H__law_take H__law_grown H__law_copies
  have H__law_tree : HasG P w K mg base "_law_tree" ["pool", "most", "letters"] 4 (sp__law_tree K) := ⟨_, _, O__law_tree, g__law_tree, F__law_tree.kp, F__law_tree.bindsN fun _ _ _ _ _ _ us hl => match us, hl with | [_, _, _], _ => rfl⟩
  have O__law_way := ok__law_way (P := P) (w := w) (mg := mg) (base := base) F__law_way 
  have H__law_way : HasG P w K mg base "_law_way" ["tree", "place"] 1 (sp__law_way K) := ⟨_, _, O__law_way, g__law_way, F__law_way.kp, F__law_way.bindsN fun _ _ _ _ _ _ us hl => match us, hl with | [_, _], _ => rfl⟩
  have O_law := ok_law (P := P) (w := w) (mg := mg) (base := base) F_law H__law_pool H__law_tree H__law_letters H__law_way H_ways_down b_range b_max b_min b_len b_repr
  exact O_law
/-! ### plain: what the law draws -/
def PoolOk (p : List Int) : Prop := ∃ a b : Int, p = [a, b] ∧ 0 ≤ a ∧ 0 ≤ b
theorem take_ret {p : List Int} {many : Int} (hp : PoolOk p) (h : 0 < many) (h2 : many < 1073741824) : Ret (m__law_take p many) (fun r => (0 ≤ r.1 ∧ r.1 < many) ∧ PoolOk r.2) := by
  obtain ⟨a, b, rfl, ha, hb⟩ := hp
  unfold m__law_take
  refine Ret.eq (atI_of (Int.le_refl 0) rfl) ?_
  cases hd : decide (a = 0) with
  | true =>
    refine Ret.eq (a := b) (atI_of (i := 1) (by decide) rfl) ?_
    refine Ret.eq (modM_of h) ?_
    refine Ret.eq (a := b) (atI_of (i := 1) (by decide) rfl) ?_
    refine Ret.eq (divM_of h h2) ?_
    refine Ret.eq (setM_of (i := 1) (by decide) (by show (1 : Int) < 2; decide)) ?_
    exact Ret.pure ⟨⟨Int.emod_nonneg _ (by omega), Int.emod_lt_of_pos _ h⟩, a, b / many, rfl, ha, Int.ediv_nonneg hb (by omega)⟩
  | false =>
    refine Ret.eq (a := a) (atI_of (i := 0) (by decide) rfl) ?_
    refine Ret.eq (modM_of h) ?_
    refine Ret.eq (a := a) (atI_of (i := 0) (by decide) rfl) ?_
    refine Ret.eq (divM_of h h2) ?_
    refine Ret.eq (setM_of (i := 0) (by decide) (by show (0 : Int) < 2; decide)) ?_
    exact Ret.pure ⟨⟨Int.emod_nonneg _ (by omega), Int.emod_lt_of_pos _ h⟩, a / many, b, rfl, Int.ediv_nonneg ha (by omega), hb⟩
theorem cell_ret (s : List Int) {k : Int} (h0 : 0 ≤ k) : Ret (m__law_cell_at s k) (fun _ => True) := by
  unfold m__law_cell_at
  refine Ret.ite (fun h => ?_) fun _ => Ret.pure trivial
  exact Ret.eq (atI_lt h0 (of_decide_eq_true h)) (Ret.pure trivial)
theorem pool_ret (s : List Int) {k : Int} (h0 : 0 ≤ k) : Ret (m__law_pool s k) PoolOk := by
  unfold m__law_pool
  refine Ret.bind (cell_ret s h0) fun cell _ => ?_
  refine Ret.eq (uptoM_of (by decide) (by decide) (by decide) (by decide)) ?_
  refine Ret.bind (ret_foldO (fun _ s => (0 : Int) ≤ s) (Int.le_refl 0) fun i big turn hx hb => ?_) fun big hb => ?_
  · have ht := upto_get hx
    refine Ret.eq (mulM_of (.inr (by omega))) ?_
    refine Ret.eq (mulM_of (.inl (by omega))) ?_
    exact Ret.pure (by omega)
  · have hb2 : b2 (decide ((1000000000000000000 : Int) ≤ cell)) = 0 ∨ (b2 (decide ((1000000000000000000 : Int) ≤ cell)) = 1 ∧ 0 ≤ cell) := by
      by_cases h : (1000000000000000000 : Int) ≤ cell
      · rw [decide_eq_true h]; exact .inr ⟨rfl, by omega⟩
      · rw [decide_eq_false h]; exact .inl rfl
    refine Ret.eq (mulM_of (.inr (by rcases hb2 with h | ⟨h, _⟩ <;> rw [h] <;> decide))) ?_
    refine Ret.pure ⟨_, _, rfl, ?_, hb⟩
    rcases hb2 with h | ⟨h, h1⟩ <;> rw [h] <;> omega
theorem ret_in {α : Type} {xs : List α} {i : Int} (h0 : 0 ≤ i) (h : i < xs.length) : Ret (atI xs i) (fun a => a ∈ xs) := (ret_at h0 h).mono fun _ e => List.mem_of_getElem? e
def LettersOk (ls : List Sg) : Prop := 1 ≤ ls.length ∧ ls.length ≤ 26 ∧ ∀ x ∈ ls, ∃ c, x = [c] ∧ 97 ≤ c ∧ c ≤ 122
theorem letters_ret {p : List Int} (hp : PoolOk p) : Ret (m__law_letters p) (fun r => LettersOk r.1 ∧ PoolOk r.2) := by
  unfold m__law_letters
  refine Ret.bind (take_ret hp (by decide) (by decide)) fun r1 ⟨h1, hp⟩ => ?_
  refine Ret.bind (ret_in h1.1 h1.2) fun many hm => ?_
  have hm2 : 1 ≤ many ∧ many ≤ 26 := by simp at hm; omega
  refine Ret.bind (take_ret hp (by decide) (by decide)) fun r2 ⟨h2, hp⟩ => ?_
  refine Ret.bind (take_ret hp (by decide) (by decide)) fun r3 ⟨h3, hp⟩ => ?_
  refine Ret.bind (ret_in h3.1 h3.2) fun by_ hb => ?_
  have hb2 : 1 ≤ by_ ∧ by_ ≤ 25 := by simp at hb; omega
  refine Ret.eq (uptoM_of (by decide) (by decide) (by omega) (by omega)) ?_
  have hl : (upto 0 many).length = many.toNat := by rw [upto_len]; simp
  refine ret_need (szB_of (by omega)) ?_
  refine Ret.bind (ret_compS (fun x => ∃ c, x = [c] ∧ 97 ≤ c ∧ c ≤ 122) fun k hk => ?_) fun ls hls => ?_
  · have hk2 := upto_mem hk
    refine Ret.eq (mulM_of (.inl (by omega))) ?_
    refine Ret.bind (ret_in (by omega) (by show _ < (26 : Int); omega)) fun c hc => ?_
    refine Ret.pure ⟨_, rfl, c, rfl, ?_⟩
    simp at hc; omega
  · exact Ret.pure ⟨⟨by simp only; omega, by simp only; omega, hls.2⟩, hp⟩
/-- the line of places above the last one -/
structure LineOk (line ups : List Int) : Prop where
  pos : 1 ≤ line.length
  most : line.length ≤ ups.length
  low : ∀ (i j : Nat) (a b : Int), i ≤ j → line[i]? = some a → line[j]? = some b → (0 ≤ a ∧ 0 ≤ b ∧ b < ups.length) ∧ Anc ups b.toNat a.toNat
  last : line[line.length - 1]? = some ((ups.length : Int) - 1)
theorem line_one : LineOk [0] [-1] := by
  refine ⟨by simp, by simp, fun i j a b h e1 e2 => ?_, rfl⟩
  cases i with
  | succ i => simp at e1
  | zero => cases j with
    | succ j => simp at e2
    | zero =>
      simp at e1 e2; subst e1; subst e2
      exact ⟨⟨by decide, by decide, by simp⟩, .refl 0⟩
theorem line_step {line ups : List Int} {cut p : Int} (L : LineOk line ups) (U : UpsOk ups) (h1 : 1 ≤ cut) (h2 : cut ≤ line.length) (hp : line[(cut - 1).toNat]? = some p) :
    UpsOk (ups ++ [p]) ∧ LineOk (line.take cut.toNat ++ [(ups.length : Int)]) (ups ++ [p]) := by
  have hl := L.low _ _ p _ (show (cut - 1).toNat ≤ line.length - 1 by have := L.pos; omega) hp L.last
  have ha : Anc ups (ups.length - 1) p.toNat := by
    have := hl.2
    rw [show (((ups.length : Int) - 1).toNat) = ups.length - 1 by omega] at this
    exact this
  have hpb : p < ups.length := by
    have := L.low _ _ p p (Nat.le_refl _) hp hp
    omega
  refine ⟨U.snoc hl.1.1 hpb ha, ?_⟩
  have ht : (line.take cut.toNat).length = cut.toNat := by rw [List.length_take]; omega
  refine ⟨by simp, by have := L.most; simp; omega, fun i j a b hij e1 e2 => ?_, ?_⟩
  · have tk : ∀ (i : Nat) (a : Int), i < cut.toNat → (line.take cut.toNat ++ [(ups.length : Int)])[i]? = some a → line[i]? = some a := fun i a hi e => by
      rw [List.getElem?_append_left (by omega), List.getElem?_take_of_lt hi] at e; exact e
    have tl : ∀ (j : Nat) (b : Int), ¬ j < cut.toNat → (line.take cut.toNat ++ [(ups.length : Int)])[j]? = some b → j = cut.toNat ∧ b = ups.length := fun j b hj e => by
      rw [List.getElem?_append_right (by omega), ht] at e
      by_cases h9 : j - cut.toNat = 0
      · rw [h9] at e; simp at e; exact ⟨by omega, e.symm⟩
      · rw [List.getElem?_eq_none (by simp; omega)] at e; cases e
    by_cases hj : j < cut.toNat
    · have q := L.low i j a b hij (tk i a (by omega) e1) (tk j b hj e2)
      exact ⟨⟨q.1.1, q.1.2.1, by simp; omega⟩, q.2.app⟩
    · obtain ⟨ej, eb⟩ := tl j b hj e2
      subst eb
      by_cases hi : i < cut.toNat
      · have e3 := tk i a hi e1
        have q := L.low i (cut - 1).toNat a p (by omega) e3 hp
        refine ⟨⟨q.1.1, by omega, by simp; omega⟩, ?_⟩
        rw [Int.toNat_natCast]
        refine .up (u := p) (by simp) q.1.2.1 q.2.app
      · obtain ⟨ei, ea⟩ := tl i a hi e1
        subst ea
        exact ⟨⟨by omega, by omega, by simp; omega⟩, .refl _⟩
  · rw [List.length_append, ht, show cut.toNat + [(ups.length : Int)].length - 1 = cut.toNat from by simp, List.getElem?_append_right (by omega), ht, Nat.sub_self, List.length_append]
    show some (ups.length : Int) = some (((ups.length + 1 : Nat) : Int) - 1)
    congr 1
    omega
theorem grown_ret {p : List Int} {many kind : Int} {letters : List Sg} (hp : PoolOk p) (h1 : 1 ≤ many) (h2 : many ≤ 60) (hk : 0 ≤ kind) (hk2 : kind ≤ 5) (hl : LettersOk letters) :
    Ret (m__law_grown p many kind letters) (fun r => TreeOk r.1 ∧ (r.1.1.length : Int) = many ∧ PoolOk r.2) := by
  unfold m__law_grown
  refine Ret.eq (uptoM_of (by decide) (by decide) (by omega) (by omega)) ?_
  refine Ret.bind (ret_foldO (fun i s => PoolOk s.2.1 ∧ s.2.2.length = i + 1 ∧ UpsOk s.2.2 ∧ LineOk s.1 s.2.2) ⟨hp, rfl, UpsOk.one, line_one⟩ fun i s k hx ⟨hp, hu, U, L⟩ => ?_) fun s ⟨hp, hu, U, L⟩ => ?_
  · obtain ⟨line, pool, ups⟩ := s
    have hx := upto_get hx
    have L1 : 1 ≤ line.length := L.pos
    have L2 : line.length ≤ ups.length := L.most
    simp only at hu U L hp ⊢
    refine Ret.bind (take_ret hp (by decide) (by decide)) fun r1 ⟨g1, hp⟩ => ?_
    refine Ret.bind (P := fun low : Int => 1 ≤ low ∧ low ≤ (line.length : Int)) ?_ fun low hlow => ?_
    · cases hd : decide ((4 : Int) < (line.length : Int)) with
      | true =>
        have hd := of_decide_eq_true hd
        exact Ret.of (a := 1 + r1.1) (atI_of (i := 1) (by decide) rfl) (by omega)
      | false => exact Ret.of (a := (line.length : Int)) (atI_of (i := 0) (by decide) rfl) (by omega)
    refine Ret.bind (take_ret hp (by decide) (by decide)) fun r2 ⟨g2, hp⟩ => ?_
    refine Ret.bind (take_ret hp (by omega) (by omega)) fun r3 ⟨g3, hp⟩ => ?_
    refine Ret.bind (P := fun cut : Int => 1 ≤ cut ∧ cut ≤ (line.length : Int)) ((ret_in hk (by show kind < (6 : Int); omega)).mono fun a ha => ?_) fun cut hc => ?_
    · simp only [mx_eq, List.mem_cons, List.not_mem_nil, or_false] at ha
      omega
    refine Ret.bind (ret_at (by omega) (by omega)) fun q hq => ?_
    refine Ret.eq (snocM_of (by omega)) ?_
    rw [cutL_to (by omega)]
    have ht : (line.take cut.toNat).length = cut.toNat := by rw [List.length_take]; omega
    refine Ret.eq (catLM_of (by rw [ht]; simp; omega)) ?_
    have st := line_step L U hc.1 hc.2 hq
    have ek : k = (ups.length : Int) := by omega
    subst ek
    exact Ret.pure ⟨hp, by simp [hu], st.1, st.2⟩
  · obtain ⟨line, pool, ups⟩ := s
    rw [upto_len] at hu
    simp only at hu U L hp ⊢
    obtain ⟨l1, l2, l3⟩ := hl
    refine Ret.bind (take_ret hp (by decide) (by decide)) fun way ⟨g1, hp⟩ => ?_
    refine Ret.bind (take_ret hp (by omega) (by omega)) fun r2 ⟨g2, hp⟩ => ?_
    refine Ret.bind (take_ret hp (by decide) (by decide)) fun r3 ⟨g3, hp⟩ => ?_
    refine Ret.bind (ret_in g3.1 g3.2) fun other _ => ?_
    refine Ret.eq (uptoM_of (by decide) (by decide) (by omega) (by omega)) ?_
    refine Ret.bind (ret_foldO (fun i s => s.1.length = i ∧ (∀ c ∈ s.1, 97 ≤ c ∧ c ≤ 122) ∧ PoolOk s.2) ⟨rfl, by simp, hp⟩ fun i s k hx ⟨hs, hc, hp⟩ => ?_) fun s ⟨hs, hc, hp⟩ => ?_
    · obtain ⟨labels, pool⟩ := s
      have hx := upto_get hx
      simp only at hs hc hp ⊢
      refine Ret.bind (take_ret hp (by omega) (by omega)) fun r4 ⟨g4, hp⟩ => ?_
      refine Ret.bind (P := fun x : Int => 0 ≤ x ∧ x < (letters.length : Int)) (Ret.ite (fun hw => ?_) fun _ => Ret.pure g4) fun at_ ha => ?_
      · rw [Bool.and_eq_true, decide_eq_true_iff, decide_eq_true_iff] at hw
        refine Ret.eq (modM_of (by omega)) (Ret.eq (modM_of (by omega)) (Ret.pure ⟨Int.emod_nonneg _ (by omega), Int.emod_lt_of_pos _ (by omega)⟩))
      refine Ret.bind (P := fun x : Int => 0 ≤ x ∧ x < (letters.length : Int)) (Ret.ite (fun hw => ?_) fun _ => Ret.pure ha) fun at2 ha2 => ?_
      · exact Ret.eq (modM_of (by omega)) (Ret.pure ⟨Int.emod_nonneg _ (by omega), Int.emod_lt_of_pos _ (by omega)⟩)
      refine Ret.bind (ret_in ha2.1 ha2.2) fun x hx3 => ?_
      obtain ⟨c, rfl, h97, h122⟩ := l3 x hx3
      refine Ret.eq (catM_of (by simp; omega)) ?_
      refine Ret.pure ⟨by simp [hs], fun d hd => ?_, hp⟩
      rcases List.mem_append.mp hd with h | h
      · exact hc d h
      · simp at h; subst h; exact ⟨h97, h122⟩
    · rw [upto_len] at hs
      refine Ret.pure ⟨⟨by simp only; omega, by simp only; omega, U, hc⟩, by simp only; omega, hp⟩
/-- a bough put beneath the root or behind the last place -/
theorem ups_more {ups one : List Int} {a : Int} (U : UpsOk ups) (O : UpsOk one) (ha : a = 0 ∨ a = (ups.length : Int) - 1) : UpsOk (ups ++ (a :: (one.drop 1).map fun u => u + (ups.length : Int))) := by
  have hu := U.pos
  have ho := O.pos
  have shift : ∀ k : Nat, 0 < k → k < one.length → (ups ++ (a :: (one.drop 1).map fun u => u + (ups.length : Int)))[ups.length + k]? = (one[k]?).map fun u => u + (ups.length : Int) := fun k h0 hk => by
    rw [List.getElem?_append_right (by omega), show ups.length + k - ups.length = (k - 1) + 1 by omega, List.getElem?_cons_succ, List.getElem?_map, List.getElem?_drop, show 1 + (k - 1) = k by omega]
  have anc : ∀ k b : Nat, k < one.length → Anc one k b → Anc (ups ++ (a :: (one.drop 1).map fun u => u + (ups.length : Int))) (ups.length + k) (ups.length + b) := fun k b hk h => by
    induction h with
    | refl k => exact .refl _
    | @up k b u h hu2 r ih =>
      by_cases h0 : k = 0
      · subst h0; rw [O.root] at h
        have e : -1 = u := Option.some.inj h
        omega
      · have q := O.up k u (by omega) h
        refine .up (u := u + (ups.length : Int)) (by rw [shift k (by omega) hk, h]; rfl) (by omega) ?_
        rw [show (u + (ups.length : Int)).toNat = ups.length + u.toNat by omega]
        exact ih (by omega)
  have cases_ : ∀ (k : Nat) (u : Int), (ups ++ (a :: (one.drop 1).map fun u => u + (ups.length : Int)))[k]? = some u → (k < ups.length ∧ ups[k]? = some u) ∨ (k = ups.length ∧ u = a) ∨ ∃ j v, 0 < j ∧ j < one.length ∧ k = ups.length + j ∧ one[j]? = some v ∧ u = v + (ups.length : Int) := fun k u h => by
    by_cases hk : k < ups.length
    · rw [List.getElem?_append_left hk] at h; exact .inl ⟨hk, h⟩
    · by_cases hk2 : k = ups.length
      · subst hk2
        rw [List.getElem?_append_right (by omega)] at h
        simp at h; exact .inr (.inl ⟨rfl, h.symm⟩)
      · have hl := (List.getElem?_eq_some_iff.mp h).1
        simp at hl
        have hj : k - ups.length < one.length := by omega
        have e2 : k = ups.length + (k - ups.length) := by omega
        rw [e2, shift (k - ups.length) (by omega) hj, List.getElem?_eq_getElem hj] at h
        exact .inr (.inr ⟨k - ups.length, _, by omega, hj, e2, List.getElem?_eq_getElem hj, (Option.some.inj h).symm⟩)
  have toRoot : ∀ k, k < ups.length → Anc (ups ++ (a :: (one.drop 1).map fun u => u + (ups.length : Int))) k 0 := fun k hk => (U.toRoot k hk).app
  refine ⟨get_app U.root, fun k u h0 h => ?_, fun k u h0 h => ?_⟩
  · rcases cases_ k u h with ⟨hk, e⟩ | ⟨hk, e⟩ | ⟨j, v, h1, h2, e, e2, e3⟩
    · exact U.up k u h0 e
    · rcases ha with ha | ha <;> omega
    · have := O.up j v h1 e2
      omega
  · rcases cases_ k u h with ⟨hk, e⟩ | ⟨hk, e⟩ | ⟨j, v, h1, h2, e, e2, e3⟩
    · exact (U.ch k u h0 e).app
    · subst e; subst hk
      rcases ha with ha | ha
      · subst ha; exact toRoot _ (by omega)
      · subst ha
        rw [show (((ups.length : Int) - 1).toNat) = ups.length - 1 by omega]
        exact .refl _
    · subst e; subst e3
      rw [show (v + (ups.length : Int)).toNat = ups.length + v.toNat by have := O.up j v h1 e2; omega, show ups.length + j - 1 = ups.length + (j - 1) by omega]
      exact anc (j - 1) v.toNat (by omega) (O.ch j v h1 e2)
theorem copies_ret {p : List Int} {most : Int} {letters : List Sg} (hp : PoolOk p) (h1 : 1 ≤ most) (h2 : most ≤ 60) (hl : LettersOk letters) :
    Ret (m__law_copies p most letters) (fun r => TreeOk r.1 ∧ (r.1.1.length : Int) ≤ most ∧ PoolOk r.2) := by
  unfold m__law_copies
  obtain ⟨l1, l2, l3⟩ := id hl
  refine Ret.bind (take_ret hp (by decide) (by decide)) fun r1 ⟨g1, hp⟩ => ?_
  refine Ret.bind (grown_ret hp (by omega) (by omega) (by decide) (by decide) hl) fun r2 ⟨T, hT, hp⟩ => ?_
  refine Ret.bind (take_ret hp (by decide) (by decide)) fun r3 ⟨g3, hp⟩ => ?_
  refine Ret.bind (take_ret hp (by omega) (by omega)) fun r4 ⟨g4, hp⟩ => ?_
  refine Ret.bind (ret_in g4.1 g4.2) fun x hx => ?_
  obtain ⟨c, rfl, h97, h122⟩ := l3 x hx
  refine Ret.bind (take_ret hp (by decide) (by decide)) fun r5 ⟨g5, hp⟩ => ?_
  refine Ret.eq (uptoM_of (by decide) (by decide) (by omega) (by omega)) ?_
  have hlen := T.len
  refine Ret.bind (ret_foldO (fun _ s => UpsOk s.2 ∧ s.1.length = s.2.length ∧ (s.2.length : Int) ≤ most ∧ ∀ c ∈ s.1, 97 ≤ c ∧ c ≤ 122) ⟨UpsOk.one, rfl, h1, by simp; omega⟩ fun i s k hk ⟨U, e, hm, hc⟩ => ?_) fun s ⟨U, e, hm, hc⟩ => ?_
  · obtain ⟨labels, ups⟩ := s
    simp only at U e hm hc ⊢
    have hu := U.pos
    refine Ret.ite (fun hd => ?_) fun _ => Ret.pure ⟨U, e, hm, hc⟩
    have hd := of_decide_eq_true hd
    refine Ret.bind (P := fun a => a = 0 ∨ a = (ups.length : Int) - 1) ((ret_in g3.1 (by show r3.1 < (2 : Int); omega)).mono fun a ha => by simpa using ha) fun a ha => ?_
    rw [cutL_from (by decide)]
    refine ret_need (szB_of (by rw [List.length_drop]; omega)) ?_
    refine Ret.eq (compS_map (fun u => u + (ups.length : Int)) fun _ _ => rfl) ?_
    have hl9 : (([a] : List Int) ++ (r2.1.1.drop (1 : Int).toNat).map fun u => u + (ups.length : Int)).length = r2.1.1.length := by
      have := T.ups.pos
      simp; omega
    refine Ret.eq (catLM_of (by rw [List.length_map, List.length_drop]; simp; omega)) ?_
    refine Ret.eq (catLM_of (by rw [hl9]; omega)) ?_
    refine Ret.eq (catM_of (by omega)) ?_
    refine Ret.pure ⟨ups_more U T.ups ha, ?_, ?_, fun d hd => ?_⟩
    · simp only [List.length_append, hl9]; omega
    · simp only [List.length_append, hl9]; omega
    · rcases List.mem_append.mp hd with h | h
      · exact hc d h
      · exact T.low d h
  · exact Ret.pure ⟨⟨by simp only; omega, by simp only; omega, U, hc⟩, hm, hp⟩

theorem tree_ret {p : List Int} {most : Int} {letters : List Sg} (hp : PoolOk p) (h1 : 9 ≤ most) (h2 : most ≤ 60) (hl : LettersOk letters) : Ret (m__law_tree p most letters) (fun r => TreeOk r.1 ∧ (r.1.1.length : Int) ≤ most ∧ PoolOk r.2) := by
  unfold m__law_tree
  refine Ret.bind (take_ret hp (by decide) (by decide)) fun kind ⟨g1, hp⟩ => ?_
  refine Ret.bind (take_ret hp (by decide) (by decide)) fun r2 ⟨g2, hp⟩ => ?_
  refine Ret.bind (take_ret hp (by omega) (by omega)) fun r3 ⟨g3, hp⟩ => ?_
  refine Ret.bind (take_ret hp (by decide) (by decide)) fun r4 ⟨g4, hp⟩ => ?_
  refine Ret.bind (P := fun many => 1 ≤ many ∧ many ≤ most) ((ret_in g4.1 (by show r4.1 < (3 : Int); omega)).mono fun a ha => by simp at ha; omega) fun many hm => ?_
  refine Ret.ite (fun _ => ?_) fun hd => ?_
  · exact Ret.bind (copies_ret hp (by omega) h2 hl) fun r hr => Ret.pure hr
  · have hd := of_decide_eq_false hd
    exact Ret.bind (grown_ret hp (by omega) (by omega) g1.1 (by omega) hl) fun r hr => Ret.pure ⟨hr.1, by have := hr.2.1; simp only; omega, hr.2.2⟩

/-! ### plain: ways down -/
def wy (t : Tre) (k : Nat) : Sg := (wd t k).reverse
theorem wd_low {t : Tre} (T : TreeOk t) : ∀ k, k < t.1.length → ∀ c ∈ wd t k, 97 ≤ c ∧ c ≤ 122 := by
  intro k
  have hl := T.len
  have ng : ∀ k, k < t.1.length → 97 ≤ t.2.getD k 0 ∧ t.2.getD k 0 ≤ 122 := fun k hk => by
    have h := List.getElem?_eq_getElem (show k < t.2.length by omega)
    rw [getD_of h]
    exact T.low _ (List.getElem_mem _)
  induction k using Nat.strongRecOn with
  | _ k ih =>
    intro hk c hc
    by_cases h0 : k = 0
    · subst h0
      rw [wd_root T.ups] at hc
      simp at hc
      subst hc
      exact ng 0 hk
    · have e := List.getElem?_eq_getElem hk
      obtain ⟨a, b⟩ := T.ups.up k _ (by omega) e
      rw [wd_up T.ups (by omega) e] at hc
      rcases List.mem_cons.mp hc with h | h
      · subst h; exact ng k hk
      · exact ih _ (by omega) (by omega) c h
theorem law_way_eq {t : Tre} (T : TreeOk t) {i : Int} (h1 : -1 ≤ i) (h2 : i < t.1.length) : m__law_way t i = some (wdI t i).reverse := by
  have hl := T.len
  have hm := T.most
  unfold m__law_way
  have key : Ret (whileO 1000000 (([] : Sg), i) (fun s2 => some (decide ((0 : Int) ≤ s2.2))) (fun s11 => (atI t.2 s11.2).bind fun c22 => (catM [c22] s11.1).bind fun t23 => (atI t.1 s11.2).bind fun a26 => some (t23, a26))) (fun s : Sg × Int => ((wdI t s.2).reverse ++ s.1 = (wdI t i).reverse ∧ s.1.length + (s.2 + 1).toNat ≤ 60 ∧ -1 ≤ s.2 ∧ s.2 < t.1.length) ∧ some (decide ((0 : Int) ≤ s.2)) = some false) := by
    refine ret_whileO (fun s : Sg × Int => (wdI t s.2).reverse ++ s.1 = (wdI t i).reverse ∧ s.1.length + (s.2 + 1).toNat ≤ 60 ∧ -1 ≤ s.2 ∧ s.2 < t.1.length) (fun s : Sg × Int => (s.2 + 1).toNat) ⟨by simp, by simp; omega, h1, h2⟩ (by simp only; omega) fun s ⟨e, hs, h3, h4⟩ => ?_
    refine Ret.pure fun hd => ?_
    have h0 := of_decide_eq_true hd
    have hc := List.getElem?_eq_getElem (show s.2.toNat < t.2.length by omega)
    have hu := List.getElem?_eq_getElem (show s.2.toNat < t.1.length by omega)
    refine Ret.eq (atI_of h0 hc) ?_
    refine Ret.eq (catM_of (by simp; omega)) ?_
    refine Ret.eq (atI_of h0 hu) ?_
    have hb : -1 ≤ t.1[s.2.toNat] ∧ t.1[s.2.toNat] < s.2 := by
      by_cases hk : s.2.toNat = 0
      · have e9 : t.1[s.2.toNat] = -1 := by
          rw [List.getElem?_eq_getElem (by omega)] at hu
          have := T.ups.root
          rw [← hk] at this
          rw [List.getElem?_eq_getElem (by omega)] at this
          exact Option.some.inj this
        omega
      · have := T.ups.up _ _ (by omega) hu
        omega
    refine Ret.pure ⟨⟨?_, ?_, by simp only; omega, by simp only; omega⟩, by simp only; omega⟩
    · rw [← e, wdI_eq T.ups h0 hu, getD_of hc]; simp
    · simp; omega
  obtain ⟨s, e, ⟨h3, _, _, _⟩, h4⟩ := key
  rw [e]
  have h5 := of_decide_eq_false (Option.some.inj h4)
  have h6 : wdI t s.2 = [] := by unfold wdI; rw [if_neg h5]
  rw [h6] at h3
  show some s.1 = _
  rw [← h3]; rfl
theorem enumL_get {α : Type} {xs : List α} {i : Nat} {x : Int × α} (h : (enumL xs)[i]? = some x) : x.1 = i ∧ xs[i]? = some x.2 := by
  unfold enumL at h
  rw [List.getElem?_mapIdx] at h
  cases e : xs[i]? with
  | none => rw [e] at h; cases h
  | some b =>
    rw [e] at h
    have ea : ((i : Int), b) = x := Option.some.inj h
    subst ea; exact ⟨rfl, rfl⟩
theorem enumL_len {α : Type} (xs : List α) : (enumL xs).length = xs.length := by simp [enumL]
def ways (t : Tre) : List Sg := (List.range t.1.length).map (wy t)
theorem ways_eq {t : Tre} (T : TreeOk t) : m_ways_down t = some (ways t) := by
  have hl := T.len
  have hm := T.most
  unfold m_ways_down
  obtain ⟨s, e, hs⟩ := ret_foldO (xs := enumL t.1) (s := ([] : List Sg)) (f := fun s30 a29 => (if (decide ((0 : Int) ≤ a29.2)) = true then (atI s30 a29.2).bind fun a54 => some a54 else some ([] : Sg)).bind fun c52 => (atI t.2 a29.1).bind fun c58 => (catM c52 [c58]).bind fun t59 => (snocM s30 t59).bind fun l60 => some l60)
    (fun i s => s = (List.range i).map (wy t)) rfl fun i s x hx hs => by
      obtain ⟨h1, h2⟩ := enumL_get hx
      have hi := (List.getElem?_eq_some_iff.mp h2).1
      have hc := List.getElem?_eq_getElem (show i < t.2.length by omega)
      have wl := wd_len T.ups i hi
      refine Ret.bind (P := fun c => c ++ [t.2[i]] = wy t i) ?_ fun c hcw => ?_
      · refine Ret.ite (fun hd => ?_) fun hd => ?_
        · have hd := of_decide_eq_true hd
          have h0 : 0 < i := by
            rcases Nat.eq_zero_or_pos i with z | z
            · subst z; rw [T.ups.root] at h2; have := Option.some.inj h2; omega
            · exact z
          obtain ⟨a, b⟩ := T.ups.up i _ h0 h2
          have hb : x.2.toNat < i := by omega
          refine Ret.eq (a := wy t x.2.toNat) (atI_of hd (by subst hs; rw [List.getElem?_map, List.getElem?_range hb]; rfl)) (Ret.pure ?_)
          unfold wy
          rw [wd_up T.ups h0 h2, getD_of hc, List.reverse_cons]
        · have hd := of_decide_eq_false hd
          have h0 : i = 0 := by
            rcases Nat.eq_zero_or_pos i with z | z
            · exact z
            · obtain ⟨a, b⟩ := T.ups.up i _ z h2
              omega
          subst h0
          refine Ret.pure ?_
          unfold wy
          rw [wd_root T.ups, getD_of hc]; rfl
      rw [h1]
      refine Ret.eq (atI_nat hc) ?_
      have hlen : (c ++ [t.2[i]]).length ≤ i + 1 := by rw [hcw]; unfold wy; rw [List.length_reverse]; exact wl.2
      refine Ret.eq (catM_of (by rw [List.length_append] at hlen; omega)) ?_
      rw [hcw]
      refine Ret.eq (snocM_of (by subst hs; simp; omega)) (Ret.pure ?_)
      rw [hs, List.range_succ, List.map_append]; rfl
  rw [e]
  show some s = _
  rw [hs, enumL_len]; rfl
theorem ways_repr {t : Tre} (T : TreeOk t) : reprM ((dL dS).d (ways t)) = some (((dL dS).d (ways t)).shown.cps.toList) := by
  have hm := T.most
  refine reprM_of (e := 1) (B := 60 * 604 + 2) ?_ (by decide) (by decide)
  show Rk 1 _ (.list ((ways t).map dS.d))
  have h := rks_all (e := 0) (B := 602) (ds := (ways t).map dS.d) fun d hd => by
    obtain ⟨x, hx, rfl⟩ := List.mem_map.mp hd
    obtain ⟨k, hk, rfl⟩ := List.mem_map.mp hx
    have hk := List.mem_range.mp hk
    have wl := wd_len T.ups k hk
    refine rk_str (n := 60) (fun c hc => ?_) (by unfold wy; rw [List.length_reverse]; omega)
    have := wd_low T k hk c (by simpa [wy] using hc)
    omega
  refine (rk_list h).mono (Nat.le_refl _) ?_
  have : ((ways t).map dS.d).length ≤ 60 := by simp [ways]; omega
  omega
theorem plain (ns : List Int) (h : ns.length ≤ 63) : m_law ns = some true := by
  unfold m_law
  have hb : -(2 ^ 62) ≤ mx 1 (mn 12 (ns.length : Int)) ∧ mx 1 (mn 12 (ns.length : Int)) < 2 ^ 62 := by
    rw [mx_eq, mn_eq]; omega
  refine Ret.val (P := fun b => b = true) ?_ fun _ e => e
  refine Ret.eq (uptoM_of (by decide) (by decide) hb.1 hb.2) ?_
  refine Ret.bind (ret_foldR (fun _ _ => True) trivial fun i s a ha _ => ?_) fun z ⟨s', hz, _⟩ => ?_
  · have ha := upto_get ha
    refine Ret.bind (pool_ret ns (by omega)) fun p hp => ?_
    refine Ret.bind (letters_ret hp) fun ls ⟨hl, hp⟩ => ?_
    refine Ret.bind (tree_ret hp (by decide) (by decide) hl) fun r ⟨T, hT, _⟩ => ?_
    have hm := T.most
    refine Ret.eq (uptoM_of (by decide) (by decide) (by omega) (by omega)) ?_
    refine ret_need (szB_of (by rw [upto_len]; omega)) ?_
    refine Ret.eq (compS_map (fun a : Int => wy r.1 a.toNat) fun a ha => ?_) ?_
    · have ha := upto_mem ha
      rw [law_way_eq T (by omega) (by omega)]
      unfold wdI wy
      rw [if_pos (by omega)]; rfl
    have ed : (upto 0 (r.1.1.length : Int)).map (fun a : Int => wy r.1 a.toNat) = ways r.1 := by
      unfold upto ways
      rw [List.map_map]
      have e9 : ((r.1.1.length : Int) - 0).toNat = r.1.1.length := by omega
      rw [e9]
      refine List.map_congr_left fun k _ => ?_
      show wy r.1 ((0 : Int) + (k : Int)).toNat = _
      rw [show ((0 : Int) + (k : Int)).toNat = k by omega]
    rw [ed]
    refine Ret.eq (uptoM_of (by decide) (by decide) (by decide) (by decide)) ?_
    refine Ret.bind (ret_foldR (fun _ _ => True) trivial fun j s k hk _ => ?_) fun z ⟨s', hz, _⟩ => ?_
    · refine Ret.eq (ways_eq T) ?_
      refine Ret.eq (ways_repr T) ?_
      refine Ret.eq (ways_repr T) ?_
      refine Ret.ite (fun hd => ?_) fun _ => ?_
      · rw [decide_eq_true rfl] at hd; cases hd
      · refine Ret.eq (snocM_of (by simp [ways]; omega)) (Ret.pure ⟨(), rfl, trivial⟩)
    · subst hz
      exact Ret.pure ⟨(), rfl, trivial⟩
  · subst hz
    exact Ret.pure rfl

end G
open PySem PySem.W PySem.Calls PyProof.Rows
section
theorem G.holds (plain : ∀ ns : List Int, ns.length ≤ 63 → G.m_law ns = some true) : PySem.Challenge.rw_upwords_k54_ways_down_told.Holds := by
  w_on; o_law
  refine HandSHeadRun.head_any (r := OpenLaw.row PySem.Challenge.rw_upwords_k54_ways_down_told) (q := view (OpenLaw.row PySem.Challenge.rw_upwords_k54_ways_down_told).prog [11]) (H := G.hk) (ob := G.ob) (M := 4000) (loose := G.loose) (d := HandSHeadRun.topDef (OpenLaw.row PySem.Challenge.rw_upwords_k54_ways_down_told).prog 11) (kwd := []) G.ob_eq
    (by kernel_rfl) (fun s => by kernel_rfl) G.run (by kernel_rfl) (by kernel_rfl) (by kernel_rfl) (by rfl) (by first | assumption | decide +kernel) (by decide +kernel) ⟨rfl, rfl, rfl, rfl, rfl, by decide +kernel⟩ ?hw ?hc
  case hw => w_witness2
  case hc =>
    refine U.walkG (l := PySem.Challenge.rw_upwords_k54_ways_down_told) (n := 63) (k := 5) (x := "script") rfl (by decide) (by kernel_rfl) ⟨rfl, by decide, by decide⟩ ?F
    intro w mg fa h Y Gm hmg0
    obtain ⟨K, KX, c⟩ := Y
    have hmg : mg ("law" : PySem.Str) = some (.ref fa) := by
      have e : (HandSHeadRun.topDef (OpenLaw.row PySem.Challenge.rw_upwords_k54_ways_down_told).prog 11).name = ("law" : PySem.Str) := by kernel_rfl
      rw [← e]
      exact hmg0
    obtain ⟨fd, hb, hF⟩ := G.facts (P := (PySem.Challenge.rw_upwords_k54_ways_down_told).prog) (w := w) KX Gm hmg c
    exact ⟨K, fd, G.sp_law K, KX, hb, fun H a ns hl hS => ⟨H, _, ns, true, rfl, fun _ _ e => e, ⟨a, rfl, hS⟩, plain ns hl, fun v _ _ _ e => e⟩, hF⟩
end

set_option maxRecDepth 100000 in
set_option maxHeartbeats 0 in
theorem PySem.Challenge.cw_upwords_k54_ways_down_told_holds : PySem.Challenge.rw_upwords_k54_ways_down_told.Holds :=
  G.holds G.plain
#print axioms PySem.Challenge.cw_upwords_k54_ways_down_told_holds
