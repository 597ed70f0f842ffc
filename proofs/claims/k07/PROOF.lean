import PyProof.Rows.All
import Wide.All
import OpenK.AllK
import Wide.FinOn
import HandS.ForMost
import HandS.Walk
import HandS.TupAny
import HandS.Defaults
import HandS.WordsList
import HandS.IsInst
import HandS.HeadEnd
import HandS.HeadHook2
import HandS.Head2
import PySem.Challenge.RW_upwords_k07_words_told
set_option Elab.async false
set_option linter.all false
set_option maxRecDepth 100000
set_option maxHeartbeats 4000000
namespace U
open PySem PySem.Spec L2

/-! ### heaps: F the part that never changes any more, H all that is tracked -/
def Sub (F H : Hp) : Prop := ∀ a o, F a = some o → H a = some o
theorem Sub.refl (F : Hp) : Sub F F := fun _ _ h => h
theorem Sub.trans {F G H : Hp} (a : Sub F G) (b : Sub G H) : Sub F H := fun x o h => b x o (a x o h)
theorem Sub.nn {F H : Hp} {p : Addr} (s : Sub F H) (h : H p = none) : F p = none := by
  cases e : F p with
  | none => rfl
  | some o => rw [s p o e] at h; cases h
theorem Sub.up1 {F : Hp} {p : Addr} {o : HO} (h : F p = none) : Sub F (upd F p o) := fun a u e => by
  rw [upd_ne (ne_of_none e h)]; exact e
theorem Sub.upd2 {F H : Hp} {p : Addr} {o : HO} (s : Sub F H) : Sub (L2.upd F p o) (L2.upd H p o) := fun a u e => by
  by_cases ha : a = p
  · subst ha; rw [upd_same] at e ⊢; exact e
  · rw [upd_ne ha] at e ⊢; exact s a u e
theorem Sub.rd {F H : Hp} {a : Addr} {u : HO} (s : Sub F H) (h : Rd F a u) : Rd H a u := by
  rcases h with h | ⟨o, h⟩
  · exact .inl (s a _ h)
  · exact .inr ⟨o, s a _ h⟩
theorem Sub.l {K : PySem.W.Frag} {F H : Hp} {a : Addr} {xs : List V} (s : Sub F H) (h : SqL K F a xs) : SqL K H a xs := by
  rcases h with h | h
  · exact .inl (s.rd h)
  · exact .inr h
theorem Sub.t {K : PySem.W.Frag} {F H : Hp} {a : Addr} {xs : List V} (s : Sub F H) (h : SqT K F a xs) : SqT K H a xs := by
  rcases h with h | h
  · exact .inl (s.rd h)
  · exact .inr h

/-- what may change between two points: W the addresses that may be written -/
structure Gr (W : List Addr) (F0 H0 F H : Hp) : Prop where
  ff : Sub F0 F
  fh : Sub F H
  hh : ∀ a o, a ∉ W → H0 a = some o → H a = some o
  lv : ∀ a, H0 a ≠ none → H a ≠ none
  out : ∀ a, H0 a ≠ none → F0 a = none → F a = none
section
variable {W W' : List Addr} {F0 H0 F H F1 H1 F2 H2 : Hp} {p q : Addr} {o u : HO}
theorem Gr.refl (h : Sub F H) : Gr W F H F H := ⟨Sub.refl F, h, fun _ _ _ e => e, fun _ e => e, fun _ _ e => e⟩
theorem Gr.trans (g : Gr W F0 H0 F1 H1) (g' : Gr W' F1 H1 F2 H2) (hW : ∀ a ∈ W', H0 a = none ∨ a ∈ W) : Gr W F0 H0 F2 H2 where
  ff := g.ff.trans g'.ff
  fh := g'.fh
  hh := fun a o hn e => g'.hh a o (fun z => (hW a z).elim (fun n => by rw [n] at e; cases e) hn) (g.hh a o hn e)
  lv := fun a e => g'.lv a (g.lv a e)
  out := fun a e n => g'.out a (g.lv a e) (g.out a e n)
theorem Gr.trans0 (g : Gr W F0 H0 F1 H1) (g' : Gr [] F1 H1 F2 H2) : Gr W F0 H0 F2 H2 := g.trans g' fun a z => absurd z (by simp)
theorem Gr.newF (g : Gr W F0 H0 F H) (hp : H p = none) : Gr W F0 H0 (upd F p o) (upd H p o) where
  ff := g.ff.trans (Sub.up1 (g.fh.nn hp))
  fh := g.fh.upd2
  hh := fun a u hn e => by
    have e1 := g.hh a u hn e
    rw [upd_ne (ne_of_none e1 hp)]; exact e1
  lv := fun a e => by
    have e1 := g.lv a e
    rw [upd_ne (fun z => by rw [z] at e1; exact e1 hp)]; exact e1
  out := fun a e n => by
    have e1 := g.lv a e
    rw [upd_ne (fun z => by rw [z] at e1; exact e1 hp)]; exact g.out a e n
theorem Gr.newM (g : Gr W F0 H0 F H) (hp : H p = none) : Gr W F0 H0 F (upd H p o) where
  ff := g.ff
  fh := g.fh.trans (Sub.up1 hp)
  hh := fun a u hn e => by
    have e1 := g.hh a u hn e
    rw [upd_ne (ne_of_none e1 hp)]; exact e1
  lv := fun a e => by
    have e1 := g.lv a e
    rw [upd_ne (fun z => by rw [z] at e1; exact e1 hp)]; exact e1
  out := g.out
theorem Gr.mut (g : Gr W F0 H0 F H) (hf : F p = none) (hw : H0 p = none ∨ p ∈ W) : Gr W F0 H0 F (upd H p o) where
  ff := g.ff
  fh := fun a u e => by rw [upd_ne (ne_of_none e hf)]; exact g.fh a u e
  hh := fun a u hn e => by
    have hne : a ≠ p := fun z => by
      subst z
      rcases hw with w | w
      · rw [w] at e; cases e
      · exact hn w
    rw [upd_ne hne]; exact g.hh a u hn e
  lv := fun a e => by
    by_cases z : a = p
    · subst z; rw [upd_same]; intro h; cases h
    · rw [upd_ne z]; exact g.lv a e
  out := g.out
theorem Gr.frz (g : Gr W F0 H0 F H) (hf : F p = none) (hh : H p = some o) (h0 : H0 p = none) : Gr W F0 H0 (upd F p o) H where
  ff := g.ff.trans (Sub.up1 hf)
  fh := fun a u e => by
    by_cases z : a = p
    · subst z; rw [upd_same] at e; cases e; exact hh
    · rw [upd_ne z] at e; exact g.fh a u e
  hh := g.hh
  lv := g.lv
  out := fun a e n => by
    rw [upd_ne (fun z => by rw [z] at e; exact e h0)]; exact g.out a e n
/-- an object of the def's own that may still change -/
structure Mu (W : List Addr) (H0 F H : Hp) (p : Addr) (o : HO) : Prop where
  fr : F p = none
  hp : H p = some o
  own : H0 p = none ∨ p ∈ W
theorem Mu.newF (m : Mu W H0 F H q u) (hp : H p = none) : Mu W H0 (upd F p o) (upd H p o) q u := by
  have ne := ne_of_none m.hp hp
  exact ⟨by rw [upd_ne ne]; exact m.fr, by rw [upd_ne ne]; exact m.hp, m.own⟩
theorem Mu.newM (m : Mu W H0 F H q u) (hp : H p = none) : Mu W H0 F (upd H p o) q u := by
  have ne := ne_of_none m.hp hp
  exact ⟨m.fr, by rw [upd_ne ne]; exact m.hp, m.own⟩
theorem Mu.mut (m : Mu W H0 F H q u) (ne : q ≠ p) : Mu W H0 F (upd H p o) q u := ⟨m.fr, by rw [upd_ne ne]; exact m.hp, m.own⟩
theorem Mu.self (m : Mu W H0 F H p u) : Mu W H0 F (upd H p o) p o := ⟨m.fr, upd_same, m.own⟩
theorem Mu.frz (m : Mu W H0 F H q u) (ne : q ≠ p) : Mu W H0 (upd F p o) H q u := ⟨by rw [upd_ne ne]; exact m.fr, m.hp, m.own⟩
theorem Mu.call (m : Mu W H0 F H q u) (g : Gr W' F H F1 H1) (hq : q ∉ W') : Mu W H0 F1 H1 q u :=
  ⟨g.out q (by rw [m.hp]; exact fun z => nomatch z) m.fr, g.hh q u hq m.hp, m.own⟩
theorem Mu.call0 (m : Mu W H0 F H q u) (g : Gr [] F H F1 H1) : Mu W H0 F1 H1 q u := m.call g (by simp)
theorem Mu.back (m : Mu W H0 F H q u) (g : Gr W' F H F1 H1) (h : H1 q = some o) : Mu W H0 F1 H1 q o :=
  ⟨g.out q (by rw [m.hp]; exact fun z => nomatch z) m.fr, h, m.own⟩
/-- a new one -/
theorem Mu.new (g : Gr W F0 H0 F H) (hp : H p = none) : Mu W H0 F (upd H p o) p o := by
  refine ⟨g.fh.nn hp, upd_same, .inl ?_⟩
  cases e : H0 p with
  | none => rfl
  | some x => exact absurd hp (g.lv p (by rw [e]; exact fun z => nomatch z))
theorem Gr.old (g : Gr W F0 H0 F H) (hp : H p = none) : H0 p = none := by
  cases e : H0 p with
  | none => rfl
  | some x => exact absurd hp (g.lv p (by rw [e]; exact fun z => nomatch z))
theorem Mu.gr (m : Mu W H0 F H p u) (g : Gr W F0 H0 F H) : Gr W F0 H0 F (upd H p o) := g.mut m.fr m.own
theorem Mu.ne (m : Mu W H0 F H p u) (hq : H q = none) : p ≠ q := ne_of_none m.hp hq
theorem Mu.l {K : PySem.W.Frag} {vs : List V} (m : Mu W H0 F H p (.lst vs)) : SqL K H p vs := .inl (.inl m.hp)
end

/-! ### what a value stands for -/
structure Rp (α : Type) where
  r : Hp → V → α → Prop
  mono : ∀ {F F' : Hp} {v : V} {x : α}, Sub F F' → r F v x → r F' v x
abbrev Sg := List Nat
abbrev S (l : Sg) : Str := ⟨l.toArray⟩
def eI : Rp Int := ⟨fun _ v x => v = .int x, fun _ h => h⟩
def eB : Rp Bool := ⟨fun _ v x => v = .bl x, fun _ h => h⟩
def eN : Rp Unit := ⟨fun _ v _ => v = .non, fun _ h => h⟩
def eS : Rp Sg := ⟨fun _ v x => v = .str (S x) ∧ x.length ≤ sizeLine, fun _ h => h⟩
def eO {α : Type} (t : Rp α) : Rp (Option α) := ⟨fun F v x => match x with
  | none => v = .non
  | some a => v ≠ .non ∧ t.r F v a, fun {F F' v x} s h => by
    cases x with
    | none => exact h
    | some a => exact ⟨h.1, t.mono s h.2⟩⟩
abbrev Al {α : Type} (t : Rp α) (F : Hp) (vs : List V) (xs : List α) : Prop := Paired (fun v x => t.r F v x) vs xs
theorem Al.mono {α : Type} {t : Rp α} {F F' : Hp} {vs : List V} {xs : List α} (h : Al t F vs xs) (s : Sub F F') : Al t F' vs xs := Paired.mapP h fun _ _ z => t.mono s z
def eP2 {α β : Type} (a : Rp α) (b : Rp β) : Rp (α × β) := ⟨fun F v x => ∃ p y z, v = .ref p ∧ F p = some (.tup [y, z]) ∧ a.r F y x.1 ∧ b.r F z x.2,
  fun s ⟨p, y, z, e, q, h1, h2⟩ => ⟨p, y, z, e, s _ _ q, a.mono s h1, b.mono s h2⟩⟩
def eP3 {α β γ : Type} (a : Rp α) (b : Rp β) (c : Rp γ) : Rp (α × β × γ) := ⟨fun F v x => ∃ p y z w, v = .ref p ∧ F p = some (.tup [y, z, w]) ∧ a.r F y x.1 ∧ b.r F z x.2.1 ∧ c.r F w x.2.2,
  fun s ⟨p, y, z, w, e, q, h1, h2, h3⟩ => ⟨p, y, z, w, e, s _ _ q, a.mono s h1, b.mono s h2, c.mono s h3⟩⟩
def eL {α : Type} (t : Rp α) : Rp (List α) := ⟨fun F v x => ∃ p vs, v = .ref p ∧ F p = some (.lst vs) ∧ Al t F vs x,
  fun s ⟨p, vs, e, q, h⟩ => ⟨p, vs, e, s _ _ q, h.mono s⟩⟩
def eT {α : Type} (t : Rp α) : Rp (List α) := ⟨fun F v x => ∃ p vs, v = .ref p ∧ F p = some (.tup vs) ∧ Al t F vs x,
  fun s ⟨p, vs, e, q, h⟩ => ⟨p, vs, e, s _ _ q, h.mono s⟩⟩
/-- the script: a list of ints, perhaps locked -/
def eQ (K : PySem.W.Frag) : Rp (List Int) := ⟨fun F v x => ∃ p, v = .ref p ∧ SqL K F p (x.map V.int), fun s ⟨p, e, q⟩ => ⟨p, e, s.l q⟩⟩
/-- a new list that is the taker's own -/
def New {α : Type} (t : Rp α) (H F' H' : Hp) (v : V) (x : List α) : Prop := ∃ p vs, v = .ref p ∧ H p = none ∧ F' p = none ∧ H' p = some (.lst vs) ∧ Al t F' vs x

/-! ### lists in step -/
section
variable {α β : Type} {R : α → β → Prop}
theorem pd_get : ∀ {xs : List α} {ys : List β} {i : Nat} {y : β}, Paired R xs ys → ys[i]? = some y → ∃ x, xs[i]? = some x ∧ R x y
  | _, _, _, _, .nil, h => by simp at h
  | _, _, 0, _, .cons r _, h => by simp at h; subst h; exact ⟨_, rfl, r⟩
  | _, _, i + 1, _, .cons _ t, h => by
    obtain ⟨x, e, r⟩ := pd_get (i := i) t (by simpa using h)
    exact ⟨x, by simpa using e, r⟩
theorem pd_getL : ∀ {xs : List α} {ys : List β} {i : Nat} {x : α}, Paired R xs ys → xs[i]? = some x → ∃ y, ys[i]? = some y ∧ R x y
  | _, _, _, _, .nil, h => by simp at h
  | _, _, 0, _, .cons r _, h => by simp at h; subst h; exact ⟨_, rfl, r⟩
  | _, _, i + 1, _, .cons _ t, h => by
    obtain ⟨x, e, r⟩ := pd_getL (i := i) t (by simpa using h)
    exact ⟨x, by simpa using e, r⟩
theorem pd_append : ∀ {xs xs' : List α} {ys ys' : List β}, Paired R xs ys → Paired R xs' ys' → Paired R (xs ++ xs') (ys ++ ys')
  | _, _, _, _, .nil, h => h
  | _, _, _, _, .cons r t, h => .cons r (pd_append t h)
theorem pd_snoc {xs : List α} {ys : List β} {x : α} {y : β} (h : Paired R xs ys) (r : R x y) : Paired R (xs ++ [x]) (ys ++ [y]) := pd_append h (.cons r .nil)
theorem pd_take : ∀ {xs : List α} {ys : List β} (n : Nat), Paired R xs ys → Paired R (xs.take n) (ys.take n)
  | _, _, 0, _ => .nil
  | _, _, _ + 1, .nil => .nil
  | _, _, n + 1, .cons r t => .cons r (pd_take n t)
theorem pd_drop : ∀ {xs : List α} {ys : List β} (n : Nat), Paired R xs ys → Paired R (xs.drop n) (ys.drop n)
  | _, _, 0, h => h
  | _, _, _ + 1, .nil => .nil
  | _, _, n + 1, .cons _ t => pd_drop n t
theorem pd_set : ∀ {xs : List α} {ys : List β} (n : Nat) {x : α} {y : β}, Paired R xs ys → R x y → Paired R (xs.set n x) (ys.set n y)
  | _, _, _, _, _, .nil, _ => .nil
  | _, _, 0, _, _, .cons _ t, h => .cons h t
  | _, _, n + 1, _, _, .cons r t, h => .cons r (pd_set n t h)
theorem pd_rev : ∀ {xs : List α} {ys : List β}, Paired R xs ys → Paired R xs.reverse ys.reverse
  | _, _, .nil => .nil
  | _, _, .cons r t => by
    rw [List.reverse_cons, List.reverse_cons]
    exact pd_snoc (pd_rev t) r
theorem pd_last : ∀ {xs : List α} {ys : List β}, Paired R xs ys → Paired R xs.dropLast ys.dropLast := fun {xs ys} h => by
  rw [List.dropLast_eq_take, List.dropLast_eq_take, Paired.length h]
  exact pd_take _ h
end
theorem al_int {F : Hp} : ∀ {vs : List V} {xs : List Int}, Al eI F vs xs → vs = xs.map V.int
  | _, _, .nil => rfl
  | _, _, .cons r t => by
    have e : _ = V.int _ := r
    rw [e, al_int t]; rfl
theorem al_ofint {F : Hp} : ∀ (xs : List Int), Al eI F (xs.map V.int) xs
  | [] => .nil
  | _ :: r => .cons rfl (al_ofint r)
theorem al_bl {F : Hp} : ∀ {vs : List V} {xs : List Bool}, Al eB F vs xs → vs = xs.map V.bl
  | _, _, .nil => rfl
  | _, _, .cons r t => by
    have e : _ = V.bl _ := r
    rw [e, al_bl t]; rfl
theorem al_str {F : Hp} : ∀ {vs : List V} {xs : List Sg}, Al eS F vs xs → vs = (xs.map S).map V.str
  | _, _, .nil => rfl
  | _, _, .cons r t => by
    have e : _ = V.str _ := r.1
    rw [e, al_str t]; rfl
theorem al_len {α : Type} {t : Rp α} {F : Hp} {vs : List V} {xs : List α} (h : Al t F vs xs) : vs.length = xs.length := Paired.length h
theorem al_at {α : Type} {t : Rp α} {F : Hp} {vs : List V} {xs : List α} {i : Int} {a : α} (h : Al t F vs xs) (e : atI xs i = some a) : ∃ v, atI vs i = some v ∧ t.r F v a := by
  unfold atI at e ⊢
  rw [al_len h]
  cases q : ixN xs.length i with
  | none => rw [q] at e; cases e
  | some j =>
    rw [q] at e
    exact pd_get h e

/-! ### the mirror's words -/
section
variable {α β σ ρ : Type}
theorem bnd {x : Option α} {f : α → Option β} {b : β} (h : x.bind f = some b) : ∃ a, x = some a ∧ f a = some b := Option.bind_eq_some_iff.mp h
def cutL (xs : List α) (lo hi : Option Int) : List α := (xs.drop (HT.sIx xs.length 0 lo)).take (HT.sIx xs.length xs.length hi - HT.sIx xs.length 0 lo)
/-- a condition of the model's limits -/
def need (c : Bool) (x : α) : Option α := if c then some x else none
theorem need_ok {c : Bool} {x a : α} (h : need c x = some a) : c = true ∧ x = a := by
  unfold need at h
  cases c with
  | true => exact ⟨rfl, Option.some.inj h⟩
  | false => cases h
def szB (n : Nat) : Bool := decide (n ≤ 16777216)
theorem sz_ok {n : Nat} (h : szB n = true) : n ≤ sizeLine := by rw [sizeLine_eq]; exact of_decide_eq_true h
def catM (a b : Sg) : Option Sg := need (szB (a.length + b.length)) (a ++ b)
def mulB (i j : Int) : Bool := decide (-(2 ^ 64) < i ∧ i < 2 ^ 64) || decide (-(2 ^ 64) < j ∧ j < 2 ^ 64)
def mulM (i j : Int) : Option Int := need (mulB i j) (i * j)
def modM (i j : Int) : Option Int := need (decide (0 < j)) (i % j)
def divM (i j : Int) : Option Int := need (decide (0 < j ∧ j < 1073741824)) (i / j)
def b2 (b : Bool) : Int := if b then 1 else 0
def mx (i j : Int) : Int := if j > i then j else i
def mn (i j : Int) : Int := if j < i then j else i
def setM (xs : List α) (i : Int) (a : α) : Option (List α) := (ixN xs.length i).map fun j => xs.set j a
def joinM (sep : Sg) (xs : List Sg) : Option Sg := need (szB ((xs.map List.length).sum + xs.length * sep.length)) (TL.joinL sep xs)
def upto (lo hi : Int) : List Int := (List.range (hi - lo).toNat).map fun (i : Nat) => lo + i
def signs (l : Sg) : List Sg := l.map fun c => [c]
def foldO : List α → σ → (σ → α → Option σ) → Option σ
  | [], s, _ => some s
  | x :: xs, s, f => (f s x).bind fun s' => foldO xs s' f
inductive Fl (σ ρ : Type) where
  | nx (s : σ)
  | rt (r : ρ)
def foldR : List α → σ → (σ → α → Option (Fl σ ρ)) → Option (Fl σ ρ)
  | [], s, _ => some (.nx s)
  | x :: xs, s, f => (f s x).bind fun
    | .nx s' => foldR xs s' f
    | .rt r => some (.rt r)
def whileO : Nat → σ → (σ → Option Bool) → (σ → Option σ) → Option σ
  | 0, _, _, _ => none
  | n + 1, s, c, b => (c s).bind fun t => if t = true then (b s).bind fun s' => whileO n s' c b else some s
/-- a comprehension: a state handed on, an item made or none -/
def compO : List α → σ → (σ → α → Option (σ × Option β)) → Option (σ × List β)
  | [], s, _ => some (s, [])
  | x :: xs, s, f => (f s x).bind fun r => (compO xs r.1 f).bind fun q => some (q.1, r.2.toList ++ q.2)
end

/-! ### the readings' nodes -/
section
variable {σ σ' : St} {H : Hp} {Q : VK} {R : V → V → Hp → Prop} {ta tb tc : TE} {t tr : TA} {D : Ends} {v x y : V} {i : Nat}
theorem n_var (h : σ[i]? = some (some v)) (k : Q v H) : tVar i σ H Q := ⟨v, h, k⟩
theorem n_c (k : Q v H) : tC v σ H Q := k
theorem n_op {r : R2} (h : ta σ H fun x H1 => tb σ H1 fun y H2 => r x y H2 Q) : tOp r ta tb σ H Q := h
theorem n_un {r : V → Hp → VK → Prop} (h : ta σ H fun x H1 => r x H1 Q) : tUn r ta σ H Q := h
theorem n_cb {r : List V → Hp → VK → Prop} (h : t σ H fun vs H1 => r vs H1 Q) : tCB r t σ H Q := h
theorem n_cons {Q : List V → Hp → Prop} (h : ta σ H fun x H1 => tr σ H1 fun xs H2 => Q (x :: xs) H2) : tCons ta tr σ H Q := h
theorem n_nil {Q : List V → Hp → Prop} (h : Q [] H) : tNil σ H Q := h
def qT (Q : Bool → Hp → Prop) : VK := fun x H' => ∃ k, x = .bl k ∧ Q k H'
def qNewT (Q : VK) : List V → Hp → Prop := fun xs H1 => xs.length ≤ sizeLine ∧ ∀ p, H1 p = none → Q (.ref p) (upd H1 p (.tup xs))
def qNewL (Q : VK) : List V → Hp → Prop := fun xs H1 => xs.length ≤ sizeLine ∧ ∀ p, H1 p = none → Q (.ref p) (upd H1 p (.lst xs))
theorem n_tup (h : t σ H (qNewT Q)) : tTup t σ H Q := h
theorem n_lst (h : t σ H (qNewL Q)) : tLst t σ H Q := h
theorem n_call {sp : Sp} {dvs : List V} {E : XK} (h : t σ H fun vs H1 => sp (vs ++ dvs) H1 Q E) : tCall sp dvs E t σ H Q := h
theorem n_sl {r : V → Option Int → Option Int → Hp → VK → Prop} {tl th : TO} (h : ta σ H fun x H1 => tl σ H1 fun l H2 => th σ H2 fun u H3 => r x l u H3 Q) : tSl r ta tl th σ H Q := h
def qPart (Q : Option Int → Hp → Prop) : VK := fun x H1 => ∃ i, x = .int i ∧ Q (some i) H1
theorem n_part {Q : Option Int → Hp → Prop} (h : ta σ H (qPart Q)) : tPart ta σ H Q := h
theorem v_part {Q : Option Int → Hp → Prop} {n : Int} (h : Q (some n) H) : qPart Q (.int n) H := ⟨n, rfl, h⟩
theorem n_nopart {Q : Option Int → Hp → Prop} (h : Q none H) : tNoPart σ H Q := h
theorem n_bm {K : PySem.W.Frag} {T : String} {r : V → List V → Hp → VK → Prop} (h : ta σ H fun x H1 => tyV K T x H1 ∧ t σ H1 fun xs H2 => r x xs H2 Q) : tBM K T r ta t σ H Q := h
theorem n_bm0 {K : PySem.W.Frag} {T : String} {r : V → List V → Hp → VK → Prop} (h : ta σ H fun x H1 => tyV K T x H1 ∧ r x [] H1 Q) : tBM0 K T r ta σ H Q := h
theorem n_test {Q : Bool → Hp → Prop} (h : ta σ H (qT Q)) : tTest ta σ H Q := h
variable {nx bk ct : L2.St → Hp → Prop} {rt : VK}
theorem n_seq {t u : TS} (h : t ⟨u ⟨nx, rt, bk, ct⟩, rt, bk, ct⟩ σ H) : tSeq t u ⟨nx, rt, bk, ct⟩ σ H := h
theorem n_asg {g : TG} (h : ta σ H fun x H1 => g x σ H1 nx) : tAsg ta g ⟨nx, rt, bk, ct⟩ σ H := h
theorem n_drop (h : ta σ H fun _ H1 => nx σ H1) : tDrop ta ⟨nx, rt, bk, ct⟩ σ H := h
theorem n_ret (h : ta σ H rt) : tRet ta ⟨nx, rt, bk, ct⟩ σ H := h
theorem n_ifs {c : TT} {t u : TS} (h : c σ H fun b H1 => if b = true then t ⟨nx, rt, bk, ct⟩ σ H1 else u ⟨nx, rt, bk, ct⟩ σ H1) : tIfS c t u ⟨nx, rt, bk, ct⟩ σ H := h
theorem n_nextS (h : nx σ H) : tNext ⟨nx, rt, bk, ct⟩ σ H := h
theorem n_name {Q : St → Hp → Prop} (e : σ.set i (some v) = σ') (k : Q σ' H) : gName i v σ H Q := by rw [← e] at k; exact k
theorem set0 {x y : Option V} {r : St} : (x :: r).set 0 y = y :: r := rfl
theorem setS {x y : Option V} {r r' : St} {n : Nat} (h : r.set n y = r') : (x :: r).set (n + 1) y = x :: r' := by rw [← h]; rfl
theorem br {b : Bool} {A B : Prop} (h1 : b = true → A) (h2 : b = false → B) : if b = true then A else B := by
  cases b with
  | true => rw [if_pos rfl]; exact h1 rfl
  | false => rw [if_neg Bool.false_ne_true]; exact h2 rfl
theorem ifT {α : Type} {b : Bool} {x y : α} {z : α} (hb : b = true) (h : (if b = true then x else y) = z) : x = z := by rw [if_pos hb] at h; exact h
theorem ifF {α : Type} {b : Bool} {x y : α} {z : α} (hb : b = false) (h : (if b = true then x else y) = z) : y = z := by
  rw [if_neg (by rw [hb]; exact Bool.false_ne_true)] at h; exact h
/-- a cut behind an expression -/
theorem n_cut (I : V → Hp → Prop) (h : ∀ Q' : VK, (∀ v H', I v H' → Q' v H') → ta σ H Q') (k : ∀ v H', I v H' → Q v H') : ta σ H Q := h Q k
theorem n_cutT {t : TT} {Q : Bool → Hp → Prop} (I : Bool → Hp → Prop) (h : ∀ Q' : Bool → Hp → Prop, (∀ v H', I v H' → Q' v H') → t σ H Q') (k : ∀ v H', I v H' → Q v H') : t σ H Q := h Q k
end
end U
set_option Elab.async false
set_option linter.all false
set_option maxRecDepth 100000
set_option maxHeartbeats 4000000
namespace U
open PySem PySem.Spec L2

/-! ### what is walked -/
structure Sr {α : Type} (J : It) (G : Hp → Prop) (as : List α) (Y : Hp → V → Hp → α → Prop) : Prop where
  goes : ∀ i H, i < as.length → G H → J.go i H
  stops : ∀ H, G H → J.stop as.length H
  yields : ∀ i H x H', G H → J.yld i H x H' → ∀ a, as[i]? = some a → Y H x H' a
abbrev Forr (J : It) (g : TG) (tb : TS) (nx : L2.St → Hp → Prop) (rt : VK) (σ : L2.St) (H : Hp) : Prop :=
  ∃ W : Nat → Nat → L2.St → Hp → Prop, (∃ m, W 0 m σ H) ∧ ∀ i m σ H, W i m σ H →
    (J.stop i H ∧ nx σ H) ∨ (J.go i H ∧ ∃ N : L2.St → Hp → Prop, (∀ σ' H', N σ' H' → ∃ m', m' < m ∧ W (i + 1) m' σ' H') ∧ ∀ x H', J.yld i H x H' → g x σ H' fun σ2 H2 => tb ⟨N, rt, nx, N⟩ σ2 H2)
section
variable {α τ ρ : Type} {J : It} {G : Hp → Prop} {as : List α} {Y : Hp → V → Hp → α → Prop} {g : TG} {tb : TS} {nx bk ct : L2.St → Hp → Prop} {rt : VK} {σ : L2.St} {H : Hp}
theorem for_o (w : Sr J G as Y) {s0 s1 : τ} {f : τ → α → Option τ} (hm : foldO as s0 f = some s1) (I : τ → L2.St → Hp → Prop) (h0 : I s0 σ H) (hG : ∀ s σ H, I s σ H → G H)
    (hs : ∀ a s s' x σ H H', I s σ H → Y H x H' a → f s a = some s' → ∀ N : L2.St → Hp → Prop, (∀ σ' H', I s' σ' H' → N σ' H') → g x σ H' fun σ2 H2 => tb ⟨N, rt, nx, N⟩ σ2 H2)
    (hd : ∀ σ H, I s1 σ H → nx σ H) : Forr J g tb nx rt σ H := by
  refine ⟨fun i m σ H => m = as.length - i ∧ i ≤ as.length ∧ ∃ s, foldO (as.drop i) s f = some s1 ∧ I s σ H, ⟨as.length, by simp, Nat.zero_le _, s0, by simpa using hm, h0⟩, ?_⟩
  rintro i m σ H ⟨rfl, hi, s, hf, p⟩
  by_cases hlt : i < as.length
  · rw [List.drop_eq_getElem_cons hlt] at hf
    obtain ⟨s', e1, e2⟩ := bnd hf
    refine .inr ⟨w.goes i H hlt (hG _ _ _ p), fun σ' H' => ∃ s, foldO (as.drop (i + 1)) s f = some s1 ∧ I s σ' H', fun σ' H' p' => ⟨as.length - (i + 1), by omega, rfl, hlt, p'⟩, fun x H' y => ?_⟩
    exact hs as[i] s s' x σ H H' p (w.yields i H x H' (hG _ _ _ p) y as[i] (by simp [hlt])) e1 _ fun σ' H' q => ⟨s', e2, q⟩
  · have e : i = as.length := by omega
    subst e
    rw [List.drop_length] at hf
    have e2 : s = s1 := Option.some.inj hf
    subst e2
    exact .inl ⟨w.stops H (hG _ _ _ p), hd σ H p⟩
theorem for_r (w : Sr J G as Y) {s0 : τ} {z : Fl τ ρ} {f : τ → α → Option (Fl τ ρ)} (hm : foldR as s0 f = some z) (I : τ → L2.St → Hp → Prop) (h0 : I s0 σ H) (hG : ∀ s σ H, I s σ H → G H)
    (hs : ∀ a s fl x σ H H', I s σ H → Y H x H' a → f s a = some fl → (∀ r, fl = .rt r → z = .rt r) → ∀ N : L2.St → Hp → Prop, (∀ s' σ' H', fl = .nx s' → I s' σ' H' → N σ' H') → g x σ H' fun σ2 H2 => tb ⟨N, rt, nx, N⟩ σ2 H2)
    (hd : ∀ s1 σ H, z = .nx s1 → I s1 σ H → nx σ H) : Forr J g tb nx rt σ H := by
  refine ⟨fun i m σ H => m = as.length - i ∧ i ≤ as.length ∧ ∃ s, foldR (as.drop i) s f = some z ∧ I s σ H, ⟨as.length, by simp, Nat.zero_le _, s0, by simpa using hm, h0⟩, ?_⟩
  rintro i m σ H ⟨rfl, hi, s, hf, p⟩
  by_cases hlt : i < as.length
  · rw [List.drop_eq_getElem_cons hlt] at hf
    obtain ⟨fl, e1, e2⟩ := bnd hf
    refine .inr ⟨w.goes i H hlt (hG _ _ _ p), fun σ' H' => ∃ s, foldR (as.drop (i + 1)) s f = some z ∧ I s σ' H', fun σ' H' p' => ⟨as.length - (i + 1), by omega, rfl, hlt, p'⟩, fun x H' y => ?_⟩
    refine hs as[i] s fl x σ H H' p (w.yields i H x H' (hG _ _ _ p) y as[i] (by simp [hlt])) e1 (fun r er => ?_) _ fun s' σ' H' es q => ⟨s', ?_, q⟩
    · subst er; exact (Option.some.inj e2).symm
    · subst es; exact e2
  · have e : i = as.length := by omega
    subst e
    rw [List.drop_length] at hf
    have e2 : Fl.nx s = z := Option.some.inj hf
    exact .inl ⟨w.stops H (hG _ _ _ p), hd s σ H e2.symm p⟩
abbrev Compp (J : It) (g : TG) (tt : TT) (te : TE) (ws : List Nat) (σ : L2.St) (H1 : Hp) (Dd : Addr) (Q : VK) : Prop :=
  ∃ W : Nat → Nat → Hp → Prop, (∃ m, W 0 m (upd H1 Dd (.lst []))) ∧ ∀ i m H, W i m H →
    (J.stop i H ∧ Q (.ref Dd) H) ∨ (J.go i H ∧ ∃ Nx : Hp → Prop, (∀ H', Nx H' → ∃ m', m' < m ∧ W (i + 1) m' H') ∧ ∀ x H', J.yld i H x H' → g x (wipe σ ws) H' fun σ2 H2 => wipe σ2 ws = wipe σ ws ∧ tt σ2 H2 fun b H3 =>
      if b = true then te σ2 H3 fun y H4 => ∃ acc, H4 Dd = some (.lst acc) ∧ acc.length < sizeLine ∧ Nx (upd H4 Dd (.lst (acc ++ [y]))) else Nx H3)
theorem compO_len {β : Type} {f : τ → α → Option (τ × Option β)} : ∀ {as : List α} {s s1 : τ} {ys : List β}, compO as s f = some (s1, ys) → ys.length ≤ as.length
  | [], s, s1, ys, h => by
    have e := Option.some.inj h
    have e2 : [] = ys := congrArg Prod.snd e
    subst e2; simp
  | a :: r, s, s1, ys, h => by
    obtain ⟨q, _, h⟩ := bnd h
    obtain ⟨⟨s2, zs⟩, h2, h⟩ := bnd h
    have e := Option.some.inj h
    have e2 : q.2.toList ++ zs = ys := congrArg Prod.snd e
    subst e2
    have l := compO_len h2
    rw [List.length_append, List.length_cons]
    cases q.2 <;> simp <;> omega
theorem comp_p {β : Type} (w : Sr J G as Y) {s0 s1 : τ} {ys : List β} {f : τ → α → Option (τ × Option β)} (hm : compO as s0 f = some (s1, ys)) (hz : szB as.length = true) {tt : TT} {te : TE} {ws : List Nat} {Dd : Addr} {Q : VK}
    (I : τ → List β → Hp → Prop) (h0 : I s0 [] (upd H Dd (.lst []))) (hG : ∀ s acc H, I s acc H → G H)
    (hs : ∀ a s r acc x H H', I s acc H → Y H x H' a → f s a = some r → acc.length < sizeLine → ∀ N : Hp → Prop, (∀ H', I r.1 (acc ++ r.2.toList) H' → N H') → g x (wipe σ ws) H' fun σ2 H2 => wipe σ2 ws = wipe σ ws ∧ tt σ2 H2 fun b H3 =>
      if b = true then te σ2 H3 fun y H4 => ∃ acc, H4 Dd = some (.lst acc) ∧ acc.length < sizeLine ∧ N (upd H4 Dd (.lst (acc ++ [y]))) else N H3)
    (hd : ∀ H, I s1 ys H → Q (.ref Dd) H) : Compp J g tt te ws σ H Dd Q := by
  have hz' := sz_ok hz
  refine ⟨fun i m H => m = as.length - i ∧ i ≤ as.length ∧ ∃ s acc zs, compO (as.drop i) s f = some (s1, zs) ∧ acc ++ zs = ys ∧ acc.length ≤ i ∧ I s acc H, ⟨as.length, by simp, Nat.zero_le _, s0, [], ys, by simpa using hm, rfl, Nat.le_refl _, h0⟩, ?_⟩
  rintro i m H ⟨rfl, hi, s, acc, zs, hf, ez, hl, p⟩
  by_cases hlt : i < as.length
  · rw [List.drop_eq_getElem_cons hlt] at hf
    obtain ⟨r, e1, e2⟩ := bnd hf
    obtain ⟨⟨s2, zs2⟩, e3, e4⟩ := bnd e2
    have e5 := Option.some.inj e4
    have e6 : s2 = s1 := congrArg Prod.fst e5
    have e7 : r.2.toList ++ zs2 = zs := congrArg Prod.snd e5
    subst e6 e7
    refine .inr ⟨w.goes i H hlt (hG _ _ _ p), fun H' => ∃ s acc zs, compO (as.drop (i + 1)) s f = some (s2, zs) ∧ acc ++ zs = ys ∧ acc.length ≤ i + 1 ∧ I s acc H', fun H' p' => ⟨as.length - (i + 1), by omega, rfl, hlt, p'⟩, fun x H' y => ?_⟩
    refine hs as[i] s r acc x H H' p (w.yields i H x H' (hG _ _ _ p) y as[i] (by simp [hlt])) e1 (by omega) _ fun H' q => ⟨r.1, acc ++ r.2.toList, zs2, e3, by rw [List.append_assoc]; exact ez, ?_, q⟩
    rw [List.length_append]
    cases r.2 <;> simp <;> omega
  · have e : i = as.length := by omega
    subst e
    rw [List.drop_length] at hf
    have e2 := Option.some.inj hf
    have e3 : s = s1 := congrArg Prod.fst e2
    have e4 : [] = zs := congrArg Prod.snd e2
    subst e3 e4
    rw [List.append_nil] at ez
    subst ez
    exact .inl ⟨w.stops H (hG _ _ _ p), hd H p⟩
theorem comp_o {β : Type} (w : Sr J G as Y) {s0 : τ} {q : τ × List β} {f : τ → α → Option (τ × Option β)} (hm : compO as s0 f = some q) (hz : szB as.length = true) {tt : TT} {te : TE} {ws : List Nat} {Dd : Addr} {Q : VK}
    (I : τ → List β → Hp → Prop) (h0 : I s0 [] (upd H Dd (.lst []))) (hG : ∀ s acc H, I s acc H → G H)
    (hs : ∀ a s r acc x H H', I s acc H → Y H x H' a → f s a = some r → acc.length < sizeLine → ∀ N : Hp → Prop, (∀ H', I r.1 (acc ++ r.2.toList) H' → N H') → g x (wipe σ ws) H' fun σ2 H2 => wipe σ2 ws = wipe σ ws ∧ tt σ2 H2 fun b H3 =>
      if b = true then te σ2 H3 fun y H4 => ∃ acc, H4 Dd = some (.lst acc) ∧ acc.length < sizeLine ∧ N (upd H4 Dd (.lst (acc ++ [y]))) else N H3)
    (hd : ∀ H, I q.1 q.2 H → Q (.ref Dd) H) : Compp J g tt te ws σ H Dd Q := comp_p (s1 := q.1) (ys := q.2) w hm hz I h0 hG hs hd
def compS {β : Type} : List α → (α → Option (Option β)) → Option (List β)
  | [], _ => some []
  | x :: xs, f => (f x).bind fun r => (compS xs f).bind fun q => some (r.toList ++ q)
theorem compS_o {β : Type} {f : α → Option (Option β)} : ∀ {as : List α} {ys : List β}, compS as f = some ys → compO as () (fun _ a => (f a).bind fun r => some ((), r)) = some ((), ys)
  | [], ys, h => by rw [← Option.some.inj h]; rfl
  | a :: r, ys, h => by
    obtain ⟨q, h1, h2⟩ := bnd h
    obtain ⟨zs, h3, h4⟩ := bnd h2
    rw [← Option.some.inj h4]
    show ((f a).bind fun r => some ((), r)).bind _ = _
    rw [h1]
    show (compO r () _).bind _ = _
    rw [compS_o h3]; rfl
theorem comp_s {β : Type} (w : Sr J G as Y) {q : List β} {f : α → Option (Option β)} (hm : compS as f = some q) (hz : szB as.length = true) {tt : TT} {te : TE} {ws : List Nat} {Dd : Addr} {Q : VK}
    (I : List β → Hp → Prop) (h0 : I [] (upd H Dd (.lst []))) (hG : ∀ acc H, I acc H → G H)
    (hs : ∀ a r acc x H H', I acc H → Y H x H' a → f a = some r → acc.length < sizeLine → ∀ N : Hp → Prop, (∀ H', I (acc ++ r.toList) H' → N H') → g x (wipe σ ws) H' fun σ2 H2 => wipe σ2 ws = wipe σ ws ∧ tt σ2 H2 fun b H3 =>
      if b = true then te σ2 H3 fun y H4 => ∃ acc, H4 Dd = some (.lst acc) ∧ acc.length < sizeLine ∧ N (upd H4 Dd (.lst (acc ++ [y]))) else N H3)
    (hd : ∀ H, I q H → Q (.ref Dd) H) : Compp J g tt te ws σ H Dd Q :=
  comp_p w (compS_o hm) hz (fun _ => I) h0 (fun _ => hG) (fun a s r acc x H H' p y e l N hN => by
    obtain ⟨r', e1, e2⟩ := bnd e
    rw [← Option.some.inj e2] at hN
    exact hs a r' acc x H H' p y e1 l N hN) hd
/-- while -/
theorem while_o {n : Nat} {s0 s1 : τ} {cf : τ → Option Bool} {bf : τ → Option τ} (hm : whileO n s0 cf bf = some s1) {c : TT} (I : τ → L2.St → Hp → Prop) (h0 : I s0 σ H)
    (hc : ∀ s b σ H, I s σ H → cf s = some b → ∀ P : Bool → Hp → Prop, (∀ H1, I s σ H1 → P b H1) → c σ H P)
    (hb : ∀ s s' σ H, I s σ H → cf s = some true → bf s = some s' → ∀ N : L2.St → Hp → Prop, (∀ σ' H', I s' σ' H' → N σ' H') → tb ⟨N, rt, nx, N⟩ σ H)
    (hd : ∀ σ H, I s1 σ H → cf s1 = some false → nx σ H) : tWhile c tb ⟨nx, rt, bk, ct⟩ σ H := by
  refine ⟨fun m σ H => ∃ s, whileO m s cf bf = some s1 ∧ I s σ H, ⟨n, s0, hm, h0⟩, ?_⟩
  rintro m σ H ⟨s, hw, p⟩
  cases m with
  | zero => cases hw
  | succ m =>
    obtain ⟨b, e1, e2⟩ := bnd hw
    refine hc s b σ H p e1 _ fun H1 p1 => ?_
    cases b with
    | true =>
      rw [if_pos rfl] at e2 ⊢
      obtain ⟨s', e3, e4⟩ := bnd e2
      exact ⟨fun σ' H' => ∃ s, whileO m s cf bf = some s1 ∧ I s σ' H', fun σ' H' q => ⟨m, Nat.lt_succ_self m, q⟩, hb s s' σ H1 p1 e1 e3 _ fun σ' H' q => ⟨s', e4, q⟩⟩
    | false =>
      rw [if_neg Bool.false_ne_true] at e2 ⊢
      have e5 : s = s1 := Option.some.inj e2
      subst e5
      exact hd σ H1 p1 e1
def whileR : Nat → τ → (τ → Option Bool) → (τ → Option (Fl τ ρ)) → Option (Fl τ ρ)
  | 0, _, _, _ => none
  | n + 1, s, c, b => (c s).bind fun t => if t = true then (b s).bind fun
    | .nx s' => whileR n s' c b
    | .rt r => some (.rt r) else some (.nx s)
theorem while_r {n : Nat} {s0 : τ} {z : Fl τ ρ} {cf : τ → Option Bool} {bf : τ → Option (Fl τ ρ)} (hm : whileR n s0 cf bf = some z) {c : TT} (I : τ → L2.St → Hp → Prop) (h0 : I s0 σ H)
    (hc : ∀ s b σ H, I s σ H → cf s = some b → ∀ P : Bool → Hp → Prop, (∀ H1, I s σ H1 → P b H1) → c σ H P)
    (hb : ∀ s fl σ H, I s σ H → cf s = some true → bf s = some fl → (∀ r, fl = .rt r → z = .rt r) → ∀ N : L2.St → Hp → Prop, (∀ s' σ' H', fl = .nx s' → I s' σ' H' → N σ' H') → tb ⟨N, rt, nx, N⟩ σ H)
    (hd : ∀ s1 σ H, z = .nx s1 → I s1 σ H → cf s1 = some false → nx σ H) : tWhile c tb ⟨nx, rt, bk, ct⟩ σ H := by
  refine ⟨fun m σ H => ∃ s, whileR m s cf bf = some z ∧ I s σ H, ⟨n, s0, hm, h0⟩, ?_⟩
  rintro m σ H ⟨s, hw, p⟩
  cases m with
  | zero => cases hw
  | succ m =>
    obtain ⟨b, e1, e2⟩ := bnd hw
    refine hc s b σ H p e1 _ fun H1 p1 => ?_
    cases b with
    | true =>
      rw [if_pos rfl] at e2 ⊢
      obtain ⟨fl, e3, e4⟩ := bnd e2
      refine ⟨fun σ' H' => ∃ s, whileR m s cf bf = some z ∧ I s σ' H', fun σ' H' q => ⟨m, Nat.lt_succ_self m, q⟩, hb s fl σ H1 p1 e1 e3 (fun r er => ?_) _ fun s' σ' H' es q => ⟨s', ?_, q⟩⟩
      · subst er; exact (Option.some.inj e4).symm
      · subst es; exact e4
    | false =>
      rw [if_neg Bool.false_ne_true] at e2 ⊢
      have e5 : Fl.nx s = z := Option.some.inj e2
      exact hd s σ H1 e5.symm p1 e1
end
section
variable {α β : Type} {K : PySem.W.Frag} {p q : Addr} {vs ws : List V} {xs : List α} {ys : List β} {t : Rp α} {u : Rp β} {F : Hp}
theorem sr_L (h : Al t F vs xs) : Sr (Itl K p) (fun H => SqL K H p vs) xs (fun H x H' a => H' = H ∧ t.r F x a) := by
  refine ⟨fun i H hi hq => ?_, fun H hq => ⟨vs, hq, by rw [al_len h]; exact Nat.le_refl _⟩, fun i H x H' hq y a ha => ⟨y.1, ?_⟩⟩
  · obtain ⟨v, e, _⟩ := pd_get h (List.getElem?_eq_getElem hi)
    exact ⟨vs, v, hq, e⟩
  · obtain ⟨v, e, r⟩ := pd_get h ha
    have e2 := y.2 vs hq
    rw [e] at e2; cases e2
    exact r
theorem sr_T (h : Al t F vs xs) : Sr (Itt K p) (fun H => SqT K H p vs) xs (fun H x H' a => H' = H ∧ t.r F x a) := by
  refine ⟨fun i H hi hq => ?_, fun H hq => ⟨vs, hq, by rw [al_len h]; exact Nat.le_refl _⟩, fun i H x H' hq y a ha => ⟨y.1, ?_⟩⟩
  · obtain ⟨v, e, _⟩ := pd_get h (List.getElem?_eq_getElem hi)
    exact ⟨vs, v, hq, e⟩
  · obtain ⟨v, e, r⟩ := pd_get h ha
    have e2 := y.2 vs hq
    rw [e] at e2; cases e2
    exact r
theorem upto_len (lo hi : Int) : (upto lo hi).length = (hi - lo).toNat := by simp [upto]
theorem sr_R (lo hi : Int) : Sr (Itr lo (hi - lo).toNat) (fun _ => True) (upto lo hi) (fun H x H' a => H' = H ∧ x = .int a) := by
  refine ⟨fun i H hi _ => by rw [upto_len] at hi; exact hi, fun H _ => by rw [upto_len]; exact Nat.le_refl _, fun i H x H' _ y a ha => ⟨y.1, ?_⟩⟩
  rw [y.2]
  unfold upto at ha
  rw [List.getElem?_map] at ha
  cases e : (List.range (hi - lo).toNat)[i]? with
  | none => rw [e] at ha; cases ha
  | some j =>
    rw [e] at ha
    have ej : j = i := by
      have := List.getElem?_eq_some_iff.mp e
      obtain ⟨h1, h2⟩ := this
      simpa using h2.symm
    subst ej
    exact congrArg V.int (Option.some.inj ha)
theorem sr_R0 (hi : Int) : Sr (Itr 0 hi.toNat) (fun _ => True) (upto 0 hi) (fun H x H' a => H' = H ∧ x = .int a) := by
  have := sr_R 0 hi
  rw [Int.sub_zero] at this
  exact this
theorem sr_S (l : Sg) : Sr (Its (S l)) (fun _ => True) (signs l) (fun H x H' a => H' = H ∧ x = .str (S a) ∧ a.length = 1) := by
  refine ⟨fun i H hi _ => by
    show i < (S l).cps.size
    simpa [signs] using hi, fun H _ => by
    show (S l).cps.size ≤ (signs l).length
    simp [signs], fun i H x H' _ y a ha => ⟨y.1, ?_⟩⟩
  obtain ⟨_, c, hc, e⟩ := y
  unfold signs at ha
  rw [List.getElem?_map] at ha
  have hc' : l[i]? = some c := by simpa using hc
  rw [hc'] at ha
  have ea : [c] = a := Option.some.inj ha
  subst ea
  exact ⟨e, rfl⟩
def enumL (xs : List α) : List (Int × α) := xs.mapIdx fun i x => ((i : Int), x)
theorem sr_E (h : Al t F vs xs) : Sr (Ite K p) (fun H => SqL K H p vs) (enumL xs) (fun H x H' a => ∃ T y, x = .ref T ∧ H T = none ∧ H' = upd H T (.tup [.int a.1, y]) ∧ t.r F y a.2) := by
  refine ⟨fun i H hi hq => ?_, fun H hq => ⟨vs, hq, by rw [al_len h]; simp [enumL]⟩, fun i H x H' hq y a ha => ?_⟩
  · obtain ⟨v, e, _⟩ := pd_get h (List.getElem?_eq_getElem (show i < xs.length by simpa [enumL] using hi))
    exact ⟨vs, v, hq, e⟩
  · obtain ⟨T, z, e1, e2, e3, e4⟩ := y
    unfold enumL at ha
    rw [List.getElem?_mapIdx] at ha
    cases e : xs[i]? with
    | none => rw [e] at ha; cases ha
    | some b =>
      rw [e] at ha
      have ea : ((i : Int), b) = a := Option.some.inj ha
      subst ea
      obtain ⟨v, ev, r⟩ := pd_get h e
      have e5 := e4 vs hq
      rw [ev] at e5; cases e5
      exact ⟨T, _, e1, e2, e3, r⟩
theorem sr_Z (h : Al t F vs xs) (h' : Al u F ws ys) : Sr (Itz K p q) (fun H => SqL K H p vs ∧ SqL K H q ws) (xs.zip ys) (fun H x H' a => ∃ T y z, x = .ref T ∧ H T = none ∧ H' = upd H T (.tup [y, z]) ∧ t.r F y a.1 ∧ u.r F z a.2) := by
  have l1 := al_len h
  have l2 := al_len h'
  refine ⟨fun i H hi hq => ?_, fun H hq => ⟨vs, ws, hq.1, hq.2, by rw [List.length_zip]; omega⟩, fun i H x H' hq y a ha => ?_⟩
  · rw [List.length_zip] at hi
    obtain ⟨v, e, _⟩ := pd_get h (List.getElem?_eq_getElem (show i < xs.length by omega))
    obtain ⟨v', e', _⟩ := pd_get h' (List.getElem?_eq_getElem (show i < ys.length by omega))
    exact ⟨vs, ws, v, v', hq.1, hq.2, e, e'⟩
  · obtain ⟨T, y1, y2, e1, e2, e3, e4, e5⟩ := y
    rw [List.getElem?_zip_eq_some] at ha
    obtain ⟨v, ev, r⟩ := pd_get h ha.1
    obtain ⟨v', ev', r'⟩ := pd_get h' ha.2
    have e6 := e4 vs hq.1
    have e7 := e5 ws hq.2
    rw [ev] at e6; cases e6
    rw [ev'] at e7; cases e7
    exact ⟨T, _, _, e1, e2, e3, r, r'⟩
end
end U
set_option Elab.async false
set_option linter.all false
set_option maxRecDepth 100000
set_option maxHeartbeats 4000000
namespace U
open PySem PySem.Spec L2
/-! ### the rules' readings by names, the written part by its own name -/
abbrev RCl := List V → Hp → VK → Prop
abbrev RMt := V → List V → Hp → VK → Prop
def qLen (K : PySem.W.Frag) : RCl := fun xs H Q => ∃ p ys, xs = [V.ref p] ∧ (SqL K H p ys ∨ SqT K H p ys) ∧ Q (.int (ys.length : Nat)) H
def qLenS : RCl := fun xs H Q => ∃ z, xs = [.str z] ∧ z.length ≤ sizeLine ∧ Q (.int z.length) H
def qMax2 : RCl := fun xs H Q => ∃ i j, xs = [.int i, .int j] ∧ Q (.int (if j > i then j else i)) H
def qMin2 : RCl := fun xs H Q => ∃ i j, xs = [.int i, .int j] ∧ Q (.int (if j < i then j else i)) H
def qInt1 : RCl := fun xs H Q => (∃ i, xs = [.int i] ∧ Q (.int i) H) ∨ ∃ k, xs = [.bl k] ∧ Q (.int (if k then 1 else 0)) H
def qTuple (K : PySem.W.Frag) : RCl := fun xs H Q => ∃ p ys, xs = [V.ref p] ∧ ((SqL K H p ys ∧ ∀ l, H l = none → Q (.ref l) (upd H l (.tup ys))) ∨ (SqT K H p ys ∧ Q (.ref p) H))
def qList (K : PySem.W.Frag) : RCl := fun xs H Q => ∃ p ys, xs = [V.ref p] ∧ (SqL K H p ys ∨ SqT K H p ys) ∧ ∀ l, H l = none → Q (.ref l) (upd H l (.lst ys))
def qJoin (K : PySem.W.Frag) : RMt := fun x xs H Q => ∃ a p, ∃ ys : List Str, x = .str a ∧ xs = [.ref p] ∧ (SqL K H p (ys.map V.str) ∨ SqT K H p (ys.map V.str)) ∧ (ys.map (·.length)).sum + ys.length * a.length ≤ 16777216 ∧ Q (.str (Txt.join a ys)) H
def qCatS : R2 := fun x y H Q => ∃ i j, x = .str i ∧ y = .str j ∧ i.length + j.length ≤ sizeLine ∧ Q (.str (i ++ j)) H
def qLtS : R2 := fun x y H Q => ∃ i j, x = .str i ∧ y = .str j ∧ Q (.bl (decide (i.cps.toList < j.cps.toList))) H
def qLeS : R2 := fun x y H Q => ∃ i j, x = .str i ∧ y = .str j ∧ Q (.bl (!decide (j.cps.toList < i.cps.toList))) H
def qGtS : R2 := fun x y H Q => ∃ i j, x = .str i ∧ y = .str j ∧ Q (.bl (decide (j.cps.toList < i.cps.toList))) H
def qGeS : R2 := fun x y H Q => ∃ i j, x = .str i ∧ y = .str j ∧ Q (.bl (!decide (i.cps.toList < j.cps.toList))) H
section
variable {X : Cx} {K : PySem.W.Frag}
theorem c_len (hK : X.K = K) : CallR X (.builtin "len") (qLen K) := by subst hK; exact call_len_seq
theorem c_lenS : CallR X (.builtin "len") qLenS := call_len_str
theorem c_max2 (hc : X.calm = true) : CallR X (.builtin "max") qMax2 := call_max2 hc
theorem c_min2 (hc : X.calm = true) : CallR X (.builtin "min") qMin2 := call_min2 hc
theorem c_int1 : CallR X (.type "int") qInt1 := call_int1
theorem c_tuple (hK : X.K = K) : CallR X (.type "tuple") (qTuple K) := by subst hK; exact call_tuple_of
theorem c_list (hK : X.K = K) : CallR X (.type "list") (qList K) := by subst hK; exact call_list_of
theorem c_join (hK : X.K = K) : MtR X "str.join" (qJoin K) := by subst hK; exact mt_join
theorem c_catS : OpR X (binaryOp .Add) qCatS := op_add_str
theorem c_ltS : OpR X (compareOp .Lt) qLtS := op_lt_str
theorem c_leS : OpR X (compareOp .LtE) qLeS := op_le_str
theorem c_gtS : OpR X (compareOp .Gt) qGtS := op_gt_str
theorem c_geS : OpR X (compareOp .GtE) qGeS := op_ge_str
theorem c_ixT (hK : X.K = K) : IxR X (rIxT K) := by subst hK; exact ix_tup
theorem c_ixL (hK : X.K = K) : IxR X (rIxL K) := by subst hK; exact ix_list
theorem c_slL (hK : X.K = K) : SlR X (rSlL K) := by subst hK; exact sl_list
theorem c_slT (hK : X.K = K) : SlR X (rSlA K) := by subst hK; exact sl_tupA
variable {name id T : String} {o e : Expr} {es : List Expr} {to : TE} {t : TA} {apos pos : Pos} {nm : Str} {r : V → List V → Hp → VK → Prop} {tg l : Expr} {tl : TE}
theorem c_pgtup {es : List Expr} {k : Nat} {t : TGs} {n : Nat} (hK : X.K = K) (hc : X.calm = true) (h : PGs X es t) (hn : (assignEach es X.env).length = n := by rfl) (hst : (assignEach es X.env).findIdx? (·.1) = none := by rfl) : PG X (.Tuple es k pos) (gTup K n t) := by
  subst hK; exact pg_tup hc h hn hst
theorem c_pilist (hK : X.K = K) (hl : PE X l tl) : PI X tg l (iList K tl) := by subst hK; exact pi_list hl
theorem c_pitup (hK : X.K = K) (hl : PE X l tl) : PI X tg l (iTup K tl) := by subst hK; exact pi_tup hl
end
section
variable {K : PySem.W.Frag} {σ σ' : L2.St} {H F H' : Hp} {Q : VK} {i j a : Int} {x y v : V} {s r : Sg} {b c : Bool} {X : Cx}
/-! ### numbers -/
theorem v_i2 {g : Int → Int → V} (k : Q (g i j) H) : rI0 g (.int i) (.int j) H Q := ⟨i, j, rfl, rfl, k⟩
theorem mulB_ok (h : mulB i j = true) : CMul i j := by
  unfold mulB at h
  rw [Bool.or_eq_true] at h
  exact h.elim (fun z => .inl (of_decide_eq_true z)) fun z => .inr (of_decide_eq_true z)
theorem v_mul (h : mulM i j = some a) (k : Q (.int a) H) : L2.rI CMul (fun i j => .int (i * j)) (.int i) (.int j) H Q := by
  obtain ⟨h1, rfl⟩ := need_ok h
  exact ⟨i, j, rfl, rfl, mulB_ok h1, k⟩
theorem v_mulL (h : -(2 ^ 64) < i ∧ i < 2 ^ 64) (k : Q (.int (i * j)) H) : L2.rI CMul (fun i j => .int (i * j)) (.int i) (.int j) H Q := ⟨i, j, rfl, rfl, .inl h, k⟩
theorem v_mulR (h : -(2 ^ 64) < j ∧ j < 2 ^ 64) (k : Q (.int (i * j)) H) : L2.rI CMul (fun i j => .int (i * j)) (.int i) (.int j) H Q := ⟨i, j, rfl, rfl, .inr h, k⟩
theorem v_mod (h : modM i j = some a) (k : Q (.int a) H) : L2.rI (fun _ j => 0 < j) (fun i j => .int (i % j)) (.int i) (.int j) H Q := by
  obtain ⟨h1, rfl⟩ := need_ok h
  exact ⟨i, j, rfl, rfl, of_decide_eq_true h1, k⟩
theorem v_modK (h : 0 < j) (k : Q (.int (i % j)) H) : L2.rI (fun _ j => 0 < j) (fun i j => .int (i % j)) (.int i) (.int j) H Q := ⟨i, j, rfl, rfl, h, k⟩
theorem v_div (h : divM i j = some a) (k : Q (.int a) H) : L2.rI CDiv (fun i j => .int (i / j)) (.int i) (.int j) H Q := by
  obtain ⟨h1, rfl⟩ := need_ok h
  have h2 : 0 < j ∧ j < 1073741824 := of_decide_eq_true h1
  exact ⟨i, j, rfl, rfl, h2, k⟩
theorem v_divK (h : 0 < j ∧ j < 1073741824) (k : Q (.int (i / j)) H) : L2.rI CDiv (fun i j => .int (i / j)) (.int i) (.int j) H Q := ⟨i, j, rfl, rfl, h, k⟩
theorem v_powK (h : CPow i j) (e : i ^ j.toNat = a) (k : Q (.int a) H) : L2.rI CPow (fun i j => .int (i ^ j.toNat)) (.int i) (.int j) H Q := ⟨i, j, rfl, rfl, h, by subst e; exact k⟩
theorem v_neg (k : Q (.int (-i)) H) : rU (fun i => .int (-i)) (.int i) H Q := ⟨i, rfl, k⟩
theorem v_eqI (k : Q (.bl (decide (i = j))) H) : rEq (.int i) (.int j) H Q := ⟨rfl, by rw [dec_int, Bool.beq_eq_decide_eq]; exact k⟩
theorem v_neI (k : Q (.bl (!decide (i = j))) H) : rNe (.int i) (.int j) H Q := ⟨rfl, by rw [dec_int, Bool.beq_eq_decide_eq]; exact k⟩
theorem v_eqB (k : Q (.bl (decide (b = c))) H) : rEq (.bl b) (.bl c) H Q := ⟨rfl, by rw [dec_bl, Bool.beq_eq_decide_eq]; exact k⟩
theorem v_neB (k : Q (.bl (!decide (b = c))) H) : rNe (.bl b) (.bl c) H Q := ⟨rfl, by rw [dec_bl, Bool.beq_eq_decide_eq]; exact k⟩
theorem S_inj : S s = S r ↔ s = r := ⟨fun h => by
  have h1 := congrArg (fun z : Str => z.cps.toList) h
  exact h1, fun h => by rw [h]⟩
theorem dec_S : decide (V.str (S s) = V.str (S r)) = decide (s = r) := by
  rw [Bool.eq_iff_iff]
  simp only [decide_eq_true_eq, V.str.injEq]
  exact S_inj
theorem v_eqS (k : Q (.bl (decide (s = r))) H) : rEq (.str (S s)) (.str (S r)) H Q := ⟨rfl, by rw [dec_S]; exact k⟩
theorem v_neS (k : Q (.bl (!decide (s = r))) H) : rNe (.str (S s)) (.str (S r)) H Q := ⟨rfl, by rw [dec_S]; exact k⟩
theorem v_ltS (k : Q (.bl (decide (s < r))) H) : qLtS (.str (S s)) (.str (S r)) H Q := ⟨_, _, rfl, rfl, k⟩
theorem v_gtS (k : Q (.bl (decide (r < s))) H) : qGtS (.str (S s)) (.str (S r)) H Q := ⟨_, _, rfl, rfl, k⟩
theorem v_leS (k : Q (.bl (!decide (r < s))) H) : qLeS (.str (S s)) (.str (S r)) H Q := ⟨_, _, rfl, rfl, k⟩
theorem v_geS (k : Q (.bl (!decide (s < r))) H) : qGeS (.str (S s)) (.str (S r)) H Q := ⟨_, _, rfl, rfl, k⟩
theorem v_bl {P : Bool → Hp → Prop} (k : P b H) : qT P (.bl b) H := ⟨b, rfl, k⟩
theorem v_max2 (k : Q (.int (mx i j)) H) : qMax2 [.int i, .int j] H Q := ⟨i, j, rfl, k⟩
theorem v_min2 (k : Q (.int (mn i j)) H) : qMin2 [.int i, .int j] H Q := ⟨i, j, rfl, k⟩
theorem v_intB (k : Q (.int (b2 b)) H) : qInt1 [.bl b] H Q := .inr ⟨b, rfl, k⟩
theorem v_intI (k : Q (.int i) H) : qInt1 [.int i] H Q := .inl ⟨i, rfl, k⟩
/-! ### texts -/
theorem n_str {x : Str} (e : x = S s) (k : Q (.str (S s)) H) : tC (.str x) σ H Q := by rw [e]; exact k
theorem catM_le (h : catM s r = some t) : t.length ≤ sizeLine := by
  obtain ⟨h1, rfl⟩ := need_ok h
  rw [List.length_append]; exact sz_ok h1
theorem v_catS {t : Sg} (h : catM s r = some t) (k : Q (.str (S t)) H) : qCatS (.str (S s)) (.str (S r)) H Q := by
  obtain ⟨h1, rfl⟩ := need_ok h
  refine ⟨_, _, rfl, rfl, by simpa [Str.length] using sz_ok h1, ?_⟩
  have e : (S s ++ S r : Str) = S (s ++ r) := TL.ext_tl (by rw [TL.tl_append])
  rw [e]; exact k
theorem one_le {n : Nat} : ([n] : Sg).length ≤ sizeLine := by show 1 ≤ sizeLine; decide
theorem len1_le (h : s.length = 1) : s.length ≤ sizeLine := by rw [h]; decide
theorem v_ixS {n : Nat} (hl : s.length ≤ sizeLine) (h : atI s i = some n) (k : Q (.str (S [n])) H) : rIxS (.str (S s)) (.int i) H Q := ⟨_, _, n, rfl, rfl, by simpa [Str.length] using hl, h, k⟩
theorem cut_le {lo hi : Option Int} (hl : s.length ≤ sizeLine) : (cutL s lo hi).length ≤ sizeLine := by
  unfold cutL
  rw [List.length_take, List.length_drop]
  omega
theorem v_slS {lo hi : Option Int} (hl : s.length ≤ sizeLine) (k : Q (.str (S (cutL s lo hi))) H) : rSlS (.str (S s)) lo hi H Q := ⟨S s, rfl, by simpa [Str.length] using hl, by
  have e : cutS (S s) lo hi = S (cutL s lo hi) := by unfold cutS cutL; simp [Str.length]
  rw [e]; exact k⟩
theorem v_lenS (hl : s.length ≤ sizeLine) (k : Q (.int s.length) H) : qLenS [.str (S s)] H Q := ⟨S s, rfl, by simpa [Str.length] using hl, by
  have e : (S s).length = s.length := by simp [Str.length]
  rw [e]; exact k⟩
theorem tyS : tyV K "str" (.str (S s)) H := rfl
theorem joinM_le {xs : List Sg} (h : joinM s xs = some r) : r.length ≤ sizeLine := by
  obtain ⟨h1, rfl⟩ := need_ok h
  have h2 := sz_ok h1
  refine Nat.le_trans ?_ h2
  clear h h1 h2
  induction xs with
  | nil => simp [TL.joinL]
  | cons p q ih =>
    cases q with
    | nil => simp [TL.joinL]
    | cons q r =>
      have e : TL.joinL s (p :: q :: r) = p ++ (s ++ TL.joinL s (q :: r)) := rfl
      rw [e]
      simp only [List.length_append, List.map_cons, List.sum_cons, List.length_cons] at ih ⊢
      have : (r.length + 1 + 1) * s.length = (r.length + 1) * s.length + s.length := by rw [Nat.add_mul (r.length + 1) 1]; simp
      omega
theorem join_S (s : Sg) (xs : List Sg) : Txt.join (S s) (xs.map S) = S (TL.joinL s xs) := by
  rw [TL.join_eq]
  refine TL.ext_tl ?_
  rw [TL.tl_join]
  congr 1
  rw [List.map_map]
  exact (List.map_congr_left fun a _ => rfl).trans (List.map_id _)
theorem v_join {p : Addr} {vs : List V} {xs : List Sg} (hq : SqL K H p vs ∨ SqT K H p vs) (hr : Al eS F vs xs) (h : joinM s xs = some r) (k : Q (.str (S r)) H) : qJoin K (.str (S s)) [.ref p] H Q := by
  obtain ⟨h1, rfl⟩ := need_ok h
  have e := al_str hr
  subst e
  refine ⟨S s, p, xs.map S, rfl, rfl, hq, ?_, by rw [join_S]; exact k⟩
  have h2 := of_decide_eq_true h1
  have e1 : (xs.map S).map (·.length) = xs.map List.length := by rw [List.map_map]; exact List.map_congr_left fun a _ => by simp [Str.length]
  rw [e1, List.length_map]
  have e2 : (S s).length = s.length := by simp [Str.length]
  rw [e2]; exact h2
end
section
variable {K : PySem.W.Frag} {σ σ' : L2.St} {H F H' : Hp} {Q : VK} {i j : Int} {x y z v w : V} {α β γ : Type} {t : Rp α} {ta : Rp α} {tb : Rp β} {tc : Rp γ} {p q : Addr} {vs us : List V} {xs zs : List α} {D : Ends}
/-! ### lists and tuples -/
theorem v_len (hq : SqL K H p vs ∨ SqT K H p vs) (hr : Al t F vs xs) (k : Q (.int (xs.length : Int)) H) : qLen K [.ref p] H Q :=
  ⟨p, vs, rfl, hq, by rw [al_len hr]; exact k⟩
theorem v_ixL {a : α} (hq : SqL K H p vs) (hr : Al t F vs xs) (h : atI xs i = some a) (k : ∀ v, t.r F v a → Q v H) : rIxL K (.ref p) (.int i) H Q := by
  obtain ⟨v, e, r⟩ := al_at hr h
  exact ⟨p, vs, i, v, rfl, rfl, hq, e, k v r⟩
theorem v_ixT {a : α} (hq : SqT K H p vs) (hr : Al t F vs xs) (h : atI xs i = some a) (k : ∀ v, t.r F v a → Q v H) : rIxT K (.ref p) (.int i) H Q := by
  obtain ⟨v, e, r⟩ := al_at hr h
  exact ⟨p, vs, i, v, rfl, rfl, hq, e, k v r⟩
theorem v_ix20 {m : α × β} (hs : Sub F H) (hr : (eP2 ta tb).r F x m) (k : ∀ v, ta.r F v m.1 → Q v H) : rIxT K x (.int 0) H Q := by
  obtain ⟨p, y, z, rfl, hq, h1, h2⟩ := hr
  exact ⟨p, _, 0, y, rfl, rfl, .inl (.inl (hs _ _ hq)), rfl, k y h1⟩
theorem v_ix21 {m : α × β} (hs : Sub F H) (hr : (eP2 ta tb).r F x m) (k : ∀ v, tb.r F v m.2 → Q v H) : rIxT K x (.int 1) H Q := by
  obtain ⟨p, y, z, rfl, hq, h1, h2⟩ := hr
  exact ⟨p, _, 1, z, rfl, rfl, .inl (.inl (hs _ _ hq)), rfl, k z h2⟩
theorem v_ix30 {m : α × β × γ} (hs : Sub F H) (hr : (eP3 ta tb tc).r F x m) (k : ∀ v, ta.r F v m.1 → Q v H) : rIxT K x (.int 0) H Q := by
  obtain ⟨p, y, z, w, rfl, hq, h1, h2, h3⟩ := hr
  exact ⟨p, _, 0, y, rfl, rfl, .inl (.inl (hs _ _ hq)), rfl, k y h1⟩
theorem v_ix31 {m : α × β × γ} (hs : Sub F H) (hr : (eP3 ta tb tc).r F x m) (k : ∀ v, tb.r F v m.2.1 → Q v H) : rIxT K x (.int 1) H Q := by
  obtain ⟨p, y, z, w, rfl, hq, h1, h2, h3⟩ := hr
  exact ⟨p, _, 1, z, rfl, rfl, .inl (.inl (hs _ _ hq)), rfl, k z h2⟩
theorem v_ix32 {m : α × β × γ} (hs : Sub F H) (hr : (eP3 ta tb tc).r F x m) (k : ∀ v, tc.r F v m.2.2 → Q v H) : rIxT K x (.int 2) H Q := by
  obtain ⟨p, y, z, w, rfl, hq, h1, h2, h3⟩ := hr
  exact ⟨p, _, 2, w, rfl, rfl, .inl (.inl (hs _ _ hq)), rfl, k w h3⟩
theorem v_unp2 {tg : TGs} {m : α × β} {R : L2.St → Hp → Prop} (hs : Sub F H) (hr : (eP2 ta tb).r F x m) (k : ∀ y z, ta.r F y m.1 → tb.r F z m.2 → tg [y, z] σ H R) : gTup K 2 tg x σ H R := by
  obtain ⟨p, y, z, rfl, hq, h1, h2⟩ := hr
  exact ⟨p, _, rfl, .inl (.inl (hs _ _ hq)), rfl, k y z h1 h2⟩
theorem v_unp3 {tg : TGs} {m : α × β × γ} {R : L2.St → Hp → Prop} (hs : Sub F H) (hr : (eP3 ta tb tc).r F x m) (k : ∀ y z w, ta.r F y m.1 → tb.r F z m.2.1 → tc.r F w m.2.2 → tg [y, z, w] σ H R) : gTup K 3 tg x σ H R := by
  obtain ⟨p, y, z, w, rfl, hq, h1, h2, h3⟩ := hr
  exact ⟨p, _, rfl, .inl (.inl (hs _ _ hq)), rfl, k y z w h1 h2 h3⟩
theorem n_gcons {tg : TG} {tgs : TGs} {R : L2.St → Hp → Prop} (h : tg x σ H fun σ' H' => tgs vs σ' H' R) : gCons tg tgs (x :: vs) σ H R := ⟨_, _, rfl, h⟩
theorem n_gnil {R : L2.St → Hp → Prop} (h : R σ H) : gNil [] σ H R := ⟨rfl, h⟩
/-- new objects -/
theorem gr_newF {W : List Addr} {o : HO} (hs : Sub F H) (hp : H p = none) : Gr W F H (upd F p o) (upd H p o) := (Gr.refl hs).newF hp
theorem gr_newM {W : List Addr} {o : HO} (hs : Sub F H) (hp : H p = none) : Gr W F H F (upd H p o) := (Gr.refl hs).newM hp
theorem v_mk2 {m : α} {n : β} (hs : Sub F H) (h1 : ta.r F x m) (h2 : tb.r F y n) (k : ∀ v F' H', Gr [] F H F' H' → (eP2 ta tb).r F' v (m, n) → Q v H') :
    qNewT Q [x, y] H :=
  ⟨by show 2 ≤ sizeLine; decide, fun p hp => k _ _ _ (gr_newF hs hp) ⟨p, x, y, rfl, upd_same, ta.mono (Sub.up1 (hs.nn hp)) h1, tb.mono (Sub.up1 (hs.nn hp)) h2⟩⟩
theorem v_mk3 {m : α} {n : β} {l : γ} (hs : Sub F H) (h1 : ta.r F x m) (h2 : tb.r F y n) (h3 : tc.r F z l) (k : ∀ v F' H', Gr [] F H F' H' → (eP3 ta tb tc).r F' v (m, n, l) → Q v H') :
    qNewT Q [x, y, z] H :=
  ⟨by show 3 ≤ sizeLine; decide, fun p hp => k _ _ _ (gr_newF hs hp) ⟨p, x, y, z, rfl, upd_same, ta.mono (Sub.up1 (hs.nn hp)) h1, tb.mono (Sub.up1 (hs.nn hp)) h2, tc.mono (Sub.up1 (hs.nn hp)) h3⟩⟩
theorem v_mkT (hs : Sub F H) (hr : Al t F vs xs) (hz : szB vs.length = true) (k : ∀ p F' H', Gr [] F H F' H' → F' p = some (.tup vs) → Al t F' vs xs → Q (.ref p) H') :
    qNewT Q vs H :=
  ⟨sz_ok hz, fun p hp => k _ _ _ (gr_newF hs hp) upd_same (hr.mono (Sub.up1 (hs.nn hp)))⟩
/-- a new list: frozen at once; one's own -/
theorem a_newF (hs : Sub F H) (hr : Al t F vs xs) (k : ∀ p F' H', Gr [] F H F' H' → F' p = some (.lst vs) → Al t F' vs xs → Q (.ref p) H') : ∀ p, H p = none → Q (.ref p) (upd H p (.lst vs)) :=
  fun p hp => k _ _ _ (gr_newF hs hp) upd_same (hr.mono (Sub.up1 (hs.nn hp)))
theorem a_newM (hs : Sub F H) (k : ∀ p H', H p = none → Gr [] F H F H' → F p = none → H' p = some (.lst vs) → Q (.ref p) H') : ∀ p, H p = none → Q (.ref p) (upd H p (.lst vs)) :=
  fun p hp => k _ _ hp (gr_newM hs hp) (hs.nn hp) upd_same
theorem v_mkLF (hs : Sub F H) (hr : Al t F vs xs) (hz : szB vs.length = true) (k : ∀ p F' H', Gr [] F H F' H' → F' p = some (.lst vs) → Al t F' vs xs → Q (.ref p) H') : qNewL Q vs H := ⟨sz_ok hz, a_newF hs hr k⟩
theorem v_mkLM (hs : Sub F H) (hz : szB vs.length = true) (k : ∀ p H', H p = none → Gr [] F H F H' → F p = none → H' p = some (.lst vs) → Q (.ref p) H') : qNewL Q vs H := ⟨sz_ok hz, a_newM hs k⟩
theorem cut_al {lo hi : Option Int} (hr : Al t F vs xs) : Al t F (cutV vs lo hi) (cutL xs lo hi) := by
  unfold cutV cutL
  rw [al_len hr]
  exact pd_take _ (pd_drop _ hr)
theorem v_slT {lo hi : Option Int} (hs : Sub F H) (hq : F p = some (.tup vs)) (hr : Al t F vs xs) (k : ∀ p' us F' H', Gr [] F H F' H' → F' p' = some (.tup us) → Al t F' us (cutL xs lo hi) → Q (.ref p') H') : rSlA K (.ref p) lo hi H Q := by
  refine ⟨p, vs, rfl, .inl (.inl (hs _ _ hq)), fun e => ?_, fun _ p' hp => k p' _ _ _ (gr_newF hs hp) upd_same ((cut_al hr).mono (Sub.up1 (hs.nn hp)))⟩
  have e2 : cutV vs lo hi = vs := by unfold cutV; rw [e.1, e.2]; simp
  have := cut_al (lo := lo) (hi := hi) hr
  rw [e2] at this
  exact k p vs F H (Gr.refl hs) hq this
/-- a list of one's own that changes -/
theorem tyL (hq : SqL K H p vs) : tyV K "list" (.ref p) H := .inl ⟨rfl, _, hq⟩
theorem v_append (hp : H p = some (.lst vs)) (hl : vs.length < sizeLine) (k : Q .non (upd H p (.lst (vs ++ [y])))) : rAppend (.ref p) [y] H Q := ⟨p, vs, y, rfl, rfl, hp, hl, k⟩
theorem v_extend (hp : H p = some (.lst vs)) (hq : H q = some (.lst us)) (hl : vs.length + us.length ≤ sizeLine) (k : Q .non (upd H p (.lst (vs ++ us)))) : rExtend (.ref p) [.ref q] H Q := ⟨p, q, vs, us, rfl, rfl, hp, hq, hl, k⟩
theorem v_setL {n : Nat} {R : Hp → Prop} (hp : H p = some (.lst vs)) (e : ixN vs.length i = some n) (k : R (upd H p (.lst (vs.set n y)))) : rSetL (.ref p) (.int i) y H R := ⟨p, vs, i, n, rfl, rfl, hp, e, k⟩
theorem setM_ok {a : α} {zs : List α} (hr : Al t F vs xs) (h : setM xs i a = some zs) (ha : t.r F y a) : ∃ n, ixN vs.length i = some n ∧ Al t F (vs.set n y) zs := by
  unfold setM at h
  rw [al_len hr]
  cases e : ixN xs.length i with
  | none => rw [e] at h; cases h
  | some n =>
    rw [e] at h
    have e2 : xs.set n a = zs := Option.some.inj h
    subst e2
    exact ⟨n, rfl, pd_set n hr ha⟩
def popM (xs : List α) : Option (α × List α) := (xs[xs.length - 1]?).map fun a => (a, xs.dropLast)
theorem v_pop {m : α × List α} (hp : H p = some (.lst vs)) (hr : Al t F vs xs) (h : popM xs = some m) (k : ∀ v, t.r F v m.1 → Al t F vs.dropLast m.2 → Q v (upd H p (.lst vs.dropLast))) : rPop (.ref p) [] H Q := by
  unfold popM at h
  cases e : xs[xs.length - 1]? with
  | none => rw [e] at h; cases h
  | some a =>
    rw [e] at h
    have e2 : (a, xs.dropLast) = m := Option.some.inj h
    subst e2
    rw [← al_len hr] at e
    obtain ⟨v, ev, rv⟩ := pd_get hr e
    exact ⟨p, vs, v, rfl, rfl, hp, ev, k v rv (pd_last hr)⟩
theorem v_cat (hs : Sub F H) (hp : H p = some (.lst vs)) (hq : H q = some (.lst us)) (hr : Al t F vs xs) (hr' : Al t F us zs) (hz : szB (xs.length + zs.length) = true) (k : ∀ p', H p' = none → Q (.ref p') (upd H p' (.lst (vs ++ us)))) : rCat (.ref p) (.ref q) H Q :=
  ⟨p, q, vs, us, rfl, rfl, hp, hq, by rw [al_len hr, al_len hr']; exact sz_ok hz, k⟩
def repL (xs : List α) (n : Nat) : List α := (List.replicate n xs).flatten
def repM (xs : List α) (i : Int) : Option (List α) := need (decide (-(2 ^ 63) ≤ i ∧ i < 2 ^ 63) && szB (xs.length * i.toNat)) (repL xs i.toNat)
theorem v_tuple (hs : Sub F H) (hq : SqL K H p vs) (hr : Al t F vs xs) (k : ∀ p' F' H', Gr [] F H F' H' → F' p' = some (.tup vs) → Al t F' vs xs → Q (.ref p') H') : qTuple K [.ref p] H Q :=
  ⟨p, vs, rfl, .inl ⟨hq, fun l hl => k _ _ _ (gr_newF hs hl) upd_same (hr.mono (Sub.up1 (hs.nn hl)))⟩⟩
theorem v_tupleT (hq : SqT K H p vs) (k : Q (.ref p) H) : qTuple K [.ref p] H Q := ⟨p, vs, rfl, .inr ⟨hq, k⟩⟩
theorem v_list (hq : SqL K H p vs ∨ SqT K H p vs) (k : ∀ l, H l = none → Q (.ref l) (upd H l (.lst vs))) : qList K [.ref p] H Q := ⟨p, vs, rfl, hq, k⟩
/-! ### loops' targets -/
theorem v_nmY {tg : TG} {P : Prop} {R : L2.St → Hp → Prop} (hY : H' = H ∧ P) (k : P → tg x σ H R) : tg x σ H' R := by
  obtain ⟨e, h⟩ := hY
  subst e; exact k h
theorem v_nmR {tg : TG} {a : Int} {R : L2.St → Hp → Prop} (hY : H' = H ∧ x = .int a) (k : tg (.int a) σ H R) : tg x σ H' R := by
  obtain ⟨e, h⟩ := hY
  subst e; subst h; exact k
theorem v_nmS {tg : TG} {a : Sg} {R : L2.St → Hp → Prop} (hY : H' = H ∧ x = .str (S a) ∧ a.length = 1) (k : a.length = 1 → tg (.str (S a)) σ H R) : tg x σ H' R := by
  obtain ⟨e, h, l⟩ := hY
  subst e; subst h; exact k l
theorem v_unpE {tg : TGs} {Fs : Hp} {a : Int × α} {R : L2.St → Hp → Prop} (hs : Sub F H) (hY : ∃ T y, x = .ref T ∧ H T = none ∧ H' = upd H T (.tup [.int a.1, y]) ∧ t.r Fs y a.2) (k : ∀ y, Gr [] F H F H' → t.r Fs y a.2 → tg [.int a.1, y] σ H' R) : gTup K 2 tg x σ H' R := by
  obtain ⟨T, y, rfl, nT, rfl, r⟩ := hY
  exact ⟨T, _, rfl, .inl (.inl upd_same), rfl, k y (gr_newM hs nT) r⟩
theorem v_unpZ {tg : TGs} {Fs : Hp} {a : α × β} {R : L2.St → Hp → Prop} (hs : Sub F H) (hY : ∃ T y z, x = .ref T ∧ H T = none ∧ H' = upd H T (.tup [y, z]) ∧ ta.r Fs y a.1 ∧ tb.r Fs z a.2) (k : ∀ y z, Gr [] F H F H' → ta.r Fs y a.1 → tb.r Fs z a.2 → tg [y, z] σ H' R) : gTup K 2 tg x σ H' R := by
  obtain ⟨T, y, z, rfl, nT, rfl, r, r'⟩ := hY
  exact ⟨T, _, rfl, .inl (.inl upd_same), rfl, k y z (gr_newM hs nT) r r'⟩
abbrev RIt := It → Hp → Prop
def qRng1 (R : RIt) : List V → Hp → Prop := fun vs H1 => ∃ j : Int, vs = [.int j] ∧ -(2 ^ 62) ≤ j ∧ j < 2 ^ 62 ∧ R (Itr 0 j.toNat) H1
def qRng2 (R : RIt) : List V → Hp → Prop := fun vs H1 => ∃ i j : Int, vs = [.int i, .int j] ∧ (-(2 ^ 62) ≤ i ∧ i < 2 ^ 62 ∧ -(2 ^ 62) ≤ j ∧ j < 2 ^ 62) ∧ R (Itr i (j - i).toNat) H1
def qItL (K : PySem.W.Frag) (R : RIt) : VK := fun x H1 => ∃ a, x = .ref a ∧ (∃ xs, SqL K H1 a xs) ∧ R (Itl K a) H1
def qItT (K : PySem.W.Frag) (R : RIt) : VK := fun x H1 => ∃ a, x = .ref a ∧ (∃ xs, SqT K H1 a xs) ∧ R (Itt K a) H1
def qItS (R : RIt) : VK := fun v H1 => ∃ x, v = .str x ∧ R (Its x) H1
theorem n_rng1 {ta : TA} {R : RIt} (h : ta σ H (qRng1 R)) : iRng1 ta σ H R := h
theorem n_rng2 {ta : TA} {R : RIt} (h : ta σ H (qRng2 R)) : iRng2 ta σ H R := h
theorem n_itL {ta : TE} {R : RIt} (h : ta σ H (qItL K R)) : iList K ta σ H R := h
theorem n_itT {ta : TE} {R : RIt} (h : ta σ H (qItT K R)) : iTup K ta σ H R := h
theorem n_itS {ta : TE} {R : RIt} (h : ta σ H (qItS R)) : iStr ta σ H R := h
def rngB (i : Int) : Bool := decide (-(2 ^ 62) ≤ i ∧ i < 2 ^ 62)
def uptoM (lo hi : Int) : Option (List Int) := need (rngB lo && rngB hi) (upto lo hi)
theorem uptoM_ok {lo hi : Int} {l : List Int} (h : uptoM lo hi = some l) : (-(2 ^ 62) ≤ lo ∧ lo < 2 ^ 62 ∧ -(2 ^ 62) ≤ hi ∧ hi < 2 ^ 62) ∧ upto lo hi = l := by
  obtain ⟨h1, h2⟩ := need_ok h
  unfold rngB at h1
  rw [Bool.and_eq_true] at h1
  have a := of_decide_eq_true h1.1
  have b := of_decide_eq_true h1.2
  exact ⟨⟨a.1, a.2, b.1, b.2⟩, h2⟩
theorem v_rng1 {hi : Int} {l : List Int} {R : It → Hp → Prop} (h : uptoM 0 hi = some l) (k : R (Itr 0 hi.toNat) H) : qRng1 R [.int hi] H :=
  ⟨hi, rfl, (uptoM_ok h).1.2.2.1, (uptoM_ok h).1.2.2.2, k⟩
theorem v_rng2 {lo hi : Int} {l : List Int} {R : It → Hp → Prop} (h : uptoM lo hi = some l) (k : R (Itr lo (hi - lo).toNat) H) : qRng2 R [.int lo, .int hi] H :=
  ⟨lo, hi, rfl, (uptoM_ok h).1, k⟩
theorem sr_R1 {hi : Int} {l : List Int} (h : uptoM 0 hi = some l) : Sr (Itr 0 hi.toNat) (fun _ => True) l (fun H x H' a => H' = H ∧ x = .int a) := by rw [← (uptoM_ok h).2]; exact sr_R0 hi
theorem sr_R2 {lo hi : Int} {l : List Int} (h : uptoM lo hi = some l) : Sr (Itr lo (hi - lo).toNat) (fun _ => True) l (fun H x H' a => H' = H ∧ x = .int a) := by rw [← (uptoM_ok h).2]; exact sr_R lo hi
variable {nx bk ct : L2.St → Hp → Prop} {rt : VK}
theorem n_for {wi : TI} {g : TG} {tb : TS} (h : wi σ H fun J H1 => Forr J g tb nx rt σ H1) : tFor wi g tb ⟨nx, rt, bk, ct⟩ σ H := h
theorem n_lc {wi : TI} {g : TG} {tt : TT} {te : TE} {ws : List Nat} (h : wi σ H fun J H1 => ∀ Dd, H1 Dd = none → Compp J g tt te ws σ H1 Dd Q) : tLc wi g tt te ws σ H Q := h
theorem v_itL (hq : SqL K H p vs) {R : It → Hp → Prop} (k : R (Itl K p) H) : qItL K R (.ref p) H := ⟨p, rfl, ⟨vs, hq⟩, k⟩
theorem v_itT (hq : SqT K H p vs) {R : It → Hp → Prop} (k : R (Itt K p) H) : qItT K R (.ref p) H := ⟨p, rfl, ⟨vs, hq⟩, k⟩
theorem v_itS {s : Sg} {R : It → Hp → Prop} (k : R (Its (S s)) H) : qItS R (.str (S s)) H := ⟨S s, rfl, k⟩
theorem br_join {b : Bool} {t u : TS} (I : L2.St → Hp → Prop) (hr : ∀ σ' H', I σ' H' → nx σ' H') (h1 : b = true → ∀ nx' : L2.St → Hp → Prop, (∀ σ' H', I σ' H' → nx' σ' H') → t ⟨nx', rt, bk, ct⟩ σ H)
    (h2 : b = false → ∀ nx' : L2.St → Hp → Prop, (∀ σ' H', I σ' H' → nx' σ' H') → u ⟨nx', rt, bk, ct⟩ σ H) : if b = true then t ⟨nx, rt, bk, ct⟩ σ H else u ⟨nx, rt, bk, ct⟩ σ H := by
  cases b with
  | true => rw [if_pos rfl]; exact h1 rfl nx hr
  | false => rw [if_neg Bool.false_ne_true]; exact h2 rfl nx hr
/-- and, or: what follows the first part -/
def qAndT (u : TT) (σ : L2.St) (Q : Bool → Hp → Prop) : Bool → Hp → Prop := fun c H1 => if c = true then u σ H1 Q else Q false H1
def qOrT (u : TT) (σ : L2.St) (Q : Bool → Hp → Prop) : Bool → Hp → Prop := fun c H1 => if c = true then Q true H1 else u σ H1 Q
def qAndV (u : TE) (σ : L2.St) (Q : VK) : Bool → Hp → Prop := fun c H1 => if c = true then u σ H1 Q else Q (.bl false) H1
def qOrV (u : TE) (σ : L2.St) (Q : VK) : Bool → Hp → Prop := fun c H1 => if c = true then Q (.bl true) H1 else u σ H1 Q
def qChain (tc : TE) (r' : R2) (y : V) (σ : L2.St) (Q : VK) : Bool → Hp → Prop := fun k H3 => if k = true then tc σ H3 fun w H4 => r' y w H4 Q else Q (.bl false) H3
def qIfE (ta tb : TE) (σ : L2.St) (Q : VK) : Bool → Hp → Prop := fun c H1 => if c = true then ta σ H1 Q else tb σ H1 Q
/-- the later part leaves the heap as it is -/
theorem br_andT {a b : Bool} {u : TT} {Q : Bool → Hp → Prop} (h : a = true → ∀ Q' : Bool → Hp → Prop, Q' b H → u σ H Q') (k : Q (a && b) H) : qAndT u σ Q a H := by
  unfold qAndT
  cases a with
  | true => rw [if_pos rfl]; exact h rfl Q k
  | false => rw [if_neg Bool.false_ne_true]; exact k
theorem br_orT {a b : Bool} {u : TT} {Q : Bool → Hp → Prop} (h : a = false → ∀ Q' : Bool → Hp → Prop, Q' b H → u σ H Q') (k : Q (a || b) H) : qOrT u σ Q a H := by
  unfold qOrT
  cases a with
  | true => rw [if_pos rfl]; exact k
  | false => rw [if_neg Bool.false_ne_true]; exact h rfl Q k
theorem br_andV {a b : Bool} {u : TE} (h : a = true → ∀ Q' : VK, Q' (.bl b) H → u σ H Q') (k : Q (.bl (a && b)) H) : qAndV u σ Q a H := by
  unfold qAndV
  cases a with
  | true => rw [if_pos rfl]; exact h rfl Q k
  | false => rw [if_neg Bool.false_ne_true]; exact k
theorem br_orV {a b : Bool} {u : TE} (h : a = false → ∀ Q' : VK, Q' (.bl b) H → u σ H Q') (k : Q (.bl (a || b)) H) : qOrV u σ Q a H := by
  unfold qOrV
  cases a with
  | true => rw [if_pos rfl]; exact k
  | false => rw [if_neg Bool.false_ne_true]; exact h rfl Q k
theorem br_chain {a b : Bool} {tc : TE} {r' : R2} (h : a = true → ∀ Q' : VK, Q' (.bl b) H → tc σ H fun w H4 => r' y w H4 Q') (k : Q (.bl (a && b)) H) : qChain tc r' y σ Q a H := by
  unfold qChain
  cases a with
  | true => rw [if_pos rfl]; exact h rfl Q k
  | false => rw [if_neg Bool.false_ne_true]; exact k
/-- .. in general: c is the whole's answer, I holds behind it -/
theorem br_andTM {a c : Bool} {u : TT} {Q : Bool → Hp → Prop} (I : Hp → Prop) (h : a = true → ∀ Q' : Bool → Hp → Prop, (∀ H', I H' → Q' c H') → u σ H Q') (hf : a = false → c = false ∧ I H) (k : ∀ H', I H' → Q c H') : qAndT u σ Q a H := by
  unfold qAndT
  cases a with
  | true => rw [if_pos rfl]; exact h rfl Q k
  | false => rw [if_neg Bool.false_ne_true]; have := k H (hf rfl).2; rw [(hf rfl).1] at this; exact this
theorem br_orTM {a c : Bool} {u : TT} {Q : Bool → Hp → Prop} (I : Hp → Prop) (h : a = false → ∀ Q' : Bool → Hp → Prop, (∀ H', I H' → Q' c H') → u σ H Q') (hf : a = true → c = true ∧ I H) (k : ∀ H', I H' → Q c H') : qOrT u σ Q a H := by
  unfold qOrT
  cases a with
  | true => rw [if_pos rfl]; have := k H (hf rfl).2; rw [(hf rfl).1] at this; exact this
  | false => rw [if_neg Bool.false_ne_true]; exact h rfl Q k
theorem br_andVM {a c : Bool} {u : TE} (I : Hp → Prop) (h : a = true → ∀ Q' : VK, (∀ H', I H' → Q' (.bl c) H') → u σ H Q') (hf : a = false → c = false ∧ I H) (k : ∀ H', I H' → Q (.bl c) H') : qAndV u σ Q a H := by
  unfold qAndV
  cases a with
  | true => rw [if_pos rfl]; exact h rfl Q k
  | false => rw [if_neg Bool.false_ne_true]; have := k H (hf rfl).2; rw [(hf rfl).1] at this; exact this
theorem br_orVM {a c : Bool} {u : TE} (I : Hp → Prop) (h : a = false → ∀ Q' : VK, (∀ H', I H' → Q' (.bl c) H') → u σ H Q') (hf : a = true → c = true ∧ I H) (k : ∀ H', I H' → Q (.bl c) H') : qOrV u σ Q a H := by
  unfold qOrV
  cases a with
  | true => rw [if_pos rfl]; have := k H (hf rfl).2; rw [(hf rfl).1] at this; exact this
  | false => rw [if_neg Bool.false_ne_true]; exact h rfl Q k
theorem n_and {t u : TT} {Q : Bool → Hp → Prop} (h : t σ H (qAndT u σ Q)) : tAnd t u σ H Q := h
theorem n_or {t u : TT} {Q : Bool → Hp → Prop} (h : t σ H (qOrT u σ Q)) : tOr t u σ H Q := h
theorem n_not {t : TT} {Q : Bool → Hp → Prop} (h : t σ H fun c H1 => Q (!c) H1) : tNot t σ H Q := h
theorem n_tB {t : TE} {Q : Bool → Hp → Prop} (h : t σ H (qT Q)) : tB t σ H Q := h
theorem n_andV {ta tb : TE} (h : ta σ H (qT (qAndV tb σ Q))) : tAndV ta tb σ H Q := h
theorem n_orV {ta tb : TE} (h : ta σ H (qT (qOrV tb σ Q))) : tOrV ta tb σ H Q := h
theorem n_notV {ta : TE} (h : ta σ H (qT fun c H1 => Q (.bl (!c)) H1)) : tNotV ta σ H Q := h
theorem n_ifE {t : TT} {ta tb : TE} (h : t σ H (qIfE ta tb σ Q)) : tIf t ta tb σ H Q := h
theorem n_chain {r r' : R2} {ta tb tc : TE} (h : ta σ H fun x H1 => tb σ H1 fun y H2 => r x y H2 (qT (qChain tc r' y σ Q))) : tChain r r' ta tb tc σ H Q := h
theorem n_aug {te : TE} {ti : TIp} {n : Nat} (h : σ[n]? = some (some x)) (k : te σ H fun y H1 => ti x y H1 fun z H2 => nx (σ.set n (some z)) H2) : tAug n te ti ⟨nx, rt, bk, ct⟩ σ H := ⟨x, h, k⟩
theorem v_ip {f : Int → Int → Int} (k : Q (.int (f i j)) H) : ipI f (.int i) (.int j) H Q := ⟨i, j, rfl, rfl, k⟩
theorem n_sub {to ti : TE} {st : TSet} {R : L2.St → Hp → Prop} (h : to σ H fun o H1 => ti σ H1 fun i H2 => st o i v H2 fun H3 => R σ H3) : gSub to ti st v σ H R := h
def qPar (σ : L2.St) (i j : Nat) (R : L2.St → Hp → Prop) : List V → Hp → Prop := fun vs H1 => ∃ v w, vs = [v, w] ∧ R ((σ.set i (some v)).set j (some w)) H1
theorem n_par {i j : Nat} {t : TA} (h : t σ H (qPar σ i j nx)) : tPar i j t ⟨nx, rt, bk, ct⟩ σ H := h
theorem v_par {i j : Nat} {τ : L2.St} {R : L2.St → Hp → Prop} (e : (σ.set i (some v)).set j (some w) = τ) (k : R τ H) : qPar σ i j R [v, w] H := ⟨v, w, rfl, by rw [e]; exact k⟩
end
end U
set_option Elab.async false
set_option linter.all false
set_option maxRecDepth 100000
set_option maxHeartbeats 4000000
namespace U
open PySem PySem.Spec L2
section
variable {K : PySem.W.Frag} {σ σ' : L2.St} {H F H' F0 H0 : Hp} {Q : VK} {i j : Int} {x y z v w : V} {α β γ : Type} {t : Rp α} {p q : Addr} {vs us : List V} {xs zs ys : List α} {D : Ends} {W : List Addr} {o u : HO}
def catLM (xs zs : List α) : Option (List α) := need (szB (xs.length + zs.length)) (xs ++ zs)
def snocM (xs : List α) (a : α) : Option (List α) := need (decide (xs.length < 16777216)) (xs ++ [a])
theorem v_catF (hs : Sub F H) (hp : H p = some (.lst vs)) (hq : H q = some (.lst us)) (hr : Al t F vs xs) (hr' : Al t F us zs) (h : catLM xs zs = some ys)
    (k : ∀ p' us' F' H', Gr [] F H F' H' → F' p' = some (.lst us') → Al t F' us' ys → Q (.ref p') H') : rCat (.ref p) (.ref q) H Q := by
  obtain ⟨h1, rfl⟩ := need_ok h
  exact ⟨p, q, vs, us, rfl, rfl, hp, hq, by rw [al_len hr, al_len hr']; exact sz_ok h1, fun p' hp' => k p' _ _ _ (gr_newF hs hp') upd_same (Al.mono (pd_append hr hr') (Sub.up1 (hs.nn hp')))⟩
theorem v_catM (hs : Sub F H) (hp : H p = some (.lst vs)) (hq : H q = some (.lst us)) (hr : Al t F vs xs) (hr' : Al t F us zs) (h : catLM xs zs = some ys)
    (k : ∀ p' us' H', H p' = none → Gr [] F H F H' → F p' = none → H' p' = some (.lst us') → Al t F us' ys → Q (.ref p') H') : rCat (.ref p) (.ref q) H Q := by
  obtain ⟨h1, rfl⟩ := need_ok h
  exact ⟨p, q, vs, us, rfl, rfl, hp, hq, by rw [al_len hr, al_len hr']; exact sz_ok h1, fun p' hp' => k p' _ _ hp' (gr_newM hs hp') (hs.nn hp') upd_same (pd_append hr hr')⟩
theorem pd_rep {n : Nat} (hr : Al t F vs xs) : Al t F (List.replicate n vs).flatten (repL xs n) := by
  unfold repL
  induction n with
  | zero => exact .nil
  | succ n ih => rw [List.replicate_succ, List.replicate_succ, List.flatten_cons, List.flatten_cons]; exact pd_append hr ih
theorem v_repF (hs : Sub F H) (hp : H p = some (.lst vs)) (hr : Al t F vs xs) (h : repM xs i = some ys)
    (k : ∀ p' us' F' H', Gr [] F H F' H' → F' p' = some (.lst us') → Al t F' us' ys → Q (.ref p') H') : rRep (.ref p) (.int i) H Q := by
  obtain ⟨h1, rfl⟩ := need_ok h
  rw [Bool.and_eq_true] at h1
  have h2 := of_decide_eq_true h1.1
  exact ⟨p, i, vs, rfl, rfl, hp, h2.1, h2.2, by rw [al_len hr]; exact sz_ok h1.2, fun p' hp' => k p' _ _ _ (gr_newF hs hp') upd_same (Al.mono (pd_rep hr) (Sub.up1 (hs.nn hp')))⟩
theorem v_repM (hs : Sub F H) (hp : H p = some (.lst vs)) (hr : Al t F vs xs) (h : repM xs i = some ys)
    (k : ∀ p' us' H', H p' = none → Gr [] F H F H' → F p' = none → H' p' = some (.lst us') → Al t F us' ys → Q (.ref p') H') : rRep (.ref p) (.int i) H Q := by
  obtain ⟨h1, rfl⟩ := need_ok h
  rw [Bool.and_eq_true] at h1
  have h2 := of_decide_eq_true h1.1
  exact ⟨p, i, vs, rfl, rfl, hp, h2.1, h2.2, by rw [al_len hr]; exact sz_ok h1.2, fun p' hp' => k p' _ _ hp' (gr_newM hs hp') (hs.nn hp') upd_same (pd_rep hr)⟩
theorem v_slLF {lo hi : Option Int} (hs : Sub F H) (hq : SqL K H p vs) (hr : Al t F vs xs) (k : ∀ p' us' F' H', Gr [] F H F' H' → F' p' = some (.lst us') → Al t F' us' (cutL xs lo hi) → Q (.ref p') H') : rSlL K (.ref p) lo hi H Q :=
  ⟨p, vs, rfl, hq, fun p' hp' => k p' _ _ _ (gr_newF hs hp') upd_same (Al.mono (cut_al hr) (Sub.up1 (hs.nn hp')))⟩
theorem v_slLM {lo hi : Option Int} (hs : Sub F H) (hq : SqL K H p vs) (hr : Al t F vs xs) (k : ∀ p' us' H', H p' = none → Gr [] F H F H' → F p' = none → H' p' = some (.lst us') → Al t F us' (cutL xs lo hi) → Q (.ref p') H') : rSlL K (.ref p) lo hi H Q :=
  ⟨p, vs, rfl, hq, fun p' hp' => k p' _ _ hp' (gr_newM hs hp') (hs.nn hp') upd_same (cut_al hr)⟩
theorem v_ixQ {ns : List Int} {a : Int} (hs : Sub F H) (hr : (eQ K).r F x ns) (h : atI ns i = some a) (k : Q (.int a) H) : rIxL K x (.int i) H Q := by
  obtain ⟨p, rfl, hq⟩ := hr
  obtain ⟨v, e, r⟩ := al_at (al_ofint (F := F) ns) h
  have r' : v = .int a := r
  subst r'
  exact ⟨p, _, i, _, rfl, rfl, hs.l hq, e, k⟩
theorem v_lenQ {ns : List Int} (hs : Sub F H) (hr : (eQ K).r F x ns) (k : Q (.int (ns.length : Int)) H) : qLen K [x] H Q := by
  obtain ⟨p, rfl, hq⟩ := hr
  exact ⟨p, _, rfl, .inl (hs.l hq), by rw [List.length_map]; exact k⟩
theorem snoc_lt {a : α} (hr : Al t F vs xs) (h : snocM xs a = some ys) : vs.length < sizeLine := by
  obtain ⟨h1, _⟩ := need_ok h
  rw [al_len hr, sizeLine_eq]; exact of_decide_eq_true h1
theorem app_ok {a : α} (g : Gr W F0 H0 F H) (m : Mu W H0 F H p (.lst vs)) (hr : Al t F vs xs) (h : snocM xs a = some ys) (ha : t.r F y a) :
    ∃ vs' H', Gr W F0 H0 F H' ∧ Al t F vs' ys ∧ vs' = vs ++ [y] ∧ H' = upd H p (.lst vs') := by
  obtain ⟨_, rfl⟩ := need_ok h
  exact ⟨_, _, m.gr g, pd_snoc hr ha, rfl, rfl⟩
theorem cat_le (hr : Al t F vs xs) (hr' : Al t F us zs) (h : catLM xs zs = some ys) : vs.length + us.length ≤ sizeLine := by
  obtain ⟨h1, _⟩ := need_ok h
  rw [al_len hr, al_len hr']; exact sz_ok h1
theorem ext_ok (g : Gr W F0 H0 F H) (m : Mu W H0 F H p (.lst vs)) (hr : Al t F vs xs) (hr' : Al t F us zs) (h : catLM xs zs = some ys) :
    ∃ vs' H', Gr W F0 H0 F H' ∧ Al t F vs' ys ∧ vs' = vs ++ us ∧ H' = upd H p (.lst vs') := by
  obtain ⟨_, rfl⟩ := need_ok h
  exact ⟨_, _, m.gr g, pd_append hr hr', rfl, rfl⟩
theorem pop_ok (g : Gr W F0 H0 F H) (m : Mu W H0 F H p (.lst vs)) : ∃ vs' H', Gr W F0 H0 F H' ∧ vs' = vs.dropLast ∧ H' = upd H p (.lst vs') := ⟨_, _, m.gr g, rfl, rfl⟩
theorem st_ok (g : Gr W F0 H0 F H) (m : Mu W H0 F H p o) (us : List V) : ∃ vs' H', Gr W F0 H0 F H' ∧ vs' = us ∧ H' = upd H p (.lst vs') := ⟨_, _, m.gr g, rfl, rfl⟩
theorem mu_self (m : Mu W H0 F H p o) (e : H' = upd H p u) : Mu W H0 F H' p u := by subst e; exact m.self
theorem mu_oth (m : Mu W H0 F H q o) (ne : q ≠ p) (e : H' = upd H p u) : Mu W H0 F H' q o := by subst e; exact m.mut ne
theorem freeze (g : Gr W F0 H0 F H) (m : Mu W H0 F H p o) (h0 : H0 p = none) : ∃ F', F' p = some o ∧ Sub F F' ∧ Gr W F0 H0 F' H ∧ (∀ q u, q ≠ p → Mu W H0 F H q u → Mu W H0 F' H q u) :=
  ⟨upd F p o, upd_same, Sub.up1 m.fr, g.frz m.fr m.hp h0, fun _ _ ne m' => m'.frz ne⟩
theorem wipe_to {ws : List Nat} {g : TG} {R : L2.St → Hp → Prop} (e : wipe σ ws = σ') (k : g x σ' H R) : g x (wipe σ ws) H R := by rw [e]; exact k
theorem set_to {n : Nat} {R : L2.St → Hp → Prop} {v : Option V} (e : σ.set n v = σ') (k : R σ' H) : R (σ.set n v) H := by rw [e]; exact k
theorem n_cutI {b : Bool} {ta tb : TE} (x : Int) (h : ∀ Q' : VK, Q' (.int x) H → qIfE ta tb σ Q' b H) (k : Q (.int x) H) : qIfE ta tb σ Q b H := h Q k
theorem n_cutB {b : Bool} {ta tb : TE} (x : Bool) (h : ∀ Q' : VK, Q' (.bl x) H → qIfE ta tb σ Q' b H) (k : Q (.bl x) H) : qIfE ta tb σ Q b H := h Q k
theorem n_cutS {b : Bool} {ta tb : TE} (x : Sg) (h : ∀ Q' : VK, (x.length ≤ sizeLine → Q' (.str (S x)) H) → qIfE ta tb σ Q' b H) (k : x.length ≤ sizeLine → Q (.str (S x)) H) : qIfE ta tb σ Q b H := h Q k
def thenF {σ ρ β : Type} (z : Fl σ ρ) (k : σ → Option β) (e : ρ → Option β) : Option β := match z with
  | .nx s => k s
  | .rt r => e r
theorem thenF_nx {σ ρ β : Type} {s : σ} {k : σ → Option β} {e : ρ → Option β} {b : Option β} (h : thenF (.nx s) k e = b) : k s = b := h
theorem thenF_rt {σ ρ β : Type} {z : Fl σ ρ} {r : ρ} {k : σ → Option β} {e : ρ → Option β} {b : Option β} (hz : z = .rt r) (h : thenF z k e = b) : e r = b := by subst hz; exact h
theorem n_yes {R : Bool → Hp → Prop} {A B : Prop} (k : A) (e : R true H = (if true = true then A else B)) : tYes σ H R := by show R true H; rw [e, if_pos rfl]; exact k
theorem nin1 {a p : Addr} (h : a ≠ p) : a ∉ [p] := by simp [h]
theorem nin2 {a p q : Addr} (h : a ≠ p) (h' : a ≠ q) : a ∉ [p, q] := by simp [h, h']
end
/-- a def of the text -/
abbrev FnP (K : PySem.W.Frag) (x : Str) (st : Stmt) (f : Addr) (fd : FuncData) : Prop := FunD K x x (defArgs st) (defBody st) (defScope st) [] [] f fd
theorem c_isi {X : Cx} {K : PySem.W.Frag} (hK : X.K = K) : CallR X (.builtin "isinstance") (rIsi K) := by subst hK; exact call_isi
section
variable {X : Cx} {K : PySem.W.Frag} {name id T : String} {o e : Expr} {es : List Expr} {to : TE} {t : TA} {apos pos : Pos} {nm : Str} {r : V → List V → Hp → VK → Prop}
theorem c_bm {cpos : Pos} (hK : X.K = K) (pa : PlainAttrs T) (slot : Slot T name id) (hty : typeOf (.builtin id) = pure (.type "method_descriptor")) (hm : MtR X id r) (ho : PE X o to) (ha : PA X (e :: es) t)
    (h1 : attributeBase o name X.env (eval o X.env) = eval o X.env := by rfl)
    (h2 : (((((backTo cpos (starEach (e :: es) X.env)).all fun x => !x.fst) && (backToKw cpos (keywordEach [] X.env)).all fun x => x.fst.isSome) && decide (((e :: es).length + ([] : List Keyword).length + if ([] : List Keyword).isEmpty = true then 0 else 1) < 30)) = true) := by rfl)
    (h3 : (apos.endLine == cpos.line) = true := by rfl) (h4 : starEach (e :: es) X.env = (false, eval e X.env) :: starEach es X.env := by rfl) (h5 : ((backTo cpos (starEach es X.env)).any fun x => x.fst) = false := by rfl) :
    PE X (.Call (.Attribute o name apos) (e :: es) [] cpos) (tBM K T r to t) := by subst hK; exact pe_bm pa slot hty hm ho ha h1 h2 h3 h4 h5
theorem c_bm0 {cpos : Pos} (hK : X.K = K) (pa : PlainAttrs T) (slot : Slot T name id) (hty : typeOf (.builtin id) = pure (.type "method_descriptor")) (hm : MtR X id r) (ho : PE X o to)
    (h1 : attributeBase o name X.env (eval o X.env) = eval o X.env := by rfl) (h3 : (apos.endLine == cpos.line) = true := by rfl) :
    PE X (.Call (.Attribute o name apos) [] [] cpos) (tBM0 K T r to) := by subst hK; exact pe_bm0 pa slot hty hm ho h1 h3
end
def Has (P : Program) (w : World) (K : PySem.W.Frag) (mg : Str → Option Value) (base : Heap) (x : Str) (ps : List Str) (k : Nat) (sp : Sp) : Prop :=
  ∃ f fd, FnOk P w K mg base CX0 k f fd ps sp ∧ mg x = some (.ref f) ∧ PySem.W.keepIn K (.ref f) = true ∧ Binds K fd ps []
end U
namespace U
open PySem PySem.Spec L2
theorem bo_len : bootBuiltins "len" = some (.builtin "len") := by decide +kernel
theorem bo_max : bootBuiltins "max" = some (.builtin "max") := by decide +kernel
theorem bo_min : bootBuiltins "min" = some (.builtin "min") := by decide +kernel
theorem bo_sum : bootBuiltins "sum" = some (.builtin "sum") := by decide +kernel
theorem bo_all : bootBuiltins "all" = some (.builtin "all") := by decide +kernel
theorem bo_any : bootBuiltins "any" = some (.builtin "any") := by decide +kernel
theorem bo_sorted : bootBuiltins "sorted" = some (.builtin "sorted") := by decide +kernel
theorem bo_repr : bootBuiltins "repr" = some (.builtin "repr") := by decide +kernel
theorem bo_isinstance : bootBuiltins "isinstance" = some (.builtin "isinstance") := by decide +kernel
theorem bo_int : bootBuiltins "int" = some (.type "int") := by decide +kernel
theorem bo_bool : bootBuiltins "bool" = some (.type "bool") := by decide +kernel
theorem bo_str : bootBuiltins "str" = some (.type "str") := by decide +kernel
theorem bo_tuple : bootBuiltins "tuple" = some (.type "tuple") := by decide +kernel
theorem bo_list : bootBuiltins "list" = some (.type "list") := by decide +kernel
theorem bo_dict : bootBuiltins "dict" = some (.type "dict") := by decide +kernel
theorem bo_set : bootBuiltins "set" = some (.type "set") := by decide +kernel
theorem bo_type : bootBuiltins "type" = some (.type "type") := by decide +kernel
section
variable {K : PySem.W.Frag} {H F : Hp} {Q : VK} {x : V} {T U : String} {b : Bool}
theorem v_isi (ty : TyX K H x (.type T)) (h : kitB T U = some b) (k : Q (.bl b) H) : rIsi K [x, .ty U] H Q := ⟨x, .ty U, _, _, b, rfl, .ty U, ty, kit_ty h, k⟩
theorem ty_frz {α β : Type} {ta : Rp α} {tb : Rp β} {m : α × β} (hs : Sub F H) (h : (eP2 ta tb).r F x m) : TyX K H x (.type "tuple") := by
  obtain ⟨p, y, z, rfl, q, _⟩ := h
  exact .base (.tup (hs _ _ q))
theorem ty_frz3 {α β γ : Type} {ta : Rp α} {tb : Rp β} {tc : Rp γ} {m : α × β × γ} (hs : Sub F H) (h : (eP3 ta tb tc).r F x m) : TyX K H x (.type "tuple") := by
  obtain ⟨p, y, z, w, rfl, q, _⟩ := h
  exact .base (.tup (hs _ _ q))
theorem ty_vt {α : Type} {ta : Rp α} {m : List α} (hs : Sub F H) (h : (eT ta).r F x m) : TyX K H x (.type "tuple") := by
  obtain ⟨p, vs, rfl, q, _⟩ := h
  exact .base (.tup (hs _ _ q))
theorem ty_list {α : Type} {ta : Rp α} {m : List α} (hs : Sub F H) (h : (eL ta).r F x m) : TyX K H x (.type "list") := by
  obtain ⟨p, vs, rfl, q, _⟩ := h
  exact .base (.lst (hs _ _ q))
end
end U
set_option Elab.async false
set_option linter.all false
set_option maxRecDepth 100000
set_option maxHeartbeats 4000000
namespace U
open PySem PySem.Spec L2
/-! ### plain: what a mirror gives -/
section
variable {α β σ ρ : Type} {P Q : α → Prop} {R : β → Prop} {x : Option α} {f : α → Option β} {a : α}
def Ret (x : Option α) (P : α → Prop) : Prop := ∃ a, x = some a ∧ P a
theorem Ret.pure (h : P a) : Ret (some a) P := ⟨a, rfl, h⟩
theorem Ret.bind (h : Ret x P) (k : ∀ a, P a → Ret (f a) R) : Ret (x.bind f) R := by
  obtain ⟨a, rfl, p⟩ := h
  exact k a p
theorem Ret.mono (h : Ret x P) (k : ∀ a, P a → Q a) : Ret x Q := by
  obtain ⟨a, e, p⟩ := h
  exact ⟨a, e, k a p⟩
theorem Ret.eq (h : x = some a) (k : Ret (f a) R) : Ret (x.bind f) R := by subst h; exact k
theorem Ret.of (h : x = some a) (p : P a) : Ret x P := ⟨a, h, p⟩
theorem ret_need {c : Bool} (h : c = true) (k : Ret (f a) R) : Ret ((need c a).bind f) R := by subst h; exact k
theorem need_eq {c : Bool} (h : c = true) : need c a = some a := by subst h; rfl
theorem Ret.ite {c : Bool} {x y : Option α} (h1 : c = true → Ret x P) (h2 : c = false → Ret y P) : Ret (if c = true then x else y) P := by
  cases c with
  | true => rw [if_pos rfl]; exact h1 rfl
  | false => rw [if_neg Bool.false_ne_true]; exact h2 rfl
theorem atI_of {xs : List α} {i : Int} {a : α} (h0 : 0 ≤ i) (h : xs[i.toNat]? = some a) : atI xs i = some a := by
  have := atI_nat h
  rw [show ((i.toNat : Nat) : Int) = i by omega] at this
  exact this
theorem atI_lt {xs : List α} {i : Int} (h0 : 0 ≤ i) (h : i < xs.length) : atI xs i = some (xs[i.toNat]'(by omega)) := atI_of h0 (List.getElem?_eq_getElem (by omega))
theorem ret_at {xs : List α} {i : Int} (h0 : 0 ≤ i) (h : i < xs.length) : Ret (atI xs i) (fun a => xs[i.toNat]? = some a) := ⟨_, atI_lt h0 h, List.getElem?_eq_getElem (by omega)⟩
theorem atI_neg {xs : List α} {i : Int} (h0 : i < 0) (h : -(xs.length : Int) ≤ i) : atI xs i = xs[(i + xs.length).toNat]? := by
  unfold atI ixN
  rw [if_neg (by omega), if_pos h]
  rfl
theorem ixN_of {n : Nat} {i : Int} (h0 : 0 ≤ i) (h : i < n) : ixN n i = some i.toNat := by
  unfold ixN
  rw [if_pos h0, if_pos h]
theorem setM_of {xs : List α} {i : Int} {a : α} (h0 : 0 ≤ i) (h : i < xs.length) : setM xs i a = some (xs.set i.toNat a) := by
  unfold setM
  rw [ixN_of h0 h]; rfl
theorem szB_of {n : Nat} (h : n ≤ 16777216) : szB n = true := decide_eq_true h
theorem snocM_of {xs : List α} {a : α} (h : xs.length < 16777216) : snocM xs a = some (xs ++ [a]) := need_eq (decide_eq_true h)
theorem catLM_of {xs ys : List α} (h : xs.length + ys.length ≤ 16777216) : catLM xs ys = some (xs ++ ys) := need_eq (szB_of h)
theorem catM_of {xs ys : Sg} (h : xs.length + ys.length ≤ 16777216) : catM xs ys = some (xs ++ ys) := need_eq (szB_of h)
theorem modM_of {i j : Int} (h : 0 < j) : modM i j = some (i % j) := need_eq (decide_eq_true h)
theorem divM_of {i j : Int} (h : 0 < j) (h2 : j < 1073741824) : divM i j = some (i / j) := need_eq (decide_eq_true ⟨h, h2⟩)
theorem mulM_of {i j : Int} (h : (-(2 ^ 64) < i ∧ i < 2 ^ 64) ∨ (-(2 ^ 64) < j ∧ j < 2 ^ 64)) : mulM i j = some (i * j) := by
  refine need_eq ?_
  unfold mulB
  rcases h with h | h
  · rw [decide_eq_true h]; rfl
  · rw [decide_eq_true h, Bool.or_true]
theorem uptoM_of {lo hi : Int} (h1 : -(2 ^ 62) ≤ lo) (h2 : lo < 2 ^ 62) (h3 : -(2 ^ 62) ≤ hi) (h4 : hi < 2 ^ 62) : uptoM lo hi = some (upto lo hi) := by
  refine need_eq ?_
  unfold rngB
  rw [decide_eq_true ⟨h1, h2⟩, decide_eq_true ⟨h3, h4⟩]; rfl
theorem upto_get {lo hi : Int} {i : Nat} {a : Int} (h : (upto lo hi)[i]? = some a) : a = lo + i ∧ lo + i < hi := by
  unfold upto at h
  rw [List.getElem?_map] at h
  cases e : (List.range (hi - lo).toNat)[i]? with
  | none => rw [e] at h; cases h
  | some j =>
    rw [e] at h
    obtain ⟨h1, h2⟩ := List.getElem?_eq_some_iff.mp e
    rw [List.length_range] at h1
    have ej : j = i := by simpa using h2.symm
    subst ej
    have e3 : lo + (j : Int) = a := Option.some.inj h
    exact ⟨e3.symm, by omega⟩
theorem upto_mem {lo hi a : Int} (h : a ∈ upto lo hi) : lo ≤ a ∧ a < hi := by
  obtain ⟨i, hi'⟩ := List.getElem?_of_mem h
  have := upto_get hi'
  omega
theorem mx_eq (i j : Int) : mx i j = max i j := by unfold mx; split <;> omega
theorem mn_eq (i j : Int) : mn i j = min i j := by unfold mn; split <;> omega
theorem ret_foldO {xs : List α} {s : σ} {f : σ → α → Option σ} (I : Nat → σ → Prop) (h0 : I 0 s) (step : ∀ i s x, xs[i]? = some x → I i s → Ret (f s x) (I (i + 1))) : Ret (foldO xs s f) (I xs.length) := by
  induction xs generalizing s I with
  | nil => exact ⟨s, rfl, h0⟩
  | cons x xs ih =>
    obtain ⟨s', e, h1⟩ := step 0 s x rfl h0
    have := ih (s := s') (fun i => I (i + 1)) h1 fun i s y hy hi => step (i + 1) s y (by simpa using hy) hi
    obtain ⟨z, e2, h2⟩ := this
    refine ⟨z, ?_, by simpa using h2⟩
    show (f s x).bind _ = _
    rw [e]; exact e2
theorem ret_foldR {xs : List α} {s : σ} {f : σ → α → Option (Fl σ ρ)} (I : Nat → σ → Prop) (h0 : I 0 s) (step : ∀ i s x, xs[i]? = some x → I i s → Ret (f s x) (fun z => ∃ s', z = .nx s' ∧ I (i + 1) s')) :
    Ret (foldR xs s f) (fun z => ∃ s', z = .nx s' ∧ I xs.length s') := by
  induction xs generalizing s I with
  | nil => exact ⟨_, rfl, s, rfl, h0⟩
  | cons x xs ih =>
    obtain ⟨_, e, s', rfl, h1⟩ := step 0 s x rfl h0
    have := ih (s := s') (fun i => I (i + 1)) h1 fun i s y hy hi => step (i + 1) s y (by simpa using hy) hi
    obtain ⟨z, e2, h2⟩ := this
    refine ⟨z, ?_, by simpa using h2⟩
    show (f s x).bind _ = _
    rw [e]; exact e2
theorem ret_whileO {n : Nat} {s : σ} {c : σ → Option Bool} {b : σ → Option σ} (I : σ → Prop) (μ : σ → Nat) (h0 : I s) (hn : μ s < n)
    (step : ∀ s, I s → Ret (c s) (fun t => t = true → Ret (b s) (fun s' => I s' ∧ μ s' < μ s))) : Ret (whileO n s c b) (fun s => I s ∧ c s = some false) := by
  induction n generalizing s with
  | zero => omega
  | succ n ih =>
    obtain ⟨t, e, h⟩ := step s h0
    unfold whileO
    rw [e]
    cases t with
    | false => exact ⟨s, rfl, h0, e⟩
    | true =>
      obtain ⟨s', e2, h1, h2⟩ := h rfl
      show Ret ((b s).bind _) _
      rw [e2]
      exact ih h1 (by omega)
theorem compS_of {xs : List α} {f : α → Option (Option β)} (g : α → Option β) (h : ∀ x ∈ xs, f x = some (g x)) : compS xs f = some (xs.filterMap g) := by
  induction xs with
  | nil => rfl
  | cons x xs ih =>
    show (f x).bind _ = _
    rw [h x (by simp)]
    show (compS xs f).bind _ = _
    rw [ih fun y hy => h y (by simp [hy])]
    show some _ = some _
    rw [List.filterMap_cons]
    cases g x <;> rfl
theorem compS_map {xs : List α} {f : α → Option (Option β)} (g : α → β) (h : ∀ x ∈ xs, f x = some (some (g x))) : compS xs f = some (xs.map g) := by
  rw [compS_of (fun x => some (g x)) h]
  congr 1
  rw [List.filterMap_eq_map']
/-- items made one by one, each with a property -/
theorem ret_compS {xs : List α} {f : α → Option (Option β)} (P : β → Prop) (h : ∀ x ∈ xs, Ret (f x) (fun r => ∃ y, r = some y ∧ P y)) : Ret (compS xs f) (fun ys => ys.length = xs.length ∧ ∀ y ∈ ys, P y) := by
  induction xs with
  | nil => exact ⟨[], rfl, rfl, by simp⟩
  | cons x xs ih =>
    obtain ⟨_, e, y, rfl, p⟩ := h x (by simp)
    obtain ⟨ys, e2, l, q⟩ := ih fun z hz => h z (by simp [hz])
    refine ⟨y :: ys, ?_, by simp [l], by simp; exact ⟨p, q⟩⟩
    show (f x).bind _ = _
    rw [e]
    show (compS xs f).bind _ = _
    rw [e2]; rfl
theorem cutL_from {xs : List α} {a : Int} (h : 0 ≤ a) : cutL xs (some a) none = xs.drop a.toNat := by
  unfold cutL
  obtain ⟨n, rfl⟩ : ∃ n : Nat, a = n := ⟨a.toNat, by omega⟩
  rw [HT.sIx_nat, HT.sIx_none, Int.toNat_natCast]
  by_cases hn : n ≤ xs.length
  · rw [Nat.min_eq_left hn]
    exact List.take_of_length_le (by rw [List.length_drop]; omega)
  · rw [Nat.min_eq_right (by omega)]
    simp
    omega
theorem cutL_to {xs : List α} {b : Int} (h : 0 ≤ b) : cutL xs none (some b) = xs.take b.toNat := by
  unfold cutL
  obtain ⟨n, rfl⟩ : ∃ n : Nat, b = n := ⟨b.toNat, by omega⟩
  rw [HT.sIx_nat, HT.sIx_none, Int.toNat_natCast]
  rw [List.drop_zero, Nat.sub_zero]
  by_cases hn : n ≤ xs.length
  · rw [Nat.min_eq_left hn]
  · rw [Nat.min_eq_right (by omega), List.take_of_length_le (Nat.le_refl _), List.take_of_length_le (by omega)]
theorem joinL_nil : ∀ xs : List Sg, TL.joinL [] xs = xs.flatten
  | [] => rfl
  | [x] => by simp [TL.joinL]
  | x :: y :: r => by
    show x ++ ([] ++ TL.joinL [] (y :: r)) = _
    rw [joinL_nil (y :: r)]
    simp
theorem joinM_of {sep : Sg} {xs : List Sg} (h : (xs.map List.length).sum + xs.length * sep.length ≤ 16777216) : joinM sep xs = some (TL.joinL sep xs) := need_eq (szB_of h)
end
end U
set_option Elab.async false
set_option linter.all false
set_option maxRecDepth 100000
set_option maxHeartbeats 4000000
namespace U
open PySem PySem.Spec L2
/-! ### trees, words: plain -/
abbrev Tre := List Int × Sg
inductive Anc (ups : List Int) : Nat → Nat → Prop where
  | refl (k : Nat) : Anc ups k k
  | up {k a : Nat} {u : Int} (h : ups[k]? = some u) (hu : 0 ≤ u) (r : Anc ups u.toNat a) : Anc ups k a
theorem get_app {α : Type} {xs ys : List α} {i : Nat} {a : α} (h : xs[i]? = some a) : (xs ++ ys)[i]? = some a := by
  rw [List.getElem?_append_left (List.getElem?_eq_some_iff.mp h).1]; exact h
theorem Anc.app {ups more : List Int} {k a : Nat} (h : Anc ups k a) : Anc (ups ++ more) k a := by
  induction h with
  | refl k => exact .refl k
  | up h hu _ ih => exact .up (get_app h) hu ih
theorem Anc.trans {ups : List Int} {k a b : Nat} (h : Anc ups k a) (h' : Anc ups a b) : Anc ups k b := by
  induction h with
  | refl k => exact h'
  | up h hu _ ih => exact .up h hu (ih h')
structure UpsOk (ups : List Int) : Prop where
  root : ups[0]? = some (-1)
  up : ∀ (k : Nat) (u : Int), 0 < k → ups[k]? = some u → 0 ≤ u ∧ u < k
  ch : ∀ (k : Nat) (u : Int), 0 < k → ups[k]? = some u → Anc ups (k - 1) u.toNat
structure TreeOk (t : Tre) : Prop where
  len : t.1.length = t.2.length
  most : t.1.length ≤ 60
  ups : UpsOk t.1
  low : ∀ c ∈ t.2, 97 ≤ c ∧ c ≤ 122
theorem UpsOk.pos {ups : List Int} (h : UpsOk ups) : 0 < ups.length := by
  have := h.root
  cases ups with
  | nil => cases this
  | cons _ _ => simp
theorem UpsOk.one : UpsOk [-1] := ⟨rfl, fun k u hk h => by
  cases k with
  | zero => omega
  | succ k => simp at h, fun k u hk h => by
  cases k with
  | zero => omega
  | succ k => simp at h⟩
theorem UpsOk.snoc {ups : List Int} {p : Int} (h : UpsOk ups) (h0 : 0 ≤ p) (hp : p < ups.length) (ha : Anc ups (ups.length - 1) p.toNat) : UpsOk (ups ++ [p]) := by
  have hl := h.pos
  refine ⟨get_app h.root, fun k u hk e => ?_, fun k u hk e => ?_⟩
  · by_cases hlt : k < ups.length
    · rw [List.getElem?_append_left hlt] at e; exact h.up k u hk e
    · rw [List.getElem?_append_right (by omega)] at e
      have hk2 : k = ups.length := by
        by_cases h9 : k - ups.length = 0
        · omega
        · rw [List.getElem?_eq_none (by simp; omega)] at e; cases e
      subst hk2
      simp at e; subst e
      exact ⟨h0, hp⟩
  · by_cases hlt : k < ups.length
    · rw [List.getElem?_append_left hlt] at e; exact (h.ch k u hk e).app
    · rw [List.getElem?_append_right (by omega)] at e
      have hk2 : k = ups.length := by
        by_cases h9 : k - ups.length = 0
        · omega
        · rw [List.getElem?_eq_none (by simp; omega)] at e; cases e
      subst hk2
      simp at e; subst e
      exact ha.app
/-- all come to the root -/
theorem UpsOk.toRoot {ups : List Int} (h : UpsOk ups) : ∀ k, k < ups.length → Anc ups k 0 := by
  intro k
  induction k using Nat.strongRecOn with
  | _ k ih =>
    intro hk
    by_cases h0 : k = 0
    · subst h0; exact .refl 0
    · have e := List.getElem?_eq_getElem hk
      obtain ⟨a, b⟩ := h.up k _ (by omega) e
      exact .up e a (ih _ (by omega) (by omega))
/-- the word of a place -/
def wdF (ups : List Int) (labels : Sg) : Nat → Nat → Sg
  | 0, _ => []
  | n + 1, k => labels.getD k 0 :: (if 0 ≤ ups.getD k (-1) then wdF ups labels n (ups.getD k (-1)).toNat else [])
def wd (t : Tre) (k : Nat) : Sg := wdF t.1 t.2 (k + 1) k
theorem getD_of {α : Type} {xs : List α} {i : Nat} {a d : α} (h : xs[i]? = some a) : xs.getD i d = a := by
  rw [List.getD_eq_getElem?_getD, h]; rfl
theorem wdF_eq {ups : List Int} (labels : Sg) (ok : UpsOk ups) : ∀ (n m k : Nat), k < n → k < m → k < ups.length → wdF ups labels n k = wdF ups labels m k
  | 0, _, _, h, _, _ => by omega
  | _, 0, _, _, h, _ => by omega
  | n + 1, m + 1, k, h1, h2, h3 => by
    unfold wdF
    congr 1
    have e := List.getElem?_eq_getElem h3
    rw [getD_of e]
    by_cases h0 : 0 ≤ ups[k]
    · rw [if_pos h0, if_pos h0]
      by_cases hk : k = 0
      · subst hk
        rw [ok.root] at e
        have e2 : -1 = ups[0] := Option.some.inj e
        omega
      · obtain ⟨a, b⟩ := ok.up k _ (by omega) e
        exact wdF_eq labels ok n m _ (by omega) (by omega) (by omega)
    · rw [if_neg h0, if_neg h0]
theorem wd_root {t : Tre} (ok : UpsOk t.1) : wd t 0 = [t.2.getD 0 0] := by
  unfold wd wdF
  rw [getD_of ok.root]
  rfl
theorem wd_up {t : Tre} (ok : UpsOk t.1) {k : Nat} {u : Int} (h0 : 0 < k) (h : t.1[k]? = some u) : wd t k = t.2.getD k 0 :: wd t u.toNat := by
  have hk := (List.getElem?_eq_some_iff.mp h).1
  obtain ⟨a, b⟩ := ok.up k u h0 h
  show wdF t.1 t.2 (k + 1) k = _ :: wdF t.1 t.2 (u.toNat + 1) u.toNat
  rw [wdF.eq_def]
  simp only [getD_of h, if_pos a]
  rw [wdF_eq t.2 ok k (u.toNat + 1) u.toNat (by omega) (by omega) (by omega)]
theorem wd_len {t : Tre} (ok : UpsOk t.1) : ∀ k, k < t.1.length → 1 ≤ (wd t k).length ∧ (wd t k).length ≤ k + 1 := by
  intro k
  induction k using Nat.strongRecOn with
  | _ k ih =>
    intro hk
    by_cases h0 : k = 0
    · subst h0; rw [wd_root ok]; simp
    · have e := List.getElem?_eq_getElem hk
      obtain ⟨a, b⟩ := ok.up k _ (by omega) e
      rw [wd_up ok (by omega) e]
      have := ih _ (show (t.1[k]).toNat < k by omega) (by omega)
      simp; omega
/-- going up from a place: the word of an int, none below 0 -/
def wdI (t : Tre) (i : Int) : Sg := if 0 ≤ i then wd t i.toNat else []
theorem wdI_eq {t : Tre} (ok : UpsOk t.1) {i u : Int} (h0 : 0 ≤ i) (h : t.1[i.toNat]? = some u) : wdI t i = t.2.getD i.toNat 0 :: wdI t u := by
  unfold wdI
  rw [if_pos h0]
  by_cases hk : i.toNat = 0
  · rw [hk] at h ⊢
    rw [wd_root ok]
    rw [ok.root] at h
    have : u = -1 := (Option.some.inj h).symm
    subst this; rfl
  · obtain ⟨a, b⟩ := ok.up _ u (by omega) h
    rw [if_pos a, wd_up ok (by omega) h]
end U
set_option Elab.async false
set_option linter.all false
set_option maxRecDepth 100000
set_option maxHeartbeats 4000000
namespace G
open PySem PySem.Spec L2 U

def topS (i : Nat) : Stmt := PySem.Challenge.pw_upwords_k07_words_told.main.body.getD i (.Pass ⟨0, 0, 0, 0⟩)
abbrev s_word_of : Stmt := topS 1
abbrev s_word_above : Stmt := topS 2
abbrev s__law_cell_at : Stmt := topS 4
abbrev s__law_pool : Stmt := topS 5
abbrev s__law_take : Stmt := topS 6
abbrev s__law_letters : Stmt := topS 7
abbrev s__law_grown : Stmt := topS 8
abbrev s__law_copies : Stmt := topS 9
abbrev s__law_tree : Stmt := topS 10
abbrev s__law_word : Stmt := topS 11
abbrev s__law_right : Stmt := topS 12
abbrev s_law : Stmt := topS 13
section
variable {P : Program} {w : World} {K : PySem.W.Frag} {mg : Str → Option Value} {base : Heap}
def m_word_of (x_tree : (List Int × Sg)) (x_place : Int) : Option Sg :=
  (atI x_tree.2 x_place).bind fun c5 =>
  (whileO 1000000 (x_place, [[c5]]) (fun s18 =>
  (atI x_tree.1 s18.1).bind fun a29 =>
  some (decide ((0 : Int) ≤ a29))) (fun s36 =>
  (atI x_tree.1 s36.1).bind fun a47 =>
  (atI x_tree.2 a47).bind fun c54 =>
  (snocM s36.2 [c54]).bind fun l55 =>
  some (a47, l55))).bind fun s17 =>
  (joinM ([] : Sg) s17.2).bind fun t69 =>
  some t69
def sp_word_of (K : PySem.W.Frag) : Sp := fun vs H Q _ => ∃ (F : Hp) (v_tree : V) (x_tree : (List Int × Sg)) (v_place : V) (x_place : Int) (r : Sg), vs = [v_tree, v_place] ∧ Sub F H ∧ (eP2 (eT eI) eS).r F v_tree x_tree ∧ eI.r F v_place x_place ∧ m_word_of x_tree x_place = some r ∧ ∀ (v : V) (F' H' : Hp) , Gr [] F H F' H' → eS.r F' v r → Q v H'
theorem sc_word_of : FnScope ["tree", "place", "letters", "ups", "labels"] ["tree", "place"] (defScope s_word_of) := ⟨rfl, rfl, rfl, by decide +kernel, rfl, by decide +kernel, by decide +kernel⟩
theorem ok_word_of {f : Addr} {fd : FuncData} (F : FnP K "word_of" s_word_of f fd)  : FnOk P w K mg base CX0 1 f fd ["tree", "place"] (sp_word_of K) := by
  refine F.ok sc_word_of (fun vs H Q E h => ?_) (fun cdv A outer s H0 vs Q E hr h => ?_)
  · obtain ⟨_, _, _, _, _, _, rfl, _⟩ := h
    rfl
  · obtain ⟨F0, v_tree, x_tree, v_place, x_place, r0, rfl, hs0, r_tree, r_place, hm, hk⟩ := h
    have g0 : Gr [] F0 H0 F0 H0 := Gr.refl hs0
    have er_place : v_place = V.int x_place := r_place
    subst er_place
    refine ⟨_, PSs.nox (pss_cons (ps_asg (pv 0) (c_pgtup (K := K) rfl (by rfl) (pgs_cons (pg_name (i := 3) sc_word_of.nd rfl (by first | exact Or.inl rfl | exact Or.inr rfl)) (pgs_cons (pg_name (i := 4) sc_word_of.nd rfl (by first | exact Or.inl rfl | exact Or.inr rfl)) pgs_nil))))
(pss_cons (ps_set (i := 2) sc_word_of.nd rfl (by first | exact Or.inl rfl | exact Or.inr rfl) (pe_lst (pa_cons (pe_ix ix_str (pv 4) (pv 1) (fun _ _ => rfl)) pa_nil)))
(pss_cons (ps_while PassesOwn.never (pt_cmpR op_ge (pe_ix (c_ixT (K := K) rfl) (pv 3) (pv 1) (fun _ _ => rfl)) pe_int (nomark _)) (pss_cons (ps_set (i := 1) sc_word_of.nd rfl (by first | exact Or.inl rfl | exact Or.inr rfl) (pe_ix (c_ixT (K := K) rfl) (pv 3) (pv 1) (fun _ _ => rfl)))
(pss_one (ps_expr (c_bm (K := K) rfl PySem.F.plainAttrs_list PySem.F.slot_list_append PySem.F.type_list_append mt_append (pv 2) (pa_cons (pe_ix ix_str (pv 4) (pv 1) (fun _ _ => rfl)) pa_nil))))))
(pss_one (ps_ret (c_bm (K := K) rfl PySem.F.plainAttrs_str PySem.F.slot_str_join PySem.F.type_str_join (c_join (K := K) rfl) pe_str (pa_cons (pv 2) pa_nil))))))), ?_⟩
    refine n_seq ?_
    refine n_asg ?_
    refine n_var rfl ?_
    refine v_unp2 g0.fh r_tree fun v1 v3 r2 r4 => ?_
    obtain ⟨er4, lr4⟩ : v3 = V.str (S x_tree.2) ∧ x_tree.2.length ≤ sizeLine := r4
    subst er4
    refine n_gcons ?_
    refine n_name (setS (setS (setS set0))) ?_
    refine n_gcons ?_
    refine n_name (setS (setS (setS (setS set0)))) ?_
    refine n_gnil ?_
    refine n_seq ?_
    refine n_asg ?_
    refine n_lst ?_
    refine n_cons ?_
    refine n_op ?_
    refine n_var rfl ?_
    refine n_var rfl ?_
    obtain ⟨c5, hc5, hm⟩ := bnd hm
    refine v_ixS lr4 hc5 ?_
    refine n_nil ?_
    have al13 : Al eS F0 [.str (S [c5])] [[c5]] := (.cons ⟨rfl, one_le⟩ .nil)
    refine v_mkLM g0.fh rfl fun p6 H7 np8 d9 fp10 hp11 => ?_
    have go14 := g0.old np8
    have g15 := g0.trans0 d9
    have m16 : Mu [] H0 F0 H7 p6 (.lst [.str (S [c5])]) := ⟨fp10, hp11, .inl go14⟩
    refine n_name (setS (setS set0)) ?_
    refine n_seq ?_
    obtain ⟨s17, hs17, hm⟩ := bnd hm
    refine while_o hs17 (fun (s7 : Int × List Sg) σ7 H7 => ∃ (F7 : Hp) (us_letters : List V), σ7 = [some v_tree, some (.int s7.1), some (.ref p6), some v1, some (.str (S x_tree.2))] ∧ Gr [] F0 H0 F7 H7 ∧ Sub F0 F7 ∧ Mu [] H0 F7 H7 p6 (.lst us_letters) ∧ Al eS F7 us_letters s7.2) ⟨_, [.str (S [c5])], rfl, g15, Sub.refl _, m16, al13⟩ ?_ ?_ ?_
    · rintro s18 b19 _ H20 ⟨F23, vs26, rfl, g24, sb25, m27, al28⟩ hm P21 hP22
      refine n_test ?_
      refine n_op ?_
      refine n_op ?_
      refine n_var rfl ?_
      refine n_var rfl ?_
      obtain ⟨a29, ha29, hm⟩ := bnd hm
      obtain ⟨p30, vs31, ep30, q32, al33⟩ := (Rp.mono (eT eI) sb25 r2)
      subst ep30
      refine v_ixT (SqT.of (g24.fh _ _ q32)) al33 ha29 fun v34 r35 => ?_
      have er35 : v34 = V.int a29 := r35
      subst er35
      refine n_c ?_
      refine v_i2 ?_
      refine v_bl ?_
      obtain rfl := Option.some.inj hm
      exact hP22 _ ⟨_, vs26, rfl, g24, sb25, m27, al28⟩
    · rintro s36 s37 _ H38 ⟨F41, vs44, rfl, g42, sb43, m45, al46⟩ _ hm N39 hN40
      refine n_seq ?_
      refine n_asg ?_
      refine n_op ?_
      refine n_var rfl ?_
      refine n_var rfl ?_
      obtain ⟨a47, ha47, hm⟩ := bnd hm
      obtain ⟨p48, vs49, ep48, q50, al51⟩ := (Rp.mono (eT eI) sb43 r2)
      subst ep48
      refine v_ixT (SqT.of (g42.fh _ _ q50)) al51 ha47 fun v52 r53 => ?_
      have er53 : v52 = V.int a47 := r53
      subst er53
      refine n_name (setS set0) ?_
      refine n_drop ?_
      refine n_bm ?_
      refine n_var rfl ?_
      refine ⟨tyL m45.l, ?_⟩
      refine n_cons ?_
      refine n_op ?_
      refine n_var rfl ?_
      refine n_var rfl ?_
      obtain ⟨c54, hc54, hm⟩ := bnd hm
      refine v_ixS lr4 hc54 ?_
      refine n_nil ?_
      obtain ⟨l55, hl55, hm⟩ := bnd hm
      obtain ⟨vs59, H56, g60, al58, evs59, eH56⟩ := app_ok g42 m45 al46 hl55 (show eS.r F41 (.str (S [c54])) [c54] from ⟨rfl, one_le⟩)
      refine v_append m45.hp (snoc_lt al46 hl55) ?_
      rw [← evs59, ← eH56]
      have m61 := mu_self m45 eH56
      obtain rfl := Option.some.inj hm
      exact hN40 _ _ ⟨_, vs59, rfl, g60, sb43, m61, al58⟩
    rintro _ H62 ⟨F63, vs66, rfl, g64, sb65, m67, al68⟩ _
    refine n_ret ?_
    refine n_bm ?_
    refine n_str (s := []) (by decide +kernel) ?_
    refine ⟨tyS, ?_⟩
    refine n_cons ?_
    refine n_var rfl ?_
    refine n_nil ?_
    obtain ⟨t69, ht69, hm⟩ := bnd hm
    refine v_join (.inl m67.l) al68 ht69 ?_
    obtain rfl := Option.some.inj hm
    exact hk _ _ _  g64   ⟨rfl, (joinM_le ht69)⟩

def m_word_above (x_tree : (List Int × Sg)) (x_place : Int) : Option Sg :=
  (m_word_of x_tree x_place).bind fun r1 =>
  some (cutL r1 (some (1 : Int)) none)
def sp_word_above (K : PySem.W.Frag) : Sp := fun vs H Q _ => ∃ (F : Hp) (v_tree : V) (x_tree : (List Int × Sg)) (v_place : V) (x_place : Int) (r : Sg), vs = [v_tree, v_place] ∧ Sub F H ∧ (eP2 (eT eI) eS).r F v_tree x_tree ∧ eI.r F v_place x_place ∧ m_word_above x_tree x_place = some r ∧ ∀ (v : V) (F' H' : Hp) , Gr [] F H F' H' → eS.r F' v r → Q v H'
theorem sc_word_above : FnScope ["tree", "place"] ["tree", "place"] (defScope s_word_above) := ⟨rfl, rfl, rfl, by decide +kernel, rfl, by decide +kernel, by decide +kernel⟩
theorem ok_word_above {f : Addr} {fd : FuncData} (F : FnP K "word_above" s_word_above f fd) (H_word_of : Has P w K mg base "word_of" ["tree", "place"] 1 (sp_word_of K)) : FnOk P w K mg base CX0 2 f fd ["tree", "place"] (sp_word_above K) := by
  obtain ⟨f_word_of, fd_word_of, G0_word_of, g_word_of, k_word_of, b_word_of⟩ := H_word_of
  have G_word_of := G0_word_of.mono (show 1 ≤ 1 by decide)
  refine F.ok sc_word_above (fun vs H Q E h => ?_) (fun cdv A outer s H0 vs Q E hr h => ?_)
  · obtain ⟨_, _, _, _, _, _, rfl, _⟩ := h
    rfl
  · obtain ⟨F0, v_tree, x_tree, v_place, x_place, r0, rfl, hs0, r_tree, r_place, hm, hk⟩ := h
    have g0 : Gr [] F0 H0 F0 H0 := Gr.refl hs0
    have er_place : v_place = V.int x_place := r_place
    subst er_place
    refine ⟨_, PSs.nox (pss_one (ps_ret (pe_slice sl_str (pe_call G_word_of hr (by rfl) g_word_of k_word_of b_word_of .nil pass0 (pa_cons (pv 0) (pa_cons (pv 1) pa_nil))) (po_some pe_int) po_none))), ?_⟩
    refine n_ret ?_
    refine n_sl ?_
    refine n_call ?_
    refine n_cons ?_
    refine n_var rfl ?_
    refine n_cons ?_
    refine n_var rfl ?_
    refine n_nil ?_
    obtain ⟨r1, hr1, hm⟩ := bnd hm
    refine ⟨F0, v_tree, x_tree, .int x_place, x_place, r1, rfl, g0.fh, r_tree, rfl, hr1, fun v5 F2 H3 d4 r6 => ?_⟩
    have g7 := g0.trans0 d4
    obtain ⟨er6, lr6⟩ : v5 = V.str (S r1) ∧ r1.length ≤ sizeLine := r6
    subst er6
    refine n_part ?_
    refine n_c ?_
    refine v_part ?_
    refine n_nopart ?_
    refine v_slS lr6 ?_
    obtain rfl := Option.some.inj hm
    exact hk _ _ _  g7   ⟨rfl, (cut_le lr6)⟩

def m__law_cell_at (x_script : List Int) (x_k : Int) : Option Int :=
  if (decide (x_k < (x_script.length : Int))) = true then
  (atI x_script x_k).bind fun a2 =>
  some a2
  else
  some (0 : Int)
def sp__law_cell_at (K : PySem.W.Frag) : Sp := fun vs H Q _ => ∃ (F : Hp) (v_script : V) (x_script : List Int) (v_k : V) (x_k : Int) (r : Int), vs = [v_script, v_k] ∧ Sub F H ∧ (eQ K).r F v_script x_script ∧ eI.r F v_k x_k ∧ m__law_cell_at x_script x_k = some r ∧ ∀ (v : V) (F' H' : Hp) , Gr [] F H F' H' → eI.r F' v r → Q v H'
theorem sc__law_cell_at : FnScope ["script", "k"] ["script", "k"] (defScope s__law_cell_at) := ⟨rfl, rfl, rfl, by decide +kernel, rfl, by decide +kernel, by decide +kernel⟩
theorem ok__law_cell_at {f : Addr} {fd : FuncData} (F : FnP K "_law_cell_at" s__law_cell_at f fd) (b_len : mg "len" = none) : FnOk P w K mg base CX0 1 f fd ["script", "k"] (sp__law_cell_at K) := by
  refine F.ok sc__law_cell_at (fun vs H Q E h => ?_) (fun cdv A outer s H0 vs Q E hr h => ?_)
  · obtain ⟨_, _, _, _, _, _, rfl, _⟩ := h
    rfl
  · obtain ⟨F0, v_script, x_script, v_k, x_k, r0, rfl, hs0, r_script, r_k, hm, hk⟩ := h
    have g0 : Gr [] F0 H0 F0 H0 := Gr.refl hs0
    have er_k : v_k = V.int x_k := r_k
    subst er_k
    refine ⟨_, PSs.nox (pss_cons (ps_if (pt_cmpR op_lt (pv 1) (pe_callB (c_len (K := K) rfl) (by rfl) b_len bo_len (pa_cons (pv 0) pa_nil)) (nomark _)) (pss_one (ps_ret (pe_ix (c_ixL (K := K) rfl) (pv 0) (pv 1) (fun _ _ => rfl)))) pss_nil)
(pss_one (ps_ret pe_int))), ?_⟩
    refine n_seq ?_
    refine n_ifs ?_
    refine n_test ?_
    refine n_op ?_
    refine n_var rfl ?_
    refine n_cb ?_
    refine n_cons ?_
    refine n_var rfl ?_
    refine n_nil ?_
    refine v_lenQ g0.fh r_script ?_
    refine v_i2 ?_
    refine v_bl ?_
    refine br (fun hb1 => ?_) (fun hb1 => ?_)
    · replace hm := ifT hb1 hm
      refine n_ret ?_
      refine n_op ?_
      refine n_var rfl ?_
      refine n_var rfl ?_
      obtain ⟨a2, ha2, hm⟩ := bnd hm
      refine v_ixQ g0.fh r_script ha2 ?_
      obtain rfl := Option.some.inj hm
      exact hk _ _ _  g0   rfl
    replace hm := ifF hb1 hm
    refine n_nextS ?_
    refine n_ret ?_
    refine n_c ?_
    obtain rfl := Option.some.inj hm
    exact hk _ _ _  g0   rfl

def m__law_pool (x_script : List Int) (x_at : Int) : Option (List Int) :=
  (m__law_cell_at x_script x_at).bind fun r1 =>
  (uptoM 0 (99 : Int)).bind fun l8 =>
  (foldO l8 (0 : Int) fun s11 a10 =>
  (mulM ((89 : Int) * a10) a10).bind fun a24 =>
  (mulM ((((((r1 % (998244353 : Int)) + a24) + ((7 : Int) * x_at)) + (1 : Int)) * (48271 : Int)) % (2147483647 : Int)) ((((((r1 % (998244353 : Int)) + a24) + ((7 : Int) * x_at)) + (1 : Int)) * (48271 : Int)) % (2147483647 : Int))).bind fun a25 =>
  some ((s11 * (1000003 : Int)) + ((((((a25 % (1000000007 : Int)) + ((7919 : Int) * a10)) * (69621 : Int)) % (2147483587 : Int)) / (8 : Int)) % (1000003 : Int)))).bind fun s9 =>
  (mulM r1 (b2 (decide ((1000000000000000000 : Int) ≤ r1)))).bind fun a32 =>
  some [a32, s9]
def sp__law_pool (K : PySem.W.Frag) : Sp := fun vs H Q _ => ∃ (F : Hp) (v_script : V) (x_script : List Int) (v_at : V) (x_at : Int) (r : List Int), vs = [v_script, v_at] ∧ Sub F H ∧ (eQ K).r F v_script x_script ∧ eI.r F v_at x_at ∧ m__law_pool x_script x_at = some r ∧ ∀ (v : V) (F' H' : Hp) , Gr [] F H F' H' → New eI H F' H' v r → Q v H'
theorem sc__law_pool : FnScope ["script", "at", "cell", "big", "turn", "one"] ["script", "at"] (defScope s__law_pool) := ⟨rfl, rfl, rfl, by decide +kernel, rfl, by decide +kernel, by decide +kernel⟩
theorem ok__law_pool {f : Addr} {fd : FuncData} (F : FnP K "_law_pool" s__law_pool f fd) (H__law_cell_at : Has P w K mg base "_law_cell_at" ["script", "k"] 1 (sp__law_cell_at K)) (b_range : mg "range" = none) (b_int : mg "int" = none) : FnOk P w K mg base CX0 2 f fd ["script", "at"] (sp__law_pool K) := by
  obtain ⟨f__law_cell_at, fd__law_cell_at, G0__law_cell_at, g__law_cell_at, k__law_cell_at, b__law_cell_at⟩ := H__law_cell_at
  have G__law_cell_at := G0__law_cell_at.mono (show 1 ≤ 1 by decide)
  refine F.ok sc__law_pool (fun vs H Q E h => ?_) (fun cdv A outer s H0 vs Q E hr h => ?_)
  · obtain ⟨_, _, _, _, _, _, rfl, _⟩ := h
    rfl
  · obtain ⟨F0, v_script, x_script, v_at, x_at, r0, rfl, hs0, r_script, r_at, hm, hk⟩ := h
    have g0 : Gr [] F0 H0 F0 H0 := Gr.refl hs0
    have er_at : v_at = V.int x_at := r_at
    subst er_at
    refine ⟨_, PSs.nox (pss_cons (ps_set (i := 2) sc__law_pool.nd rfl (by first | exact Or.inl rfl | exact Or.inr rfl) (pe_call G__law_cell_at hr (by rfl) g__law_cell_at k__law_cell_at b__law_cell_at .nil pass0 (pa_cons (pv 0) (pa_cons (pv 1) pa_nil))))
(pss_cons (ps_set (i := 3) sc__law_pool.nd rfl (by first | exact Or.inl rfl | exact Or.inr rfl) pe_int)
(pss_cons (ps_for PassesOwn.never rfl (pi_range1 (by rfl) b_range (pa_cons pe_int pa_nil)) (pg_name (i := 4) sc__law_pool.nd rfl (by first | exact Or.inl rfl | exact Or.inr rfl)) (pss_cons (ps_set (i := 5) sc__law_pool.nd rfl (by first | exact Or.inl rfl | exact Or.inr rfl) (pe_op op_mod (pe_op op_mul (pe_op op_add (pe_op op_add (pe_op op_add (pe_op op_mod (pv 2) pe_int) (pe_op op_mul (pe_op op_mul pe_int (pv 4)) (pv 4))) (pe_op op_mul pe_int (pv 1))) pe_int) pe_int) pe_int))
(pss_cons (ps_set (i := 5) sc__law_pool.nd rfl (by first | exact Or.inl rfl | exact Or.inr rfl) (pe_op op_mod (pe_op op_mul (pv 5) (pv 5)) pe_int))
(pss_cons (ps_set (i := 5) sc__law_pool.nd rfl (by first | exact Or.inl rfl | exact Or.inr rfl) (pe_op op_mod (pe_op op_mul (pe_op op_add (pv 5) (pe_op op_mul pe_int (pv 4))) pe_int) pe_int))
(pss_one (ps_set (i := 3) sc__law_pool.nd rfl (by first | exact Or.inl rfl | exact Or.inr rfl) (pe_op op_add (pe_op op_mul (pv 3) pe_int) (pe_op op_mod (pe_op op_fdiv (pv 5) pe_int) pe_int))))))))
(pss_one (ps_ret (pe_lst (pa_cons (pe_op op_mul (pv 2) (pe_callTy c_int1 (by rfl) b_int bo_int (pa_cons (pe_cmpR op_ge (pv 2) (pe_op op_pow pe_int pe_int) (nomark _)) pa_nil))) (pa_cons (pv 3) pa_nil)))))))), ?_⟩
    refine n_seq ?_
    refine n_asg ?_
    refine n_call ?_
    refine n_cons ?_
    refine n_var rfl ?_
    refine n_cons ?_
    refine n_var rfl ?_
    refine n_nil ?_
    obtain ⟨r1, hr1, hm⟩ := bnd hm
    refine ⟨F0, v_script, x_script, .int x_at, x_at, r1, rfl, g0.fh, r_script, rfl, hr1, fun v5 F2 H3 d4 r6 => ?_⟩
    have g7 := g0.trans0 d4
    have er6 : v5 = V.int r1 := r6
    subst er6
    refine n_name (setS (setS set0)) ?_
    refine n_seq ?_
    refine n_asg ?_
    refine n_c ?_
    refine n_name (setS (setS (setS set0))) ?_
    refine n_seq ?_
    refine n_for ?_
    refine n_rng1 ?_
    refine n_cons ?_
    refine n_c ?_
    refine n_nil ?_
    obtain ⟨l8, hl8, hm⟩ := bnd hm
    refine v_rng1 hl8 ?_
    obtain ⟨s9, hs9, hm⟩ := bnd hm
    refine for_o (sr_R1 hl8) hs9 (fun (s7 : Int) σ7 H7 => ∃ (F7 : Hp) (o_turn : Option V) (o_one : Option V), σ7 = [some v_script, some (.int x_at), some (.int r1), some (.int s7), o_turn, o_one] ∧ Gr [] F0 H0 F7 H7 ∧ Sub F2 F7) ⟨_, _, _, rfl, g7, Sub.refl _⟩ ?_ ?_ ?_
    · intros; exact trivial
    · rintro a10 s11 s12 x13 _ H14 H15 ⟨F19, o22, o23, rfl, g20, sb21⟩ hY16 hm N17 hN18
      refine v_nmR hY16 ?_
      refine n_name (setS (setS (setS (setS set0)))) ?_
      refine n_seq ?_
      refine n_asg ?_
      refine n_op ?_
      refine n_op ?_
      refine n_op ?_
      refine n_op ?_
      refine n_op ?_
      refine n_op ?_
      refine n_var rfl ?_
      refine n_c ?_
      refine v_modK (by decide) ?_
      refine n_op ?_
      refine n_op ?_
      refine n_c ?_
      refine n_var rfl ?_
      refine v_mulL (by decide) ?_
      refine n_var rfl ?_
      obtain ⟨a24, ha24, hm⟩ := bnd hm
      refine v_mul ha24 ?_
      refine v_i2 ?_
      refine n_op ?_
      refine n_c ?_
      refine n_var rfl ?_
      refine v_mulL (by decide) ?_
      refine v_i2 ?_
      refine n_c ?_
      refine v_i2 ?_
      refine n_c ?_
      refine v_mulR (by decide) ?_
      refine n_c ?_
      refine v_modK (by decide) ?_
      refine n_name (setS (setS (setS (setS (setS set0))))) ?_
      refine n_seq ?_
      refine n_asg ?_
      refine n_op ?_
      refine n_op ?_
      refine n_var rfl ?_
      refine n_var rfl ?_
      obtain ⟨a25, ha25, hm⟩ := bnd hm
      refine v_mul ha25 ?_
      refine n_c ?_
      refine v_modK (by decide) ?_
      refine n_name (setS (setS (setS (setS (setS set0))))) ?_
      refine n_seq ?_
      refine n_asg ?_
      refine n_op ?_
      refine n_op ?_
      refine n_op ?_
      refine n_var rfl ?_
      refine n_op ?_
      refine n_c ?_
      refine n_var rfl ?_
      refine v_mulL (by decide) ?_
      refine v_i2 ?_
      refine n_c ?_
      refine v_mulR (by decide) ?_
      refine n_c ?_
      refine v_modK (by decide) ?_
      refine n_name (setS (setS (setS (setS (setS set0))))) ?_
      refine n_asg ?_
      refine n_op ?_
      refine n_op ?_
      refine n_var rfl ?_
      refine n_c ?_
      refine v_mulR (by decide) ?_
      refine n_op ?_
      refine n_op ?_
      refine n_var rfl ?_
      refine n_c ?_
      refine v_divK (by decide) ?_
      refine n_c ?_
      refine v_modK (by decide) ?_
      refine v_i2 ?_
      refine n_name (setS (setS (setS set0))) ?_
      obtain rfl := Option.some.inj hm
      exact hN18 _ _ ⟨_, _, _, rfl, g20, sb21⟩
    rintro _ H26 ⟨F27, o30, o31, rfl, g28, sb29⟩
    refine n_ret ?_
    refine n_lst ?_
    refine n_cons ?_
    refine n_op ?_
    refine n_var rfl ?_
    refine n_cb ?_
    refine n_cons ?_
    refine n_op ?_
    refine n_var rfl ?_
    refine n_op ?_
    refine n_c ?_
    refine n_c ?_
    refine v_powK (a := 1000000000000000000) ⟨by decide, by decide, by decide⟩ (by decide +kernel) ?_
    refine v_i2 ?_
    refine n_nil ?_
    refine v_intB ?_
    obtain ⟨a32, ha32, hm⟩ := bnd hm
    refine v_mul ha32 ?_
    refine n_cons ?_
    refine n_var rfl ?_
    refine n_nil ?_
    have al40 : Al eI F27 [.int a32, .int s9] [a32, s9] := (.cons rfl (.cons rfl .nil))
    refine v_mkLM g28.fh rfl fun p33 H34 np35 d36 fp37 hp38 => ?_
    have go41 := g28.old np35
    have g42 := g28.trans0 d36
    have m43 : Mu [] H0 F27 H34 p33 (.lst [.int a32, .int s9]) := ⟨fp37, hp38, .inl go41⟩
    obtain rfl := Option.some.inj hm
    exact hk _ _ _  g42   ⟨p33, [.int a32, .int s9], rfl, (m43.own.resolve_right (by simp)), m43.fr, m43.hp, al40⟩

def m__law_take (x_pool : List Int) (x_many : Int) : Option (Int × List Int) :=
  (atI x_pool (0 : Int)).bind fun a2 =>
  (atI x_pool (b2 (decide (a2 = (0 : Int))))).bind fun a5 =>
  (modM a5 x_many).bind fun a8 =>
  (atI x_pool (b2 (decide (a2 = (0 : Int))))).bind fun a9 =>
  (divM a9 x_many).bind fun a12 =>
  (setM x_pool (b2 (decide (a2 = (0 : Int)))) a12).bind fun l13 =>
  some (a8, l13)
def sp__law_take (K : PySem.W.Frag) : Sp := fun vs H Q _ => ∃ (F : Hp) (p_pool : Addr) (vs_pool : List V) (x_pool : List Int) (v_many : V) (x_many : Int) (r : (Int × List Int)), vs = [.ref p_pool, v_many] ∧ Sub F H ∧ F p_pool = none ∧ H p_pool = some (.lst vs_pool) ∧ Al eI F vs_pool x_pool ∧ eI.r F v_many x_many ∧ m__law_take x_pool x_many = some r ∧ ∀ (v : V) (F' H' : Hp) (us_pool : List V), Gr [p_pool] F H F' H' → H' p_pool = some (.lst us_pool) → Al eI F' us_pool r.2 → eI.r F' v r.1 → Q v H'
theorem sc__law_take : FnScope ["pool", "many", "at", "number"] ["pool", "many"] (defScope s__law_take) := ⟨rfl, rfl, rfl, by decide +kernel, rfl, by decide +kernel, by decide +kernel⟩
theorem ok__law_take {f : Addr} {fd : FuncData} (F : FnP K "_law_take" s__law_take f fd) (b_int : mg "int" = none) : FnOk P w K mg base CX0 1 f fd ["pool", "many"] (sp__law_take K) := by
  refine F.ok sc__law_take (fun vs H Q E h => ?_) (fun cdv A outer s H0 vs Q E hr h => ?_)
  · obtain ⟨_, _, _, _, _, _, _, rfl, _⟩ := h
    rfl
  · obtain ⟨F0, p_pool, vs_pool, x_pool, v_many, x_many, r0, rfl, hs0, fr_pool, hp_pool, al_pool, r_many, hm, hk⟩ := h
    have g0 : Gr [p_pool] F0 H0 F0 H0 := Gr.refl hs0
    have m1 : Mu [p_pool] H0 F0 H0 p_pool (.lst vs_pool) := ⟨fr_pool, hp_pool, .inr (by simp)⟩
    have er_many : v_many = V.int x_many := r_many
    subst er_many
    refine ⟨_, PSs.nox (pss_cons (ps_set (i := 2) sc__law_take.nd rfl (by first | exact Or.inl rfl | exact Or.inr rfl) (pe_callTy c_int1 (by rfl) b_int bo_int (pa_cons (pe_cmpR op_eq (pe_ix (c_ixL (K := K) rfl) (pv 0) pe_int (fun _ _ => rfl)) pe_int (nomark _)) pa_nil)))
(pss_cons (ps_set (i := 3) sc__law_take.nd rfl (by first | exact Or.inl rfl | exact Or.inr rfl) (pe_op op_mod (pe_ix (c_ixL (K := K) rfl) (pv 0) (pv 2) (fun _ _ => rfl)) (pv 1)))
(pss_cons (ps_asg (pe_op op_fdiv (pe_ix (c_ixL (K := K) rfl) (pv 0) (pv 2) (fun _ _ => rfl)) (pv 1)) (pg_sub (pv 0) (pv 2) set_list))
(pss_one (ps_ret (pv 3)))))), ?_⟩
    refine n_seq ?_
    refine n_asg ?_
    refine n_cb ?_
    refine n_cons ?_
    refine n_op ?_
    refine n_op ?_
    refine n_var rfl ?_
    refine n_c ?_
    obtain ⟨a2, ha2, hm⟩ := bnd hm
    refine v_ixL m1.l al_pool ha2 fun v3 r4 => ?_
    have er4 : v3 = V.int a2 := r4
    subst er4
    refine n_c ?_
    refine v_eqI ?_
    refine n_nil ?_
    refine v_intB ?_
    refine n_name (setS (setS set0)) ?_
    refine n_seq ?_
    refine n_asg ?_
    refine n_op ?_
    refine n_op ?_
    refine n_var rfl ?_
    refine n_var rfl ?_
    obtain ⟨a5, ha5, hm⟩ := bnd hm
    refine v_ixL m1.l al_pool ha5 fun v6 r7 => ?_
    have er7 : v6 = V.int a5 := r7
    subst er7
    refine n_var rfl ?_
    obtain ⟨a8, ha8, hm⟩ := bnd hm
    refine v_mod ha8 ?_
    refine n_name (setS (setS (setS set0))) ?_
    refine n_seq ?_
    refine n_asg ?_
    refine n_op ?_
    refine n_op ?_
    refine n_var rfl ?_
    refine n_var rfl ?_
    obtain ⟨a9, ha9, hm⟩ := bnd hm
    refine v_ixL m1.l al_pool ha9 fun v10 r11 => ?_
    have er11 : v10 = V.int a9 := r11
    subst er11
    refine n_var rfl ?_
    obtain ⟨a12, ha12, hm⟩ := bnd hm
    refine v_div ha12 ?_
    refine n_sub ?_
    refine n_var rfl ?_
    refine n_var rfl ?_
    obtain ⟨l13, hl13, hm⟩ := bnd hm
    obtain ⟨n14, en15, al16⟩ := setM_ok al_pool hl13 (show eI.r F0 (.int a12) a12 from rfl)
    refine v_setL m1.hp en15 ?_
    obtain ⟨vs17, H18, g19, evs17, eH18⟩ := st_ok g0 m1 ((vs_pool : List V).set n14 (.int a12))
    rw [← evs17, ← eH18]
    rw [← evs17] at al16
    have m20 := mu_self m1 eH18
    refine n_ret ?_
    refine n_var rfl ?_
    obtain rfl := Option.some.inj hm
    exact hk _ _ _ _ g19 m20.hp al16 rfl

def m__law_letters (x_pool : List Int) : Option (List Sg × List Int) :=
  (m__law_take x_pool (6 : Int)).bind fun r10 =>
  (atI [(1 : Int), (2 : Int), (2 : Int), (3 : Int), (5 : Int), (26 : Int)] r10.1).bind fun a21 =>
  (m__law_take r10.2 (26 : Int)).bind fun r24 =>
  (m__law_take r24.2 (3 : Int)).bind fun r43 =>
  (atI [(1 : Int), (3 : Int), (25 : Int)] r43.1).bind fun a54 =>
  (uptoM 0 a21).bind fun l57 =>
  (need (szB l57.length) ()).bind fun u60 =>
  (compS l57 fun a62 =>
  (mulM a54 a62).bind fun a83 =>
  (atI ([97, 98, 99, 100, 101, 102, 103, 104, 105, 106, 107, 108, 109, 110, 111, 112, 113, 114, 115, 116, 117, 118, 119, 120, 121, 122] : Sg) ((r24.1 + a83) % (26 : Int))).bind fun c84 =>
  some (some [c84])).bind fun q61 =>
  some (q61, r43.2)
def sp__law_letters (K : PySem.W.Frag) : Sp := fun vs H Q _ => ∃ (F : Hp) (p_pool : Addr) (vs_pool : List V) (x_pool : List Int) (r : (List Sg × List Int)), vs = [.ref p_pool] ∧ Sub F H ∧ F p_pool = none ∧ H p_pool = some (.lst vs_pool) ∧ Al eI F vs_pool x_pool ∧ m__law_letters x_pool = some r ∧ ∀ (v : V) (F' H' : Hp) (us_pool : List V), Gr [p_pool] F H F' H' → H' p_pool = some (.lst us_pool) → Al eI F' us_pool r.2 → New eS H F' H' v r.1 → Q v H'
theorem sc__law_letters : FnScope ["pool", "many", "first", "by", "k"] ["pool"] (defScope s__law_letters) := ⟨rfl, rfl, rfl, by decide +kernel, rfl, by decide +kernel, by decide +kernel⟩
theorem ok__law_letters {f : Addr} {fd : FuncData} (F : FnP K "_law_letters" s__law_letters f fd) (H__law_take : Has P w K mg base "_law_take" ["pool", "many"] 1 (sp__law_take K)) (b_range : mg "range" = none) : FnOk P w K mg base CX0 2 f fd ["pool"] (sp__law_letters K) := by
  obtain ⟨f__law_take, fd__law_take, G0__law_take, g__law_take, k__law_take, b__law_take⟩ := H__law_take
  have G__law_take := G0__law_take.mono (show 1 ≤ 1 by decide)
  refine F.ok sc__law_letters (fun vs H Q E h => ?_) (fun cdv A outer s H0 vs Q E hr h => ?_)
  · obtain ⟨_, _, _, _, _, rfl, _⟩ := h
    rfl
  · obtain ⟨F0, p_pool, vs_pool, x_pool, r0, rfl, hs0, fr_pool, hp_pool, al_pool, hm, hk⟩ := h
    have g0 : Gr [p_pool] F0 H0 F0 H0 := Gr.refl hs0
    have m1 : Mu [p_pool] H0 F0 H0 p_pool (.lst vs_pool) := ⟨fr_pool, hp_pool, .inr (by simp)⟩
    refine ⟨_, PSs.nox (pss_cons (ps_set (i := 1) sc__law_letters.nd rfl (by first | exact Or.inl rfl | exact Or.inr rfl) (pe_ix (c_ixL (K := K) rfl) (pe_lst (pa_cons pe_int (pa_cons pe_int (pa_cons pe_int (pa_cons pe_int (pa_cons pe_int (pa_cons pe_int pa_nil))))))) (pe_call G__law_take hr (by rfl) g__law_take k__law_take b__law_take .nil pass0 (pa_cons (pv 0) (pa_cons pe_int pa_nil))) (fun _ _ => rfl)))
(pss_cons (ps_set (i := 2) sc__law_letters.nd rfl (by first | exact Or.inl rfl | exact Or.inr rfl) (pe_call G__law_take hr (by rfl) g__law_take k__law_take b__law_take .nil pass0 (pa_cons (pv 0) (pa_cons pe_int pa_nil))))
(pss_cons (ps_set (i := 3) sc__law_letters.nd rfl (by first | exact Or.inl rfl | exact Or.inr rfl) (pe_ix (c_ixL (K := K) rfl) (pe_lst (pa_cons pe_int (pa_cons pe_int (pa_cons pe_int pa_nil)))) (pe_call G__law_take hr (by rfl) g__law_take k__law_take b__law_take .nil pass0 (pa_cons (pv 0) (pa_cons pe_int pa_nil))) (fun _ _ => rfl)))
(pss_one (ps_ret (pe_lc (own := [("k", 4)]) (g := gName 4) (by rfl) sc__law_letters.nd (pi_range1 (by rfl) b_range (pa_cons (pv 1) pa_nil)) (blkOk_by (own := [("k", 4)]) (N := ["pool", "many", "first", "by", "k"]) (sc := defScope s__law_letters) (by decide +kernel)) (fun _ _ _ _ _ => (pg_name (i := 4) sc__law_letters.nd rfl (Or.inl rfl))) (fun _ _ _ _ _ => pts_nil) (fun _ _ _ _ _ => (pe_ix ix_str pe_str (pe_op op_mod (pe_op op_add (pv 2) (pe_op op_mul (pv 3) (pv 4))) pe_int) (fun _ _ => rfl))))))))), ?_⟩
    refine n_seq ?_
    refine n_asg ?_
    refine n_op ?_
    refine n_lst ?_
    refine n_cons ?_
    refine n_c ?_
    refine n_cons ?_
    refine n_c ?_
    refine n_cons ?_
    refine n_c ?_
    refine n_cons ?_
    refine n_c ?_
    refine n_cons ?_
    refine n_c ?_
    refine n_cons ?_
    refine n_c ?_
    refine n_nil ?_
    refine v_mkLF (t := eI) (xs := [(1 : Int), (2 : Int), (2 : Int), (3 : Int), (5 : Int), (26 : Int)]) g0.fh (.cons rfl (.cons rfl (.cons rfl (.cons rfl (.cons rfl (.cons rfl .nil)))))) rfl fun p2 F3 H4 d5 q6 al7 => ?_
    have g8 := g0.trans0 d5
    have m9 := m1.call0 d5
    refine n_call ?_
    refine n_cons ?_
    refine n_var rfl ?_
    refine n_cons ?_
    refine n_c ?_
    refine n_nil ?_
    obtain ⟨r10, hr10, hm⟩ := bnd hm
    refine ⟨F3, p_pool, vs_pool, x_pool, .int (6 : Int), (6 : Int), r10, rfl, g8.fh, m9.fr, m9.hp, (Al.mono al_pool d5.ff), rfl, hr10, fun v17 F11 H12 vs14 d13 hp15 al16 r18 => ?_⟩
    have g19 := g8.trans d13 (fun a ha => (List.mem_cons.mp ha).elim (fun e => e ▸ m9.own) (fun ha => absurd ha (by simp)))
    have m20 := m9.back d13 hp15
    have er18 : v17 = V.int r10.1 := r18
    subst er18
    obtain ⟨a21, ha21, hm⟩ := bnd hm
    refine v_ixL (SqL.of (g19.fh _ _ (d13.ff _ _ q6))) (Al.mono al7 d13.ff) ha21 fun v22 r23 => ?_
    have er23 : v22 = V.int a21 := r23
    subst er23
    refine n_name (setS set0) ?_
    refine n_seq ?_
    refine n_asg ?_
    refine n_call ?_
    refine n_cons ?_
    refine n_var rfl ?_
    refine n_cons ?_
    refine n_c ?_
    refine n_nil ?_
    obtain ⟨r24, hr24, hm⟩ := bnd hm
    refine ⟨F11, p_pool, vs14, r10.2, .int (26 : Int), (26 : Int), r24, rfl, g19.fh, m20.fr, m20.hp, al16, rfl, hr24, fun v31 F25 H26 vs28 d27 hp29 al30 r32 => ?_⟩
    have g33 := g19.trans d27 (fun a ha => (List.mem_cons.mp ha).elim (fun e => e ▸ m20.own) (fun ha => absurd ha (by simp)))
    have m34 := m20.back d27 hp29
    have er32 : v31 = V.int r24.1 := r32
    subst er32
    refine n_name (setS (setS set0)) ?_
    refine n_seq ?_
    refine n_asg ?_
    refine n_op ?_
    refine n_lst ?_
    refine n_cons ?_
    refine n_c ?_
    refine n_cons ?_
    refine n_c ?_
    refine n_cons ?_
    refine n_c ?_
    refine n_nil ?_
    refine v_mkLF (t := eI) (xs := [(1 : Int), (3 : Int), (25 : Int)]) g33.fh (.cons rfl (.cons rfl (.cons rfl .nil))) rfl fun p35 F36 H37 d38 q39 al40 => ?_
    have g41 := g33.trans0 d38
    have m42 := m34.call0 d38
    refine n_call ?_
    refine n_cons ?_
    refine n_var rfl ?_
    refine n_cons ?_
    refine n_c ?_
    refine n_nil ?_
    obtain ⟨r43, hr43, hm⟩ := bnd hm
    refine ⟨F36, p_pool, vs28, r24.2, .int (3 : Int), (3 : Int), r43, rfl, g41.fh, m42.fr, m42.hp, (Al.mono al30 d38.ff), rfl, hr43, fun v50 F44 H45 vs47 d46 hp48 al49 r51 => ?_⟩
    have g52 := g41.trans d46 (fun a ha => (List.mem_cons.mp ha).elim (fun e => e ▸ m42.own) (fun ha => absurd ha (by simp)))
    have m53 := m42.back d46 hp48
    have er51 : v50 = V.int r43.1 := r51
    subst er51
    obtain ⟨a54, ha54, hm⟩ := bnd hm
    refine v_ixL (SqL.of (g52.fh _ _ (d46.ff _ _ q39))) (Al.mono al40 d46.ff) ha54 fun v55 r56 => ?_
    have er56 : v55 = V.int a54 := r56
    subst er56
    refine n_name (setS (setS (setS set0))) ?_
    refine n_ret ?_
    refine n_lc ?_
    refine n_rng1 ?_
    refine n_cons ?_
    refine n_var rfl ?_
    refine n_nil ?_
    obtain ⟨l57, hl57, hm⟩ := bnd hm
    refine v_rng1 hl57 ?_
    obtain ⟨u60, hu60, hm⟩ := bnd hm
    obtain ⟨q61, hq61, hm⟩ := bnd hm
    intro D58 nD59
    have goD58 := g52.old nD59
    have neD58_p_pool := m53.ne nD59
    have gg89 := gr_newM (W := []) (o := .lst []) g52.fh nD59
    refine comp_s (sr_R1 hl57) hq61 (need_ok hu60).1 (fun (acc7 : List Sg) H7 => ∃ (F7 : Hp) (vs7 : List V), Gr [p_pool] F0 H0 F7 H7 ∧ Sub F44 F7 ∧ F7 D58 = none ∧ H7 D58 = some (.lst vs7) ∧ Al eS F7 vs7 acc7 ∧ Mu [p_pool] H0 F7 H7 p_pool (.lst vs47)) ⟨_, [], g52.trans0 gg89, Sub.refl _, g52.fh.nn nD59, upd_same, .nil, m53.call0 gg89⟩ ?_ ?_ ?_
    · intros; exact trivial
    · rintro a62 r64 acc65 x66 H67 H68 ⟨F73, vs74, g75, sb76, fD77, hD78, al79, m80⟩ hY69 hm hl72 N70 hN71
      have m82 : Mu [p_pool] H0 F73 H67 D58 (.lst vs74) := ⟨fD77, hD78, .inl goD58⟩
      refine wipe_to (σ' := [some (.ref p_pool), some (.int a21), some (.int r24.1), some (.int a54), none]) rfl ?_
      refine v_nmR hY69 ?_
      refine n_name (setS (setS (setS (setS set0)))) ?_
      refine ⟨rfl, ?_⟩
      refine n_yes ?_ rfl
      refine n_op ?_
      refine n_str (s := [97, 98, 99, 100, 101, 102, 103, 104, 105, 106, 107, 108, 109, 110, 111, 112, 113, 114, 115, 116, 117, 118, 119, 120, 121, 122]) (by decide +kernel) ?_
      refine n_op ?_
      refine n_op ?_
      refine n_var rfl ?_
      refine n_op ?_
      refine n_var rfl ?_
      refine n_var rfl ?_
      obtain ⟨a83, ha83, hm⟩ := bnd hm
      refine v_mul ha83 ?_
      refine v_i2 ?_
      refine n_c ?_
      refine v_modK (by decide) ?_
      obtain ⟨c84, hc84, hm⟩ := bnd hm
      refine v_ixS (sz_ok (n := 26) rfl) hc84 ?_
      obtain rfl := Option.some.inj hm
      refine ⟨_, m82.hp, by rw [al_len al79]; exact hl72, hN71 _ ?_⟩
      exact ⟨_, _, m82.gr g75, sb76, m82.fr, upd_same, pd_snoc al79 (show eS.r F73 (.str (S [c84])) [c84] from ⟨rfl, one_le⟩), m80.mut neD58_p_pool⟩
    rintro H90 ⟨F91, vs92, g93, sb94, fD95, hD96, al97, m98⟩
    have m100 : Mu [p_pool] H0 F91 H90 D58 (.lst vs92) := ⟨fD95, hD96, .inl goD58⟩
    obtain rfl := Option.some.inj hm
    exact hk _ _ _ _ g93 m98.hp (Al.mono al49 sb94) ⟨D58, vs92, rfl, (m100.own.resolve_right (nin1 (Ne.symm neD58_p_pool))), m100.fr, m100.hp, al97⟩

def m__law_grown (x_pool : List Int) (x_many : Int) (x_kind : Int) (x_letters : List Sg) : Option ((List Int × Sg) × List Int) :=
  (uptoM (1 : Int) x_many).bind fun l24 =>
  (foldO l24 ([(0 : Int)], x_pool, [(-1 : Int)]) fun s27 a26 =>
  (m__law_take s27.2.1 (4 : Int)).bind fun r56 =>
  (atI [(s27.1.length : Int), ((1 : Int) + r56.1)] (b2 (decide ((4 : Int) < (s27.1.length : Int))))).bind fun a77 =>
  (m__law_take r56.2 (3 : Int)).bind fun r80 =>
  (m__law_take r80.2 (s27.1.length : Int)).bind fun r92 =>
  (atI [(s27.1.length : Int), (1 : Int), ((1 : Int) + r92.1), (mx (1 : Int) ((s27.1.length : Int) - r80.1)), (mx (1 : Int) (((s27.1.length : Int) - (1 : Int)) + (a26 % (2 : Int)))), a77] x_kind).bind fun a113 =>
  (atI s27.1 (a113 - (1 : Int))).bind fun a116 =>
  (snocM s27.2.2 a116).bind fun l119 =>
  (catLM (cutL s27.1 none (some a113)) [a26]).bind fun l146 =>
  some (l146, r92.2, l119)).bind fun s25 =>
  (m__law_take s25.2.1 (6 : Int)).bind fun r175 =>
  (m__law_take r175.2 x_many).bind fun r187 =>
  (m__law_take r187.2 (2 : Int)).bind fun r208 =>
  (atI [r187.1, (0 : Int)] r208.1).bind fun a220 =>
  (uptoM 0 x_many).bind fun l223 =>
  (foldO l223 (([] : Sg), r208.2) fun s226 a225 =>
  (m__law_take s226.2 (x_letters.length : Int)).bind fun r248 =>
  (if ((decide ((0 : Int) < r175.1)) && (decide (r175.1 < (4 : Int)))) = true then
  (modM a225 r175.1).bind fun a265 =>
  (modM a265 (x_letters.length : Int)).bind fun a266 =>
  some a266
  else
  some r248.1).bind fun s262 =>
  (if (decide ((4 : Int) < r175.1)) = true then
  (modM (b2 (decide (a225 = a220))) (x_letters.length : Int)).bind fun a277 =>
  some a277
  else
  some s262).bind fun s274 =>
  (atI x_letters s274).bind fun a284 =>
  (catM s226.1 a284).bind fun t287 =>
  some (t287, r248.2)).bind fun s224 =>
  some ((s25.2.2, s224.1), s224.2)
def sp__law_grown (K : PySem.W.Frag) : Sp := fun vs H Q _ => ∃ (F : Hp) (p_pool : Addr) (vs_pool : List V) (x_pool : List Int) (v_many : V) (x_many : Int) (v_kind : V) (x_kind : Int) (v_letters : V) (x_letters : List Sg) (r : ((List Int × Sg) × List Int)), vs = [.ref p_pool, v_many, v_kind, v_letters] ∧ Sub F H ∧ F p_pool = none ∧ H p_pool = some (.lst vs_pool) ∧ Al eI F vs_pool x_pool ∧ eI.r F v_many x_many ∧ eI.r F v_kind x_kind ∧ (eL eS).r F v_letters x_letters ∧ m__law_grown x_pool x_many x_kind x_letters = some r ∧ ∀ (v : V) (F' H' : Hp) (us_pool : List V), Gr [p_pool] F H F' H' → H' p_pool = some (.lst us_pool) → Al eI F' us_pool r.2 → (eP2 (eT eI) eS).r F' v r.1 → Q v H'
theorem sc__law_grown : FnScope ["pool", "many", "kind", "letters", "ups", "line", "k", "way", "other", "labels", "deep", "low", "near", "comb", "cut", "at"] ["pool", "many", "kind", "letters"] (defScope s__law_grown) := ⟨rfl, rfl, rfl, by decide +kernel, rfl, by decide +kernel, by decide +kernel⟩
theorem ok__law_grown {f : Addr} {fd : FuncData} (F : FnP K "_law_grown" s__law_grown f fd) (H__law_take : Has P w K mg base "_law_take" ["pool", "many"] 1 (sp__law_take K)) (b_range : mg "range" = none) (b_len : mg "len" = none) (b_max : mg "max" = none) (b_tuple : mg "tuple" = none) (b_int : mg "int" = none) : FnOk P w K mg base CX0 2 f fd ["pool", "many", "kind", "letters"] (sp__law_grown K) := by
  obtain ⟨f__law_take, fd__law_take, G0__law_take, g__law_take, k__law_take, b__law_take⟩ := H__law_take
  have G__law_take := G0__law_take.mono (show 1 ≤ 1 by decide)
  refine F.ok sc__law_grown (fun vs H Q E h => ?_) (fun cdv A outer s H0 vs Q E hr h => ?_)
  · obtain ⟨_, _, _, _, _, _, _, _, _, _, _, rfl, _⟩ := h
    rfl
  · obtain ⟨F0, p_pool, vs_pool, x_pool, v_many, x_many, v_kind, x_kind, v_letters, x_letters, r0, rfl, hs0, fr_pool, hp_pool, al_pool, r_many, r_kind, r_letters, hm, hk⟩ := h
    have g0 : Gr [p_pool] F0 H0 F0 H0 := Gr.refl hs0
    have m1 : Mu [p_pool] H0 F0 H0 p_pool (.lst vs_pool) := ⟨fr_pool, hp_pool, .inr (by simp)⟩
    have er_many : v_many = V.int x_many := r_many
    subst er_many
    have er_kind : v_kind = V.int x_kind := r_kind
    subst er_kind
    refine ⟨_, PSs.nox (pss_cons (ps_set (i := 4) sc__law_grown.nd rfl (by first | exact Or.inl rfl | exact Or.inr rfl) (pe_lst (pa_cons (pe_un un_neg pe_int) pa_nil)))
(pss_cons (ps_set (i := 5) sc__law_grown.nd rfl (by first | exact Or.inl rfl | exact Or.inr rfl) (pe_lst (pa_cons pe_int pa_nil)))
(pss_cons (ps_for PassesOwn.never rfl (pi_range2 (by rfl) b_range (pa_cons pe_int (pa_cons (pv 1) pa_nil))) (pg_name (i := 6) sc__law_grown.nd rfl (by first | exact Or.inl rfl | exact Or.inr rfl)) (pss_cons (ps_set (i := 10) sc__law_grown.nd rfl (by first | exact Or.inl rfl | exact Or.inr rfl) (pe_callB (c_len (K := K) rfl) (by rfl) b_len bo_len (pa_cons (pv 5) pa_nil)))
(pss_cons (ps_set (i := 11) sc__law_grown.nd rfl (by first | exact Or.inl rfl | exact Or.inr rfl) (pe_ix (c_ixL (K := K) rfl) (pe_lst (pa_cons (pv 10) (pa_cons (pe_op op_add pe_int (pe_call G__law_take hr (by rfl) g__law_take k__law_take b__law_take .nil pass0 (pa_cons (pv 0) (pa_cons pe_int pa_nil)))) pa_nil))) (pe_callTy c_int1 (by rfl) b_int bo_int (pa_cons (pe_cmpR op_gt (pv 10) pe_int (nomark _)) pa_nil)) (fun _ _ => rfl)))
(pss_cons (ps_set (i := 12) sc__law_grown.nd rfl (by first | exact Or.inl rfl | exact Or.inr rfl) (pe_callB (c_max2 rfl) (by rfl) b_max bo_max (pa_cons pe_int (pa_cons (pe_op op_sub (pv 10) (pe_call G__law_take hr (by rfl) g__law_take k__law_take b__law_take .nil pass0 (pa_cons (pv 0) (pa_cons pe_int pa_nil)))) pa_nil))))
(pss_cons (ps_set (i := 13) sc__law_grown.nd rfl (by first | exact Or.inl rfl | exact Or.inr rfl) (pe_callB (c_max2 rfl) (by rfl) b_max bo_max (pa_cons pe_int (pa_cons (pe_op op_add (pe_op op_sub (pv 10) pe_int) (pe_op op_mod (pv 6) pe_int)) pa_nil))))
(pss_cons (ps_set (i := 14) sc__law_grown.nd rfl (by first | exact Or.inl rfl | exact Or.inr rfl) (pe_ix (c_ixL (K := K) rfl) (pe_lst (pa_cons (pv 10) (pa_cons pe_int (pa_cons (pe_op op_add pe_int (pe_call G__law_take hr (by rfl) g__law_take k__law_take b__law_take .nil pass0 (pa_cons (pv 0) (pa_cons (pv 10) pa_nil)))) (pa_cons (pv 12) (pa_cons (pv 13) (pa_cons (pv 11) pa_nil))))))) (pv 2) (fun _ _ => rfl)))
(pss_cons (ps_expr (c_bm (K := K) rfl PySem.F.plainAttrs_list PySem.F.slot_list_append PySem.F.type_list_append mt_append (pv 4) (pa_cons (pe_ix (c_ixL (K := K) rfl) (pv 5) (pe_op op_sub (pv 14) pe_int) (fun _ _ => rfl)) pa_nil)))
(pss_one (ps_set (i := 5) sc__law_grown.nd rfl (by first | exact Or.inl rfl | exact Or.inr rfl) (pe_op op_cat (pe_slice (c_slL (K := K) rfl) (pv 5) po_none (po_some (pv 14))) (pe_lst (pa_cons (pv 6) pa_nil))))))))))))
(pss_cons (ps_set (i := 7) sc__law_grown.nd rfl (by first | exact Or.inl rfl | exact Or.inr rfl) (pe_call G__law_take hr (by rfl) g__law_take k__law_take b__law_take .nil pass0 (pa_cons (pv 0) (pa_cons pe_int pa_nil))))
(pss_cons (ps_set (i := 8) sc__law_grown.nd rfl (by first | exact Or.inl rfl | exact Or.inr rfl) (pe_ix (c_ixL (K := K) rfl) (pe_lst (pa_cons (pe_call G__law_take hr (by rfl) g__law_take k__law_take b__law_take .nil pass0 (pa_cons (pv 0) (pa_cons (pv 1) pa_nil))) (pa_cons pe_int pa_nil))) (pe_call G__law_take hr (by rfl) g__law_take k__law_take b__law_take .nil pass0 (pa_cons (pv 0) (pa_cons pe_int pa_nil))) (fun _ _ => rfl)))
(pss_cons (ps_set (i := 9) sc__law_grown.nd rfl (by first | exact Or.inl rfl | exact Or.inr rfl) pe_str)
(pss_cons (ps_for PassesOwn.never rfl (pi_range1 (by rfl) b_range (pa_cons (pv 1) pa_nil)) (pg_name (i := 6) sc__law_grown.nd rfl (by first | exact Or.inl rfl | exact Or.inr rfl)) (pss_cons (ps_set (i := 15) sc__law_grown.nd rfl (by first | exact Or.inl rfl | exact Or.inr rfl) (pe_call G__law_take hr (by rfl) g__law_take k__law_take b__law_take .nil pass0 (pa_cons (pv 0) (pa_cons (pe_callB (c_len (K := K) rfl) (by rfl) b_len bo_len (pa_cons (pv 3) pa_nil)) pa_nil))))
(pss_cons (ps_if (pt_chain op_lt op_lt pe_int (pv 7) pe_int) (pss_one (ps_set (i := 15) sc__law_grown.nd rfl (by first | exact Or.inl rfl | exact Or.inr rfl) (pe_op op_mod (pe_op op_mod (pv 6) (pv 7)) (pe_callB (c_len (K := K) rfl) (by rfl) b_len bo_len (pa_cons (pv 3) pa_nil))))) pss_nil)
(pss_cons (ps_if (pt_cmpR op_gt (pv 7) pe_int (nomark _)) (pss_one (ps_set (i := 15) sc__law_grown.nd rfl (by first | exact Or.inl rfl | exact Or.inr rfl) (pe_op op_mod (pe_callTy c_int1 (by rfl) b_int bo_int (pa_cons (pe_cmpR op_eq (pv 6) (pv 8) (nomark _)) pa_nil)) (pe_callB (c_len (K := K) rfl) (by rfl) b_len bo_len (pa_cons (pv 3) pa_nil))))) pss_nil)
(pss_one (ps_set (i := 9) sc__law_grown.nd rfl (by first | exact Or.inl rfl | exact Or.inr rfl) (pe_op c_catS (pv 9) (pe_ix (c_ixL (K := K) rfl) (pv 3) (pv 15) (fun _ _ => rfl)))))))))
(pss_one (ps_ret (pe_tup (pa_cons (pe_callTy (c_tuple (K := K) rfl) (by rfl) b_tuple bo_tuple (pa_cons (pv 4) pa_nil)) (pa_cons (pv 9) pa_nil)))))))))))), ?_⟩
    refine n_seq ?_
    refine n_asg ?_
    refine n_lst ?_
    refine n_cons ?_
    refine n_un ?_
    refine n_c ?_
    refine v_neg ?_
    refine n_nil ?_
    have al9 : Al eI F0 [.int (-(1 : Int))] [(-1 : Int)] := (.cons rfl .nil)
    refine v_mkLM g0.fh rfl fun p2 H3 np4 d5 fp6 hp7 => ?_
    have go10 := g0.old np4
    have ne11 := m1.ne np4
    have g12 := g0.trans0 d5
    have m13 := m1.call0 d5
    have m14 : Mu [p_pool] H0 F0 H3 p2 (.lst [.int (-(1 : Int))]) := ⟨fp6, hp7, .inl go10⟩
    refine n_name (setS (setS (setS (setS set0)))) ?_
    refine n_seq ?_
    refine n_asg ?_
    refine n_lst ?_
    refine n_cons ?_
    refine n_c ?_
    refine n_nil ?_
    refine v_mkLF (t := eI) (xs := [(0 : Int)]) g12.fh (.cons rfl .nil) rfl fun p15 F16 H17 d18 q19 al20 => ?_
    have g21 := g12.trans0 d18
    have m22 := m13.call0 d18
    have m23 := m14.call0 d18
    refine n_name (setS (setS (setS (setS (setS set0))))) ?_
    refine n_seq ?_
    refine n_for ?_
    refine n_rng2 ?_
    refine n_cons ?_
    refine n_c ?_
    refine n_cons ?_
    refine n_var rfl ?_
    refine n_nil ?_
    obtain ⟨l24, hl24, hm⟩ := bnd hm
    refine v_rng2 hl24 ?_
    obtain ⟨s25, hs25, hm⟩ := bnd hm
    refine for_o (sr_R2 hl24) hs25 (fun (s7 : List Int × List Int × List Int) σ7 H7 => ∃ (F7 : Hp) (v_line : V) (o_k : Option V) (o_deep : Option V) (o_low : Option V) (o_near : Option V) (o_comb : Option V) (o_cut : Option V) (us_pool : List V) (us_ups : List V), σ7 = [some (.ref p_pool), some (.int x_many), some (.int x_kind), some v_letters, some (.ref p2), some v_line, o_k, none, none, none, o_deep, o_low, o_near, o_comb, o_cut, none] ∧ Gr [p_pool] F0 H0 F7 H7 ∧ Sub F16 F7 ∧ (eL eI).r F7 v_line s7.1 ∧ Mu [p_pool] H0 F7 H7 p_pool (.lst us_pool) ∧ Al eI F7 us_pool s7.2.1 ∧ Mu [p_pool] H0 F7 H7 p2 (.lst us_ups) ∧ Al eI F7 us_ups s7.2.2) ⟨_, (.ref p15), _, _, _, _, _, _, vs_pool, [.int (-(1 : Int))], rfl, g21, Sub.refl _, (⟨p15, [.int (0 : Int)], rfl, q19, al20⟩ : (eL eI).r F16 (.ref p15) [(0 : Int)]), m22, (Al.mono al_pool d18.ff), m23, (Al.mono al9 d18.ff)⟩ ?_ ?_ ?_
    · intros; exact trivial
    · rintro a26 s27 s28 x29 _ H30 H31 ⟨F35, v38, o39, o40, o41, o42, o43, o44, vs45, vs46, rfl, g36, sb37, r47, m48, al49, m50, al51⟩ hY32 hm N33 hN34
      refine v_nmR hY32 ?_
      refine n_name (setS (setS (setS (setS (setS (setS set0)))))) ?_
      refine n_seq ?_
      refine n_asg ?_
      refine n_cb ?_
      refine n_cons ?_
      refine n_var rfl ?_
      refine n_nil ?_
      obtain ⟨p52, vs53, ep52, q54, al55⟩ := r47
      subst ep52
      refine v_len (.inl (SqL.of (g36.fh _ _ q54))) al55 ?_
      refine n_name (setS (setS (setS (setS (setS (setS (setS (setS (setS (setS set0)))))))))) ?_
      refine n_seq ?_
      refine n_asg ?_
      refine n_op ?_
      refine n_lst ?_
      refine n_cons ?_
      refine n_var rfl ?_
      refine n_cons ?_
      refine n_op ?_
      refine n_c ?_
      refine n_call ?_
      refine n_cons ?_
      refine n_var rfl ?_
      refine n_cons ?_
      refine n_c ?_
      refine n_nil ?_
      obtain ⟨r56, hr56, hm⟩ := bnd hm
      refine ⟨F35, p_pool, vs45, s27.2.1, .int (4 : Int), (4 : Int), r56, rfl, g36.fh, m48.fr, m48.hp, al49, rfl, hr56, fun v63 F57 H58 vs60 d59 hp61 al62 r64 => ?_⟩
      have g65 := g36.trans d59 (fun a ha => (List.mem_cons.mp ha).elim (fun e => e ▸ m48.own) (fun ha => absurd ha (by simp)))
      have m66 := m48.back d59 hp61
      have m67 := m50.call d59 (nin1 (Ne.symm ne11))
      have er64 : v63 = V.int r56.1 := r64
      subst er64
      refine v_i2 ?_
      refine n_nil ?_
      refine v_mkLF (t := eI) (xs := [(s27.1.length : Int), ((1 : Int) + r56.1)]) g65.fh (.cons rfl (.cons rfl .nil)) rfl fun p68 F69 H70 d71 q72 al73 => ?_
      have g74 := g65.trans0 d71
      have m75 := m66.call0 d71
      have m76 := m67.call0 d71
      refine n_cb ?_
      refine n_cons ?_
      refine n_op ?_
      refine n_var rfl ?_
      refine n_c ?_
      refine v_i2 ?_
      refine n_nil ?_
      refine v_intB ?_
      obtain ⟨a77, ha77, hm⟩ := bnd hm
      refine v_ixL (SqL.of (g74.fh _ _ q72)) al73 ha77 fun v78 r79 => ?_
      have er79 : v78 = V.int a77 := r79
      subst er79
      refine n_name (setS (setS (setS (setS (setS (setS (setS (setS (setS (setS (setS set0))))))))))) ?_
      refine n_seq ?_
      refine n_asg ?_
      refine n_cb ?_
      refine n_cons ?_
      refine n_c ?_
      refine n_cons ?_
      refine n_op ?_
      refine n_var rfl ?_
      refine n_call ?_
      refine n_cons ?_
      refine n_var rfl ?_
      refine n_cons ?_
      refine n_c ?_
      refine n_nil ?_
      obtain ⟨r80, hr80, hm⟩ := bnd hm
      refine ⟨F69, p_pool, vs60, r56.2, .int (3 : Int), (3 : Int), r80, rfl, g74.fh, m75.fr, m75.hp, (Al.mono al62 d71.ff), rfl, hr80, fun v87 F81 H82 vs84 d83 hp85 al86 r88 => ?_⟩
      have g89 := g74.trans d83 (fun a ha => (List.mem_cons.mp ha).elim (fun e => e ▸ m75.own) (fun ha => absurd ha (by simp)))
      have m90 := m75.back d83 hp85
      have m91 := m76.call d83 (nin1 (Ne.symm ne11))
      have er88 : v87 = V.int r80.1 := r88
      subst er88
      refine v_i2 ?_
      refine n_nil ?_
      refine v_max2 ?_
      refine n_name (setS (setS (setS (setS (setS (setS (setS (setS (setS (setS (setS (setS set0)))))))))))) ?_
      refine n_seq ?_
      refine n_asg ?_
      refine n_cb ?_
      refine n_cons ?_
      refine n_c ?_
      refine n_cons ?_
      refine n_op ?_
      refine n_op ?_
      refine n_var rfl ?_
      refine n_c ?_
      refine v_i2 ?_
      refine n_op ?_
      refine n_var rfl ?_
      refine n_c ?_
      refine v_modK (by decide) ?_
      refine v_i2 ?_
      refine n_nil ?_
      refine v_max2 ?_
      refine n_name (setS (setS (setS (setS (setS (setS (setS (setS (setS (setS (setS (setS (setS set0))))))))))))) ?_
      refine n_seq ?_
      refine n_asg ?_
      refine n_op ?_
      refine n_lst ?_
      refine n_cons ?_
      refine n_var rfl ?_
      refine n_cons ?_
      refine n_c ?_
      refine n_cons ?_
      refine n_op ?_
      refine n_c ?_
      refine n_call ?_
      refine n_cons ?_
      refine n_var rfl ?_
      refine n_cons ?_
      refine n_var rfl ?_
      refine n_nil ?_
      obtain ⟨r92, hr92, hm⟩ := bnd hm
      refine ⟨F81, p_pool, vs84, r80.2, .int (s27.1.length : Int), (s27.1.length : Int), r92, rfl, g89.fh, m90.fr, m90.hp, al86, rfl, hr92, fun v99 F93 H94 vs96 d95 hp97 al98 r100 => ?_⟩
      have g101 := g89.trans d95 (fun a ha => (List.mem_cons.mp ha).elim (fun e => e ▸ m90.own) (fun ha => absurd ha (by simp)))
      have m102 := m90.back d95 hp97
      have m103 := m91.call d95 (nin1 (Ne.symm ne11))
      have er100 : v99 = V.int r92.1 := r100
      subst er100
      refine v_i2 ?_
      refine n_cons ?_
      refine n_var rfl ?_
      refine n_cons ?_
      refine n_var rfl ?_
      refine n_cons ?_
      refine n_var rfl ?_
      refine n_nil ?_
      refine v_mkLF (t := eI) (xs := [(s27.1.length : Int), (1 : Int), ((1 : Int) + r92.1), (mx (1 : Int) ((s27.1.length : Int) - r80.1)), (mx (1 : Int) (((s27.1.length : Int) - (1 : Int)) + (a26 % (2 : Int)))), a77]) g101.fh (.cons rfl (.cons rfl (.cons rfl (.cons rfl (.cons rfl (.cons rfl .nil)))))) rfl fun p104 F105 H106 d107 q108 al109 => ?_
      have g110 := g101.trans0 d107
      have m111 := m102.call0 d107
      have m112 := m103.call0 d107
      refine n_var rfl ?_
      obtain ⟨a113, ha113, hm⟩ := bnd hm
      refine v_ixL (SqL.of (g110.fh _ _ q108)) al109 ha113 fun v114 r115 => ?_
      have er115 : v114 = V.int a113 := r115
      subst er115
      refine n_name (setS (setS (setS (setS (setS (setS (setS (setS (setS (setS (setS (setS (setS (setS set0)))))))))))))) ?_
      refine n_seq ?_
      refine n_drop ?_
      refine n_bm ?_
      refine n_var rfl ?_
      refine ⟨tyL m112.l, ?_⟩
      refine n_cons ?_
      refine n_op ?_
      refine n_var rfl ?_
      refine n_op ?_
      refine n_var rfl ?_
      refine n_c ?_
      refine v_i2 ?_
      obtain ⟨a116, ha116, hm⟩ := bnd hm
      refine v_ixL (SqL.of (g110.fh _ _ ((Sub.trans d59.ff (Sub.trans d71.ff (Sub.trans d83.ff (Sub.trans d95.ff d107.ff)))) _ _ q54))) (Al.mono al55 (Sub.trans d59.ff (Sub.trans d71.ff (Sub.trans d83.ff (Sub.trans d95.ff d107.ff))))) ha116 fun v117 r118 => ?_
      have er118 : v117 = V.int a116 := r118
      subst er118
      refine n_nil ?_
      obtain ⟨l119, hl119, hm⟩ := bnd hm
      obtain ⟨vs123, H120, g124, al122, evs123, eH120⟩ := app_ok g110 m112 (Al.mono al51 (Sub.trans d59.ff (Sub.trans d71.ff (Sub.trans d83.ff (Sub.trans d95.ff d107.ff))))) hl119 (show eI.r F105 (.int a116) a116 from rfl)
      refine v_append m112.hp (snoc_lt (Al.mono al51 (Sub.trans d59.ff (Sub.trans d71.ff (Sub.trans d83.ff (Sub.trans d95.ff d107.ff))))) hl119) ?_
      rw [← evs123, ← eH120]
      have m125 := mu_oth m111 ne11 eH120
      have m126 := mu_self m112 eH120
      refine n_asg ?_
      refine n_op ?_
      refine n_sl ?_
      refine n_var rfl ?_
      refine n_nopart ?_
      refine n_part ?_
      refine n_var rfl ?_
      refine v_part ?_
      refine v_slLF g124.fh (SqL.of (g124.fh _ _ ((Sub.trans d59.ff (Sub.trans d71.ff (Sub.trans d83.ff (Sub.trans d95.ff d107.ff)))) _ _ q54))) (Al.mono al55 (Sub.trans d59.ff (Sub.trans d71.ff (Sub.trans d83.ff (Sub.trans d95.ff d107.ff))))) fun p127 vs128 F130 H131 d132 q133 al129 => ?_
      have g134 := g124.trans0 d132
      have m135 := m125.call0 d132
      have m136 := m126.call0 d132
      refine n_lst ?_
      refine n_cons ?_
      refine n_var rfl ?_
      refine n_nil ?_
      refine v_mkLF (t := eI) (xs := [a26]) g134.fh (.cons rfl .nil) rfl fun p137 F138 H139 d140 q141 al142 => ?_
      have g143 := g134.trans0 d140
      have m144 := m135.call0 d140
      have m145 := m136.call0 d140
      obtain ⟨l146, hl146, hm⟩ := bnd hm
      refine v_catF g143.fh (g143.fh _ _ (d140.ff _ _ q133)) (g143.fh _ _ q141) (Al.mono al129 d140.ff) al142 hl146 fun p147 vs148 F150 H151 d152 q153 al149 => ?_
      have g154 := g143.trans0 d152
      have m155 := m144.call0 d152
      have m156 := m145.call0 d152
      refine n_name (setS (setS (setS (setS (setS set0))))) ?_
      obtain rfl := Option.some.inj hm
      exact hN34 _ _ ⟨_, (.ref p147), _, _, _, _, _, _, vs96, vs123, rfl, g154, (Sub.trans sb37 (Sub.trans d59.ff (Sub.trans d71.ff (Sub.trans d83.ff (Sub.trans d95.ff (Sub.trans d107.ff (Sub.trans d132.ff (Sub.trans d140.ff d152.ff)))))))), (⟨p147, vs148, rfl, q153, al149⟩ : (eL eI).r F150 (.ref p147) l146), m155, (Al.mono al98 (Sub.trans d107.ff (Sub.trans d132.ff (Sub.trans d140.ff d152.ff)))), m156, (Al.mono al122 (Sub.trans d132.ff (Sub.trans d140.ff d152.ff)))⟩
    rintro _ H157 ⟨F158, v161, o162, o163, o164, o165, o166, o167, vs168, vs169, rfl, g159, sb160, r170, m171, al172, m173, al174⟩
    refine n_seq ?_
    refine n_asg ?_
    refine n_call ?_
    refine n_cons ?_
    refine n_var rfl ?_
    refine n_cons ?_
    refine n_c ?_
    refine n_nil ?_
    obtain ⟨r175, hr175, hm⟩ := bnd hm
    refine ⟨F158, p_pool, vs168, s25.2.1, .int (6 : Int), (6 : Int), r175, rfl, g159.fh, m171.fr, m171.hp, al172, rfl, hr175, fun v182 F176 H177 vs179 d178 hp180 al181 r183 => ?_⟩
    have g184 := g159.trans d178 (fun a ha => (List.mem_cons.mp ha).elim (fun e => e ▸ m171.own) (fun ha => absurd ha (by simp)))
    have m185 := m171.back d178 hp180
    have m186 := m173.call d178 (nin1 (Ne.symm ne11))
    have er183 : v182 = V.int r175.1 := r183
    subst er183
    refine n_name (setS (setS (setS (setS (setS (setS (setS set0))))))) ?_
    refine n_seq ?_
    refine n_asg ?_
    refine n_op ?_
    refine n_lst ?_
    refine n_cons ?_
    refine n_call ?_
    refine n_cons ?_
    refine n_var rfl ?_
    refine n_cons ?_
    refine n_var rfl ?_
    refine n_nil ?_
    obtain ⟨r187, hr187, hm⟩ := bnd hm
    refine ⟨F176, p_pool, vs179, r175.2, .int x_many, x_many, r187, rfl, g184.fh, m185.fr, m185.hp, al181, rfl, hr187, fun v194 F188 H189 vs191 d190 hp192 al193 r195 => ?_⟩
    have g196 := g184.trans d190 (fun a ha => (List.mem_cons.mp ha).elim (fun e => e ▸ m185.own) (fun ha => absurd ha (by simp)))
    have m197 := m185.back d190 hp192
    have m198 := m186.call d190 (nin1 (Ne.symm ne11))
    have er195 : v194 = V.int r187.1 := r195
    subst er195
    refine n_cons ?_
    refine n_c ?_
    refine n_nil ?_
    refine v_mkLF (t := eI) (xs := [r187.1, (0 : Int)]) g196.fh (.cons rfl (.cons rfl .nil)) rfl fun p199 F200 H201 d202 q203 al204 => ?_
    have g205 := g196.trans0 d202
    have m206 := m197.call0 d202
    have m207 := m198.call0 d202
    refine n_call ?_
    refine n_cons ?_
    refine n_var rfl ?_
    refine n_cons ?_
    refine n_c ?_
    refine n_nil ?_
    obtain ⟨r208, hr208, hm⟩ := bnd hm
    refine ⟨F200, p_pool, vs191, r187.2, .int (2 : Int), (2 : Int), r208, rfl, g205.fh, m206.fr, m206.hp, (Al.mono al193 d202.ff), rfl, hr208, fun v215 F209 H210 vs212 d211 hp213 al214 r216 => ?_⟩
    have g217 := g205.trans d211 (fun a ha => (List.mem_cons.mp ha).elim (fun e => e ▸ m206.own) (fun ha => absurd ha (by simp)))
    have m218 := m206.back d211 hp213
    have m219 := m207.call d211 (nin1 (Ne.symm ne11))
    have er216 : v215 = V.int r208.1 := r216
    subst er216
    obtain ⟨a220, ha220, hm⟩ := bnd hm
    refine v_ixL (SqL.of (g217.fh _ _ (d211.ff _ _ q203))) (Al.mono al204 d211.ff) ha220 fun v221 r222 => ?_
    have er222 : v221 = V.int a220 := r222
    subst er222
    refine n_name (setS (setS (setS (setS (setS (setS (setS (setS set0)))))))) ?_
    refine n_seq ?_
    refine n_asg ?_
    refine n_str (s := []) (by decide +kernel) ?_
    refine n_name (setS (setS (setS (setS (setS (setS (setS (setS (setS set0))))))))) ?_
    refine n_seq ?_
    refine n_for ?_
    refine n_rng1 ?_
    refine n_cons ?_
    refine n_var rfl ?_
    refine n_nil ?_
    obtain ⟨l223, hl223, hm⟩ := bnd hm
    refine v_rng1 hl223 ?_
    obtain ⟨s224, hs224, hm⟩ := bnd hm
    refine for_o (sr_R1 hl223) hs224 (fun (s7 : Sg × List Int) σ7 H7 => ∃ (F7 : Hp) (o_k : Option V) (o_at : Option V) (us_pool : List V), σ7 = [some (.ref p_pool), some (.int x_many), some (.int x_kind), some v_letters, some (.ref p2), some v161, o_k, some (.int r175.1), some (.int a220), some (.str (S s7.1)), o163, o164, o165, o166, o167, o_at] ∧ Gr [p_pool] F0 H0 F7 H7 ∧ Sub F209 F7 ∧ s7.1.length ≤ sizeLine ∧ Mu [p_pool] H0 F7 H7 p_pool (.lst us_pool) ∧ Al eI F7 us_pool s7.2 ∧ Mu [p_pool] H0 F7 H7 p2 (.lst vs169)) ⟨_, _, _, vs212, rfl, g217, Sub.refl _, (sz_ok (n := 0) rfl), m218, al214, m219⟩ ?_ ?_ ?_
    · intros; exact trivial
    · rintro a225 s226 s227 x228 _ H229 H230 ⟨F234, o237, o238, vs239, rfl, g235, sb236, l240, m241, al242, m243⟩ hY231 hm N232 hN233
      refine v_nmR hY231 ?_
      refine n_name (setS (setS (setS (setS (setS (setS set0)))))) ?_
      refine n_seq ?_
      refine n_asg ?_
      refine n_call ?_
      refine n_cons ?_
      refine n_var rfl ?_
      refine n_cons ?_
      refine n_cb ?_
      refine n_cons ?_
      refine n_var rfl ?_
      refine n_nil ?_
      obtain ⟨p244, vs245, ep244, q246, al247⟩ := (Rp.mono (eL eS) (Sub.trans d18.ff (Sub.trans sb160 (Sub.trans d178.ff (Sub.trans d190.ff (Sub.trans d202.ff (Sub.trans d211.ff sb236)))))) r_letters)
      subst ep244
      refine v_len (.inl (SqL.of (g235.fh _ _ q246))) al247 ?_
      refine n_nil ?_
      obtain ⟨r248, hr248, hm⟩ := bnd hm
      refine ⟨F234, p_pool, vs239, s226.2, .int (x_letters.length : Int), (x_letters.length : Int), r248, rfl, g235.fh, m241.fr, m241.hp, al242, rfl, hr248, fun v255 F249 H250 vs252 d251 hp253 al254 r256 => ?_⟩
      have g257 := g235.trans d251 (fun a ha => (List.mem_cons.mp ha).elim (fun e => e ▸ m241.own) (fun ha => absurd ha (by simp)))
      have m258 := m241.back d251 hp253
      have m259 := m243.call d251 (nin1 (Ne.symm ne11))
      have er256 : v255 = V.int r248.1 := r256
      subst er256
      refine n_name (setS (setS (setS (setS (setS (setS (setS (setS (setS (setS (setS (setS (setS (setS (setS set0))))))))))))))) ?_
      refine n_seq ?_
      refine n_ifs ?_
      refine n_test ?_
      refine n_chain ?_
      refine n_c ?_
      refine n_var rfl ?_
      refine v_i2 ?_
      refine v_bl ?_
      refine br_chain (b := (decide (r175.1 < (4 : Int)))) (fun _ Q7 k7 => ?_) ?_
      · refine n_c ?_
        refine v_i2 ?_
        exact k7
      refine v_bl ?_
      obtain ⟨s262, hs262, hm⟩ := bnd hm
      refine br_join (fun σ7 H7 => ∃ (F7 : Hp), σ7 = [some (.ref p_pool), some (.int x_many), some (.int x_kind), some (.ref p244), some (.ref p2), some v161, some (.int a225), some (.int r175.1), some (.int a220), some (.str (S s226.1)), o163, o164, o165, o166, o167, some (.int s262)] ∧ Gr [p_pool] F0 H0 F7 H7 ∧ Sub F249 F7 ∧ Mu [p_pool] H0 F7 H7 p_pool (.lst vs252) ∧ Mu [p_pool] H0 F7 H7 p2 (.lst vs169)) ?_ (fun hb261 nx263 hnx264 => ?_) (fun hb261 nx263 hnx264 => ?_)
      rotate_left
      · have hm := ifT hb261 hs262
        refine n_asg ?_
        refine n_op ?_
        refine n_op ?_
        refine n_var rfl ?_
        refine n_var rfl ?_
        obtain ⟨a265, ha265, hm⟩ := bnd hm
        refine v_mod ha265 ?_
        refine n_cb ?_
        refine n_cons ?_
        refine n_var rfl ?_
        refine n_nil ?_
        refine v_len (.inl (SqL.of (g257.fh _ _ (d251.ff _ _ q246)))) (Al.mono al247 d251.ff) ?_
        obtain ⟨a266, ha266, hm⟩ := bnd hm
        refine v_mod ha266 ?_
        refine n_name (setS (setS (setS (setS (setS (setS (setS (setS (setS (setS (setS (setS (setS (setS (setS set0))))))))))))))) ?_
        obtain rfl := Option.some.inj hm
        exact hnx264 _ _ ⟨_, rfl, g257, Sub.refl _, m258, m259⟩
      · have hm := ifF hb261 hs262
        refine n_nextS ?_
        obtain rfl := Option.some.inj hm
        exact hnx264 _ _ ⟨_, rfl, g257, Sub.refl _, m258, m259⟩
      rintro _ H272 ⟨F267, rfl, g268, sb269, m270, m271⟩
      refine n_seq ?_
      refine n_ifs ?_
      refine n_test ?_
      refine n_op ?_
      refine n_var rfl ?_
      refine n_c ?_
      refine v_i2 ?_
      refine v_bl ?_
      obtain ⟨s274, hs274, hm⟩ := bnd hm
      refine br_join (fun σ7 H7 => ∃ (F7 : Hp), σ7 = [some (.ref p_pool), some (.int x_many), some (.int x_kind), some (.ref p244), some (.ref p2), some v161, some (.int a225), some (.int r175.1), some (.int a220), some (.str (S s226.1)), o163, o164, o165, o166, o167, some (.int s274)] ∧ Gr [p_pool] F0 H0 F7 H7 ∧ Sub F267 F7 ∧ Mu [p_pool] H0 F7 H7 p_pool (.lst vs252) ∧ Mu [p_pool] H0 F7 H7 p2 (.lst vs169)) ?_ (fun hb273 nx275 hnx276 => ?_) (fun hb273 nx275 hnx276 => ?_)
      rotate_left
      · have hm := ifT hb273 hs274
        refine n_asg ?_
        refine n_op ?_
        refine n_cb ?_
        refine n_cons ?_
        refine n_op ?_
        refine n_var rfl ?_
        refine n_var rfl ?_
        refine v_eqI ?_
        refine n_nil ?_
        refine v_intB ?_
        refine n_cb ?_
        refine n_cons ?_
        refine n_var rfl ?_
        refine n_nil ?_
        refine v_len (.inl (SqL.of (g268.fh _ _ ((Sub.trans d251.ff sb269) _ _ q246)))) (Al.mono al247 (Sub.trans d251.ff sb269)) ?_
        obtain ⟨a277, ha277, hm⟩ := bnd hm
        refine v_mod ha277 ?_
        refine n_name (setS (setS (setS (setS (setS (setS (setS (setS (setS (setS (setS (setS (setS (setS (setS set0))))))))))))))) ?_
        obtain rfl := Option.some.inj hm
        exact hnx276 _ _ ⟨_, rfl, g268, Sub.refl _, m270, m271⟩
      · have hm := ifF hb273 hs274
        refine n_nextS ?_
        obtain rfl := Option.some.inj hm
        exact hnx276 _ _ ⟨_, rfl, g268, Sub.refl _, m270, m271⟩
      rintro _ H283 ⟨F278, rfl, g279, sb280, m281, m282⟩
      refine n_asg ?_
      refine n_op ?_
      refine n_var rfl ?_
      refine n_op ?_
      refine n_var rfl ?_
      refine n_var rfl ?_
      obtain ⟨a284, ha284, hm⟩ := bnd hm
      refine v_ixL (SqL.of (g279.fh _ _ ((Sub.trans d251.ff (Sub.trans sb269 sb280)) _ _ q246))) (Al.mono al247 (Sub.trans d251.ff (Sub.trans sb269 sb280))) ha284 fun v285 r286 => ?_
      obtain ⟨er286, lr286⟩ : v285 = V.str (S a284) ∧ a284.length ≤ sizeLine := r286
      subst er286
      obtain ⟨t287, ht287, hm⟩ := bnd hm
      refine v_catS ht287 ?_
      refine n_name (setS (setS (setS (setS (setS (setS (setS (setS (setS set0))))))))) ?_
      obtain rfl := Option.some.inj hm
      exact hN233 _ _ ⟨_, _, _, vs252, rfl, g279, (Sub.trans sb236 (Sub.trans d251.ff (Sub.trans sb269 sb280))), (catM_le ht287), m281, (Al.mono al254 (Sub.trans sb269 sb280)), m282⟩
    rintro _ H288 ⟨F289, o292, o293, vs294, rfl, g290, sb291, l295, m296, al297, m298⟩
    refine n_ret ?_
    refine n_tup ?_
    refine n_cons ?_
    refine n_cb ?_
    refine n_cons ?_
    refine n_var rfl ?_
    refine n_nil ?_
    refine v_tuple g290.fh m298.l (Al.mono al174 (Sub.trans d178.ff (Sub.trans d190.ff (Sub.trans d202.ff (Sub.trans d211.ff sb291))))) fun p299 F300 H301 d302 q303 al304 => ?_
    have g305 := g290.trans0 d302
    have m306 := m296.call0 d302
    have m307 := m298.call0 d302
    refine n_cons ?_
    refine n_var rfl ?_
    refine n_nil ?_
    refine v_mk2 g305.fh (show (eT eI).r F300 (.ref p299) s25.2.2 from (⟨p299, vs169, rfl, q303, al304⟩ : (eT eI).r F300 (.ref p299) s25.2.2)) (show eS.r F300 (.str (S s224.1)) s224.1 from ⟨rfl, l295⟩) fun v308 F309 H310 d311 r312 => ?_
    have g313 := g305.trans0 d311
    have m314 := m306.call0 d311
    have m315 := m307.call0 d311
    obtain rfl := Option.some.inj hm
    exact hk _ _ _ _ g313 m314.hp (Al.mono al297 (Sub.trans d302.ff d311.ff)) r312

def m__law_copies (x_pool : List Int) (x_most : Int) (x_letters : List Sg) : Option ((List Int × Sg) × List Int) :=
  (m__law_take x_pool (6 : Int)).bind fun r2 =>
  (m__law_grown r2.2 ((1 : Int) + r2.1) (2 : Int) x_letters).bind fun r13 =>
  (m__law_take r13.2 (2 : Int)).bind fun r24 =>
  (m__law_take r24.2 (x_letters.length : Int)).bind fun r52 =>
  (atI x_letters r52.1).bind fun a64 =>
  (m__law_take r52.2 (12 : Int)).bind fun r67 =>
  (uptoM 0 ((1 : Int) + r67.1)).bind fun l79 =>
  (foldO l79 (a64, [(-1 : Int)]) fun s82 a81 =>
  if (decide (((s82.2.length : Int) + (r13.1.1.length : Int)) ≤ x_most)) = true then
  (atI [(0 : Int), ((s82.2.length : Int) - (1 : Int))] r24.1).bind fun a116 =>
  (need (szB (cutL r13.1.1 (some (1 : Int)) none).length) ()).bind fun u162 =>
  (compS (cutL r13.1.1 (some (1 : Int)) none) fun a164 =>
  some (some (a164 + (s82.2.length : Int)))).bind fun q163 =>
  (catLM [a116] q163).bind fun l214 =>
  (catLM s82.2 l214).bind fun l225 =>
  (catM s82.1 r13.1.2).bind fun t234 =>
  some (t234, l225)
  else
  some (s82.1, s82.2)).bind fun s80 =>
  some ((s80.2, s80.1), r67.2)
def sp__law_copies (K : PySem.W.Frag) : Sp := fun vs H Q _ => ∃ (F : Hp) (p_pool : Addr) (vs_pool : List V) (x_pool : List Int) (v_most : V) (x_most : Int) (v_letters : V) (x_letters : List Sg) (r : ((List Int × Sg) × List Int)), vs = [.ref p_pool, v_most, v_letters] ∧ Sub F H ∧ F p_pool = none ∧ H p_pool = some (.lst vs_pool) ∧ Al eI F vs_pool x_pool ∧ eI.r F v_most x_most ∧ (eL eS).r F v_letters x_letters ∧ m__law_copies x_pool x_most x_letters = some r ∧ ∀ (v : V) (F' H' : Hp) (us_pool : List V), Gr [p_pool] F H F' H' → H' p_pool = some (.lst us_pool) → Al eI F' us_pool r.2 → (eP2 (eT eI) eS).r F' v r.1 → Q v H'
theorem sc__law_copies : FnScope ["pool", "most", "letters", "one", "chain", "ups", "labels", "turn", "here", "up"] ["pool", "most", "letters"] (defScope s__law_copies) := ⟨rfl, rfl, rfl, by decide +kernel, rfl, by decide +kernel, by decide +kernel⟩
theorem ok__law_copies {f : Addr} {fd : FuncData} (F : FnP K "_law_copies" s__law_copies f fd) (H__law_grown : Has P w K mg base "_law_grown" ["pool", "many", "kind", "letters"] 2 (sp__law_grown K)) (H__law_take : Has P w K mg base "_law_take" ["pool", "many"] 1 (sp__law_take K)) (b_range : mg "range" = none) (b_tuple : mg "tuple" = none) (b_len : mg "len" = none) : FnOk P w K mg base CX0 3 f fd ["pool", "most", "letters"] (sp__law_copies K) := by
  obtain ⟨f__law_grown, fd__law_grown, G0__law_grown, g__law_grown, k__law_grown, b__law_grown⟩ := H__law_grown
  have G__law_grown := G0__law_grown.mono (show 2 ≤ 2 by decide)
  obtain ⟨f__law_take, fd__law_take, G0__law_take, g__law_take, k__law_take, b__law_take⟩ := H__law_take
  have G__law_take := G0__law_take.mono (show 1 ≤ 2 by decide)
  refine F.ok sc__law_copies (fun vs H Q E h => ?_) (fun cdv A outer s H0 vs Q E hr h => ?_)
  · obtain ⟨_, _, _, _, _, _, _, _, _, rfl, _⟩ := h
    rfl
  · obtain ⟨F0, p_pool, vs_pool, x_pool, v_most, x_most, v_letters, x_letters, r0, rfl, hs0, fr_pool, hp_pool, al_pool, r_most, r_letters, hm, hk⟩ := h
    have g0 : Gr [p_pool] F0 H0 F0 H0 := Gr.refl hs0
    have m1 : Mu [p_pool] H0 F0 H0 p_pool (.lst vs_pool) := ⟨fr_pool, hp_pool, .inr (by simp)⟩
    have er_most : v_most = V.int x_most := r_most
    subst er_most
    refine ⟨_, PSs.nox (pss_cons (ps_set (i := 3) sc__law_copies.nd rfl (by first | exact Or.inl rfl | exact Or.inr rfl) (pe_call G__law_grown hr (by rfl) g__law_grown k__law_grown b__law_grown .nil pass0 (pa_cons (pv 0) (pa_cons (pe_op op_add pe_int (pe_call G__law_take hr (by rfl) g__law_take k__law_take b__law_take .nil pass0 (pa_cons (pv 0) (pa_cons pe_int pa_nil)))) (pa_cons pe_int (pa_cons (pv 2) pa_nil))))))
(pss_cons (ps_set (i := 4) sc__law_copies.nd rfl (by first | exact Or.inl rfl | exact Or.inr rfl) (pe_call G__law_take hr (by rfl) g__law_take k__law_take b__law_take .nil pass0 (pa_cons (pv 0) (pa_cons pe_int pa_nil))))
(pss_cons (ps_set (i := 5) sc__law_copies.nd rfl (by first | exact Or.inl rfl | exact Or.inr rfl) (pe_lst (pa_cons (pe_un un_neg pe_int) pa_nil)))
(pss_cons (ps_set (i := 6) sc__law_copies.nd rfl (by first | exact Or.inl rfl | exact Or.inr rfl) (pe_ix (c_ixL (K := K) rfl) (pv 2) (pe_call G__law_take hr (by rfl) g__law_take k__law_take b__law_take .nil pass0 (pa_cons (pv 0) (pa_cons (pe_callB (c_len (K := K) rfl) (by rfl) b_len bo_len (pa_cons (pv 2) pa_nil)) pa_nil))) (fun _ _ => rfl)))
(pss_cons (ps_for PassesOwn.never rfl (pi_range1 (by rfl) b_range (pa_cons (pe_op op_add pe_int (pe_call G__law_take hr (by rfl) g__law_take k__law_take b__law_take .nil pass0 (pa_cons (pv 0) (pa_cons pe_int pa_nil)))) pa_nil)) (pg_name (i := 7) sc__law_copies.nd rfl (by first | exact Or.inl rfl | exact Or.inr rfl)) (pss_one (ps_if (pt_cmpR op_le (pe_op op_add (pe_callB (c_len (K := K) rfl) (by rfl) b_len bo_len (pa_cons (pv 5) pa_nil)) (pe_callB (c_len (K := K) rfl) (by rfl) b_len bo_len (pa_cons (pe_ix (c_ixT (K := K) rfl) (pv 3) pe_int (fun _ _ => rfl)) pa_nil))) (pv 1) (nomark _)) (pss_cons (ps_set (i := 8) sc__law_copies.nd rfl (by first | exact Or.inl rfl | exact Or.inr rfl) (pe_callB (c_len (K := K) rfl) (by rfl) b_len bo_len (pa_cons (pv 5) pa_nil)))
(pss_cons (ps_expr (c_bm (K := K) rfl PySem.F.plainAttrs_list PySem.F.slot_list_extend PySem.F.type_list_extend mt_extend (pv 5) (pa_cons (pe_op op_cat (pe_lst (pa_cons (pe_ix (c_ixL (K := K) rfl) (pe_lst (pa_cons pe_int (pa_cons (pe_op op_sub (pv 8) pe_int) pa_nil))) (pv 4) (fun _ _ => rfl)) pa_nil)) (pe_lc (own := [("up", 9)]) (g := gName 9) (by rfl) sc__law_copies.nd (c_pitup (K := K) rfl (pe_slice (c_slT (K := K) rfl) (pe_ix (c_ixT (K := K) rfl) (pv 3) pe_int (fun _ _ => rfl)) (po_some pe_int) po_none)) (blkOk_by (own := [("up", 9)]) (N := ["pool", "most", "letters", "one", "chain", "ups", "labels", "turn", "here", "up"]) (sc := defScope s__law_copies) (by decide +kernel)) (fun _ _ _ _ _ => (pg_name (i := 9) sc__law_copies.nd rfl (Or.inl rfl))) (fun _ _ _ _ _ => pts_nil) (fun _ _ _ _ _ => (pe_op op_add (pv 9) (pv 8))))) pa_nil)))
(pss_one (ps_set (i := 6) sc__law_copies.nd rfl (by first | exact Or.inl rfl | exact Or.inr rfl) (pe_op c_catS (pv 6) (pe_ix (c_ixT (K := K) rfl) (pv 3) pe_int (fun _ _ => rfl))))))) pss_nil)))
(pss_one (ps_ret (pe_tup (pa_cons (pe_callTy (c_tuple (K := K) rfl) (by rfl) b_tuple bo_tuple (pa_cons (pv 5) pa_nil)) (pa_cons (pv 6) pa_nil)))))))))), ?_⟩
    refine n_seq ?_
    refine n_asg ?_
    refine n_call ?_
    refine n_cons ?_
    refine n_var rfl ?_
    refine n_cons ?_
    refine n_op ?_
    refine n_c ?_
    refine n_call ?_
    refine n_cons ?_
    refine n_var rfl ?_
    refine n_cons ?_
    refine n_c ?_
    refine n_nil ?_
    obtain ⟨r2, hr2, hm⟩ := bnd hm
    refine ⟨F0, p_pool, vs_pool, x_pool, .int (6 : Int), (6 : Int), r2, rfl, g0.fh, m1.fr, m1.hp, al_pool, rfl, hr2, fun v9 F3 H4 vs6 d5 hp7 al8 r10 => ?_⟩
    have g11 := g0.trans d5 (fun a ha => (List.mem_cons.mp ha).elim (fun e => e ▸ m1.own) (fun ha => absurd ha (by simp)))
    have m12 := m1.back d5 hp7
    have er10 : v9 = V.int r2.1 := r10
    subst er10
    refine v_i2 ?_
    refine n_cons ?_
    refine n_c ?_
    refine n_cons ?_
    refine n_var rfl ?_
    refine n_nil ?_
    obtain ⟨r13, hr13, hm⟩ := bnd hm
    refine ⟨F3, p_pool, vs6, r2.2, .int ((1 : Int) + r2.1), ((1 : Int) + r2.1), .int (2 : Int), (2 : Int), v_letters, x_letters, r13, rfl, g11.fh, m12.fr, m12.hp, al8, rfl, rfl, (Rp.mono (eL eS) d5.ff r_letters), hr13, fun v20 F14 H15 vs17 d16 hp18 al19 r21 => ?_⟩
    have g22 := g11.trans d16 (fun a ha => (List.mem_cons.mp ha).elim (fun e => e ▸ m12.own) (fun ha => absurd ha (by simp)))
    have m23 := m12.back d16 hp18
    refine n_name (setS (setS (setS set0))) ?_
    refine n_seq ?_
    refine n_asg ?_
    refine n_call ?_
    refine n_cons ?_
    refine n_var rfl ?_
    refine n_cons ?_
    refine n_c ?_
    refine n_nil ?_
    obtain ⟨r24, hr24, hm⟩ := bnd hm
    refine ⟨F14, p_pool, vs17, r13.2, .int (2 : Int), (2 : Int), r24, rfl, g22.fh, m23.fr, m23.hp, al19, rfl, hr24, fun v31 F25 H26 vs28 d27 hp29 al30 r32 => ?_⟩
    have g33 := g22.trans d27 (fun a ha => (List.mem_cons.mp ha).elim (fun e => e ▸ m23.own) (fun ha => absurd ha (by simp)))
    have m34 := m23.back d27 hp29
    have er32 : v31 = V.int r24.1 := r32
    subst er32
    refine n_name (setS (setS (setS (setS set0)))) ?_
    refine n_seq ?_
    refine n_asg ?_
    refine n_lst ?_
    refine n_cons ?_
    refine n_un ?_
    refine n_c ?_
    refine v_neg ?_
    refine n_nil ?_
    have al42 : Al eI F25 [.int (-(1 : Int))] [(-1 : Int)] := (.cons rfl .nil)
    refine v_mkLM g33.fh rfl fun p35 H36 np37 d38 fp39 hp40 => ?_
    have go43 := g33.old np37
    have ne44 := m34.ne np37
    have g45 := g33.trans0 d38
    have m46 := m34.call0 d38
    have m47 : Mu [p_pool] H0 F25 H36 p35 (.lst [.int (-(1 : Int))]) := ⟨fp39, hp40, .inl go43⟩
    refine n_name (setS (setS (setS (setS (setS set0))))) ?_
    refine n_seq ?_
    refine n_asg ?_
    refine n_op ?_
    refine n_var rfl ?_
    refine n_call ?_
    refine n_cons ?_
    refine n_var rfl ?_
    refine n_cons ?_
    refine n_cb ?_
    refine n_cons ?_
    refine n_var rfl ?_
    refine n_nil ?_
    obtain ⟨p48, vs49, ep48, q50, al51⟩ := (Rp.mono (eL eS) (Sub.trans d5.ff (Sub.trans d16.ff d27.ff)) r_letters)
    subst ep48
    refine v_len (.inl (SqL.of (g45.fh _ _ q50))) al51 ?_
    refine n_nil ?_
    obtain ⟨r52, hr52, hm⟩ := bnd hm
    refine ⟨F25, p_pool, vs28, r24.2, .int (x_letters.length : Int), (x_letters.length : Int), r52, rfl, g45.fh, m46.fr, m46.hp, al30, rfl, hr52, fun v59 F53 H54 vs56 d55 hp57 al58 r60 => ?_⟩
    have g61 := g45.trans d55 (fun a ha => (List.mem_cons.mp ha).elim (fun e => e ▸ m46.own) (fun ha => absurd ha (by simp)))
    have m62 := m46.back d55 hp57
    have m63 := m47.call d55 (nin1 (Ne.symm ne44))
    have er60 : v59 = V.int r52.1 := r60
    subst er60
    obtain ⟨a64, ha64, hm⟩ := bnd hm
    refine v_ixL (SqL.of (g61.fh _ _ (d55.ff _ _ q50))) (Al.mono al51 d55.ff) ha64 fun v65 r66 => ?_
    obtain ⟨er66, lr66⟩ : v65 = V.str (S a64) ∧ a64.length ≤ sizeLine := r66
    subst er66
    refine n_name (setS (setS (setS (setS (setS (setS set0)))))) ?_
    refine n_seq ?_
    refine n_for ?_
    refine n_rng1 ?_
    refine n_cons ?_
    refine n_op ?_
    refine n_c ?_
    refine n_call ?_
    refine n_cons ?_
    refine n_var rfl ?_
    refine n_cons ?_
    refine n_c ?_
    refine n_nil ?_
    obtain ⟨r67, hr67, hm⟩ := bnd hm
    refine ⟨F53, p_pool, vs56, r52.2, .int (12 : Int), (12 : Int), r67, rfl, g61.fh, m62.fr, m62.hp, al58, rfl, hr67, fun v74 F68 H69 vs71 d70 hp72 al73 r75 => ?_⟩
    have g76 := g61.trans d70 (fun a ha => (List.mem_cons.mp ha).elim (fun e => e ▸ m62.own) (fun ha => absurd ha (by simp)))
    have m77 := m62.back d70 hp72
    have m78 := m63.call d70 (nin1 (Ne.symm ne44))
    have er75 : v74 = V.int r67.1 := r75
    subst er75
    refine v_i2 ?_
    refine n_nil ?_
    obtain ⟨l79, hl79, hm⟩ := bnd hm
    refine v_rng1 hl79 ?_
    obtain ⟨s80, hs80, hm⟩ := bnd hm
    refine for_o (sr_R1 hl79) hs80 (fun (s7 : Sg × List Int) σ7 H7 => ∃ (F7 : Hp) (o_turn : Option V) (o_here : Option V) (us_ups : List V), σ7 = [some (.ref p_pool), some (.int x_most), some (.ref p48), some v20, some (.int r24.1), some (.ref p35), some (.str (S s7.1)), o_turn, o_here, none] ∧ Gr [p_pool] F0 H0 F7 H7 ∧ Sub F68 F7 ∧ s7.1.length ≤ sizeLine ∧ Mu [p_pool] H0 F7 H7 p35 (.lst us_ups) ∧ Al eI F7 us_ups s7.2 ∧ Mu [p_pool] H0 F7 H7 p_pool (.lst vs71)) ⟨_, _, _, [.int (-(1 : Int))], rfl, g76, Sub.refl _, lr66, m78, (Al.mono al42 (Sub.trans d55.ff d70.ff)), m77⟩ ?_ ?_ ?_
    · intros; exact trivial
    · rintro a81 s82 s83 x84 _ H85 H86 ⟨F90, o93, o94, vs95, rfl, g91, sb92, l96, m97, al98, m99⟩ hY87 hm N88 hN89
      refine v_nmR hY87 ?_
      refine n_name (setS (setS (setS (setS (setS (setS (setS set0))))))) ?_
      refine n_ifs ?_
      refine n_test ?_
      refine n_op ?_
      refine n_op ?_
      refine n_cb ?_
      refine n_cons ?_
      refine n_var rfl ?_
      refine n_nil ?_
      refine v_len (.inl m97.l) al98 ?_
      refine n_cb ?_
      refine n_cons ?_
      refine n_op ?_
      refine n_var rfl ?_
      refine n_c ?_
      refine v_ix20 g91.fh (Rp.mono (eP2 (eT eI) eS) (Sub.trans d27.ff (Sub.trans d55.ff (Sub.trans d70.ff sb92))) r21) fun v100 r101 => ?_
      refine n_nil ?_
      obtain ⟨p102, vs103, ep102, q104, al105⟩ := r101
      subst ep102
      refine v_len (.inr (SqT.of (g91.fh _ _ q104))) al105 ?_
      refine v_i2 ?_
      refine n_var rfl ?_
      refine v_i2 ?_
      refine v_bl ?_
      refine br (fun hb106 => ?_) (fun hb106 => ?_)
      · replace hm := ifT hb106 hm
        refine n_seq ?_
        refine n_asg ?_
        refine n_cb ?_
        refine n_cons ?_
        refine n_var rfl ?_
        refine n_nil ?_
        refine v_len (.inl m97.l) al98 ?_
        refine n_name (setS (setS (setS (setS (setS (setS (setS (setS set0)))))))) ?_
        refine n_seq ?_
        refine n_drop ?_
        refine n_bm ?_
        refine n_var rfl ?_
        refine ⟨tyL m97.l, ?_⟩
        refine n_cons ?_
        refine n_op ?_
        refine n_lst ?_
        refine n_cons ?_
        refine n_op ?_
        refine n_lst ?_
        refine n_cons ?_
        refine n_c ?_
        refine n_cons ?_
        refine n_op ?_
        refine n_var rfl ?_
        refine n_c ?_
        refine v_i2 ?_
        refine n_nil ?_
        refine v_mkLF (t := eI) (xs := [(0 : Int), ((s82.2.length : Int) - (1 : Int))]) g91.fh (.cons rfl (.cons rfl .nil)) rfl fun p107 F108 H109 d110 q111 al112 => ?_
        have g113 := g91.trans0 d110
        have m114 := m99.call0 d110
        have m115 := m97.call0 d110
        refine n_var rfl ?_
        obtain ⟨a116, ha116, hm⟩ := bnd hm
        refine v_ixL (SqL.of (g113.fh _ _ q111)) al112 ha116 fun v117 r118 => ?_
        have er118 : v117 = V.int a116 := r118
        subst er118
        refine n_nil ?_
        refine v_mkLF (t := eI) (xs := [a116]) g113.fh (.cons rfl .nil) rfl fun p119 F120 H121 d122 q123 al124 => ?_
        have g125 := g113.trans0 d122
        have m126 := m114.call0 d122
        have m127 := m115.call0 d122
        refine n_lc ?_
        refine n_itT ?_
        refine n_sl ?_
        refine n_op ?_
        refine n_var rfl ?_
        refine n_c ?_
        refine v_ix20 g125.fh (Rp.mono (eP2 (eT eI) eS) (Sub.trans d27.ff (Sub.trans d55.ff (Sub.trans d70.ff (Sub.trans sb92 (Sub.trans d110.ff d122.ff))))) r21) fun v144 r145 => ?_
        refine n_part ?_
        refine n_c ?_
        refine v_part ?_
        refine n_nopart ?_
        obtain ⟨p146, vs147, ep146, q148, al149⟩ := r145
        subst ep146
        refine v_slT g125.fh q148 al149 fun p150 vs151 F152 H153 d154 q155 al156 => ?_
        have g157 := g125.trans0 d154
        have m158 := m126.call0 d154
        have m159 := m127.call0 d154
        refine v_itT (SqT.of (g157.fh _ _ q155)) ?_
        obtain ⟨u162, hu162, hm⟩ := bnd hm
        obtain ⟨q163, hq163, hm⟩ := bnd hm
        intro D160 nD161
        have goD160 := g157.old nD161
        have neD160_p_pool := m158.ne nD161
        have neD160_p35 := m159.ne nD161
        have gg192 := gr_newM (W := []) (o := .lst []) g157.fh nD161
        refine comp_s (sr_T al156) hq163 (need_ok hu162).1 (fun (acc7 : List Int) H7 => ∃ (F7 : Hp) (vs7 : List V), Gr [p_pool] F0 H0 F7 H7 ∧ Sub F152 F7 ∧ F7 D160 = none ∧ H7 D160 = some (.lst vs7) ∧ Al eI F7 vs7 acc7 ∧ Mu [p_pool] H0 F7 H7 p_pool (.lst vs71) ∧ Mu [p_pool] H0 F7 H7 p35 (.lst vs95)) ⟨_, [], g157.trans0 gg192, Sub.refl _, g157.fh.nn nD161, upd_same, .nil, m158.call0 gg192, m159.call0 gg192⟩ ?_ ?_ ?_
        · rintro _ _ ⟨F175, vs176, g177, sb178, _, _, _, _, _⟩
          exact (SqT.of (g177.fh _ _ (sb178 _ _ q155)))
        · rintro a164 r166 acc167 x168 H169 H170 ⟨F175, vs176, g177, sb178, fD179, hD180, al181, m182, m184⟩ hY171 hm hl174 N172 hN173
          have m186 : Mu [p_pool] H0 F175 H169 D160 (.lst vs176) := ⟨fD179, hD180, .inl goD160⟩
          refine wipe_to (σ' := [some (.ref p_pool), some (.int x_most), some (.ref p48), some v20, some (.int r24.1), some (.ref p35), some (.str (S s82.1)), some (.int a81), some (.int (s82.2.length : Int)), none]) rfl ?_
          refine v_nmY hY171 fun r187 => ?_
          have er187 : x168 = V.int a164 := r187
          subst er187
          refine n_name (setS (setS (setS (setS (setS (setS (setS (setS (setS set0))))))))) ?_
          refine ⟨rfl, ?_⟩
          refine n_yes ?_ rfl
          refine n_op ?_
          refine n_var rfl ?_
          refine n_var rfl ?_
          refine v_i2 ?_
          obtain rfl := Option.some.inj hm
          refine ⟨_, m186.hp, by rw [al_len al181]; exact hl174, hN173 _ ?_⟩
          exact ⟨_, _, m186.gr g177, sb178, m186.fr, upd_same, pd_snoc al181 (show eI.r F175 (.int (a164 + (s82.2.length : Int))) (a164 + (s82.2.length : Int)) from rfl), m182.mut neD160_p_pool, m184.mut neD160_p35⟩
        rintro H193 ⟨F194, vs195, g196, sb197, fD198, hD199, al200, m201, m203⟩
        have m205 : Mu [p_pool] H0 F194 H193 D160 (.lst vs195) := ⟨fD198, hD199, .inl goD160⟩
        obtain ⟨F206, q208, sb210, g209, d207⟩ := freeze g196 m205 (m205.own.resolve_right (nin1 (Ne.symm neD160_p_pool)))
        have m211 := d207 _ _ neD160_p_pool m201
        have m212 := d207 _ _ neD160_p35 m203
        have al213 := (Al.mono al200 sb210)
        obtain ⟨l214, hl214, hm⟩ := bnd hm
        refine v_catF g209.fh (g209.fh _ _ ((Sub.trans d154.ff (Sub.trans sb197 sb210)) _ _ q123)) (g209.fh _ _ q208) (Al.mono al124 (Sub.trans d154.ff (Sub.trans sb197 sb210))) al213 hl214 fun p215 vs216 F218 H219 d220 q221 al217 => ?_
        have g222 := g209.trans0 d220
        have m223 := m211.call0 d220
        have m224 := m212.call0 d220
        refine n_nil ?_
        obtain ⟨l225, hl225, hm⟩ := bnd hm
        obtain ⟨vs228, H226, g229, al227, evs228, eH226⟩ := ext_ok g222 m224 (Al.mono al98 (Sub.trans d110.ff (Sub.trans d122.ff (Sub.trans d154.ff (Sub.trans sb197 (Sub.trans sb210 d220.ff)))))) al217 hl225
        refine v_extend m224.hp (g222.fh _ _ q221) (cat_le (Al.mono al98 (Sub.trans d110.ff (Sub.trans d122.ff (Sub.trans d154.ff (Sub.trans sb197 (Sub.trans sb210 d220.ff)))))) al217 hl225) ?_
        rw [← evs228, ← eH226]
        have m230 := mu_oth m223 ne44 eH226
        have m231 := mu_self m224 eH226
        refine n_asg ?_
        refine n_op ?_
        refine n_var rfl ?_
        refine n_op ?_
        refine n_var rfl ?_
        refine n_c ?_
        refine v_ix21 g229.fh (Rp.mono (eP2 (eT eI) eS) (Sub.trans d27.ff (Sub.trans d55.ff (Sub.trans d70.ff (Sub.trans sb92 (Sub.trans d110.ff (Sub.trans d122.ff (Sub.trans d154.ff (Sub.trans sb197 (Sub.trans sb210 d220.ff))))))))) r21) fun v232 r233 => ?_
        obtain ⟨er233, lr233⟩ : v232 = V.str (S r13.1.2) ∧ r13.1.2.length ≤ sizeLine := r233
        subst er233
        obtain ⟨t234, ht234, hm⟩ := bnd hm
        refine v_catS ht234 ?_
        refine n_name (setS (setS (setS (setS (setS (setS set0)))))) ?_
        obtain rfl := Option.some.inj hm
        exact hN89 _ _ ⟨_, _, _, vs228, rfl, g229, (Sub.trans sb92 (Sub.trans d110.ff (Sub.trans d122.ff (Sub.trans d154.ff (Sub.trans sb197 (Sub.trans sb210 d220.ff)))))), (catM_le ht234), m231, al227, m230⟩
      replace hm := ifF hb106 hm
      refine n_nextS ?_
      obtain rfl := Option.some.inj hm
      exact hN89 _ _ ⟨_, _, _, vs95, rfl, g91, sb92, l96, m97, al98, m99⟩
    rintro _ H235 ⟨F236, o239, o240, vs241, rfl, g237, sb238, l242, m243, al244, m245⟩
    refine n_ret ?_
    refine n_tup ?_
    refine n_cons ?_
    refine n_cb ?_
    refine n_cons ?_
    refine n_var rfl ?_
    refine n_nil ?_
    refine v_tuple g237.fh m243.l al244 fun p246 F247 H248 d249 q250 al251 => ?_
    have g252 := g237.trans0 d249
    have m253 := m245.call0 d249
    have m254 := m243.call0 d249
    refine n_cons ?_
    refine n_var rfl ?_
    refine n_nil ?_
    refine v_mk2 g252.fh (show (eT eI).r F247 (.ref p246) s80.2 from (⟨p246, vs241, rfl, q250, al251⟩ : (eT eI).r F247 (.ref p246) s80.2)) (show eS.r F247 (.str (S s80.1)) s80.1 from ⟨rfl, l242⟩) fun v255 F256 H257 d258 r259 => ?_
    have g260 := g252.trans0 d258
    have m261 := m253.call0 d258
    have m262 := m254.call0 d258
    obtain rfl := Option.some.inj hm
    exact hk _ _ _ _ g260 m261.hp (Al.mono al73 (Sub.trans sb238 (Sub.trans d249.ff d258.ff))) r259

def m__law_tree (x_pool : List Int) (x_most : Int) : Option ((List Int × Sg) × List Int) :=
  (m__law_take x_pool (8 : Int)).bind fun r2 =>
  (m__law_take r2.2 (9 : Int)).bind fun r13 =>
  (m__law_take r13.2 x_most).bind fun r24 =>
  (m__law_take r24.2 (3 : Int)).bind fun r43 =>
  (atI [((1 : Int) + r13.1), ((1 : Int) + r24.1), x_most] r43.1).bind fun a54 =>
  (m__law_letters r43.2).bind fun r57 =>
  if (decide ((5 : Int) < r2.1)) = true then
  (m__law_copies r57.2 x_most r57.1).bind fun r85 =>
  some (r85.1, r85.2)
  else
  (m__law_grown r57.2 a54 r2.1 r57.1).bind fun r96 =>
  some (r96.1, r96.2)
def sp__law_tree (K : PySem.W.Frag) : Sp := fun vs H Q _ => ∃ (F : Hp) (p_pool : Addr) (vs_pool : List V) (x_pool : List Int) (v_most : V) (x_most : Int) (r : ((List Int × Sg) × List Int)), vs = [.ref p_pool, v_most] ∧ Sub F H ∧ F p_pool = none ∧ H p_pool = some (.lst vs_pool) ∧ Al eI F vs_pool x_pool ∧ eI.r F v_most x_most ∧ m__law_tree x_pool x_most = some r ∧ ∀ (v : V) (F' H' : Hp) (us_pool : List V), Gr [p_pool] F H F' H' → H' p_pool = some (.lst us_pool) → Al eI F' us_pool r.2 → (eP2 (eT eI) eS).r F' v r.1 → Q v H'
theorem sc__law_tree : FnScope ["pool", "most", "kind", "many", "letters"] ["pool", "most"] (defScope s__law_tree) := ⟨rfl, rfl, rfl, by decide +kernel, rfl, by decide +kernel, by decide +kernel⟩
theorem ok__law_tree {f : Addr} {fd : FuncData} (F : FnP K "_law_tree" s__law_tree f fd) (H__law_take : Has P w K mg base "_law_take" ["pool", "many"] 1 (sp__law_take K)) (H__law_letters : Has P w K mg base "_law_letters" ["pool"] 2 (sp__law_letters K)) (H__law_grown : Has P w K mg base "_law_grown" ["pool", "many", "kind", "letters"] 2 (sp__law_grown K)) (H__law_copies : Has P w K mg base "_law_copies" ["pool", "most", "letters"] 3 (sp__law_copies K)) : FnOk P w K mg base CX0 4 f fd ["pool", "most"] (sp__law_tree K) := by
  obtain ⟨f__law_take, fd__law_take, G0__law_take, g__law_take, k__law_take, b__law_take⟩ := H__law_take
  have G__law_take := G0__law_take.mono (show 1 ≤ 3 by decide)
  obtain ⟨f__law_letters, fd__law_letters, G0__law_letters, g__law_letters, k__law_letters, b__law_letters⟩ := H__law_letters
  have G__law_letters := G0__law_letters.mono (show 2 ≤ 3 by decide)
  obtain ⟨f__law_grown, fd__law_grown, G0__law_grown, g__law_grown, k__law_grown, b__law_grown⟩ := H__law_grown
  have G__law_grown := G0__law_grown.mono (show 2 ≤ 3 by decide)
  obtain ⟨f__law_copies, fd__law_copies, G0__law_copies, g__law_copies, k__law_copies, b__law_copies⟩ := H__law_copies
  have G__law_copies := G0__law_copies.mono (show 3 ≤ 3 by decide)
  refine F.ok sc__law_tree (fun vs H Q E h => ?_) (fun cdv A outer s H0 vs Q E hr h => ?_)
  · obtain ⟨_, _, _, _, _, _, _, rfl, _⟩ := h
    rfl
  · obtain ⟨F0, p_pool, vs_pool, x_pool, v_most, x_most, r0, rfl, hs0, fr_pool, hp_pool, al_pool, r_most, hm, hk⟩ := h
    have g0 : Gr [p_pool] F0 H0 F0 H0 := Gr.refl hs0
    have m1 : Mu [p_pool] H0 F0 H0 p_pool (.lst vs_pool) := ⟨fr_pool, hp_pool, .inr (by simp)⟩
    have er_most : v_most = V.int x_most := r_most
    subst er_most
    refine ⟨_, PSs.nox (pss_cons (ps_set (i := 2) sc__law_tree.nd rfl (by first | exact Or.inl rfl | exact Or.inr rfl) (pe_call G__law_take hr (by rfl) g__law_take k__law_take b__law_take .nil pass0 (pa_cons (pv 0) (pa_cons pe_int pa_nil))))
(pss_cons (ps_set (i := 3) sc__law_tree.nd rfl (by first | exact Or.inl rfl | exact Or.inr rfl) (pe_ix (c_ixL (K := K) rfl) (pe_lst (pa_cons (pe_op op_add pe_int (pe_call G__law_take hr (by rfl) g__law_take k__law_take b__law_take .nil pass0 (pa_cons (pv 0) (pa_cons pe_int pa_nil)))) (pa_cons (pe_op op_add pe_int (pe_call G__law_take hr (by rfl) g__law_take k__law_take b__law_take .nil pass0 (pa_cons (pv 0) (pa_cons (pv 1) pa_nil)))) (pa_cons (pv 1) pa_nil)))) (pe_call G__law_take hr (by rfl) g__law_take k__law_take b__law_take .nil pass0 (pa_cons (pv 0) (pa_cons pe_int pa_nil))) (fun _ _ => rfl)))
(pss_cons (ps_set (i := 4) sc__law_tree.nd rfl (by first | exact Or.inl rfl | exact Or.inr rfl) (pe_call G__law_letters hr (by rfl) g__law_letters k__law_letters b__law_letters .nil pass0 (pa_cons (pv 0) pa_nil)))
(pss_cons (ps_if (pt_cmpR op_gt (pv 2) pe_int (nomark _)) (pss_one (ps_ret (pe_call G__law_copies hr (by rfl) g__law_copies k__law_copies b__law_copies .nil pass0 (pa_cons (pv 0) (pa_cons (pv 1) (pa_cons (pv 4) pa_nil)))))) pss_nil)
(pss_one (ps_ret (pe_call G__law_grown hr (by rfl) g__law_grown k__law_grown b__law_grown .nil pass0 (pa_cons (pv 0) (pa_cons (pv 3) (pa_cons (pv 2) (pa_cons (pv 4) pa_nil))))))))))), ?_⟩
    refine n_seq ?_
    refine n_asg ?_
    refine n_call ?_
    refine n_cons ?_
    refine n_var rfl ?_
    refine n_cons ?_
    refine n_c ?_
    refine n_nil ?_
    obtain ⟨r2, hr2, hm⟩ := bnd hm
    refine ⟨F0, p_pool, vs_pool, x_pool, .int (8 : Int), (8 : Int), r2, rfl, g0.fh, m1.fr, m1.hp, al_pool, rfl, hr2, fun v9 F3 H4 vs6 d5 hp7 al8 r10 => ?_⟩
    have g11 := g0.trans d5 (fun a ha => (List.mem_cons.mp ha).elim (fun e => e ▸ m1.own) (fun ha => absurd ha (by simp)))
    have m12 := m1.back d5 hp7
    have er10 : v9 = V.int r2.1 := r10
    subst er10
    refine n_name (setS (setS set0)) ?_
    refine n_seq ?_
    refine n_asg ?_
    refine n_op ?_
    refine n_lst ?_
    refine n_cons ?_
    refine n_op ?_
    refine n_c ?_
    refine n_call ?_
    refine n_cons ?_
    refine n_var rfl ?_
    refine n_cons ?_
    refine n_c ?_
    refine n_nil ?_
    obtain ⟨r13, hr13, hm⟩ := bnd hm
    refine ⟨F3, p_pool, vs6, r2.2, .int (9 : Int), (9 : Int), r13, rfl, g11.fh, m12.fr, m12.hp, al8, rfl, hr13, fun v20 F14 H15 vs17 d16 hp18 al19 r21 => ?_⟩
    have g22 := g11.trans d16 (fun a ha => (List.mem_cons.mp ha).elim (fun e => e ▸ m12.own) (fun ha => absurd ha (by simp)))
    have m23 := m12.back d16 hp18
    have er21 : v20 = V.int r13.1 := r21
    subst er21
    refine v_i2 ?_
    refine n_cons ?_
    refine n_op ?_
    refine n_c ?_
    refine n_call ?_
    refine n_cons ?_
    refine n_var rfl ?_
    refine n_cons ?_
    refine n_var rfl ?_
    refine n_nil ?_
    obtain ⟨r24, hr24, hm⟩ := bnd hm
    refine ⟨F14, p_pool, vs17, r13.2, .int x_most, x_most, r24, rfl, g22.fh, m23.fr, m23.hp, al19, rfl, hr24, fun v31 F25 H26 vs28 d27 hp29 al30 r32 => ?_⟩
    have g33 := g22.trans d27 (fun a ha => (List.mem_cons.mp ha).elim (fun e => e ▸ m23.own) (fun ha => absurd ha (by simp)))
    have m34 := m23.back d27 hp29
    have er32 : v31 = V.int r24.1 := r32
    subst er32
    refine v_i2 ?_
    refine n_cons ?_
    refine n_var rfl ?_
    refine n_nil ?_
    refine v_mkLF (t := eI) (xs := [((1 : Int) + r13.1), ((1 : Int) + r24.1), x_most]) g33.fh (.cons rfl (.cons rfl (.cons rfl .nil))) rfl fun p35 F36 H37 d38 q39 al40 => ?_
    have g41 := g33.trans0 d38
    have m42 := m34.call0 d38
    refine n_call ?_
    refine n_cons ?_
    refine n_var rfl ?_
    refine n_cons ?_
    refine n_c ?_
    refine n_nil ?_
    obtain ⟨r43, hr43, hm⟩ := bnd hm
    refine ⟨F36, p_pool, vs28, r24.2, .int (3 : Int), (3 : Int), r43, rfl, g41.fh, m42.fr, m42.hp, (Al.mono al30 d38.ff), rfl, hr43, fun v50 F44 H45 vs47 d46 hp48 al49 r51 => ?_⟩
    have g52 := g41.trans d46 (fun a ha => (List.mem_cons.mp ha).elim (fun e => e ▸ m42.own) (fun ha => absurd ha (by simp)))
    have m53 := m42.back d46 hp48
    have er51 : v50 = V.int r43.1 := r51
    subst er51
    obtain ⟨a54, ha54, hm⟩ := bnd hm
    refine v_ixL (SqL.of (g52.fh _ _ (d46.ff _ _ q39))) (Al.mono al40 d46.ff) ha54 fun v55 r56 => ?_
    have er56 : v55 = V.int a54 := r56
    subst er56
    refine n_name (setS (setS (setS set0))) ?_
    refine n_seq ?_
    refine n_asg ?_
    refine n_call ?_
    refine n_cons ?_
    refine n_var rfl ?_
    refine n_nil ?_
    obtain ⟨r57, hr57, hm⟩ := bnd hm
    refine ⟨F44, p_pool, vs47, r43.2, r57, rfl, g52.fh, m53.fr, m53.hp, al49, hr57, fun v70 F58 H59 vs61 d60 hp62 al63 r71 => ?_⟩
    obtain ⟨p64, vs65, ev70, np66, fp67, hp68, al69⟩ := r71
    subst ev70
    have go72 := g52.old np66
    have ne73 := m53.ne np66
    have g74 := g52.trans d60 (fun a ha => (List.mem_cons.mp ha).elim (fun e => e ▸ m53.own) (fun ha => absurd ha (by simp)))
    have m75 := m53.back d60 hp62
    have m76 : Mu [p_pool] H0 F58 H59 p64 (.lst vs65) := ⟨fp67, hp68, .inl go72⟩
    obtain ⟨F77, q79, sb81, g80, d78⟩ := freeze g74 m76 (m76.own.resolve_right (nin1 (Ne.symm ne73)))
    have m82 := d78 _ _ ne73 m75
    have al83 := (Al.mono al69 sb81)
    refine n_name (setS (setS (setS (setS set0)))) ?_
    refine n_seq ?_
    refine n_ifs ?_
    refine n_test ?_
    refine n_op ?_
    refine n_var rfl ?_
    refine n_c ?_
    refine v_i2 ?_
    refine v_bl ?_
    refine br (fun hb84 => ?_) (fun hb84 => ?_)
    · replace hm := ifT hb84 hm
      refine n_ret ?_
      refine n_call ?_
      refine n_cons ?_
      refine n_var rfl ?_
      refine n_cons ?_
      refine n_var rfl ?_
      refine n_cons ?_
      refine n_var rfl ?_
      refine n_nil ?_
      obtain ⟨r85, hr85, hm⟩ := bnd hm
      refine ⟨F77, p_pool, vs61, r57.2, .int x_most, x_most, (.ref p64), r57.1, r85, rfl, g80.fh, m82.fr, m82.hp, (Al.mono al63 sb81), rfl, (⟨p64, vs65, rfl, q79, al83⟩ : (eL eS).r F77 (.ref p64) r57.1), hr85, fun v92 F86 H87 vs89 d88 hp90 al91 r93 => ?_⟩
      have g94 := g80.trans d88 (fun a ha => (List.mem_cons.mp ha).elim (fun e => e ▸ m82.own) (fun ha => absurd ha (by simp)))
      have m95 := m82.back d88 hp90
      obtain rfl := Option.some.inj hm
      exact hk _ _ _ _ g94 m95.hp al91 r93
    replace hm := ifF hb84 hm
    refine n_nextS ?_
    refine n_ret ?_
    refine n_call ?_
    refine n_cons ?_
    refine n_var rfl ?_
    refine n_cons ?_
    refine n_var rfl ?_
    refine n_cons ?_
    refine n_var rfl ?_
    refine n_cons ?_
    refine n_var rfl ?_
    refine n_nil ?_
    obtain ⟨r96, hr96, hm⟩ := bnd hm
    refine ⟨F77, p_pool, vs61, r57.2, .int a54, a54, .int r2.1, r2.1, (.ref p64), r57.1, r96, rfl, g80.fh, m82.fr, m82.hp, (Al.mono al63 sb81), rfl, rfl, (⟨p64, vs65, rfl, q79, al83⟩ : (eL eS).r F77 (.ref p64) r57.1), hr96, fun v103 F97 H98 vs100 d99 hp101 al102 r104 => ?_⟩
    have g105 := g80.trans d99 (fun a ha => (List.mem_cons.mp ha).elim (fun e => e ▸ m82.own) (fun ha => absurd ha (by simp)))
    have m106 := m82.back d99 hp101
    obtain rfl := Option.some.inj hm
    exact hk _ _ _ _ g105 m106.hp al102 r104

def m__law_word (x_tree : (List Int × Sg)) (x_place : Int) : Option Sg :=
  (whileO 1000000 (([] : Sg), x_place) (fun s2 =>
  some (decide ((0 : Int) ≤ s2.2))) (fun s11 =>
  (atI x_tree.2 s11.2).bind fun c22 =>
  (catM s11.1 [c22]).bind fun t23 =>
  (atI x_tree.1 s11.2).bind fun a26 =>
  some (t23, a26))).bind fun s1 =>
  some s1.1
def sp__law_word (K : PySem.W.Frag) : Sp := fun vs H Q _ => ∃ (F : Hp) (v_tree : V) (x_tree : (List Int × Sg)) (v_place : V) (x_place : Int) (r : Sg), vs = [v_tree, v_place] ∧ Sub F H ∧ (eP2 (eT eI) eS).r F v_tree x_tree ∧ eI.r F v_place x_place ∧ m__law_word x_tree x_place = some r ∧ ∀ (v : V) (F' H' : Hp) , Gr [] F H F' H' → eS.r F' v r → Q v H'
theorem sc__law_word : FnScope ["tree", "place", "found"] ["tree", "place"] (defScope s__law_word) := ⟨rfl, rfl, rfl, by decide +kernel, rfl, by decide +kernel, by decide +kernel⟩
theorem ok__law_word {f : Addr} {fd : FuncData} (F : FnP K "_law_word" s__law_word f fd)  : FnOk P w K mg base CX0 1 f fd ["tree", "place"] (sp__law_word K) := by
  refine F.ok sc__law_word (fun vs H Q E h => ?_) (fun cdv A outer s H0 vs Q E hr h => ?_)
  · obtain ⟨_, _, _, _, _, _, rfl, _⟩ := h
    rfl
  · obtain ⟨F0, v_tree, x_tree, v_place, x_place, r0, rfl, hs0, r_tree, r_place, hm, hk⟩ := h
    have g0 : Gr [] F0 H0 F0 H0 := Gr.refl hs0
    have er_place : v_place = V.int x_place := r_place
    subst er_place
    refine ⟨_, PSs.nox (pss_cons (ps_set (i := 2) sc__law_word.nd rfl (by first | exact Or.inl rfl | exact Or.inr rfl) pe_str)
(pss_cons (ps_while PassesOwn.never (pt_cmpR op_ge (pv 1) pe_int (nomark _)) (pss_cons (ps_set (i := 2) sc__law_word.nd rfl (by first | exact Or.inl rfl | exact Or.inr rfl) (pe_op c_catS (pv 2) (pe_ix ix_str (pe_ix (c_ixT (K := K) rfl) (pv 0) pe_int (fun _ _ => rfl)) (pv 1) (fun _ _ => rfl))))
(pss_one (ps_set (i := 1) sc__law_word.nd rfl (by first | exact Or.inl rfl | exact Or.inr rfl) (pe_ix (c_ixT (K := K) rfl) (pe_ix (c_ixT (K := K) rfl) (pv 0) pe_int (fun _ _ => rfl)) (pv 1) (fun _ _ => rfl))))))
(pss_one (ps_ret (pv 2))))), ?_⟩
    refine n_seq ?_
    refine n_asg ?_
    refine n_str (s := []) (by decide +kernel) ?_
    refine n_name (setS (setS set0)) ?_
    refine n_seq ?_
    obtain ⟨s1, hs1, hm⟩ := bnd hm
    refine while_o hs1 (fun (s7 : Sg × Int) σ7 H7 => ∃ (F7 : Hp), σ7 = [some v_tree, some (.int s7.2), some (.str (S s7.1))] ∧ Gr [] F0 H0 F7 H7 ∧ Sub F0 F7 ∧ s7.1.length ≤ sizeLine) ⟨_, rfl, g0, Sub.refl _, (sz_ok (n := 0) rfl)⟩ ?_ ?_ ?_
    · rintro s2 b3 _ H4 ⟨F7, rfl, g8, sb9, l10⟩ hm P5 hP6
      refine n_test ?_
      refine n_op ?_
      refine n_var rfl ?_
      refine n_c ?_
      refine v_i2 ?_
      refine v_bl ?_
      obtain rfl := Option.some.inj hm
      exact hP6 _ ⟨_, rfl, g8, sb9, l10⟩
    · rintro s11 s12 _ H13 ⟨F16, rfl, g17, sb18, l19⟩ _ hm N14 hN15
      refine n_seq ?_
      refine n_asg ?_
      refine n_op ?_
      refine n_var rfl ?_
      refine n_op ?_
      refine n_op ?_
      refine n_var rfl ?_
      refine n_c ?_
      refine v_ix21 g17.fh (Rp.mono (eP2 (eT eI) eS) sb18 r_tree) fun v20 r21 => ?_
      obtain ⟨er21, lr21⟩ : v20 = V.str (S x_tree.2) ∧ x_tree.2.length ≤ sizeLine := r21
      subst er21
      refine n_var rfl ?_
      obtain ⟨c22, hc22, hm⟩ := bnd hm
      refine v_ixS lr21 hc22 ?_
      obtain ⟨t23, ht23, hm⟩ := bnd hm
      refine v_catS ht23 ?_
      refine n_name (setS (setS set0)) ?_
      refine n_asg ?_
      refine n_op ?_
      refine n_op ?_
      refine n_var rfl ?_
      refine n_c ?_
      refine v_ix20 g17.fh (Rp.mono (eP2 (eT eI) eS) sb18 r_tree) fun v24 r25 => ?_
      refine n_var rfl ?_
      obtain ⟨a26, ha26, hm⟩ := bnd hm
      obtain ⟨p27, vs28, ep27, q29, al30⟩ := r25
      subst ep27
      refine v_ixT (SqT.of (g17.fh _ _ q29)) al30 ha26 fun v31 r32 => ?_
      have er32 : v31 = V.int a26 := r32
      subst er32
      refine n_name (setS set0) ?_
      obtain rfl := Option.some.inj hm
      exact hN15 _ _ ⟨_, rfl, g17, sb18, (catM_le ht23)⟩
    rintro _ H33 ⟨F34, rfl, g35, sb36, l37⟩ _
    refine n_ret ?_
    refine n_var rfl ?_
    obtain rfl := Option.some.inj hm
    exact hk _ _ _  g35   ⟨rfl, l37⟩

def m__law_right (x_tree : (List Int × Sg)) (x_place : Int) : Option Bool :=
  (m__law_word x_tree x_place).bind fun r1 =>
  (m_word_of x_tree x_place).bind fun r8 =>
  (m_word_above x_tree x_place).bind fun r15 =>
  if ((!true) || (!decide (r8 = r1))) = true then
  some false
  else
  (atI x_tree.1 x_place).bind fun a26 =>
  if (decide (a26 < (0 : Int))) = true then
  some (true && (decide (r15 = ([] : Sg))))
  else
  (if true = true then
  (atI x_tree.1 x_place).bind fun a40 =>
  (m__law_word x_tree a40).bind fun r47 =>
  some (decide (r15 = r47))
  else
  some false).bind fun c36 =>
  some c36
def sp__law_right (K : PySem.W.Frag) : Sp := fun vs H Q _ => ∃ (F : Hp) (v_tree : V) (x_tree : (List Int × Sg)) (v_place : V) (x_place : Int) (r : Bool), vs = [v_tree, v_place] ∧ Sub F H ∧ (eP2 (eT eI) eS).r F v_tree x_tree ∧ eI.r F v_place x_place ∧ m__law_right x_tree x_place = some r ∧ ∀ (v : V) (F' H' : Hp) , Gr [] F H F' H' → eB.r F' v r → Q v H'
theorem sc__law_right : FnScope ["tree", "place", "due", "found", "above"] ["tree", "place"] (defScope s__law_right) := ⟨rfl, rfl, rfl, by decide +kernel, rfl, by decide +kernel, by decide +kernel⟩
theorem ok__law_right {f : Addr} {fd : FuncData} (F : FnP K "_law_right" s__law_right f fd) (H__law_word : Has P w K mg base "_law_word" ["tree", "place"] 1 (sp__law_word K)) (H_word_of : Has P w K mg base "word_of" ["tree", "place"] 1 (sp_word_of K)) (H_word_above : Has P w K mg base "word_above" ["tree", "place"] 2 (sp_word_above K)) (b_isinstance : mg "isinstance" = none) (b_str : mg "str" = none) : FnOk P w K mg base CX0 3 f fd ["tree", "place"] (sp__law_right K) := by
  obtain ⟨f__law_word, fd__law_word, G0__law_word, g__law_word, k__law_word, b__law_word⟩ := H__law_word
  have G__law_word := G0__law_word.mono (show 1 ≤ 2 by decide)
  obtain ⟨f_word_of, fd_word_of, G0_word_of, g_word_of, k_word_of, b_word_of⟩ := H_word_of
  have G_word_of := G0_word_of.mono (show 1 ≤ 2 by decide)
  obtain ⟨f_word_above, fd_word_above, G0_word_above, g_word_above, k_word_above, b_word_above⟩ := H_word_above
  have G_word_above := G0_word_above.mono (show 2 ≤ 2 by decide)
  refine F.ok sc__law_right (fun vs H Q E h => ?_) (fun cdv A outer s H0 vs Q E hr h => ?_)
  · obtain ⟨_, _, _, _, _, _, rfl, _⟩ := h
    rfl
  · obtain ⟨F0, v_tree, x_tree, v_place, x_place, r0, rfl, hs0, r_tree, r_place, hm, hk⟩ := h
    have g0 : Gr [] F0 H0 F0 H0 := Gr.refl hs0
    have er_place : v_place = V.int x_place := r_place
    subst er_place
    refine ⟨_, PSs.nox (pss_cons (ps_set (i := 2) sc__law_right.nd rfl (by first | exact Or.inl rfl | exact Or.inr rfl) (pe_call G__law_word hr (by rfl) g__law_word k__law_word b__law_word .nil pass0 (pa_cons (pv 0) (pa_cons (pv 1) pa_nil))))
(pss_cons (ps_set (i := 3) sc__law_right.nd rfl (by first | exact Or.inl rfl | exact Or.inr rfl) (pe_call G_word_of hr (by rfl) g_word_of k_word_of b_word_of .nil pass0 (pa_cons (pv 0) (pa_cons (pv 1) pa_nil))))
(pss_cons (ps_set (i := 4) sc__law_right.nd rfl (by first | exact Or.inl rfl | exact Or.inr rfl) (pe_call G_word_above hr (by rfl) g_word_above k_word_above b_word_above .nil pass0 (pa_cons (pv 0) (pa_cons (pv 1) pa_nil))))
(pss_cons (ps_if (PW.pt (pw_or (pt_not (pt_val (pe_callB (c_isi (K := K) rfl) (by rfl) b_isinstance bo_isinstance (pa_cons (pv 3) (pa_cons (pe_bltn (v := .ty "str") (by rfl) b_str bo_str rfl) pa_nil))))) (pw_or1 (pt_cmpR op_ne (pv 3) (pv 2) (nomark _))))) (pss_one (ps_ret pe_bl)) pss_nil)
(pss_cons (ps_if (pt_cmpR op_lt (pe_ix (c_ixT (K := K) rfl) (pe_ix (c_ixT (K := K) rfl) (pv 0) pe_int (fun _ _ => rfl)) (pv 1) (fun _ _ => rfl)) pe_int (nomark _)) (pss_one (ps_ret (pe_and (pe_callB (c_isi (K := K) rfl) (by rfl) b_isinstance bo_isinstance (pa_cons (pv 4) (pa_cons (pe_bltn (v := .ty "str") (by rfl) b_str bo_str rfl) pa_nil))) (pe_one (pe_cmpR op_eq (pv 4) pe_str (nomark _)))))) pss_nil)
(pss_one (ps_ret (pe_and (pe_callB (c_isi (K := K) rfl) (by rfl) b_isinstance bo_isinstance (pa_cons (pv 4) (pa_cons (pe_bltn (v := .ty "str") (by rfl) b_str bo_str rfl) pa_nil))) (pe_one (pe_cmpR op_eq (pv 4) (pe_call G__law_word hr (by rfl) g__law_word k__law_word b__law_word .nil pass0 (pa_cons (pv 0) (pa_cons (pe_ix (c_ixT (K := K) rfl) (pe_ix (c_ixT (K := K) rfl) (pv 0) pe_int (fun _ _ => rfl)) (pv 1) (fun _ _ => rfl)) pa_nil))) (nomark _))))))))))), ?_⟩
    refine n_seq ?_
    refine n_asg ?_
    refine n_call ?_
    refine n_cons ?_
    refine n_var rfl ?_
    refine n_cons ?_
    refine n_var rfl ?_
    refine n_nil ?_
    obtain ⟨r1, hr1, hm⟩ := bnd hm
    refine ⟨F0, v_tree, x_tree, .int x_place, x_place, r1, rfl, g0.fh, r_tree, rfl, hr1, fun v5 F2 H3 d4 r6 => ?_⟩
    have g7 := g0.trans0 d4
    obtain ⟨er6, lr6⟩ : v5 = V.str (S r1) ∧ r1.length ≤ sizeLine := r6
    subst er6
    refine n_name (setS (setS set0)) ?_
    refine n_seq ?_
    refine n_asg ?_
    refine n_call ?_
    refine n_cons ?_
    refine n_var rfl ?_
    refine n_cons ?_
    refine n_var rfl ?_
    refine n_nil ?_
    obtain ⟨r8, hr8, hm⟩ := bnd hm
    refine ⟨F2, v_tree, x_tree, .int x_place, x_place, r8, rfl, g7.fh, (Rp.mono (eP2 (eT eI) eS) d4.ff r_tree), rfl, hr8, fun v12 F9 H10 d11 r13 => ?_⟩
    have g14 := g7.trans0 d11
    obtain ⟨er13, lr13⟩ : v12 = V.str (S r8) ∧ r8.length ≤ sizeLine := r13
    subst er13
    refine n_name (setS (setS (setS set0))) ?_
    refine n_seq ?_
    refine n_asg ?_
    refine n_call ?_
    refine n_cons ?_
    refine n_var rfl ?_
    refine n_cons ?_
    refine n_var rfl ?_
    refine n_nil ?_
    obtain ⟨r15, hr15, hm⟩ := bnd hm
    refine ⟨F9, v_tree, x_tree, .int x_place, x_place, r15, rfl, g14.fh, (Rp.mono (eP2 (eT eI) eS) (Sub.trans d4.ff d11.ff) r_tree), rfl, hr15, fun v19 F16 H17 d18 r20 => ?_⟩
    have g21 := g14.trans0 d18
    obtain ⟨er20, lr20⟩ : v19 = V.str (S r15) ∧ r15.length ≤ sizeLine := r20
    subst er20
    refine n_name (setS (setS (setS (setS set0)))) ?_
    refine n_seq ?_
    refine n_ifs ?_
    refine n_or ?_
    refine n_not ?_
    refine n_tB ?_
    refine n_cb ?_
    refine n_cons ?_
    refine n_var rfl ?_
    refine n_cons ?_
    refine n_c ?_
    refine n_nil ?_
    refine v_isi (b := true) (.base (.str _)) (by decide +kernel) ?_
    refine v_bl ?_
    refine br_orT (b := (!decide (r8 = r1))) (fun hb22 Q7 k7 => ?_) ?_
    · refine n_test ?_
      refine n_op ?_
      refine n_var rfl ?_
      refine n_var rfl ?_
      refine v_neS ?_
      refine v_bl ?_
      exact k7
    refine br (fun hb23 => ?_) (fun hb23 => ?_)
    · replace hm := ifT hb23 hm
      refine n_ret ?_
      refine n_c ?_
      obtain rfl := Option.some.inj hm
      exact hk _ _ _  g21   rfl
    replace hm := ifF hb23 hm
    refine n_nextS ?_
    refine n_seq ?_
    refine n_ifs ?_
    refine n_test ?_
    refine n_op ?_
    refine n_op ?_
    refine n_op ?_
    refine n_var rfl ?_
    refine n_c ?_
    refine v_ix20 g21.fh (Rp.mono (eP2 (eT eI) eS) (Sub.trans d4.ff (Sub.trans d11.ff d18.ff)) r_tree) fun v24 r25 => ?_
    refine n_var rfl ?_
    obtain ⟨a26, ha26, hm⟩ := bnd hm
    obtain ⟨p27, vs28, ep27, q29, al30⟩ := r25
    subst ep27
    refine v_ixT (SqT.of (g21.fh _ _ q29)) al30 ha26 fun v31 r32 => ?_
    have er32 : v31 = V.int a26 := r32
    subst er32
    refine n_c ?_
    refine v_i2 ?_
    refine v_bl ?_
    refine br (fun hb33 => ?_) (fun hb33 => ?_)
    · replace hm := ifT hb33 hm
      refine n_ret ?_
      refine n_andV ?_
      refine n_cb ?_
      refine n_cons ?_
      refine n_var rfl ?_
      refine n_cons ?_
      refine n_c ?_
      refine n_nil ?_
      refine v_isi (b := true) (.base (.str _)) (by decide +kernel) ?_
      refine v_bl ?_
      refine br_andV (b := (decide (r15 = ([] : Sg)))) (fun hb34 Q7 k7 => ?_) ?_
      · refine n_op ?_
        refine n_var rfl ?_
        refine n_str (s := []) (by decide +kernel) ?_
        refine v_eqS ?_
        exact k7
      obtain rfl := Option.some.inj hm
      exact hk _ _ _  g21   rfl
    replace hm := ifF hb33 hm
    refine n_nextS ?_
    refine n_ret ?_
    refine n_andV ?_
    refine n_cb ?_
    refine n_cons ?_
    refine n_var rfl ?_
    refine n_cons ?_
    refine n_c ?_
    refine n_nil ?_
    refine v_isi (b := true) (.base (.str _)) (by decide +kernel) ?_
    refine v_bl ?_
    obtain ⟨c36, hc36, hm⟩ := bnd hm
    refine br_andVM (c := c36) (fun H7 => ∃ F37, Gr [] F0 H0 F37 H7 ∧ Sub F16 F37) (fun hb35 Q7 k7 => ?_) (fun hb35 => ?_) ?_
    · have hm := ifT hb35 hc36
      refine n_op ?_
      refine n_var rfl ?_
      refine n_call ?_
      refine n_cons ?_
      refine n_var rfl ?_
      refine n_cons ?_
      refine n_op ?_
      refine n_op ?_
      refine n_var rfl ?_
      refine n_c ?_
      refine v_ix20 g21.fh (Rp.mono (eP2 (eT eI) eS) (Sub.trans d4.ff (Sub.trans d11.ff d18.ff)) r_tree) fun v38 r39 => ?_
      refine n_var rfl ?_
      obtain ⟨a40, ha40, hm⟩ := bnd hm
      obtain ⟨p41, vs42, ep41, q43, al44⟩ := r39
      subst ep41
      refine v_ixT (SqT.of (g21.fh _ _ q43)) al44 ha40 fun v45 r46 => ?_
      have er46 : v45 = V.int a40 := r46
      subst er46
      refine n_nil ?_
      obtain ⟨r47, hr47, hm⟩ := bnd hm
      refine ⟨F16, v_tree, x_tree, .int a40, a40, r47, rfl, g21.fh, (Rp.mono (eP2 (eT eI) eS) (Sub.trans d4.ff (Sub.trans d11.ff d18.ff)) r_tree), rfl, hr47, fun v51 F48 H49 d50 r52 => ?_⟩
      have g53 := g21.trans0 d50
      obtain ⟨er52, lr52⟩ : v51 = V.str (S r47) ∧ r47.length ≤ sizeLine := r52
      subst er52
      refine v_eqS ?_
      obtain rfl := Option.some.inj hm
      exact k7 _ ⟨_, g53, d50.ff⟩
    · have hm := ifF hb35 hc36
      exact ⟨(Option.some.inj hm).symm, ⟨_, g21, Sub.refl _⟩⟩
    rintro H54 ⟨F57, g55, sb56⟩
    obtain rfl := Option.some.inj hm
    exact hk _ _ _  g55   rfl

def m_law (x_script : List Int) : Option Bool :=
  (uptoM 0 (mx (1 : Int) (mn (12 : Int) (x_script.length : Int)))).bind fun l1 =>
  (foldR l1 () fun s5 a4 =>
  (m__law_pool x_script a4).bind fun r20 =>
  (m__law_tree r20 (60 : Int)).bind fun r35 =>
  (uptoM 0 (r35.1.1.length : Int)).bind fun l51 =>
  (foldR l51 () fun s55 a54 =>
  (m__law_right r35.1 a54).bind fun r68 =>
  if (!r68) = true then
  some (.rt false)
  else
  some (.nx ())).bind fun z52 =>
  thenF z52 (fun s77 =>
  some (.nx ())) (fun r7 => some (.rt r7))).bind fun z2 =>
  thenF z2 (fun s84 =>
  some true) (fun r7 => some r7)
def sp_law (K : PySem.W.Frag) : Sp := fun vs H Q _ => ∃ (F : Hp) (v_script : V) (x_script : List Int) (r : Bool), vs = [v_script] ∧ Sub F H ∧ (eQ K).r F v_script x_script ∧ m_law x_script = some r ∧ ∀ (v : V) (F' H' : Hp) , Gr [] F H F' H' → eB.r F' v r → Q v H'
theorem sc_law : FnScope ["script", "at", "tree", "place"] ["script"] (defScope s_law) := ⟨rfl, rfl, rfl, by decide +kernel, rfl, by decide +kernel, by decide +kernel⟩
theorem ok_law {f : Addr} {fd : FuncData} (F : FnP K "law" s_law f fd) (H__law_tree : Has P w K mg base "_law_tree" ["pool", "most"] 4 (sp__law_tree K)) (H__law_pool : Has P w K mg base "_law_pool" ["script", "at"] 2 (sp__law_pool K)) (H__law_right : Has P w K mg base "_law_right" ["tree", "place"] 3 (sp__law_right K)) (b_range : mg "range" = none) (b_max : mg "max" = none) (b_min : mg "min" = none) (b_len : mg "len" = none) : FnOk P w K mg base CX0 5 f fd ["script"] (sp_law K) := by
  obtain ⟨f__law_tree, fd__law_tree, G0__law_tree, g__law_tree, k__law_tree, b__law_tree⟩ := H__law_tree
  have G__law_tree := G0__law_tree.mono (show 4 ≤ 4 by decide)
  obtain ⟨f__law_pool, fd__law_pool, G0__law_pool, g__law_pool, k__law_pool, b__law_pool⟩ := H__law_pool
  have G__law_pool := G0__law_pool.mono (show 2 ≤ 4 by decide)
  obtain ⟨f__law_right, fd__law_right, G0__law_right, g__law_right, k__law_right, b__law_right⟩ := H__law_right
  have G__law_right := G0__law_right.mono (show 3 ≤ 4 by decide)
  refine F.ok sc_law (fun vs H Q E h => ?_) (fun cdv A outer s H0 vs Q E hr h => ?_)
  · obtain ⟨_, _, _, _, rfl, _⟩ := h
    rfl
  · obtain ⟨F0, v_script, x_script, r0, rfl, hs0, r_script, hm, hk⟩ := h
    have g0 : Gr [] F0 H0 F0 H0 := Gr.refl hs0
    refine ⟨_, PSs.nox (pss_cons (ps_for PassesOwn.never rfl (pi_range1 (by rfl) b_range (pa_cons (pe_callB (c_max2 rfl) (by rfl) b_max bo_max (pa_cons pe_int (pa_cons (pe_callB (c_min2 rfl) (by rfl) b_min bo_min (pa_cons pe_int (pa_cons (pe_callB (c_len (K := K) rfl) (by rfl) b_len bo_len (pa_cons (pv 0) pa_nil)) pa_nil))) pa_nil))) pa_nil)) (pg_name (i := 1) sc_law.nd rfl (by first | exact Or.inl rfl | exact Or.inr rfl)) (pss_cons (ps_set (i := 2) sc_law.nd rfl (by first | exact Or.inl rfl | exact Or.inr rfl) (pe_call G__law_tree hr (by rfl) g__law_tree k__law_tree b__law_tree .nil pass0 (pa_cons (pe_call G__law_pool hr (by rfl) g__law_pool k__law_pool b__law_pool .nil pass0 (pa_cons (pv 0) (pa_cons (pv 1) pa_nil))) (pa_cons pe_int pa_nil))))
(pss_one (ps_for PassesOwn.never rfl (pi_range1 (by rfl) b_range (pa_cons (pe_callB (c_len (K := K) rfl) (by rfl) b_len bo_len (pa_cons (pe_ix (c_ixT (K := K) rfl) (pv 2) pe_int (fun _ _ => rfl)) pa_nil)) pa_nil)) (pg_name (i := 3) sc_law.nd rfl (by first | exact Or.inl rfl | exact Or.inr rfl)) (pss_one (ps_if (pt_not (pt_val (pe_call G__law_right hr (by rfl) g__law_right k__law_right b__law_right .nil pass0 (pa_cons (pv 2) (pa_cons (pv 3) pa_nil))))) (pss_one (ps_ret pe_bl)) pss_nil))))))
(pss_one (ps_ret pe_bl))), ?_⟩
    refine n_seq ?_
    refine n_for ?_
    refine n_rng1 ?_
    refine n_cons ?_
    refine n_cb ?_
    refine n_cons ?_
    refine n_c ?_
    refine n_cons ?_
    refine n_cb ?_
    refine n_cons ?_
    refine n_c ?_
    refine n_cons ?_
    refine n_cb ?_
    refine n_cons ?_
    refine n_var rfl ?_
    refine n_nil ?_
    refine v_lenQ g0.fh r_script ?_
    refine n_nil ?_
    refine v_min2 ?_
    refine n_nil ?_
    refine v_max2 ?_
    refine n_nil ?_
    obtain ⟨l1, hl1, hm⟩ := bnd hm
    refine v_rng1 hl1 ?_
    obtain ⟨z2, hz2, hm⟩ := bnd hm
    have hmo3 := hm
    refine for_r (sr_R1 hl1) hz2 (fun (s7 : Unit) σ7 H7 => ∃ (F7 : Hp) (o_at : Option V) (o_tree : Option V) (o_place : Option V), σ7 = [some v_script, o_at, o_tree, o_place] ∧ Gr [] F0 H0 F7 H7 ∧ Sub F0 F7) ⟨_, _, _, _, rfl, g0, Sub.refl _⟩ ?_ ?_ ?_
    · intros; exact trivial
    · rintro a4 s5 s6 x7 _ H8 H9 ⟨F13, o16, o17, o18, rfl, g14, sb15⟩ hY10 hm hrt19 N11 hN12
      refine v_nmR hY10 ?_
      refine n_name (setS set0) ?_
      refine n_seq ?_
      refine n_asg ?_
      refine n_call ?_
      refine n_cons ?_
      refine n_call ?_
      refine n_cons ?_
      refine n_var rfl ?_
      refine n_cons ?_
      refine n_var rfl ?_
      refine n_nil ?_
      obtain ⟨r20, hr20, hm⟩ := bnd hm
      refine ⟨F13, v_script, x_script, .int a4, a4, r20, rfl, g14.fh, (Rp.mono (eQ K) sb15 r_script), rfl, hr20, fun v30 F21 H22 d23 r31 => ?_⟩
      obtain ⟨p24, vs25, ev30, np26, fp27, hp28, al29⟩ := r31
      subst ev30
      have go32 := g14.old np26
      have g33 := g14.trans0 d23
      have m34 : Mu [] H0 F21 H22 p24 (.lst vs25) := ⟨fp27, hp28, .inl go32⟩
      refine n_cons ?_
      refine n_c ?_
      refine n_nil ?_
      obtain ⟨r35, hr35, hm⟩ := bnd hm
      refine ⟨F21, p24, vs25, r20, .int (60 : Int), (60 : Int), r35, rfl, g33.fh, m34.fr, m34.hp, al29, rfl, hr35, fun v42 F36 H37 vs39 d38 hp40 al41 r43 => ?_⟩
      have g44 := g33.trans d38 (fun a ha => (List.mem_cons.mp ha).elim (fun e => e ▸ m34.own) (fun ha => absurd ha (by simp)))
      refine n_name (setS (setS set0)) ?_
      refine n_for ?_
      refine n_rng1 ?_
      refine n_cons ?_
      refine n_cb ?_
      refine n_cons ?_
      refine n_op ?_
      refine n_var rfl ?_
      refine n_c ?_
      refine v_ix20 g44.fh r43 fun v45 r46 => ?_
      refine n_nil ?_
      obtain ⟨p47, vs48, ep47, q49, al50⟩ := r46
      subst ep47
      refine v_len (.inr (SqT.of (g44.fh _ _ q49))) al50 ?_
      refine n_nil ?_
      obtain ⟨l51, hl51, hm⟩ := bnd hm
      refine v_rng1 hl51 ?_
      obtain ⟨z52, hz52, hm⟩ := bnd hm
      have hmo53 := hm
      refine for_r (sr_R1 hl51) hz52 (fun (s7 : Unit) σ7 H7 => ∃ (F7 : Hp) (o_place : Option V), σ7 = [some v_script, some (.int a4), some v42, o_place] ∧ Gr [] F0 H0 F7 H7 ∧ Sub F36 F7) ⟨_, _, rfl, g44, Sub.refl _⟩ ?_ ?_ ?_
      · intros; exact trivial
      · rintro a54 s55 s56 x57 _ H58 H59 ⟨F63, o66, rfl, g64, sb65⟩ hY60 hm hrt67 N61 hN62
        refine v_nmR hY60 ?_
        refine n_name (setS (setS (setS set0))) ?_
        refine n_ifs ?_
        refine n_not ?_
        refine n_tB ?_
        refine n_call ?_
        refine n_cons ?_
        refine n_var rfl ?_
        refine n_cons ?_
        refine n_var rfl ?_
        refine n_nil ?_
        obtain ⟨r68, hr68, hm⟩ := bnd hm
        refine ⟨F63, v42, r35.1, .int a54, a54, r68, rfl, g64.fh, (Rp.mono (eP2 (eT eI) eS) sb65 r43), rfl, hr68, fun v72 F69 H70 d71 r73 => ?_⟩
        have g74 := g64.trans0 d71
        have er73 : v72 = V.bl r68 := r73
        subst er73
        refine v_bl ?_
        refine br (fun hb75 => ?_) (fun hb75 => ?_)
        · replace hm := ifT hb75 hm
          refine n_ret ?_
          refine n_c ?_
          obtain rfl := Option.some.inj hm
          have hm := thenF_rt (hrt67 _ rfl) hmo53
          obtain rfl := Option.some.inj hm
          have hm := thenF_rt (hrt19 _ rfl) hmo3
          obtain rfl := Option.some.inj hm
          exact hk _ _ _  g74   rfl
        replace hm := ifF hb75 hm
        refine n_nextS ?_
        obtain rfl := Option.some.inj hm
        exact hN62 _ _ _ rfl ⟨_, _, rfl, g74, (Sub.trans sb65 d71.ff)⟩
      rintro s77 _ H76 e78 ⟨F79, o82, rfl, g80, sb81⟩
      subst e78
      replace hm := thenF_nx hm
      obtain rfl := Option.some.inj hm
      exact hN12 _ _ _ rfl ⟨_, _, _, _, rfl, g80, (Sub.trans sb15 (Sub.trans d23.ff (Sub.trans d38.ff sb81)))⟩
    rintro s84 _ H83 e85 ⟨F86, o89, o90, o91, rfl, g87, sb88⟩
    subst e85
    replace hm := thenF_nx hm
    refine n_ret ?_
    refine n_c ?_
    obtain rfl := Option.some.inj hm
    exact hk _ _ _  g87   rfl

end
def d_word_of : He.DefD := ⟨("word_of", none), "word_of", "word_of", defArgs s_word_of, defBody s_word_of, defScope s_word_of, [], []⟩
def d_word_above : He.DefD := ⟨("word_above", none), "word_above", "word_above", defArgs s_word_above, defBody s_word_above, defScope s_word_above, [], []⟩
def d__law_cell_at : He.DefD := ⟨("_law_cell_at", none), "_law_cell_at", "_law_cell_at", defArgs s__law_cell_at, defBody s__law_cell_at, defScope s__law_cell_at, [], []⟩
def d__law_pool : He.DefD := ⟨("_law_pool", none), "_law_pool", "_law_pool", defArgs s__law_pool, defBody s__law_pool, defScope s__law_pool, [], []⟩
def d__law_take : He.DefD := ⟨("_law_take", none), "_law_take", "_law_take", defArgs s__law_take, defBody s__law_take, defScope s__law_take, [], []⟩
def d__law_letters : He.DefD := ⟨("_law_letters", none), "_law_letters", "_law_letters", defArgs s__law_letters, defBody s__law_letters, defScope s__law_letters, [], []⟩
def d__law_grown : He.DefD := ⟨("_law_grown", none), "_law_grown", "_law_grown", defArgs s__law_grown, defBody s__law_grown, defScope s__law_grown, [], []⟩
def d__law_copies : He.DefD := ⟨("_law_copies", none), "_law_copies", "_law_copies", defArgs s__law_copies, defBody s__law_copies, defScope s__law_copies, [], []⟩
def d__law_tree : He.DefD := ⟨("_law_tree", none), "_law_tree", "_law_tree", defArgs s__law_tree, defBody s__law_tree, defScope s__law_tree, [], []⟩
def d__law_word : He.DefD := ⟨("_law_word", none), "_law_word", "_law_word", defArgs s__law_word, defBody s__law_word, defScope s__law_word, [], []⟩
def d__law_right : He.DefD := ⟨("_law_right", none), "_law_right", "_law_right", defArgs s__law_right, defBody s__law_right, defScope s__law_right, [], []⟩
def d_law : He.DefD := ⟨("law", none), "law", "law", defArgs s_law, defBody s_law, defScope s_law, [], []⟩
def fn0 : List He.DefD := [d_word_of, d_word_above, d__law_cell_at, d__law_pool, d__law_take, d__law_letters, d__law_grown, d__law_copies, d__law_tree, d__law_word, d__law_right, d_law]
def fn : List He.DefD := fn0
def fa0 : List He.Fa := [.glo "word_of", .glo "word_above", .glo "_law_cell_at", .glo "_law_pool", .glo "_law_take", .glo "_law_letters", .glo "_law_grown", .glo "_law_copies", .glo "_law_tree", .glo "_law_word", .glo "_law_right", .glo "law", .free "len", .free "range", .free "int", .free "max", .free "tuple", .free "isinstance", .free "str", .free "min"]
def fa : List He.Fa := fa0
def loose0 : List PySem.Str := ["word_of", "word_above", "_law_cell_at", "_law_pool", "_law_take", "_law_letters", "_law_grown", "_law_copies", "_law_tree", "_law_word", "_law_right"]
def loose : List PySem.Str := loose0
abbrev R : PySem.W.OpenRow := PySem.W.OpenLaw.row PySem.Challenge.rw_upwords_k07_words_told
abbrev hk : PySem.W.Hook := He.hookD 4 fa fn
def ob (s : PySem.W.SharedT) : He.AlD := He.obsDG 4 fa fn (HandSHeadRun.getT s)
theorem ob_eq (s : PySem.W.SharedT) : ob s = hk.obs s.abs := He.obsDG_eq (HandSHeadRun.getT_eq s)
theorem run (w : World) : HandSHeadRun.RunEq R (PySem.W.view R.prog [13]) hk ob 4000 loose w := by
  intro os
  kernel_rfl
theorem facts {P : Program} {w : World} {K : PySem.W.Frag} {h : Heap} {mg : Str → Option Value} {f : Addr} (X : K.In h) (G : h.Ns mainGlobals mg) (hfa : mg ("law" : Str) = some (.ref f)) (c : He.SaysD fa fn K) :
    ∃ fd : FuncData, (∀ (s : Shared) (v : Value), BindsTo s fd ⟨[v], []⟩ [("script", v)]) ∧ ∀ base : Heap, K.In base → base.Ns mainGlobals mg → FnOk P w K mg base CX0 5 f fd ["script"] (sp_law K) := by
  obtain ⟨fd_word_of, F_word_of⟩ := c.def_ 0 (d := d_word_of) rfl
  have g_word_of := He.glo_ok X G (c.fact 0 (f := .glo "word_of") rfl)
  obtain ⟨fd_word_above, F_word_above⟩ := c.def_ 1 (d := d_word_above) rfl
  have g_word_above := He.glo_ok X G (c.fact 1 (f := .glo "word_above") rfl)
  obtain ⟨fd__law_cell_at, F__law_cell_at⟩ := c.def_ 2 (d := d__law_cell_at) rfl
  have g__law_cell_at := He.glo_ok X G (c.fact 2 (f := .glo "_law_cell_at") rfl)
  obtain ⟨fd__law_pool, F__law_pool⟩ := c.def_ 3 (d := d__law_pool) rfl
  have g__law_pool := He.glo_ok X G (c.fact 3 (f := .glo "_law_pool") rfl)
  obtain ⟨fd__law_take, F__law_take⟩ := c.def_ 4 (d := d__law_take) rfl
  have g__law_take := He.glo_ok X G (c.fact 4 (f := .glo "_law_take") rfl)
  obtain ⟨fd__law_letters, F__law_letters⟩ := c.def_ 5 (d := d__law_letters) rfl
  have g__law_letters := He.glo_ok X G (c.fact 5 (f := .glo "_law_letters") rfl)
  obtain ⟨fd__law_grown, F__law_grown⟩ := c.def_ 6 (d := d__law_grown) rfl
  have g__law_grown := He.glo_ok X G (c.fact 6 (f := .glo "_law_grown") rfl)
  obtain ⟨fd__law_copies, F__law_copies⟩ := c.def_ 7 (d := d__law_copies) rfl
  have g__law_copies := He.glo_ok X G (c.fact 7 (f := .glo "_law_copies") rfl)
  obtain ⟨fd__law_tree, F__law_tree⟩ := c.def_ 8 (d := d__law_tree) rfl
  have g__law_tree := He.glo_ok X G (c.fact 8 (f := .glo "_law_tree") rfl)
  obtain ⟨fd__law_word, F__law_word⟩ := c.def_ 9 (d := d__law_word) rfl
  have g__law_word := He.glo_ok X G (c.fact 9 (f := .glo "_law_word") rfl)
  obtain ⟨fd__law_right, F__law_right⟩ := c.def_ 10 (d := d__law_right) rfl
  have g__law_right := He.glo_ok X G (c.fact 10 (f := .glo "_law_right") rfl)
  obtain ⟨fd_law, F_law⟩ := c.def_ 11 (d := d_law) rfl
  have g_law := He.glo_ok X G (c.fact 11 (f := .glo "law") rfl)
  have b_len := He.free_ok X G (c.fact 12 (f := .free "len") rfl)
  have b_range := He.free_ok X G (c.fact 13 (f := .free "range") rfl)
  have b_int := He.free_ok X G (c.fact 14 (f := .free "int") rfl)
  have b_max := He.free_ok X G (c.fact 15 (f := .free "max") rfl)
  have b_tuple := He.free_ok X G (c.fact 16 (f := .free "tuple") rfl)
  have b_isinstance := He.free_ok X G (c.fact 17 (f := .free "isinstance") rfl)
  have b_str := He.free_ok X G (c.fact 18 (f := .free "str") rfl)
  have b_min := He.free_ok X G (c.fact 19 (f := .free "min") rfl)
  refine ⟨fd_law, fun s v => FunD.bindsA (ps := ["script"]) F_law (fun _ _ _ _ _ _ us hl => match us, hl with | [_], _ => rfl) s [v] rfl, fun base _ _ => ?_⟩
  have e := hfa.symm.trans g_law
  cases e
  have O_word_of := ok_word_of (P := P) (w := w) (mg := mg) (base := base) F_word_of 
  have H_word_of : Has P w K mg base "word_of" ["tree", "place"] 1 (sp_word_of K) := ⟨_, _, O_word_of, g_word_of, F_word_of.kp, F_word_of.bindsN fun _ _ _ _ _ _ us hl => match us, hl with | [_, _], _ => rfl⟩
  have O_word_above := ok_word_above (P := P) (w := w) (mg := mg) (base := base) F_word_above H_word_of
  have H_word_above : Has P w K mg base "word_above" ["tree", "place"] 2 (sp_word_above K) := ⟨_, _, O_word_above, g_word_above, F_word_above.kp, F_word_above.bindsN fun _ _ _ _ _ _ us hl => match us, hl with | [_, _], _ => rfl⟩
  have O__law_cell_at := ok__law_cell_at (P := P) (w := w) (mg := mg) (base := base) F__law_cell_at b_len
  have H__law_cell_at : Has P w K mg base "_law_cell_at" ["script", "k"] 1 (sp__law_cell_at K) := ⟨_, _, O__law_cell_at, g__law_cell_at, F__law_cell_at.kp, F__law_cell_at.bindsN fun _ _ _ _ _ _ us hl => match us, hl with | [_, _], _ => rfl⟩
  have O__law_pool := ok__law_pool (P := P) (w := w) (mg := mg) (base := base) F__law_pool H__law_cell_at b_range b_int
  have H__law_pool : Has P w K mg base "_law_pool" ["script", "at"] 2 (sp__law_pool K) := ⟨_, _, O__law_pool, g__law_pool, F__law_pool.kp, F__law_pool.bindsN fun _ _ _ _ _ _ us hl => match us, hl with | [_, _], _ => rfl⟩
  have O__law_take := ok__law_take (P := P) (w := w) (mg := mg) (base := base) F__law_take b_int
  have H__law_take : Has P w K mg base "_law_take" ["pool", "many"] 1 (sp__law_take K) := ⟨_, _, O__law_take, g__law_take, F__law_take.kp, F__law_take.bindsN fun _ _ _ _ _ _ us hl => match us, hl with | [_, _], _ => rfl⟩
  have O__law_letters := ok__law_letters (P := P) (w := w) (mg := mg) (base := base) F__law_letters H__law_take b_range
  have H__law_letters : Has P w K mg base "_law_letters" ["pool"] 2 (sp__law_letters K) := ⟨_, _, O__law_letters, g__law_letters, F__law_letters.kp, F__law_letters.bindsN fun _ _ _ _ _ _ us hl => match us, hl with | [_], _ => rfl⟩
  have O__law_grown := ok__law_grown (P := P) (w := w) (mg := mg) (base := base) F__law_grown H__law_take b_range b_len b_max b_tuple b_int
  have H__law_grown : Has P w K mg base "_law_grown" ["pool", "many", "kind", "letters"] 2 (sp__law_grown K) := ⟨_, _, O__law_grown, g__law_grown, F__law_grown.kp, F__law_grown.bindsN fun _ _ _ _ _ _ us hl => match us, hl with | [_, _, _, _], _ => rfl⟩
  have O__law_copies := ok__law_copies (P := P) (w := w) (mg := mg) (base := base) F__law_copies H__law_grown H__law_take b_range b_tuple b_len
  have H__law_copies : Has P w K mg base "_law_copies" ["pool", "most", "letters"] 3 (sp__law_copies K) := ⟨_, _, O__law_copies, g__law_copies, F__law_copies.kp, F__law_copies.bindsN fun _ _ _ _ _ _ us hl => match us, hl with | [_, _, _], _ => rfl⟩
  have O__law_tree := ok__law_tree (P := P) (w := w) (mg := mg) (base := base) F__law_tree H__law_take H__law_letters H__law_grown H__law_copies
  have H__law_tree : Has P w K mg base "_law_tree" ["pool", "most"] 4 (sp__law_tree K) := ⟨_, _, O__law_tree, g__law_tree, F__law_tree.kp, F__law_tree.bindsN fun _ _ _ _ _ _ us hl => match us, hl with | [_, _], _ => rfl⟩
  have O__law_word := ok__law_word (P := P) (w := w) (mg := mg) (base := base) F__law_word 
  have H__law_word : Has P w K mg base "_law_word" ["tree", "place"] 1 (sp__law_word K) := ⟨_, _, O__law_word, g__law_word, F__law_word.kp, F__law_word.bindsN fun _ _ _ _ _ _ us hl => match us, hl with | [_, _], _ => rfl⟩
  have O__law_right := ok__law_right (P := P) (w := w) (mg := mg) (base := base) F__law_right H__law_word H_word_of H_word_above b_isinstance b_str
  have H__law_right : Has P w K mg base "_law_right" ["tree", "place"] 3 (sp__law_right K) := ⟨_, _, O__law_right, g__law_right, F__law_right.kp, F__law_right.bindsN fun _ _ _ _ _ _ us hl => match us, hl with | [_, _], _ => rfl⟩
  have O_law := ok_law (P := P) (w := w) (mg := mg) (base := base) F_law H__law_tree H__law_pool H__law_right b_range b_max b_min b_len
  exact O_law
/-! ### plain: what the law draws -/
def PoolOk (p : List Int) : Prop := ∃ a b : Int, p = [a, b] ∧ 0 ≤ a ∧ 0 ≤ b
theorem take_ret {p : List Int} {many : Int} (hp : PoolOk p) (h : 0 < many) (h2 : many < 1073741824) : Ret (m__law_take p many) (fun r => (0 ≤ r.1 ∧ r.1 < many) ∧ PoolOk r.2) := by
  obtain ⟨a, b, rfl, ha, hb⟩ := hp
  unfold m__law_take
  refine Ret.eq (atI_of (Int.le_refl 0) rfl) ?_
  cases hd : decide (a = 0) with
  | true =>
    refine Ret.eq (a := b) (atI_of (i := 1) (by decide) rfl) ?_
    refine Ret.eq (modM_of h) ?_
    refine Ret.eq (a := b) (atI_of (i := 1) (by decide) rfl) ?_
    refine Ret.eq (divM_of h h2) ?_
    refine Ret.eq (setM_of (i := 1) (by decide) (by show (1 : Int) < 2; decide)) ?_
    exact Ret.pure ⟨⟨Int.emod_nonneg _ (by omega), Int.emod_lt_of_pos _ h⟩, a, b / many, rfl, ha, Int.ediv_nonneg hb (by omega)⟩
  | false =>
    refine Ret.eq (a := a) (atI_of (i := 0) (by decide) rfl) ?_
    refine Ret.eq (modM_of h) ?_
    refine Ret.eq (a := a) (atI_of (i := 0) (by decide) rfl) ?_
    refine Ret.eq (divM_of h h2) ?_
    refine Ret.eq (setM_of (i := 0) (by decide) (by show (0 : Int) < 2; decide)) ?_
    exact Ret.pure ⟨⟨Int.emod_nonneg _ (by omega), Int.emod_lt_of_pos _ h⟩, a / many, b, rfl, Int.ediv_nonneg ha (by omega), hb⟩
theorem cell_ret (s : List Int) {k : Int} (h0 : 0 ≤ k) : Ret (m__law_cell_at s k) (fun _ => True) := by
  unfold m__law_cell_at
  refine Ret.ite (fun h => ?_) fun _ => Ret.pure trivial
  exact Ret.eq (atI_lt h0 (of_decide_eq_true h)) (Ret.pure trivial)
theorem pool_ret (s : List Int) {k : Int} (h0 : 0 ≤ k) : Ret (m__law_pool s k) PoolOk := by
  unfold m__law_pool
  refine Ret.bind (cell_ret s h0) fun cell _ => ?_
  refine Ret.eq (uptoM_of (by decide) (by decide) (by decide) (by decide)) ?_
  refine Ret.bind (ret_foldO (fun _ s => (0 : Int) ≤ s) (Int.le_refl 0) fun i big turn hx hb => ?_) fun big hb => ?_
  · have ht := upto_get hx
    refine Ret.eq (mulM_of (.inr (by omega))) ?_
    refine Ret.eq (mulM_of (.inl (by omega))) ?_
    exact Ret.pure (by omega)
  · have hb2 : b2 (decide ((1000000000000000000 : Int) ≤ cell)) = 0 ∨ (b2 (decide ((1000000000000000000 : Int) ≤ cell)) = 1 ∧ 0 ≤ cell) := by
      by_cases h : (1000000000000000000 : Int) ≤ cell
      · rw [decide_eq_true h]; exact .inr ⟨rfl, by omega⟩
      · rw [decide_eq_false h]; exact .inl rfl
    refine Ret.eq (mulM_of (.inr (by rcases hb2 with h | ⟨h, _⟩ <;> rw [h] <;> decide))) ?_
    refine Ret.pure ⟨_, _, rfl, ?_, hb⟩
    rcases hb2 with h | ⟨h, h1⟩ <;> rw [h] <;> omega
theorem ret_in {α : Type} {xs : List α} {i : Int} (h0 : 0 ≤ i) (h : i < xs.length) : Ret (atI xs i) (fun a => a ∈ xs) := (ret_at h0 h).mono fun _ e => List.mem_of_getElem? e
def LettersOk (ls : List Sg) : Prop := 1 ≤ ls.length ∧ ls.length ≤ 26 ∧ ∀ x ∈ ls, ∃ c, x = [c] ∧ 97 ≤ c ∧ c ≤ 122
theorem letters_ret {p : List Int} (hp : PoolOk p) : Ret (m__law_letters p) (fun r => LettersOk r.1 ∧ PoolOk r.2) := by
  unfold m__law_letters
  refine Ret.bind (take_ret hp (by decide) (by decide)) fun r1 ⟨h1, hp⟩ => ?_
  refine Ret.bind (ret_in h1.1 h1.2) fun many hm => ?_
  have hm2 : 1 ≤ many ∧ many ≤ 26 := by simp at hm; omega
  refine Ret.bind (take_ret hp (by decide) (by decide)) fun r2 ⟨h2, hp⟩ => ?_
  refine Ret.bind (take_ret hp (by decide) (by decide)) fun r3 ⟨h3, hp⟩ => ?_
  refine Ret.bind (ret_in h3.1 h3.2) fun by_ hb => ?_
  have hb2 : 1 ≤ by_ ∧ by_ ≤ 25 := by simp at hb; omega
  refine Ret.eq (uptoM_of (by decide) (by decide) (by omega) (by omega)) ?_
  have hl : (upto 0 many).length = many.toNat := by rw [upto_len]; simp
  refine ret_need (szB_of (by omega)) ?_
  refine Ret.bind (ret_compS (fun x => ∃ c, x = [c] ∧ 97 ≤ c ∧ c ≤ 122) fun k hk => ?_) fun ls hls => ?_
  · have hk2 := upto_mem hk
    refine Ret.eq (mulM_of (.inl (by omega))) ?_
    refine Ret.bind (ret_in (by omega) (by show _ < (26 : Int); omega)) fun c hc => ?_
    refine Ret.pure ⟨_, rfl, c, rfl, ?_⟩
    simp at hc; omega
  · exact Ret.pure ⟨⟨by simp only; omega, by simp only; omega, hls.2⟩, hp⟩
/-- the line of places above the last one -/
structure LineOk (line ups : List Int) : Prop where
  pos : 1 ≤ line.length
  most : line.length ≤ ups.length
  low : ∀ (i j : Nat) (a b : Int), i ≤ j → line[i]? = some a → line[j]? = some b → (0 ≤ a ∧ 0 ≤ b ∧ b < ups.length) ∧ Anc ups b.toNat a.toNat
  last : line[line.length - 1]? = some ((ups.length : Int) - 1)
theorem line_one : LineOk [0] [-1] := by
  refine ⟨by simp, by simp, fun i j a b h e1 e2 => ?_, rfl⟩
  cases i with
  | succ i => simp at e1
  | zero => cases j with
    | succ j => simp at e2
    | zero =>
      simp at e1 e2; subst e1; subst e2
      exact ⟨⟨by decide, by decide, by simp⟩, .refl 0⟩
theorem line_step {line ups : List Int} {cut p : Int} (L : LineOk line ups) (U : UpsOk ups) (h1 : 1 ≤ cut) (h2 : cut ≤ line.length) (hp : line[(cut - 1).toNat]? = some p) :
    UpsOk (ups ++ [p]) ∧ LineOk (line.take cut.toNat ++ [(ups.length : Int)]) (ups ++ [p]) := by
  have hl := L.low _ _ p _ (show (cut - 1).toNat ≤ line.length - 1 by have := L.pos; omega) hp L.last
  have ha : Anc ups (ups.length - 1) p.toNat := by
    have := hl.2
    rw [show (((ups.length : Int) - 1).toNat) = ups.length - 1 by omega] at this
    exact this
  have hpb : p < ups.length := by
    have := L.low _ _ p p (Nat.le_refl _) hp hp
    omega
  refine ⟨U.snoc hl.1.1 hpb ha, ?_⟩
  have ht : (line.take cut.toNat).length = cut.toNat := by rw [List.length_take]; omega
  refine ⟨by simp, by have := L.most; simp; omega, fun i j a b hij e1 e2 => ?_, ?_⟩
  · have tk : ∀ (i : Nat) (a : Int), i < cut.toNat → (line.take cut.toNat ++ [(ups.length : Int)])[i]? = some a → line[i]? = some a := fun i a hi e => by
      rw [List.getElem?_append_left (by omega), List.getElem?_take_of_lt hi] at e; exact e
    have tl : ∀ (j : Nat) (b : Int), ¬ j < cut.toNat → (line.take cut.toNat ++ [(ups.length : Int)])[j]? = some b → j = cut.toNat ∧ b = ups.length := fun j b hj e => by
      rw [List.getElem?_append_right (by omega), ht] at e
      by_cases h9 : j - cut.toNat = 0
      · rw [h9] at e; simp at e; exact ⟨by omega, e.symm⟩
      · rw [List.getElem?_eq_none (by simp; omega)] at e; cases e
    by_cases hj : j < cut.toNat
    · have q := L.low i j a b hij (tk i a (by omega) e1) (tk j b hj e2)
      exact ⟨⟨q.1.1, q.1.2.1, by simp; omega⟩, q.2.app⟩
    · obtain ⟨ej, eb⟩ := tl j b hj e2
      subst eb
      by_cases hi : i < cut.toNat
      · have e3 := tk i a hi e1
        have q := L.low i (cut - 1).toNat a p (by omega) e3 hp
        refine ⟨⟨q.1.1, by omega, by simp; omega⟩, ?_⟩
        rw [Int.toNat_natCast]
        refine .up (u := p) (by simp) q.1.2.1 q.2.app
      · obtain ⟨ei, ea⟩ := tl i a hi e1
        subst ea
        exact ⟨⟨by omega, by omega, by simp; omega⟩, .refl _⟩
  · rw [List.length_append, ht, show cut.toNat + [(ups.length : Int)].length - 1 = cut.toNat from by simp, List.getElem?_append_right (by omega), ht, Nat.sub_self, List.length_append]
    show some (ups.length : Int) = some (((ups.length + 1 : Nat) : Int) - 1)
    congr 1
    omega
theorem grown_ret {p : List Int} {many kind : Int} {letters : List Sg} (hp : PoolOk p) (h1 : 1 ≤ many) (h2 : many ≤ 60) (hk : 0 ≤ kind) (hk2 : kind ≤ 5) (hl : LettersOk letters) :
    Ret (m__law_grown p many kind letters) (fun r => TreeOk r.1 ∧ (r.1.1.length : Int) = many ∧ PoolOk r.2) := by
  unfold m__law_grown
  refine Ret.eq (uptoM_of (by decide) (by decide) (by omega) (by omega)) ?_
  refine Ret.bind (ret_foldO (fun i s => PoolOk s.2.1 ∧ s.2.2.length = i + 1 ∧ UpsOk s.2.2 ∧ LineOk s.1 s.2.2) ⟨hp, rfl, UpsOk.one, line_one⟩ fun i s k hx ⟨hp, hu, U, L⟩ => ?_) fun s ⟨hp, hu, U, L⟩ => ?_
  · obtain ⟨line, pool, ups⟩ := s
    have hx := upto_get hx
    have L1 : 1 ≤ line.length := L.pos
    have L2 : line.length ≤ ups.length := L.most
    simp only at hu U L hp ⊢
    refine Ret.bind (take_ret hp (by decide) (by decide)) fun r1 ⟨g1, hp⟩ => ?_
    refine Ret.bind (P := fun low : Int => 1 ≤ low ∧ low ≤ (line.length : Int)) ?_ fun low hlow => ?_
    · cases hd : decide ((4 : Int) < (line.length : Int)) with
      | true =>
        have hd := of_decide_eq_true hd
        exact Ret.of (a := 1 + r1.1) (atI_of (i := 1) (by decide) rfl) (by omega)
      | false => exact Ret.of (a := (line.length : Int)) (atI_of (i := 0) (by decide) rfl) (by omega)
    refine Ret.bind (take_ret hp (by decide) (by decide)) fun r2 ⟨g2, hp⟩ => ?_
    refine Ret.bind (take_ret hp (by omega) (by omega)) fun r3 ⟨g3, hp⟩ => ?_
    refine Ret.bind (P := fun cut : Int => 1 ≤ cut ∧ cut ≤ (line.length : Int)) ((ret_in hk (by show kind < (6 : Int); omega)).mono fun a ha => ?_) fun cut hc => ?_
    · simp only [mx_eq, List.mem_cons, List.not_mem_nil, or_false] at ha
      omega
    refine Ret.bind (ret_at (by omega) (by omega)) fun q hq => ?_
    refine Ret.eq (snocM_of (by omega)) ?_
    rw [cutL_to (by omega)]
    have ht : (line.take cut.toNat).length = cut.toNat := by rw [List.length_take]; omega
    refine Ret.eq (catLM_of (by rw [ht]; simp; omega)) ?_
    have st := line_step L U hc.1 hc.2 hq
    have ek : k = (ups.length : Int) := by omega
    subst ek
    exact Ret.pure ⟨hp, by simp [hu], st.1, st.2⟩
  · obtain ⟨line, pool, ups⟩ := s
    rw [upto_len] at hu
    simp only at hu U L hp ⊢
    obtain ⟨l1, l2, l3⟩ := hl
    refine Ret.bind (take_ret hp (by decide) (by decide)) fun way ⟨g1, hp⟩ => ?_
    refine Ret.bind (take_ret hp (by omega) (by omega)) fun r2 ⟨g2, hp⟩ => ?_
    refine Ret.bind (take_ret hp (by decide) (by decide)) fun r3 ⟨g3, hp⟩ => ?_
    refine Ret.bind (ret_in g3.1 g3.2) fun other _ => ?_
    refine Ret.eq (uptoM_of (by decide) (by decide) (by omega) (by omega)) ?_
    refine Ret.bind (ret_foldO (fun i s => s.1.length = i ∧ (∀ c ∈ s.1, 97 ≤ c ∧ c ≤ 122) ∧ PoolOk s.2) ⟨rfl, by simp, hp⟩ fun i s k hx ⟨hs, hc, hp⟩ => ?_) fun s ⟨hs, hc, hp⟩ => ?_
    · obtain ⟨labels, pool⟩ := s
      have hx := upto_get hx
      simp only at hs hc hp ⊢
      refine Ret.bind (take_ret hp (by omega) (by omega)) fun r4 ⟨g4, hp⟩ => ?_
      refine Ret.bind (P := fun x : Int => 0 ≤ x ∧ x < (letters.length : Int)) (Ret.ite (fun hw => ?_) fun _ => Ret.pure g4) fun at_ ha => ?_
      · rw [Bool.and_eq_true, decide_eq_true_iff, decide_eq_true_iff] at hw
        refine Ret.eq (modM_of (by omega)) (Ret.eq (modM_of (by omega)) (Ret.pure ⟨Int.emod_nonneg _ (by omega), Int.emod_lt_of_pos _ (by omega)⟩))
      refine Ret.bind (P := fun x : Int => 0 ≤ x ∧ x < (letters.length : Int)) (Ret.ite (fun hw => ?_) fun _ => Ret.pure ha) fun at2 ha2 => ?_
      · exact Ret.eq (modM_of (by omega)) (Ret.pure ⟨Int.emod_nonneg _ (by omega), Int.emod_lt_of_pos _ (by omega)⟩)
      refine Ret.bind (ret_in ha2.1 ha2.2) fun x hx3 => ?_
      obtain ⟨c, rfl, h97, h122⟩ := l3 x hx3
      refine Ret.eq (catM_of (by simp; omega)) ?_
      refine Ret.pure ⟨by simp [hs], fun d hd => ?_, hp⟩
      rcases List.mem_append.mp hd with h | h
      · exact hc d h
      · simp at h; subst h; exact ⟨h97, h122⟩
    · rw [upto_len] at hs
      refine Ret.pure ⟨⟨by simp only; omega, by simp only; omega, U, hc⟩, by simp only; omega, hp⟩
/-- a bough put beneath the root or behind the last place -/
theorem ups_more {ups one : List Int} {a : Int} (U : UpsOk ups) (O : UpsOk one) (ha : a = 0 ∨ a = (ups.length : Int) - 1) : UpsOk (ups ++ (a :: (one.drop 1).map fun u => u + (ups.length : Int))) := by
  have hu := U.pos
  have ho := O.pos
  have shift : ∀ k : Nat, 0 < k → k < one.length → (ups ++ (a :: (one.drop 1).map fun u => u + (ups.length : Int)))[ups.length + k]? = (one[k]?).map fun u => u + (ups.length : Int) := fun k h0 hk => by
    rw [List.getElem?_append_right (by omega), show ups.length + k - ups.length = (k - 1) + 1 by omega, List.getElem?_cons_succ, List.getElem?_map, List.getElem?_drop, show 1 + (k - 1) = k by omega]
  have anc : ∀ k b : Nat, k < one.length → Anc one k b → Anc (ups ++ (a :: (one.drop 1).map fun u => u + (ups.length : Int))) (ups.length + k) (ups.length + b) := fun k b hk h => by
    induction h with
    | refl k => exact .refl _
    | @up k b u h hu2 r ih =>
      by_cases h0 : k = 0
      · subst h0; rw [O.root] at h
        have e : -1 = u := Option.some.inj h
        omega
      · have q := O.up k u (by omega) h
        refine .up (u := u + (ups.length : Int)) (by rw [shift k (by omega) hk, h]; rfl) (by omega) ?_
        rw [show (u + (ups.length : Int)).toNat = ups.length + u.toNat by omega]
        exact ih (by omega)
  have cases_ : ∀ (k : Nat) (u : Int), (ups ++ (a :: (one.drop 1).map fun u => u + (ups.length : Int)))[k]? = some u → (k < ups.length ∧ ups[k]? = some u) ∨ (k = ups.length ∧ u = a) ∨ ∃ j v, 0 < j ∧ j < one.length ∧ k = ups.length + j ∧ one[j]? = some v ∧ u = v + (ups.length : Int) := fun k u h => by
    by_cases hk : k < ups.length
    · rw [List.getElem?_append_left hk] at h; exact .inl ⟨hk, h⟩
    · by_cases hk2 : k = ups.length
      · subst hk2
        rw [List.getElem?_append_right (by omega)] at h
        simp at h; exact .inr (.inl ⟨rfl, h.symm⟩)
      · have hl := (List.getElem?_eq_some_iff.mp h).1
        simp at hl
        have hj : k - ups.length < one.length := by omega
        have e2 : k = ups.length + (k - ups.length) := by omega
        rw [e2, shift (k - ups.length) (by omega) hj, List.getElem?_eq_getElem hj] at h
        exact .inr (.inr ⟨k - ups.length, _, by omega, hj, e2, List.getElem?_eq_getElem hj, (Option.some.inj h).symm⟩)
  have toRoot : ∀ k, k < ups.length → Anc (ups ++ (a :: (one.drop 1).map fun u => u + (ups.length : Int))) k 0 := fun k hk => (U.toRoot k hk).app
  refine ⟨get_app U.root, fun k u h0 h => ?_, fun k u h0 h => ?_⟩
  · rcases cases_ k u h with ⟨hk, e⟩ | ⟨hk, e⟩ | ⟨j, v, h1, h2, e, e2, e3⟩
    · exact U.up k u h0 e
    · rcases ha with ha | ha <;> omega
    · have := O.up j v h1 e2
      omega
  · rcases cases_ k u h with ⟨hk, e⟩ | ⟨hk, e⟩ | ⟨j, v, h1, h2, e, e2, e3⟩
    · exact (U.ch k u h0 e).app
    · subst e; subst hk
      rcases ha with ha | ha
      · subst ha; exact toRoot _ (by omega)
      · subst ha
        rw [show (((ups.length : Int) - 1).toNat) = ups.length - 1 by omega]
        exact .refl _
    · subst e; subst e3
      rw [show (v + (ups.length : Int)).toNat = ups.length + v.toNat by have := O.up j v h1 e2; omega, show ups.length + j - 1 = ups.length + (j - 1) by omega]
      exact anc (j - 1) v.toNat (by omega) (O.ch j v h1 e2)
theorem copies_ret {p : List Int} {most : Int} {letters : List Sg} (hp : PoolOk p) (h1 : 1 ≤ most) (h2 : most ≤ 60) (hl : LettersOk letters) :
    Ret (m__law_copies p most letters) (fun r => TreeOk r.1 ∧ (r.1.1.length : Int) ≤ most ∧ PoolOk r.2) := by
  unfold m__law_copies
  obtain ⟨l1, l2, l3⟩ := id hl
  refine Ret.bind (take_ret hp (by decide) (by decide)) fun r1 ⟨g1, hp⟩ => ?_
  refine Ret.bind (grown_ret hp (by omega) (by omega) (by decide) (by decide) hl) fun r2 ⟨T, hT, hp⟩ => ?_
  refine Ret.bind (take_ret hp (by decide) (by decide)) fun r3 ⟨g3, hp⟩ => ?_
  refine Ret.bind (take_ret hp (by omega) (by omega)) fun r4 ⟨g4, hp⟩ => ?_
  refine Ret.bind (ret_in g4.1 g4.2) fun x hx => ?_
  obtain ⟨c, rfl, h97, h122⟩ := l3 x hx
  refine Ret.bind (take_ret hp (by decide) (by decide)) fun r5 ⟨g5, hp⟩ => ?_
  refine Ret.eq (uptoM_of (by decide) (by decide) (by omega) (by omega)) ?_
  have hlen := T.len
  refine Ret.bind (ret_foldO (fun _ s => UpsOk s.2 ∧ s.1.length = s.2.length ∧ (s.2.length : Int) ≤ most ∧ ∀ c ∈ s.1, 97 ≤ c ∧ c ≤ 122) ⟨UpsOk.one, rfl, h1, by simp; omega⟩ fun i s k hk ⟨U, e, hm, hc⟩ => ?_) fun s ⟨U, e, hm, hc⟩ => ?_
  · obtain ⟨labels, ups⟩ := s
    simp only at U e hm hc ⊢
    have hu := U.pos
    refine Ret.ite (fun hd => ?_) fun _ => Ret.pure ⟨U, e, hm, hc⟩
    have hd := of_decide_eq_true hd
    refine Ret.bind (P := fun a => a = 0 ∨ a = (ups.length : Int) - 1) ((ret_in g3.1 (by show r3.1 < (2 : Int); omega)).mono fun a ha => by simpa using ha) fun a ha => ?_
    rw [cutL_from (by decide)]
    refine ret_need (szB_of (by rw [List.length_drop]; omega)) ?_
    refine Ret.eq (compS_map (fun u => u + (ups.length : Int)) fun _ _ => rfl) ?_
    have hl9 : (([a] : List Int) ++ (r2.1.1.drop (1 : Int).toNat).map fun u => u + (ups.length : Int)).length = r2.1.1.length := by
      have := T.ups.pos
      simp; omega
    refine Ret.eq (catLM_of (by rw [List.length_map, List.length_drop]; simp; omega)) ?_
    refine Ret.eq (catLM_of (by rw [hl9]; omega)) ?_
    refine Ret.eq (catM_of (by omega)) ?_
    refine Ret.pure ⟨ups_more U T.ups ha, ?_, ?_, fun d hd => ?_⟩
    · simp only [List.length_append, hl9]; omega
    · simp only [List.length_append, hl9]; omega
    · rcases List.mem_append.mp hd with h | h
      · exact hc d h
      · exact T.low d h
  · exact Ret.pure ⟨⟨by simp only; omega, by simp only; omega, U, hc⟩, hm, hp⟩
theorem tree_ret {p : List Int} {most : Int} (hp : PoolOk p) (h1 : 9 ≤ most) (h2 : most ≤ 60) : Ret (m__law_tree p most) (fun r => TreeOk r.1 ∧ (r.1.1.length : Int) ≤ most ∧ PoolOk r.2) := by
  unfold m__law_tree
  refine Ret.bind (take_ret hp (by decide) (by decide)) fun kind ⟨g1, hp⟩ => ?_
  refine Ret.bind (take_ret hp (by decide) (by decide)) fun r2 ⟨g2, hp⟩ => ?_
  refine Ret.bind (take_ret hp (by omega) (by omega)) fun r3 ⟨g3, hp⟩ => ?_
  refine Ret.bind (take_ret hp (by decide) (by decide)) fun r4 ⟨g4, hp⟩ => ?_
  refine Ret.bind (P := fun many => 1 ≤ many ∧ many ≤ most) ((ret_in g4.1 (by show r4.1 < (3 : Int); omega)).mono fun a ha => by simp at ha; omega) fun many hm => ?_
  refine Ret.bind (letters_ret hp) fun ls ⟨hl, hp⟩ => ?_
  refine Ret.ite (fun _ => ?_) fun hd => ?_
  · exact Ret.bind (copies_ret hp (by omega) h2 hl) fun r hr => Ret.pure hr
  · have hd := of_decide_eq_false hd
    exact Ret.bind (grown_ret hp (by omega) (by omega) g1.1 (by omega) hl) fun r hr => Ret.pure ⟨hr.1, by have := hr.2.1; simp only; omega, hr.2.2⟩

/-! ### plain: words -/
theorem law_word_eq {t : Tre} (T : TreeOk t) {i : Int} (h1 : -1 ≤ i) (h2 : i < t.1.length) : m__law_word t i = some (wdI t i) := by
  have hl := T.len
  have hm := T.most
  unfold m__law_word
  have key : Ret (whileO 1000000 (([] : Sg), i) (fun s2 => some (decide ((0 : Int) ≤ s2.2))) (fun s11 => (atI t.2 s11.2).bind fun c22 => (catM s11.1 [c22]).bind fun t23 => (atI t.1 s11.2).bind fun a26 => some (t23, a26))) (fun s : Sg × Int => (s.1 ++ wdI t s.2 = wdI t i ∧ s.1.length + (s.2 + 1).toNat ≤ 60 ∧ -1 ≤ s.2 ∧ s.2 < t.1.length) ∧ some (decide ((0 : Int) ≤ s.2)) = some false) := by
    refine ret_whileO (fun s : Sg × Int => s.1 ++ wdI t s.2 = wdI t i ∧ s.1.length + (s.2 + 1).toNat ≤ 60 ∧ -1 ≤ s.2 ∧ s.2 < t.1.length) (fun s : Sg × Int => (s.2 + 1).toNat) ⟨rfl, by simp; omega, h1, h2⟩ (by simp only; omega) fun s ⟨e, hs, h3, h4⟩ => ?_
    refine Ret.pure fun hd => ?_
    have h0 := of_decide_eq_true hd
    have hc := List.getElem?_eq_getElem (show s.2.toNat < t.2.length by omega)
    have hu := List.getElem?_eq_getElem (show s.2.toNat < t.1.length by omega)
    refine Ret.eq (atI_of h0 hc) ?_
    refine Ret.eq (catM_of (by simp; omega)) ?_
    refine Ret.eq (atI_of h0 hu) ?_
    have hb : -1 ≤ t.1[s.2.toNat] ∧ t.1[s.2.toNat] < s.2 := by
      by_cases hk : s.2.toNat = 0
      · have e9 : t.1[s.2.toNat] = -1 := by
          rw [List.getElem?_eq_getElem (by omega)] at hu
          have := T.ups.root
          rw [← hk] at this
          rw [List.getElem?_eq_getElem (by omega)] at this
          exact Option.some.inj this
        omega
      · have := T.ups.up _ _ (by omega) hu
        omega
    refine Ret.pure ⟨⟨?_, ?_, by simp only; omega, by simp only; omega⟩, by simp only; omega⟩
    · rw [← e, wdI_eq T.ups h0 hu, getD_of hc, List.append_assoc]; rfl
    · simp; omega
  obtain ⟨s, e, ⟨h3, _, _, _⟩, h4⟩ := key
  rw [e]
  have h5 := of_decide_eq_false (Option.some.inj h4)
  have h6 : wdI t s.2 = [] := by unfold wdI; rw [if_neg h5]
  rw [h6, List.append_nil] at h3
  show some s.1 = _
  rw [h3]
theorem word_of_eq {t : Tre} (T : TreeOk t) {k : Nat} (hk : k < t.1.length) : m_word_of t k = some (wd t k) := by
  have hl := T.len
  have hm := T.most
  unfold m_word_of
  have hc0 := List.getElem?_eq_getElem (show k < t.2.length by omega)
  have e0 : atI t.2 (k : Int) = some (t.2[k]) := atI_nat hc0
  rw [e0]
  show (whileO 1000000 _ _ _).bind _ = _
  have key : Ret (whileO 1000000 ((k : Int), [[t.2[k]]]) (fun s18 => (atI t.1 s18.1).bind fun a29 => some (decide ((0 : Int) ≤ a29))) (fun s36 => (atI t.1 s36.1).bind fun a47 => (atI t.2 a47).bind fun c54 => (snocM s36.2 [c54]).bind fun l55 => some (a47, l55)))
      (fun s : Int × List Sg => (∃ u, 0 ≤ s.1 ∧ s.1 < t.1.length ∧ t.1[s.1.toNat]? = some u ∧ s.2.flatten ++ wdI t u = wd t k ∧ s.2.length + s.1.toNat ≤ 61 ∧ ∀ x ∈ s.2, x.length = 1) ∧ ((atI t.1 s.1).bind fun a29 => some (decide ((0 : Int) ≤ a29))) = some false) := by
    have hu := List.getElem?_eq_getElem hk
    refine ret_whileO (fun s : Int × List Sg => ∃ u, 0 ≤ s.1 ∧ s.1 < t.1.length ∧ t.1[s.1.toNat]? = some u ∧ s.2.flatten ++ wdI t u = wd t k ∧ s.2.length + s.1.toNat ≤ 61 ∧ ∀ x ∈ s.2, x.length = 1) (fun s : Int × List Sg => s.1.toNat) ⟨_, by simp only; omega, by simp only; omega, by rw [Int.toNat_natCast]; exact hu, ?_, by simp; omega, by simp⟩ (by simp only; omega) fun s ⟨u, h0, h1, hu, e, hs, h1s⟩ => ?_
    · have := wdI_eq T.ups (i := (k : Int)) (by omega) (by rw [Int.toNat_natCast]; exact hu)
      rw [show wdI t (k : Int) = wd t k by unfold wdI; rw [if_pos (by omega)]; simp] at this
      rw [this, Int.toNat_natCast, getD_of hc0]; rfl
    · refine Ret.eq (atI_of h0 hu) (Ret.pure fun hd => ?_)
      have hd := of_decide_eq_true hd
      have hb : 0 < s.1.toNat ∧ u < s.1 := by
        by_cases hk : s.1.toNat = 0
        · rw [hk, T.ups.root] at hu
          have : -1 = u := Option.some.inj hu
          omega
        · have := T.ups.up _ _ (by omega) hu
          omega
      have hc := List.getElem?_eq_getElem (show u.toNat < t.2.length by omega)
      have hu2 := List.getElem?_eq_getElem (show u.toNat < t.1.length by omega)
      refine Ret.eq (atI_of h0 hu) (Ret.eq (atI_of hd hc) (Ret.eq (snocM_of (by omega)) (Ret.pure ⟨⟨_, hd, by simp only; omega, hu2, ?_, by simp; omega, ?_⟩, by simp only; omega⟩)))
      · rw [← e, wdI_eq T.ups hd hu2, getD_of hc]; simp
      · intro x hx
        rcases List.mem_append.mp hx with h | h
        · exact h1s x h
        · simp at h; subst h; rfl
  obtain ⟨s, e, ⟨u, h0, h1, hu, h2, h3, h4⟩, h5⟩ := key
  rw [e]
  have hn : ¬ 0 ≤ u := by
    rw [atI_of h0 hu] at h5
    exact of_decide_eq_false (Option.some.inj h5)
  have h6 : wdI t u = [] := by unfold wdI; rw [if_neg hn]
  rw [h6, List.append_nil] at h2
  have hsum : ∀ xs : List Sg, (∀ x ∈ xs, x.length = 1) → (xs.map List.length).sum = xs.length := fun xs => by
    induction xs with
    | nil => intro; rfl
    | cons x xs ih => intro h; simp [h x (by simp), ih fun y hy => h y (by simp [hy])]; omega
  show (joinM [] s.2).bind _ = _
  rw [joinM_of (by rw [hsum _ h4]; simp; omega), joinL_nil, h2]
  rfl
theorem right_eq {t : Tre} (T : TreeOk t) {k : Nat} (hk : k < t.1.length) : m__law_right t k = some true := by
  have hl := T.len
  unfold m__law_right
  have hu := List.getElem?_eq_getElem hk
  have e1 : wdI t (k : Int) = wd t k := by unfold wdI; rw [if_pos (by omega)]; simp
  rw [law_word_eq T (by omega) (by omega), e1]
  show (m_word_of t k).bind _ = _
  rw [word_of_eq T hk]
  show (m_word_above t k).bind _ = _
  have ea : m_word_above t k = some ((wd t k).drop 1) := by
    unfold m_word_above
    rw [word_of_eq T hk]
    show some (cutL _ _ _) = _
    rw [cutL_from (by decide)]; rfl
  rw [ea]
  show (if ((!true) || (!decide (wd t k = wd t k))) = true then _ else _) = _
  rw [decide_eq_true rfl]
  rw [if_neg (by decide)]
  have ei : atI t.1 (k : Int) = some t.1[k] := atI_nat hu
  rw [ei]
  show (if decide (t.1[k] < 0) = true then _ else _) = _
  have hw := wdI_eq T.ups (i := (k : Int)) (by omega) (by rw [Int.toNat_natCast]; exact hu)
  rw [e1] at hw
  have hw2 : (wd t k).drop 1 = wdI t t.1[k] := by rw [hw]; rfl
  rw [hw2]
  by_cases h0 : t.1[k] < 0
  · rw [if_pos (decide_eq_true h0)]
    have : wdI t t.1[k] = [] := by unfold wdI; rw [if_neg (by omega)]
    rw [this]; rfl
  · rw [if_neg (by rw [decide_eq_false h0]; decide)]
    rw [if_pos rfl]
    show ((m__law_word t t.1[k]).bind _).bind _ = _
    rw [law_word_eq T (by omega) ?_]
    · show some (decide (wdI t t.1[k] = wdI t t.1[k])) = _
      rw [decide_eq_true rfl]
    · by_cases hk0 : k = 0
      · subst hk0
        have := T.ups.root
        rw [List.getElem?_eq_getElem hk] at this
        have := Option.some.inj this
        omega
      · have := T.ups.up k _ (by omega) hu
        omega
theorem plain (ns : List Int) (h : ns.length ≤ 63) : m_law ns = some true := by
  unfold m_law
  have hb : -(2 ^ 62) ≤ mx 1 (mn 12 (ns.length : Int)) ∧ mx 1 (mn 12 (ns.length : Int)) < 2 ^ 62 := by
    rw [mx_eq, mn_eq]; omega
  rw [uptoM_of (by decide) (by decide) hb.1 hb.2]
  show (foldR _ _ _).bind _ = _
  obtain ⟨_, e, s, rfl, _⟩ := ret_foldR (xs := upto 0 (mx 1 (mn 12 (ns.length : Int)))) (s := ()) (ρ := Bool) (f := fun s5 a4 => (m__law_pool ns a4).bind fun r20 => (m__law_tree r20 (60 : Int)).bind fun r35 => (uptoM 0 (r35.1.1.length : Int)).bind fun l51 =>
    (foldR l51 () fun s55 a54 => (m__law_right r35.1 a54).bind fun r68 => if (!r68) = true then some (.rt false) else some (.nx ())).bind fun z52 => thenF z52 (fun s77 => some (.nx ())) (fun r7 => some (.rt r7))) (fun _ _ => True) trivial fun i s a ha _ => by
      have ha := upto_get ha
      refine Ret.bind (pool_ret ns (by omega)) fun p hp => ?_
      refine Ret.bind (tree_ret hp (by decide) (by decide)) fun r ⟨T, hT, _⟩ => ?_
      have hm := T.most
      refine Ret.eq (uptoM_of (by decide) (by decide) (by omega) (by omega)) ?_
      refine Ret.bind (ret_foldR (fun _ _ => True) trivial fun j s k hk _ => ?_) fun z ⟨s', hz, _⟩ => ?_
      · have hk := upto_get hk
        obtain ⟨n, rfl⟩ : ∃ n : Nat, k = n := ⟨k.toNat, by omega⟩
        rw [right_eq T (by omega)]
        exact Ret.pure ⟨(), rfl, trivial⟩
      · subst hz
        exact Ret.pure ⟨(), rfl, trivial⟩
  rw [e]
  rfl

end G
open PySem PySem.W PySem.Calls PyProof.Rows
section
theorem G.holds (plain : ∀ ns : List Int, ns.length ≤ 63 → G.m_law ns = some true) : PySem.Challenge.rw_upwords_k07_words_told.Holds := by
  w_on; o_law
  refine HandSHeadRun.head_any (r := OpenLaw.row PySem.Challenge.rw_upwords_k07_words_told) (q := view (OpenLaw.row PySem.Challenge.rw_upwords_k07_words_told).prog [13]) (H := G.hk) (ob := G.ob) (M := 4000) (loose := G.loose) (d := HandSHeadRun.topDef (OpenLaw.row PySem.Challenge.rw_upwords_k07_words_told).prog 13) (kwd := []) G.ob_eq
    (by kernel_rfl) (fun s => by kernel_rfl) G.run (by kernel_rfl) (by kernel_rfl) (by kernel_rfl) (by rfl) (by first | assumption | decide +kernel) (by decide +kernel) ⟨rfl, rfl, rfl, rfl, rfl, by decide +kernel⟩ ?hw ?hc
  case hw => w_witness2
  case hc =>
    refine L2.walk_ofE (l := PySem.Challenge.rw_upwords_k07_words_told) (n := 63) (k := 5) (x := "script") (CX := L2.CX0) rfl (by decide) (by kernel_rfl) ⟨rfl, by decide, by decide⟩ ?F (fun _ _ _ _ z => z)
    intro w mg fa h Y Gm hmg0
    obtain ⟨K, KX, c⟩ := Y
    have hmg : mg ("law" : PySem.Str) = some (.ref fa) := by
      have e : (HandSHeadRun.topDef (OpenLaw.row PySem.Challenge.rw_upwords_k07_words_told).prog 13).name = ("law" : PySem.Str) := by kernel_rfl
      rw [← e]
      exact hmg0
    obtain ⟨fd, hb, hF⟩ := G.facts (P := (PySem.Challenge.rw_upwords_k07_words_told).prog) (w := w) KX Gm hmg c
    exact ⟨K, fd, G.sp_law K, KX, hb, fun H a ns hl _ hS => ⟨H, _, ns, true, rfl, fun _ _ e => e, ⟨a, rfl, hS⟩, plain ns hl, fun v _ _ _ e => e⟩, hF⟩
end

set_option maxRecDepth 100000 in
set_option maxHeartbeats 0 in
theorem PySem.Challenge.cw_upwords_k07_words_told_holds : PySem.Challenge.rw_upwords_k07_words_told.Holds :=
  G.holds G.plain
#print axioms PySem.Challenge.cw_upwords_k07_words_told_holds
